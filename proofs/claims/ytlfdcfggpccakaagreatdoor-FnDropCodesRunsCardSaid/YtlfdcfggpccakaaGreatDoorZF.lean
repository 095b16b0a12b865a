/- Part 6 of the proof: the engine, codes, walks and plain laws, each named where it stands. -/
import Derived.Test.YtlfdcfggpccakaaGreatDoorZE
open Nat (reduceEqDiff reduceAdd reduceLeDiff reduceLT)
set_option linter.unusedVariables false
set_option linter.unusedSimpArgs false
set_option maxRecDepth 4000
open Bool renaming and_eq_true->Jai,true_and->Jbx
open Int renaming toNat_natCast->Jaf,le_refl->Ja1
open List renaming mem_singleton->Ja,getD_eq_getElem?_getD->Jb,getElem_mem->Jc,length_map->Jd,mem_append_right->Je,take_of_length_le->Jf,take_succ_eq_append_getElem->Jg,getElem?_eq_getElem->Jh,length_cons->Jj,mem_append_left->Jk,length_nil->Jm,map_append->Jn,perm_append_comm->Jo,length_append->Jp,mem_append->Jq,mem_map->Jr,mem_iff_getElem->Js,mem_flatMap->Jt,mem_range->Jv,nodup_append->Jw,forall_mem_cons->Jx,mem_cons->Jy,append_nil->Jz,length_take->J0,not_mem_nil->J1,getElem?_map->J2,drop_eq_getElem_cons->J3,pairwise_iff_getElem->J4,map_congr_left->J6,append_assoc->J7,getElem_cons_succ->J8,getElem_cons_zero->J9,flatMap_cons->Jaa,mem_filter->Jab,mem_cons_self->Jac,mem_cons_of_mem->Jad,map_map->Jae,getD_cons_zero->Jag,length_set->Jah,getElem_map->Jaj,getElem?_of_mem->Jak,eq_of_mem_replicate->Jal,nil_append->Jam,map_cons->Jan,cons_append->Jao,flatMap_nil->Jap,pairwise_lt_range->Jaq,length_filter_le->Jar,length_replicate->Jas,length_singleton->Jat,mem_or_eq_of_mem_set->Jau,ext_getElem->Jav,flatMap_append->Jaw,getD_cons_succ->Jax,filter_append->Jay,range_succ->Jaz,length_range->Ja2,set_append_right->Ja4,getElem_set->Ja5,take_length->Ja6,getElem_range->Ja8,map_set->Ja9,getElem?_eq_some_iff->Jba,all_eq_true->Jbc,drop_of_length_le->Jbd,nodup_cons->Jbe,eraseIdx_set_eq->Jbi,mem_of_getElem?->Jbj,mem_of_mem_take->Jbk,drop_zero->Jbl,filter_sublist->Jbm,map_eq_nil_iff->Jbn,set_cons_zero->Jbo,getElem_drop->Jbp,getElem_take->Jbq,map_nil->Jbr,length_drop->Jbu,sum_cons->Jby
open List.Nodup renaming length_le_of_subset->Ja3
open List.Pairwise renaming filter->Jbh
open Nat renaming le_refl->Ji,zero_add->Jl,mul_le_mul_right->Ja7,add_sub_cancel_left->Jbb,add_zero->Jbf,sub_self->Jbg,le_trans->Jbs,succ_mul->Jbt,le_add_right->Jbv,zero_lt_succ->Jbw
open Option renaming getD_some->Ju,map_some->J5
open Option.some renaming inj->Ja0
namespace Go.AE.Y
attribute [local go_sem] cond_true cond_false Bool.not_true Bool.not_false
open Go.Proofs.Tryz
variable {H H0:Heap}{K:V→Heap→Prop}{E B Lg:List (Nat×Obj)}{q:CodeD}
theorem CodeD.ok.gd (h:q.ok):q.gd:=⟨h.b0,h.b1,fun y hy=>by
 obtain⟨b,hb,rfl⟩:=Js.1 hy;exact (h.bs b hb).nxl,h.fts⟩
theorem CodeD.ok.fitB (h:q.ok):Bt q.blocks.length (gnx q)=true:=by
 have h1:(List.range q.blocks.length).all (fun i=>(gnx q i).all fun x=>decide (0≤x∧x≤(q.blocks.length:Int)-1))=true:=by
  simp only[Jbc,Jv,decide_eq_true_eq];intro b hb x hx;rw[DX hb]at hx;have:=(h.bs b hb).nx x hx;omega
 have h2:decide (0<q.blocks.length)=true:=decide_eq_true h.b0;simp only[Bt,h1,Jbx]
 first|exact h2|simpa using h.b0
theorem CodeD.ok.rchPk (h:q.ok):Pk q (rchL q.blocks.length (nxN (gnx q))):=by
 have eH:=h.b0;have bj:=h.b1;refine⟨?_,?_,fun x hx=>?_,fun x hx v hv=>?_⟩
 ·have:=Jar (A6 (nxN (gnx q)) (-1)) (List.range q.blocks.length);rw[Ja2]at this;rw[rchL];omega
 ·obtain⟨m,hm⟩:∃m,q.blocks.length=m+1:=⟨q.blocks.length-1,Zx⟩;have h0:A6 (nxN (gnx q)) (-1) 0=true:=rchB_iff.2 (.refl Zx);rw[rchL,hm,List.range_succ_eq_map,List.filter_cons,h0];rfl
 ·rw[rchL,Jab,Jv]at hx;exact hx.1
 ·rw[rchL,Jab,Jv]at hx⊢;have yk:=hv;rw[DX hx.1]at yk;have:=(h.bs x hx.1).nx v yk;refine⟨Zx,rchB_iff.2 (.step (rchB_iff.1 hx.2) (Jr.2 ⟨v,hv,rfl⟩) Zx)⟩
theorem Qbnx {fl:Bool}(ho:q.ok)(hK:∀(d:CodeD) z H',PkR q d→Kn H H' [] [(z,.vec 5 (Qo d.blocks))]→K (.ag [.int .i64 d.params,.int .i64 d.ab,.af z 5 0 d.blocks.length]) H') :
  Qs prog R7 [.ag [.int .i64 q.params,.int .i64 q.ab,.sl fl 5 (Qo q.blocks)]] H K:=by
 refine De ?_;refine Qc Ab Qbom ?_;refine Za ?_;intro x2 aI H1 h1;have kn:=(Kn.aq H).al aI h1;refine Zv ?_;refine Qay1 (rows:=Qo q.blocks) (nx:=gnx q) (Gy ho.gd) (by rw[Qm];exact ho.fitB) fun H2 hu=>?_;have kn:=kn.aw hu;rw[Qm];simp only[go_sem,Pf];refine Qbi3 ho ho.rchPk fun d z H3 hR k2=>?_;have kn:=kn.comp0 k2;have aI:=kn.l 0 rfl;simp only[go_sem,Pg,aI];intro H4 h4;have kn:Kn H H4 [] ([(x2,.st [.int .i64 d.params,.int .i64 d.ab,.af z 5 0 d.blocks.length])]++[(z,.vec 5 (Qo d.blocks))]):=kn.aB 0 rfl h4;have aI:=kn.l 0 rfl;refine Zg aI ?_;obtain⟨S,pR,qy,ik,kn⟩:=(kn.perm Jo).dh;exact⟨S,_,_,FrzL.ag (.cons (Qg rfl) (.cons (Qg rfl) (.cons (.same _ rfl) .nil))),ik,hK d z _ hR kn⟩
def zRow (v:Int):List C:=[.int .i64 1,.int .i64 v,.sl true 1 [],.int .i64 0]
def zIns (v:Int):InsD:=⟨1,v,[],0⟩
theorem Y0 {S:Nat→Bool}(vs:List Int):FrzR H S (vs.map zRow) (Af (vs.map zIns)):=by
 rw[Af,Jae];exact Dp vs fun v _=>.cons (Qg rfl) (.cons (Qg rfl) (.cons FrzR.nil.sl (.cons (Qg rfl) .nil)))
theorem Qbsw {d:CodeD}(ho:d.ok)(h9:∀y∈d.blocks,y.ins.length≤900∧y.aa.length≤900){vs:List Int}(hv:∀v∈vs,rIn d v)(hl:vs.length≤300){y:BlkD}{ys:List BlkD}(hd:d.blocks=y::ys) :
  (CodeD.mk d.params d.ab (⟨y.aa,vs.map zIns++y.ins,y.jump,y.on,y.next⟩::ys)).ok:=by
 obtain⟨y',iM⟩:∃y':BlkD,y'=⟨y.aa,vs.map zIns++y.ins,y.jump,y.on,y.next⟩:=⟨_,rfl⟩;obtain⟨d',fh⟩:∃d':CodeD,d'=⟨d.params,d.ab,y'::ys⟩:=⟨_,rfl⟩;rw[←iM,←fh];have am:d'.blocks.length=d.blocks.length:=by rw[fh,hd];rfl
 have fR:d'.blocks.map BlkD.next=d.blocks.map BlkD.next:=by rw[fh,hd,iM];rfl
 have hg:gnx d'=gnx d:=by funext i;rw[gnx,gnx,fR]
 have hr:∀v,rIn d v→rIn d' v:=fun v h=>by simp only[rIn,fh]at h⊢;exact h
 have h9y:=h9 y (by rw[hd];exact Jac);have gM:d'.ab=d.ab:=by rw[fh]
 refine⟨by rw[gM];exact ho.r0,by rw[gM];exact ho.r1,by rw[am];exact ho.b0,by rw[am];exact ho.b1,fun b h=>?_,fun b h=>?_⟩
 ·have h':b<d.blocks.length:=Zx
  have o:=ho.bs b h';have dm:∀x∈d'.blocks[b].ins,x∈d.blocks[b].ins∨∃v∈vs,x=zIns v:=fun x hx=>by
   cases b with
   |zero=>
    simp only[fh,J9,iM]at hx;rcases Jq.1 hx with hx|hx
    ·obtain⟨v,hv,rfl⟩:=Jr.1 hx;exact .inr ⟨v,hv,rfl⟩
    ·left;simp only[hd,J9];exact hx
   |succ b=>left;simp only[fh,hd,J8]at hx⊢;exact hx
  have e:d'.blocks[b].aa=d.blocks[b].aa∧d'.blocks[b].jump=d.blocks[b].jump∧d'.blocks[b].on=d.blocks[b].on∧d'.blocks[b].next=d.blocks[b].next:=by
   cases b with
   |zero=>simp only[fh,hd,J9,iM,and_self]
   |succ b=>simp only[fh,hd,J8,and_self]
  obtain⟨e1,e2,e3,e4⟩:=e;refine⟨by rw[e4];exact o.nxl,fun v hv=>by rw[e4]at hv;rw[am];exact o.nx v hv,by rw[e2];exact o.jmp,fun hj=>by rw[e2]at hj;rw[e3];exact hr _ (o.on hj),fun x hx v hv=>?_,fun x hx hm=>?_,
   fun p hp=>by rw[e1]at hp;exact hr _ (o.pto p hp),fun p hp v hv=>by rw[e1]at hp;exact hr _ (o.pargs p hp v hv),fun p hp=>by rw[e1]at hp;rw[hg,am];exact o.pal p hp,fun x hx=>?_⟩
  ·rcases dm x hx with h|⟨v',_,rfl⟩
   ·exact hr _ (o.args x h v hv)
   ·simp[zIns]at hv
  ·rcases dm x hx with h|⟨v',iw,rfl⟩
   ·exact hr _ (o.to x h hm)
   ·exact hr _ (hv v' iw)
  ·rcases dm x hx with h|⟨v',_,rfl⟩
   ·exact o.al x h
   ·simp[zIns]
 ·have h':b<d.blocks.length:=Zx
  have o:=ho.il b h'
  cases b with
  |zero=>
   simp only[fh,J9,iM,Jp,Jd];omega
  |succ b=>simp only[fh,hd,J8]at o⊢;exact o
set_option maxHeartbeats 4000000 in
theorem Qbi6 {fl:Bool}(ho:q.ok)(eV:0≤q.params)(h9:∀y∈q.blocks,y.ins.length≤900∧y.aa.length≤900)
  (hK:∀(d:CodeD) H',d.ok→d.params=q.params→d.ab=q.ab→(∀y∈d.blocks,y.aa.length≤900)→Upd H H' []→K (.ag d.cells) H') :
  Qs prog Q04 [.ag [.int .i64 q.params,.int .i64 q.ab,.sl fl 5 (Qo q.blocks)]] H K:=by
 refine Qx ?_;refine Qc Ab Qbjf ?_;refine Za ?_;intro x2 aI H1 h1;have kn:=(Kn.aq H).al aI h1;refine Za ?_;refine Qbnx ho fun d z H2 hR k2=>?_;have kn:=kn.comp0 k2;have jD:=hR.ok;have wM:∀y∈d.blocks,y.ins.length≤900∧y.aa.length≤900:=fun y hy=>by
  obtain⟨y0,sY,h1,h2⟩:=hR.i y hy;rw[h1,h2];exact h9 y0 sY
 have eV:0≤d.params:=by rw[hR.p];exact eV
 have bM:=jD.r0;have cG:=jD.r1;have eH:=jD.b0;have bj:=jD.b1;simp only[go_sem,Q45];intro x3 aP H3 h3;have kn:=(kn.al aP h3).perm Jo;have aP:=kn.l 0 rfl;simp only[go_sem,Q44,aP];intro H4 h4;have kn:Kn H H4 [] ([(x3,.st [.int .i64 d.params,.int .i64 d.ab,.af z 5 0 d.blocks.length]),(x2,.st [.int .i64 0,.int .i64 0,.sl true 5 []]),(z,.vec 5 (Qo d.blocks))]):=kn.aB 0 rfl h4;have aP:=kn.l 0 rfl;have hz:=kn.l 2 rfl;refine Zi aP ?_;refine KU jD (CodeR.af hz Zz) fun zi zo H5 hu cI=>?_;have kn:=kn.aw hu;obtain⟨y,ys,qa⟩:∃y ys,d.blocks=y::ys:=by
  cases hb:d.blocks with
  |nil=>rw[hb]at eH;simp at eH
  |cons y ys=>exact⟨y,ys,rfl⟩
 have j5:0<zi.length:=by rw[cI.1.i];exact eH
 obtain⟨nd,cr⟩:∃nd,zi[0].2=nd:=⟨_,rfl⟩;have oX:nd.length=d.ab.toNat:=by rw[←cr];exact cI.1.li _ (Jc j5)
 simp only[go_sem,Q46,j5,Rf,Lk _ _ j5,cr];refine⟨Ja1 0,?_⟩;refine Za ?_;have aP:=kn.l 0 rfl;refine Q1 (Qa ?_);simp only[go_sem,aP];refine Qh (Qd (Qw (fun m e1 H1=>∃(r:Int) (vs:List Int) (t:C) (Lg:List (Nat×Obj)),m=(d.ab-r).toNat∧0≤r∧(r≤d.ab∨r=d.params)∧(vs.length:Int)≤r∧(vs=[]∨r≤d.ab)∧(∀v∈vs,rIn d v)∧Gr Lg 4 (vs.map zRow) t∧
  Kn H H1 [] ([(x3,.st [.int .i64 d.params,.int .i64 d.ab,.af z 5 0 d.blocks.length]),(x2,.st [.int .i64 0,.int .i64 0,.sl true 5 []]),(z,.vec 5 (Qo d.blocks))]++Lg)∧
  lk 2 e1=.c (.ptr x2 0)∧lk 3 e1=.c (.ptr x3 0)∧lk 4 e1=.c (.sl false 1 (Qt nd))∧lk 5 e1=.c t∧lk 6 e1=.c (.int .i64 r)) (d.ab-d.params).toNat ?_ ?_))
 ·exact⟨d.params,[],_,[],rfl,eV,.inr rfl,eV,.inl rfl,Zz,.nil 4,ZH,rfl,rfl,rfl,rfl,rfl⟩
 ·clear kn aP hz;rintro m e1 H6 ⟨r,vs,t,Lg,hm,hr,uZ,bQ,td,qP,ao,kn,l2,l3,l4,l5,l6⟩;have bp:=ao.ah;have aP:=kn.l 0 rfl;refine Q1 (Qa ?_);simp only[go_sem,l2,l3,l4,l5,l6,aP];refine Wu ?_ ?_
  ·intro hc;have ae:r<d.ab:=ZA
   obtain⟨rn,ke⟩:∃rn:Nat,r=(rn:Int):=⟨r.toNat,Zx⟩;subst ke;have dQ:rn<nd.length:=Zx
   refine Zd ?_
   refine A4 (fun e2 H2=>∃(vs:List Int) (t:C) (Lg:List (Nat×Obj)),(vs.length:Int)≤(rn:Int)+1∧(∀v∈vs,rIn d v)∧Gr Lg 4 (vs.map zRow) t∧
    Kn H H2 [] ([(x3,.st [.int .i64 d.params,.int .i64 d.ab,.af z 5 0 d.blocks.length]),(x2,.st [.int .i64 0,.int .i64 0,.sl true 5 []]),(z,.vec 5 (Qo d.blocks))]++Lg)∧
    lk 2 e2=.c (.ptr x2 0)∧lk 3 e2=.c (.ptr x3 0)∧lk 4 e2=.c (.sl false 1 (Qt nd))∧lk 5 e2=.c t∧lk 6 e2=.c (.int .i64 (rn:Int))) ?_ ?_
   ·intro Q bD _ _;refine Qd (Qa ?_);simp only[go_sem,dQ,Qy,Q4 _ _ dQ];refine Wv ?_ ?_
    ·intro aC;refine Zh ?_;refine kn.bg (new:=[zRow (rn:Int)]) ao (.mk' _ _ _ _) (by intro w hw;simp only[Ja]at hw;rw[hw];rfl) Zav fun t2 Lg2 H7 bq ca kn=>?_;simp only[go_sem,Q47];refine bD _ _ ⟨vs++[(rn:Int)],t2,Lg2,by simp only[Jp,Jj,Jm];omega,fun v hv=>?_,by rw[Jn];exact bq,kn,rfl,rfl,rfl,rfl,rfl⟩;rcases Jq.1 hv with hv|hv
     ·exact qP v hv
     ·simp only[Ja]at hv;rw[hv];exact⟨Zx,ae⟩
    ·intro aC;refine Zd ?_
     exact bD _ _ ⟨vs,t,Lg,Zx,qP,ao,kn,rfl,rfl,rfl,rfl,rfl⟩
   ·rintro e2 H7 ⟨vs,t,Lg,bQ,qP,ao,kn,l2,l3,l4,l5,l6⟩;have bp:=ao.ah;refine Qp ?_;simp only[go_sem,l2,l3,l4,l5,l6];refine⟨Qr,?_⟩;show ∃m,_;exact⟨(d.ab-((rn:Int)+1)).toNat,Zx,(rn:Int)+1,vs,t,Lg,rfl,Zx,.inl Zx,bQ,.inr Zx,qP,ao,kn,rfl,rfl,rfl,rfl,rfl⟩
  ·intro hc;have uD:vs.length≤300:=by
    rcases td with rfl|h
    ·simp
    ·omega
   have bd:d.ab≤r:=ZA
   have hz:=kn.l 2 rfl;have h0:0<(Qo d.blocks).length:=by rw[Qm];exact eH
   have sC:(Qo d.blocks).getD 0 []=[.sl false 2 (Ae y.aa),.sl false 4 (Af y.ins),.int .i64 y.jump,.int .i64 y.on,.sl false 1 (Qb y.next)]:=by rw[qa];rfl
   have mz:(Qo d.blocks).take d.blocks.length=Qo d.blocks:=Jf (by rw[Qm];exact Ji _);have lf:=wM y (by rw[qa];exact Jac);refine Zc ?_;refine Aj ?_;simp only[go_sem,aP,hz,Qm,eH,sC,mz,Jl,Ji,Ja1];refine kn.bg (new:=Af y.ins) ao (.mk' _ _ _ _) (Hz _) (by simp only[Jd,Ax,LIM];omega) fun t2 Lg2 H7 bq ca kn=>?_;have aP:=kn.l 0 rfl;have hz:=kn.l 2 rfl;simp only[go_sem,Q48,aP,hz,Qm,eH,sC,Jl,Ji,Ja1];intro H8 h8;have bY:∀R:List C,(Qo d.blocks).set 0 R=R::Qo ys:=fun R=>by rw[qa];rfl
   rw[bY]at h8;have kn:Kn H H8 [] ([(x3,.st [.int .i64 d.params,.int .i64 d.ab,.af z 5 0 d.blocks.length]),(x2,.st [.int .i64 0,.int .i64 0,.sl true 5 []]),(z,.vec 5 ([.sl false 2 (Ae y.aa),t2,.int .i64 y.jump,.int .i64 y.on,.sl false 1 (Qb y.next)]::Qo ys))]++Lg2):=kn.aB 2 rfl h8;have aI:=kn.l 1 rfl;have aP:=kn.l 0 rfl;refine Zl aI aP ?_;intro H9 xO;have kn:Kn H H9 [] ([(x3,.st [.int .i64 d.params,.int .i64 d.ab,.af z 5 0 d.blocks.length]),(x2,.st [.int .i64 d.params,.int .i64 d.ab,.af z 5 0 d.blocks.length]),(z,.vec 5 ([.sl false 2 (Ae y.aa),t2,.int .i64 y.jump,.int .i64 y.on,.sl false 1 (Qb y.next)]::Qo ys))]++Lg2):=kn.aB 1 rfl xO;have aI:=kn.l 1 rfl;have hz:=kn.l 2 rfl;have tW:=kn.un 2 rfl;refine Zg aI ?_;have gQ:FrzC H9 (un H) t2 (.sl false 4 (Af (vs.map zIns++y.ins))):=by
    have:Af (vs.map zIns++y.ins)=Af (vs.map zIns)++Af y.ins:=(by simp[Af]);rw[this];exact bq.frzR kn ((Y0 vs).app (FrzR.same (Hz _)))
   have bT:FrzR H9 (un H) ([.sl false 2 (Ae y.aa),t2,.int .i64 y.jump,.int .i64 y.on,.sl false 1 (Qb y.next)]::Qo ys) (Qo (⟨y.aa,vs.map zIns++y.ins,y.jump,y.on,y.next⟩::ys)):=
    .cons (.cons (Qg rfl) (.cons gQ (.cons (Qg rfl) (.cons (Qg rfl) (.cons (Qg rfl) .nil))))) (FrzR.same (N4 _))
   have pC:d.blocks.length=(⟨y.aa,vs.map zIns++y.ins,y.jump,y.on,y.next⟩::ys:List BlkD).length:=by rw[qa];rfl
   refine⟨_,FrzL.ag (.cons (Qg rfl) (.cons (Qg rfl) (.cons (bT.af tW hz (by rw[pC,Jj,Jj,Qm])) .nil))),hK (CodeD.mk d.params d.ab (⟨y.aa,vs.map zIns++y.ins,y.jump,y.on,y.next⟩::ys)) _ (Qbsw jD wM qP uD qa) hR.p hR.r (fun w hw=>?_) kn.fin⟩;rcases Jy.1 hw with rfl|hw
   ·exact lf.2
   ·exact (wM w (by rw[qa];exact Jad _ hw)).2
abbrev Plc:=Int×Int
def pRow (p:Plc):List C:=[.sl true 1 [[.int .i64 p.1],[.int .i64 p.2]]]
def Aw (ps:List Plc):List (List C):=ps.map pRow
theorem Dc (ps:List Plc):(Aw ps).length=ps.length:=by simp[Aw]
theorem Q7h (ps:List Plc)(i:Nat)(h:i<ps.length):(Aw ps).getD i []=pRow ps[i]:=by simp[Aw,Jb,h]
theorem Ep (ps:List Plc):∀r∈Aw ps,ak r=true:=by intro r hr;obtain⟨x,_,rfl⟩:=Jr.1 hr;rfl
def phS (q:CodeD)(b k r:Nat):List Plc:=(((Ad q b).aa.take k).filter fun p=>decide (p.to=(r:Int))).map fun _=>((b:Int),(-1:Int))
def Cv (q:CodeD)(b i:Nat):Int:=(((Ad q b).ins[i]?).map Bs).getD (-1)
def inS (q:CodeD)(b j r:Nat):List Plc:=((List.range j).filter fun i=>decide (Cv q b i=(r:Int))).map fun (i:Nat)=>((b:Int),(i:Int))
def blS (q:CodeD)(b r:Nat):List Plc:=phS q b (Ad q b).aa.length r++inS q b (Ad q b).ins.length r
def B7 (q:CodeD)(b r:Nat):List Plc:=(List.range b).flatMap fun b=>blS q b r
def BO (q:CodeD)(r:Nat):List Plc:=B7 q q.blocks.length r
def BX (q:CodeD):List (List C):=(List.range q.ab.toNat).map fun r=>[.sl false 1 (Aw (BO q r))]
theorem YT {b k r:Nat}(h:k<(Ad q b).aa.length):phS q b (k+1) r=phS q b k r++if (Ad q b).aa[k].to=(r:Int)then [((b:Int),(-1:Int))]else []:=by
 rw[phS,phS,Jg h,Jay,Jn];congr 1;by_cases hc:(Ad q b).aa[k].to=(r:Int)
 ·rw[if_pos hc];simp[hc]
 ·rw[if_neg hc];simp[hc]
theorem Qbpe {b i:Nat}(h:i<(Ad q b).ins.length):Cv q b i=Bs (Ad q b).ins[i]:=by simp[Cv,h]
theorem Kc {b j r:Nat}:inS q b (j+1) r=inS q b j r++if Cv q b j=(r:Int)then [((b:Int),(j:Int))]else []:=by
 rw[inS,inS,Jaz,Jay,Jn];congr 1;by_cases hc:Cv q b j=(r:Int)
 ·rw[if_pos hc];simp[hc]
 ·rw[if_neg hc];simp[hc]
theorem Qbf8 {b r:Nat}:B7 q (b+1) r=B7 q b r++blS q b r:=by simp[B7,Jaz]
theorem Qa9s (x:InsD):(Bh x.op=true∧Bs x=x.to)∨(Bh x.op=false∧Bs x=-1):=by
 cases h:Bh x.op with
 |true=>exact .inl ⟨rfl,by simp[Bs,h]⟩
 |false=>exact .inr ⟨rfl,by simp[Bs,h]⟩
structure SReg where
 ps:List Plc
 c:C
 lg:List (Nat×Obj)
def SReg.row (s:SReg):List C:=[s.c]
def SReg.ok (s:SReg):Prop:=Gr s.lg 1 (Aw s.ps) s.c
structure SInv (R N:Nat)(F:Nat→List Plc)(ss:List SReg):Prop where
 n:ss.length=R
 f:∀r (h:r<ss.length),ss[r].ps=F r
 ok:∀s∈ss,s.ok
 l:∀s∈ss,s.ps.length≤N
variable {R N:Nat}{F F':Nat→List Plc}{ss:List SReg}
theorem SInv.get (h:SInv R N F ss){x:Nat}(hx:x<R):∃s∈ss,∃fN:x<ss.length,ss[x]=s∧s.ps=F x∧s.ok∧s.ps.length≤N∧(ss.map SReg.row).getD x []=[s.c]:=
 have fN:x<ss.length:=by rw[h.n];exact hx
 ⟨ss[x],Jc fN,fN,rfl,h.f x fN,h.ok _ (Jc fN),h.l _ (Jc fN),by simp[Jb,fN,SReg.row]⟩
theorem SInv.put (h:SInv R N F ss){x:Nat}(hx:x<R){p:Plc}{t:C}{Lg:List (Nat×Obj)}(hg:Gr Lg 1 (Aw (F x++[p])) t)(hF:∀r,F' r=if r=x then F x++[p]else F r) :
  SInv R (N+1) F' (ss.set x ⟨F x++[p],t,Lg⟩):=by
 obtain⟨s,hs,fN,e1,e2,e3,e4,_⟩:=h.get hx;refine⟨by rw[Jah];exact h.n,fun r hr=>?_,fun w hw=>?_,fun w hw=>?_⟩
 ·rw[Ja5,hF];split
  ·rename_i e;rw[if_pos e.symm]
  ·rename_i e;rw[if_neg (fun hh=>e hh.symm)];exact h.f r Zaq
 ·rcases Jau hw with hw|rfl
  ·exact h.ok w hw
  ·exact hg
 ·rcases Jau hw with hw|rfl
  ·have:=h.l w hw;omega
  ·rw[e2]at e4;simp only[Jp,Jj,Jm];omega
theorem SInv.same (h:SInv R N F ss)(hF:∀r,r<R→F' r=F r):SInv R N F' ss:=⟨h.n,fun r hr=>by rw[h.f r hr,hF r (by rw[←h.n];exact hr)],h.ok,h.l⟩
theorem SInv.up (h:SInv R N F ss){M:Nat}(hM:N≤M):SInv R M F ss:=⟨h.n,h.f,h.ok,fun s hs=>by have:=h.l s hs;omega⟩
def ssL (o:Nat)(ss:List SReg):List (Nat×Obj):=[(o,.vec 1 (ss.map SReg.row))]++ss.flatMap SReg.lg
theorem F8 {o x:Nat}{s:SReg}(hx:x<ss.length)(hs:ss[x]=s):(ssL o ss).Perm (([(o,.vec 1 (ss.map SReg.row))]++(ss.eraseIdx x).flatMap SReg.lg)++s.lg):=by
 subst hs;have:=Ej (f:=SReg.lg) hx;rw[ssL];refine Qj fun f hf h0 hc hp=>?_;have:=hp _ _ this;simp only[hf]at this⊢;omega
theorem IC {o x:Nat}{s:SReg}(hx:x<ss.length):(([(o,Obj.vec 1 ((ss.set x s).map SReg.row))]++(ss.eraseIdx x).flatMap SReg.lg)++s.lg).Perm (ssL o (ss.set x s)):=by
 have h1:=F8 (o:=o) (ss:=ss.set x s) (x:=x) (s:=s) (by rw[Jah];exact hx) Zz;rw[Jbi]at h1;exact h1.symm
set_option maxHeartbeats 4000000 in
theorem Qbn7 {fl:Bool}(ho:q.ok)(hK:∀H',Upd H H' []→K (.c (.sl false 1 (BX q))) H') :
  Qs prog Q60 [.ag [.int .i64 q.params,.int .i64 q.ab,.sl fl 5 (Qo q.blocks)]] H K:=by
 have bM:=ho.r0;have cG:=ho.r1;have bj:=ho.b1;obtain⟨R,hR⟩:∃R:Nat,q.ab.toNat=R:=⟨_,rfl⟩;have sM:q.ab=(R:Int):=Zx
 refine Qx ?_;refine Qc Ab Qbo0 ?_;refine Za ?_;refine Zi sM ?_;refine⟨by simp only[LIM];omega,fun o iS H1 h1=>?_⟩;have kn:Kn H H1 [] (ssL o (List.replicate R ⟨[],.sl true 1 [],[]⟩)):=by
  have e:(List.replicate R (SReg.mk [] (.sl true 1 []) [])).flatMap SReg.lg=[]:=List.flatMap_eq_nil_iff.2 fun s hs=>by rw[Jal hs]
  have:=(Kn.aq H).al iS h1;rw[ssL,e];simpa[SReg.row]using this
 simp only[go_sem,On];have sL:SInv R 0 (B7 q 0) (List.replicate R ⟨[],.sl true 1 [],[]⟩):=⟨Zz,fun r h=>by simp[B7],fun s hs=>by rw[Jal hs];exact .nil 1,fun s hs=>by rw[Jal hs];simp⟩;generalize List.replicate R (SReg.mk [] (.sl true 1 []) [])=ss0 at *;refine Wa ?_;refine Qh (Qd (Qw (fun m e1 H1=>∃(b N:Nat) (ss:List SReg),m=q.blocks.length-b∧b≤q.blocks.length∧N≤b * 2400∧SInv R N (B7 q b) ss∧Kn H H1 [] (ssL o ss)∧
  lk 1 e1=.c (.pp [.int .i64 q.params,.int .i64 (R:Int),.sl fl 5 (Qo q.blocks)])∧lk 3 e1=.c (.af o 1 0 R)∧lk 4 e1=.c (.int .i64 b)) q.blocks.length ?_ ?_))
 ·exact⟨0,0,ss0,Zx,Zx,Zx,sL,kn,rfl,rfl,rfl⟩
 ·clear kn sL h1 iS;clear ss0;rintro m e1 H1 ⟨b,N,ss,hm,hb,nG,hS,kn,l1,l3,l4⟩;refine Q1 (Qa ?_);simp only[go_sem,l1,l3,l4,Qm];try intro _
  refine Wu ?_ ?_
  ·intro hc;have ae:b<q.blocks.length:=ZA
   obtain⟨y,hy⟩:∃y,q.blocks[b]=y:=⟨_,rfl⟩;have dZ:Ad q b=y:=by rw[AA ae,hy]
   have cD:=ho.bs b ae;have ck:=ho.il b ae;rw[hy]at cD ck;refine Zd ?_
   refine Qh (Qd ?_);refine Wa ?_;refine Qh (Qd (Qw (fun m e1 H1=>∃(k N:Nat) (ss:List SReg),m=y.aa.length-k∧k≤y.aa.length∧N≤b * 2400+k∧SInv R N (fun r=>B7 q b r++phS q b k r) ss∧Kn H H1 [] (ssL o ss)∧
    lk 1 e1=.c (.pp [.int .i64 q.params,.int .i64 (R:Int),.sl fl 5 (Qo q.blocks)])∧lk 3 e1=.c (.af o 1 0 R)∧lk 4 e1=.c (.int .i64 b)∧lk 5 e1=.c (.int .i64 k)) y.aa.length ?_ ?_))
   ·exact⟨0,N,ss,Zx,Zx,Jbs nG (Jbv _ _),hS.same fun r _=>by simp[phS],kn,rfl,rfl,rfl,rfl⟩
   ·clear kn hS l1 l3 l4;clear ss nG;clear N;rintro m2 e2 H2 ⟨k,N,ss,eo,hk,nG,hS,kn,l1,l3,l4,l5⟩;refine Q1 (Qa ?_);simp only[go_sem,l1,l3,l4,l5,ae,Qm,Q9 _ _ ae,BlkD.cells,hy,Q7];try intro _
    refine Wu ?_ ?_
    ·intro aC;have aT:k<y.aa.length:=ZC;obtain⟨p,hp⟩:∃p,y.aa[k]=p:=⟨_,rfl⟩;have gk:p∈y.aa:=(by rw[←hp];exact Jc aT);obtain⟨hv,bQ⟩:=(cD.pto p gk).nat;have eU:∀r,phS q b (k+1) r=phS q b k r++if p.to=(r:Int)then [((b:Int),(-1:Int))]else []:=fun r=>by
      have:=YT (q:=q) (b:=b) (k:=k) (r:=r) (by rw[dZ];exact aT);simp only[dZ,hp]at this;exact this
     refine Zd ?_
     refine Qh (Qd ?_);rw[hR]at bQ;generalize hx:p.to.toNat=x at *;obtain⟨s,ll,dA,oz,uT,aN,gH,lK⟩:=hS.get bQ;have o0:=aN.ah;refine Qa ?_;simp only[go_sem,ae,Qm,Q9 _ _ ae,BlkD.cells,hy,Q7,aT,BL _ _ aT,PhiD.cells,hp];have kn:=kn.perm (F8 dA oz);have bn:H2 o=.vec 1 (ss.map SReg.row):=(kn.get (o,.vec 1 (ss.map SReg.row)) Zz).1;have dQ:(ss.map SReg.row).length=R:=(by rw[Jd,hS.n]);have oC:(ss.map SReg.row).take R=ss.map SReg.row:=Jf Zx;refine Qp ?_;simp only[go_sem,bn,dQ,oC,hv,bQ,lK,o0,Jl,Ji];refine kn.bg (new:=Aw [((b:Int),(-1:Int))]) aN (.mk' _ _ _ _) (Ep _) (by simp only[Dc,LIM,Jj,Jm];omega) fun t2 Lg2 H3 dD ca kn=>?_;have bn:H3 o=.vec 1 (ss.map SReg.row):=(kn.get (o,.vec 1 (ss.map SReg.row)) Zz).1;simp only[go_sem,Om,bn,dQ,bQ,lK,Jl,Ji];intro H4 h4;obtain⟨s',gJ⟩:∃s':SReg,s'=⟨(B7 q b x++phS q b k x)++[((b:Int),(-1:Int))],t2,Lg2⟩:=⟨_,rfl⟩;have bY:(ss.map SReg.row).set x [t2]=(ss.set x s').map SReg.row:=(by rw[Ja9,gJ];rfl);rw[bY]at h4;have kn:Kn H H4 [] (([(o,.vec 1 ((ss.set x s').map SReg.row))]++(ss.eraseIdx x).flatMap SReg.lg)++s'.lg):=by
      have e:s'.lg=Lg2:=(by rw[gJ]);rw[e];exact kn.aB 0 rfl h4
     have kn:=kn.perm (IC dA);refine Zh ?_;refine⟨Qr,?_⟩;show ∃m,_;refine⟨y.aa.length-(k+1),Zx,k+1,N+1,ss.set x s',rfl,Zx,Zx,?_,kn,rfl,rfl,rfl,rfl⟩;rw[gJ];refine (hS.put bQ (p:=((b:Int),(-1:Int))) (t:=t2) (Lg:=Lg2) ?_ fun r=>?_)
     ·have:Aw ((B7 q b x++phS q b k x)++[((b:Int),(-1:Int))])=Aw s.ps++Aw [((b:Int),(-1:Int))]:=(by rw[uT];simp[Aw]);rw[this];exact dD
     ·show B7 q b r++phS q b (k+1) r=_;rw[eU];by_cases gK:r=x
      ·subst gK;rw[if_pos rfl,if_pos hv];simp
      ·rw[if_neg gK,if_neg Zx];simp
    ·intro aC;have qr:k=y.aa.length:=(by have:y.aa.length≤k:=(by simpa using aC);omega);subst qr;refine Wc ?_;refine Qd (Qw (fun m e1 H1=>∃(j N:Nat) (ss:List SReg),m=y.ins.length-j∧j≤y.ins.length∧N≤b * 2400+y.aa.length+j∧SInv R N (fun r=>B7 q b r++phS q b y.aa.length r++inS q b j r) ss∧Kn H H1 [] (ssL o ss)∧
      lk 1 e1=.c (.pp [.int .i64 q.params,.int .i64 (R:Int),.sl fl 5 (Qo q.blocks)])∧lk 3 e1=.c (.af o 1 0 R)∧lk 4 e1=.c (.int .i64 b)∧lk 7 e1=.c (.int .i64 j)) y.ins.length ?_ ?_)
     ·exact⟨0,N,ss,Zx,Zx,Jbs nG (Jbv _ _),hS.same fun r _=>by simp[inS],kn,rfl,rfl,rfl,rfl⟩
     ·clear kn hS l1 l3 l4 l5;clear ss nG;clear N;rintro m3 e3 H3 ⟨j,N,ss,nq,hj,nG,hS,kn,l1,l3,l4,l7⟩;refine Q1 (Qa ?_);simp only[go_sem,l1,l3,l4,l7,ae,Qm,Q9 _ _ ae,BlkD.cells,hy,Ax];try intro _
      refine Wu ?_ ?_
      ·intro bI;have bk:j<y.ins.length:=ZL;obtain⟨x,hx⟩:∃x,y.ins[j]=x:=⟨_,rfl⟩;have iN:x∈y.ins:=(by rw[←hx];exact Jc bk);have yA:Cv q b j=Bs x:=by
        have:=Qbpe (q:=q) (b:=b) (i:=j) Za6;simp only[dZ,hx]at this;exact this
       refine Zd ?_
       refine A4 (fun e2 H2=>∃(N:Nat) (ss:List SReg),N≤b * 2400+y.aa.length+(j+1)∧SInv R N (fun r=>B7 q b r++phS q b y.aa.length r++inS q b (j+1) r) ss∧Kn H H2 [] (ssL o ss)∧
        lk 1 e2=.c (.pp [.int .i64 q.params,.int .i64 (R:Int),.sl fl 5 (Qo q.blocks)])∧lk 3 e2=.c (.af o 1 0 R)∧lk 4 e2=.c (.int .i64 b)∧lk 7 e2=.c (.int .i64 j)) ?_ ?_
       ·intro Q bD _ _;refine Qd (Qa ?_);simp only[go_sem,ae,Qm,Q9 _ _ ae,BlkD.cells,hy,bk,Ax,B0 _ _ bk,InsD.cn,InsD.bv,InsD.len4,hx];refine Ly ?_;simp only[go_sem,Ol];refine Za ?_;refine Wv ?_ ?_
        ·intro dq;have bd:0≤Bs x:=ZN;have dd:Bh x.op=true∧Bs x=x.to:=by
          rcases Qa9s x with h|⟨_,h⟩
          ·exact h
          ·omega
         obtain⟨hv,bQ⟩:=(cD.to x iN dd.1).nat;rw[←dd.2,hR]at bQ;rw[←dd.2]at hv;clear dd;generalize hx:(Bs x).toNat=z at *;obtain⟨s,ll,dA,oz,uT,aN,gH,lK⟩:=hS.get bQ;have o0:=aN.ah;have kn:=kn.perm (F8 dA oz);have bn:H3 o=.vec 1 (ss.map SReg.row):=(kn.get (o,.vec 1 (ss.map SReg.row)) Zz).1;have dQ:(ss.map SReg.row).length=R:=(by rw[Jd,hS.n]);have oC:(ss.map SReg.row).take R=ss.map SReg.row:=Jf Zx;refine Qp ?_;simp only[go_sem,bn,dQ,oC,hv,bQ,lK,o0,Jl,Ji];refine kn.bg (new:=Aw [((b:Int),(j:Int))]) aN (.mk' _ _ _ _) (Ep _) (by simp only[Dc,LIM,Jj,Jm];omega) fun t2 Lg2 H4 dD ca kn=>?_;have bn:H4 o=.vec 1 (ss.map SReg.row):=(kn.get (o,.vec 1 (ss.map SReg.row)) Zz).1;simp only[go_sem,OO,bn,dQ,bQ,lK,Jl,Ji];intro H5 h5;obtain⟨s',gJ⟩:∃s':SReg,s'=⟨(B7 q b z++phS q b y.aa.length z++inS q b j z)++[((b:Int),(j:Int))],t2,Lg2⟩:=⟨_,rfl⟩;have bY:(ss.map SReg.row).set z [t2]=(ss.set z s').map SReg.row:=(by rw[Ja9,gJ];rfl);rw[bY]at h5;have kn:Kn H H5 [] (([(o,.vec 1 ((ss.set z s').map SReg.row))]++(ss.eraseIdx z).flatMap SReg.lg)++s'.lg):=by
          have e:s'.lg=Lg2:=(by rw[gJ]);rw[e];exact kn.aB 0 rfl h5
         have kn:=kn.perm (IC dA);refine bD _ _ ⟨N+1,ss.set z s',Zx,?_,kn,rfl,rfl,rfl,rfl⟩;rw[gJ];refine (hS.put bQ (p:=((b:Int),(j:Int))) (t:=t2) (Lg:=Lg2) ?_ fun r=>?_)
         ·have:Aw ((B7 q b z++phS q b y.aa.length z++inS q b j z)++[((b:Int),(j:Int))])=Aw s.ps++Aw [((b:Int),(j:Int))]:=(by rw[uT];simp[Aw]);rw[this];exact dD
         ·show B7 q b r++phS q b y.aa.length r++inS q b (j+1) r=_;rw[Kc,yA];by_cases gK:r=z
          ·subst gK;rw[if_pos rfl,if_pos hv];simp
          ·rw[if_neg gK,if_neg Zx];simp
        ·intro dq;have lZ:¬0≤Bs x:=ZN;refine Zd ?_
         refine bD _ _ ⟨N,ss,Zx,hS.same fun r _=>?_,kn,rfl,rfl,rfl,rfl⟩;rw[Kc,yA,if_neg Zx];simp
       ·rintro e4 H4 ⟨N,ss,nG,hS,kn,l1,l3,l4,l7⟩;refine Qp ?_;simp only[go_sem,l1,l3,l4,l7];refine⟨Qr,?_⟩;show ∃m,_;exact⟨y.ins.length-(j+1),Zx,j+1,N,ss,rfl,Zx,nG,hS,kn,rfl,rfl,rfl,rfl⟩
      ·intro bI;have iW:j=y.ins.length:=(by have:y.ins.length≤j:=(by simpa using bI);omega);subst iW;refine Zc ?_;refine Zh ?_;refine⟨Qr,?_⟩;show ∃m,_;refine⟨q.blocks.length-(b+1),Zx,b+1,N,ss,rfl,Zx,Zx,hS.same fun r _=>?_,kn,rfl,rfl,rfl⟩;rw[Qbf8,blS,dZ];simp
  ·intro hc;have je:b=q.blocks.length:=by have:q.blocks.length≤b:=ZA;omega
   subst je;refine Wh ?_;have bn:=kn.l 0 rfl;have bZ:∀p∈ssL o ss,H1 p.1=p.2∧un H p.1=true:=fun p hp=>⟨(kn.get p (Je _ hp)).1,BN (kn.loc p hp)⟩;have bT:FrzR H1 (un H) (ss.map SReg.row) (BX q):=by
    have e:BX q=ss.map fun s=>[C.sl false 1 (Aw s.ps)]:=by
     rw[BX,hR];refine Jav (by simp[hS.n]) fun i h1 h2=>?_;have h3:i<ss.length:=ZT;simp only[Jaj,Ja8,hS.f i h3];rfl
    rw[e];exact Dp ss fun s hs=>.cons (Gr.frzM (hS.ok s hs) (fun p hp=>bZ p (Je _ (Jt.2 ⟨s,hs,hp⟩))) (FrzR.same (Ep _))) .nil
   exact⟨_,.c _ _ (bT.af (kn.un 0 rfl) bn (by rw[Jd,hS.n])),hK _ kn.fin⟩
end Go.AE.Y
namespace Go.AE.Y
attribute [local go_sem] cond_true cond_false Bool.not_true Bool.not_false
open Go.Proofs.Tryz
variable {H H0:Heap}{K:V→Heap→Prop}{E B Lg:List (Nat×Obj)}{q:CodeD}
theorem Qa9x {nx:Nat→List Int}{f:Int}{n i:Nat}(h:i<(Am nx f n).length):∃p:Nat,(Am nx f n).getD i 0=(p:Int)∧p<n:=by
 have h1:(Am nx f n)[i]∈Am nx f n:=Jc h;have e:(Am nx f n).getD i 0=(Am nx f n)[i]:=by simp[Jb,h]
 rw[e];generalize (Am nx f n)[i]=v at h1;simp only[Am,Jr,Jab,Jv]at h1;obtain⟨p,⟨h2,_⟩,rfl⟩:=h1;exact⟨p,rfl,h2⟩
theorem FM {ns:List Int}(h:∀x∈ns,0≤x):Qb ns=Q5 (ns.map Int.toNat):=by
 have hk:ns=(ns.map Int.toNat).map Int.ofNat:=by
  rw[Jae]
  conv=>lhs;rw[←List.map_id ns]
  refine J6 fun x hx=>?_;have:=h x hx;simp;omega
 conv=>lhs;rw[hk]
 rfl
theorem Hp {ns:List Int}(h:∀x∈ns,0≤x)(ha:ns.Pairwise (· < ·)):(ns.map Int.toNat).Pairwise (· < ·):=by
 rw[List.pairwise_map];refine ha.imp_of_mem fun {a b} h1 h2 h3=>?_;have:=h a h1;have:=h b h2;omega
theorem CR {l:List Nat}{n:Nat}(ha:l.Pairwise (· < ·))(hn:∀x∈l,x<n):l.length≤n:=by
 have h1:l.Nodup:=ha.imp fun h=>Zx
 have h2:l ⊆ List.range n:=fun x hx=>Jv.2 (hn x hx);have:=(List.nodup_iff_count.1 h1);have h3:=Ja3 h1 h2;simpa using h3
set_option maxHeartbeats 2000000 in
theorem Qaun {fl flo:Bool}{b:Nat}(ho:q.ok)(hb:b<q.blocks.length)
  (hK:∀(fl':Bool) (fs:List Nat) H',Upd H H' []→fs.Pairwise (· < ·)→(∀x∈fs,x<q.blocks.length)→K (.c (.sl fl' 1 (Q5 fs))) H') :
  Qs prog T9 [.ag [.int .i64 q.params,.int .i64 q.ab,.sl fl 5 (Qo q.blocks)],.c (.sl flo 1 (ovOf q.blocks.length (nxN (gnx q)) q.blocks.length)),.c (.int .i64 b)] H K:=by
 have bj:=ho.b1;obtain⟨n,hn⟩:∃n,q.blocks.length=n:=⟨_,rfl⟩;obtain⟨g,hg⟩:∃g,nxN (gnx q)=g:=⟨_,rfl⟩;rw[hn]at hb bj hK;rw[hn,hg];refine Qx ?_;refine Qc Ab Qau2 ?_;refine Wb ?_;refine Wa ?_;refine Qh (Qd (Qw (fun m e1 H1=>∃(f:Nat) (fo:Bool) (ns:List Int),m=n-f∧f≤n∧ns.Pairwise (· < ·)∧(∀x∈ns,0≤x∧x<n)∧ns.length≤f * 200∧Kn H H1 [] []∧
  lk 1 e1=.c (.sl flo 1 (ovOf n g n))∧lk 2 e1=.c (.int .i64 b)∧lk 3 e1=.c (.pp [.int .i64 q.params,.int .i64 q.ab,.sl fl 5 (Qo q.blocks)])∧lk 7 e1=.c (.sl fo 1 (Qb ns))∧lk 8 e1=.c (.int .i64 f)) n ?_ ?_))
 ·exact⟨0,true,[],Zx,Zx,Zz,Zz,Zz,Kn.aq H,rfl,rfl,rfl,rfl,rfl⟩
 ·rintro m e1 H1 ⟨f,fo,ns,hm,hf,ha,cP,ce,kn,l1,l2,l3,l7,l8⟩;refine Q1 (Qa ?_);simp only[go_sem,l1,l2,l3,l7,l8,G7];try intro _
  refine Wu ?_ ?_
  ·intro hc;have ae:f<n:=ZA
   refine Zd ?_
   refine Wi ?_;refine Eg (nx:=gnx q) (.mk' _ _ _ _) rfl (Do H1 q fl).x fun H2 hu=>?_;have kn:=kn.aw hu;rw[Qm,hn];have dH:=El (gnx q) (f:Int) n;have lO:=fun (i:Nat)=>Qa9x (nx:=gnx q) (f:=(f:Int)) (n:=n) (i:=i);generalize Am (gnx q) (f:Int) n=pr at *;simp only[go_sem,Qpx];refine Za ?_;refine Qd (Qw (fun m e1 H1=>∃(i:Nat) (fo:Bool) (ns:List Int),m=pr.length-i∧i≤pr.length∧ns.Pairwise (· < ·)∧(∀x∈ns,0≤x∧x<n)∧ns.length≤f * 200+i∧Kn H H1 [] []∧
    lk 1 e1=.c (.sl flo 1 (ovOf n g n))∧lk 2 e1=.c (.int .i64 b)∧lk 3 e1=.c (.pp [.int .i64 q.params,.int .i64 q.ab,.sl fl 5 (Qo q.blocks)])∧lk 7 e1=.c (.sl fo 1 (Qb ns))∧lk 8 e1=.c (.int .i64 f)∧lk 9 e1=.c (.sl false 1 (Qb pr))∧lk 10 e1=.c (.int .i64 i)) pr.length ?_ ?_)
   ·exact⟨0,fo,ns,Zx,Zx,ha,cP,Zx,kn,rfl,rfl,rfl,rfl,rfl,rfl,rfl⟩
   ·clear kn ha cP ce l1 l2 l3 l7 l8;clear ns fo;rintro m2 e2 H3 ⟨i,fo,ns,eo,hi,ha,cP,ce,kn,l1,l2,l3,l7,l8,l9,l10⟩;refine Q1 (Qa ?_);simp only[go_sem,l1,l2,l3,l7,l8,l9,l10,Qf];try intro _
    refine Wu ?_ ?_
    ·intro aC;have aT:i<pr.length:=ZC;obtain⟨p,qk,fz⟩:=lO i aT;have hpd:p<(BM n g b).length:=(by rw[Ew];exact fz);have tL:f<(BM n g b).length:=(by rw[Ew];exact ae);refine Zd ?_
     refine A4 (fun e2 H2=>∃(fo:Bool) (ns:List Int),ns.Pairwise (· < ·)∧(∀x∈ns,0≤x∧x<n)∧ns.length≤f * 200+(i+1)∧Kn H H2 [] []∧
      lk 1 e2=.c (.sl flo 1 (ovOf n g n))∧lk 2 e2=.c (.int .i64 b)∧lk 3 e2=.c (.pp [.int .i64 q.params,.int .i64 q.ab,.sl fl 5 (Qo q.blocks)])∧lk 7 e2=.c (.sl fo 1 (Qb ns))∧lk 8 e2=.c (.int .i64 f)∧lk 9 e2=.c (.sl false 1 (Qb pr))∧lk 10 e2=.c (.int .i64 i)) ?_ ?_
     ·intro Q bD _ _;refine Qd (Aj ?_);simp only[go_sem,hb,G7,FL hb,aT,Qf,Qn _ _ aT,qk,fz,ae,Ew,Qy,Q4 _ _ hpd,Q4 _ _ tL];refine Wv ?_ ?_
      ·intro _;refine Zh ?_;refine Rw ha Zx fun fl2 ns2 H4 hu kW eZ ig=>?_;have kn:=kn.aw hu;simp only[go_sem,Qpy];refine bD _ _ ⟨fl2,ns2,kW,fun x hx=>?_,Zx,kn,rfl,rfl,rfl,rfl,rfl,rfl,rfl⟩;rcases (eZ x).1 hx with rfl|hx
       ·omega
       ·exact cP x hx
      ·intro _;refine Zd ?_
       exact bD _ _ ⟨fo,ns,ha,cP,Zx,kn,rfl,rfl,rfl,rfl,rfl,rfl,rfl⟩
     ·rintro e3 H4 ⟨fo,ns,ha,cP,ce,kn,l1,l2,l3,l7,l8,l9,l10⟩;refine Qp ?_;simp only[go_sem,l1,l2,l3,l7,l8,l9,l10];refine⟨Qr,?_⟩;show ∃m,_;exact⟨pr.length-(i+1),Zx,i+1,fo,ns,rfl,Zx,ha,cP,ce,kn,rfl,rfl,rfl,rfl,rfl,rfl,rfl⟩
    ·intro aC;refine Zc ?_;refine Zh ?_;refine⟨Qr,?_⟩;show ∃m,_;exact⟨n-(f+1),Zx,f+1,fo,ns,rfl,Zx,ha,cP,Zx,kn,rfl,rfl,rfl,rfl,rfl⟩
  ·intro hc;refine Wh ?_;have h0:∀x∈ns,0≤x:=fun x hx=>(cP x hx).1;rw[FM h0];refine⟨_,.c _ _ (FrzR.same (BC _)).sl,hK false _ _ kn.fin (Hp h0 ha) fun x hx=>?_⟩;obtain⟨v,hv,rfl⟩:=Jr.1 hx;have:=cP v hv;omega
set_option maxHeartbeats 2000000 in
theorem Qaop {fl flo fll:Bool}{ls:List Nat}(ho:q.ok)(hls:ls.length≤1000000)
  (hK:∀(fs:List Nat) H',Upd H H' []→fs.Pairwise (· < ·)→(∀x∈fs,x<q.blocks.length)→K (.c (.sl false 1 (Q5 fs))) H') :
  Qs prog TP [.ag [.int .i64 q.params,.int .i64 q.ab,.sl fl 5 (Qo q.blocks)],.c (.sl flo 1 (ovOf q.blocks.length (nxN (gnx q)) q.blocks.length)),.c (.sl fll 1 (Q5 ls))] H K:=by
 have bj:=ho.b1;obtain⟨n,hn⟩:∃n,q.blocks.length=n:=⟨_,rfl⟩;obtain⟨OV,tS⟩:∃OV,ovOf q.blocks.length (nxN (gnx q)) q.blocks.length=OV:=⟨_,rfl⟩;have xB:OV.length=n:=by rw[←tS,G7,hn]
 rw[hn]at bj hK;rw[tS];refine Qx ?_;refine Qc Ab Qaoz ?_;refine Wb ?_;refine Za ?_;refine⟨.inl trivial,BC _,by rw[Qz];simp only[LIM];omega,fun y0 sY H1 h1=>?_⟩;have kn:Kn H H1 [] ([]++[(y0,.vec 1 (Q5 ls))]):=(Kn.aq H).al sY h1;obtain⟨wc0,uA⟩:∃wc0,C.af y0 1 0 (0+(Q5 ls).length)=wc0:=⟨_,rfl⟩;have vn:Gq [(y0,.vec 1 (Q5 ls))] ls wc0:=by rw[←uA];exact Gr.gq (.mk _ _ _ Zx)
 have yj:=vn.ah;rw[uA];simp only[go_sem,Qnf];refine Qh (Qd (Qw (fun m e1 H1=>∃(O:List Int) (W:List Nat) (fo:Bool) (wc:C) (Lg:List (Nat×Obj)),m=W.length+2 * (n-O.length)∧W.length+2 * (n-O.length)≤ls.length+2 * n∧O.Pairwise (· < ·)∧(∀x∈O,0≤x∧x<n)∧Gq Lg W wc∧Kn H H1 [] ([]++Lg)∧
  lk 1 e1=.c (.sl flo 1 OV)∧lk 3 e1=.c (.pp [.int .i64 q.params,.int .i64 q.ab,.sl fl 5 (Qo q.blocks)])∧lk 7 e1=.c (.sl fo 1 (Qb O))∧lk 8 e1=.c wc) (ls.length+2 * n) ?_ ?_))
 ·exact⟨[],ls,true,wc0,[(y0,.vec 1 (Q5 ls))],Zz,Zz,Zz,Zz,vn,kn,rfl,rfl,rfl,rfl⟩
 ·clear kn vn yj uA h1 sY;rintro m e1 H2 ⟨O,W,fo,wc,Lg,hm,pQ,ha,hO,hq,kn,l1,l3,l7,l8⟩;have vj:=hq.ah;obtain⟨jm,yr⟩:=hq.get kn;have jm:=eq_true jm;have oG:=hq.ay;have rh:=hq.aO;refine Q1 (Qa ?_);simp only[go_sem,l1,l3,l7,l8,jm,oG];try intro _
  refine Wu ?_ ?_
  ·intro aC;obtain⟨b,W,rfl⟩:∃b W',W=b::W':=by
    cases W with
    |nil=>simp at aC
    |cons b W=>exact⟨b,W,rfl⟩
   have bM:(Q5 (b::W)).getD 0 []=[.int .i64 (b:Int)]:=rfl;obtain⟨wc2,qX,qi⟩:∃wc2,sliC (some 1) none wc=wc2∧Gq Lg W wc2:=by
    refine⟨_,rfl,?_⟩;rcases hq with ⟨_,h,_⟩|⟨z,st,R,rfl,rfl,h3,h4⟩
    ·simp at h
    ·refine .inr ⟨z,st+1,R,?_,rfl,?_,by simp at h4;omega⟩
     ·simp[sliC]
     ·have:=congrArg (List.drop 1) h3;rw[←List.drop_drop,List.drop_take]at *;simp only[Jj,Nat.add_sub_cancel]at this;rw[this];rfl
   refine Zd ?_
   refine Qd (Qa ?_);simp only[go_sem,jm,yr,rh,oG,bM,Nat.succ_pos,Jj]
   first|refine⟨Zx,?_⟩|skip
   refine Qa ?_;simp only[go_sem,jm,rh,oG,qX,Jj];refine⟨⟨Zx,Zx,Zx⟩,?_⟩;have vi:=qi.ah;simp only[Jj]at pQ hm;refine Q1 (Qa ?_);simp only[go_sem,xB];try intro _
   refine⟨Qr,?_⟩;refine AS ?_;simp only[go_sem,Qng];refine Wu ?_ ?_
   ·intro _;refine Qu ?_;show ∃m,_;exact⟨W.length+2 * (n-O.length),Zx,O,W,fo,wc2,Lg,rfl,Zx,ha,hO,qi,kn,rfl,rfl,rfl,rfl⟩
   ·intro bI;have dt:b<n:=by
     have:=AD bI;have:=of_decide_eq_true this;omega
    refine Zd ?_
    refine Za ?_;rw[←tS];refine Qaun ho (by rw[hn];exact dt) fun flf fs H3 hu jC fW=>?_;rw[tS];rw[hn]at fW;have kn:=kn.aw hu;have gA:=CR jC fW;simp only[go_sem,Qnh];refine Za ?_;refine Qd (Qw (fun m2 e1 H1=>∃(i:Nat) (O2:List Int) (W:List Nat) (fo:Bool) (wc:C) (Lg:List (Nat×Obj)),m2=fs.length-i∧i≤fs.length∧W.length+2 * (n-O2.length)<m∧O2.Pairwise (· < ·)∧(∀x∈O2,0≤x∧x<n)∧Gq Lg W wc∧Kn H H1 [] ([]++Lg)∧
     lk 1 e1=.c (.sl flo 1 OV)∧lk 3 e1=.c (.pp [.int .i64 q.params,.int .i64 q.ab,.sl fl 5 (Qo q.blocks)])∧lk 7 e1=.c (.sl fo 1 (Qb O2))∧lk 8 e1=.c wc∧lk 10 e1=.c (.sl flf 1 (Q5 fs))∧lk 11 e1=.c (.int .i64 i)) fs.length ?_ ?_)
    ·exact⟨0,O,W,fo,wc2,Lg,Zx,Zx,Zx,ha,hO,qi,kn,rfl,rfl,rfl,rfl,rfl,rfl⟩
    ·clear kn qi vi jm yr oG rh vj hq qX ha hO l1 l3 l7 l8;have gm:m≤ls.length+2 * n:=Zx;clear hm pQ;rintro m2 e2 H4 ⟨i,O,W,fo,wc,Lg,eo,hi,pQ,ha,hO,hq,kn,l1,l3,l7,l8,l10,l11⟩;have vj:=hq.ah;refine Q1 (Qa ?_);simp only[go_sem,l1,l3,l7,l8,l10,l11,Qz];try intro _
     refine Wu ?_ ?_
     ·intro dq;have ae:i<fs.length:=ZN;obtain⟨f,hf⟩:∃f,fs[i]=f:=⟨_,rfl⟩;have mj:fs.getD i 0=f:=(by simp[Jb,ae,hf]);have hfn2:f<n:=(by rw[←hf];exact fW _ (Jc ae));have hO0:∀x∈O,0≤x:=fun x hx=>(hO x hx).1;have hOl:O.length≤n:=by
       have:=CR (n:=n) (Hp hO0 ha) fun x hx=>by
        obtain⟨v,hv,rfl⟩:=Jr.1 hx;have:=hO v hv;omega
       simpa using this
      refine Zd ?_
      refine A4 (fun e1 H1=>∃(O:List Int) (W:List Nat) (fo:Bool) (wc:C) (Lg:List (Nat×Obj)),W.length+2 * (n-O.length)<m∧O.Pairwise (· < ·)∧(∀x∈O,0≤x∧x<n)∧Gq Lg W wc∧Kn H H1 [] ([]++Lg)∧
       lk 1 e1=.c (.sl flo 1 OV)∧lk 3 e1=.c (.pp [.int .i64 q.params,.int .i64 q.ab,.sl fl 5 (Qo q.blocks)])∧lk 7 e1=.c (.sl fo 1 (Qb O))∧lk 8 e1=.c wc∧lk 10 e1=.c (.sl flf 1 (Q5 fs))∧lk 11 e1=.c (.int .i64 i)) ?_ ?_
      ·intro Q bD _ _;refine Qd (Qa ?_);simp only[go_sem,ae,Qz,AU _ _ ae,mj];refine CN (ns:=O) (.mk' _ _ _ _) rfl fun r hr=>?_;simp only[go_sem,Qni];refine Wv ?_ ?_
       ·intro pH;have lZ:r<0:=(by simpa using pH);have vF:(f:Int)∉O:=by
         rcases hr with ⟨_,h⟩|⟨i,rfl,_⟩
         ·exact h
         ·omega
        refine Qa ?_;simp only[go_sem,ae,Qz,AU _ _ ae,mj];refine Rw ha Zx fun fl2 O2 H5 hu kW eZ ig=>?_;have kn:=kn.aw hu;have hO2l:O2.length=O.length+1:=by
         have h1:((f:Int)::O).Nodup:=Jbe.2 ⟨vF,ha.imp fun h=>Zx⟩;have h2:((f:Int)::O) ⊆ O2:=fun x hx=>by
          rw[eZ];rcases Jy.1 hx with h|h
          ·exact .inl h
          ·exact .inr h
         have:=Ja3 h1 h2;simp only[Jj]at this;omega
        have xC:∀x∈O2,0≤x∧x<n:=fun x hx=>by
         rcases (eZ x).1 hx with rfl|hx
         ·omega
         ·exact hO x hx
        have hO2n:O2.length≤n:=by
         have:=CR (n:=n) (Hp (fun x hx=>(xC x hx).1) kW) fun x hx=>by
          obtain⟨v,hv,rfl⟩:=Jr.1 hx;have:=xC v hv;omega
         simpa using this
        simp only[go_sem,Qnj];refine Qp ?_;simp only[go_sem,ae,Qz,AU _ _ ae,mj];refine Kn.growQ kn (new:=[f]) hq (.mk' _ _ _ _) (by simp only[LIM,Jj,Jm];omega) fun wc2 Lg2 H6 qi lE kn=>?_;simp only[go_sem,Qnk];refine bD _ _ ⟨O2,W++[f],fl2,wc2,Lg2,by simp only[Jp,Jj,Jm];omega,kW,xC,qi,kn,rfl,rfl,rfl,rfl,rfl,rfl⟩
       ·intro _;refine Zd ?_
        exact bD _ _ ⟨O,W,fo,wc,Lg,pQ,ha,hO,hq,kn,rfl,rfl,rfl,rfl,rfl,rfl⟩
      ·rintro e3 H5 ⟨O,W,fo,wc,Lg,pQ,ha,hO,hq,kn,l1,l3,l7,l8,l10,l11⟩;have vj:=hq.ah;refine Qp ?_;simp only[go_sem,l1,l3,l7,l8,l10,l11];refine⟨Qr,?_⟩;show ∃m,_;exact⟨fs.length-(i+1),Zx,i+1,O,W,fo,wc,Lg,rfl,Zx,pQ,ha,hO,hq,kn,rfl,rfl,rfl,rfl,rfl,rfl⟩
     ·intro _;refine Qu ?_;show ∃m,_;exact⟨_,pQ,O,W,fo,wc,Lg,rfl,Zx,ha,hO,hq,kn,rfl,rfl,rfl,rfl⟩
  ·intro _;refine Wh ?_;have h0:∀x∈O,0≤x:=fun x hx=>(hO x hx).1;rw[FM h0];refine⟨_,.c _ _ (FrzR.same (BC _)).sl,hK _ _ kn.fin (Hp h0 ha) fun x hx=>?_⟩;obtain⟨v,hv,rfl⟩:=Jr.1 hx;have:=hO v hv;omega
end Go.AE.Y
namespace Go.AE.Y
attribute [local go_sem] cond_true cond_false Bool.not_true Bool.not_false
open Go.Proofs.Tryz
variable {H H0:Heap}{K:V→Heap→Prop}{E B Lg:List (Nat×Obj)}{q:CodeD}{S:Nat→Bool}
theorem OBlk.frzD (x:OBlk)(au:x.ok)(h:Held H S x.lg):FrzL H S x.row x.d.cells:=
 .cons (Gr.frzM au.p h.r.r.l (FK au.a h.r.l)) (.cons (Gr.frzM au.i h.r.r.r.r (Fx h.r.r.r.l)) (.cons (Qg rfl) (.cons (Qg rfl) (.cons (x.nx.frz h.l) .nil))))
theorem OBlks.frzD {os:List OBlk}(au:∀b∈os,b.ok)(h:Held H S (os.flatMap OBlk.lg)):FrzR H S (os.map OBlk.row) (Qo (os.map OBlk.d)):=by
 rw[Qo,Jae];exact Dp os fun x hx=>x.frzD (au x hx) (h.m hx)
theorem Qbr3 {r:Nat}{p:Plc}(h:p∈BO q r):∃b:Nat,p.1=(b:Int)∧b<q.blocks.length:=by
 simp only[BO,B7,Jt,Jv]at h;obtain⟨b,hb,h⟩:=h;refine⟨b,?_,hb⟩;simp only[blS,phS,inS,Jq,Jr]at h;rcases h with ⟨_,_,rfl⟩|⟨_,_,rfl⟩ <;> rfl
theorem Lz:(BX q).length=q.ab.toNat:=by simp[BX]
theorem Qbf7 {r:Nat}(h:r<q.ab.toNat):(BX q).getD r []=[.sl false 1 (Aw (BO q r))]:=by simp[BX,Jb,h]
structure PhS (q:CodeD)(k:Nat→Nat)(os:List OBlk):Prop where
 n:os.length=q.blocks.length
 ok:∀b∈os,b.ok
 d:∀j (h:j<os.length) (h':j<q.blocks.length),os[j].d.ins=q.blocks[j].ins∧os[j].jump=q.blocks[j].jump∧os[j].on=q.blocks[j].on∧os[j].nx.ns=q.blocks[j].next
 p:∀j (h:j<os.length),∀p∈os[j].aa,rIn q p.to∧(∀v∈p.ns,rIn q v)∧p.ns.length=(Am (gnx q) (j:Int) q.blocks.length).length
 l:∀j (h:j<os.length) (h':j<q.blocks.length),os[j].aa.length≤q.blocks[j].aa.length+k j
variable {k k':Nat→Nat}{os:List OBlk}
theorem PhS.up (h:PhS q k os)(hk:∀j,k j≤k' j):PhS q k' os:=⟨h.n,h.ok,h.d,h.p,fun j h1 h2=>by have:=h.l j h1 h2;have:=hk j;omega⟩
theorem YU (ho:q.ok){o:OCode}(au:o.ok)(hd:o.d=q):PhS q (fun _=>0) o.blocks:=by
 have hb:o.blocks.map OBlk.d=q.blocks:=Za5
 have hl:o.blocks.length=q.blocks.length:=by rw[←hb,Jd]
 have hg:∀j (h:j<o.blocks.length) (h':j<q.blocks.length),o.blocks[j].d=q.blocks[j]:=fun j h h'=>by
  have h1:(o.blocks.map OBlk.d)[j]? = some o.blocks[j].d:=ZaY
  rw[hb,Jh h']at h1;exact (Ja0 h1).symm
 refine⟨hl,au.bs,fun j h h'=>by rw[←hg j h h'];exact⟨rfl,rfl,rfl,rfl⟩,fun j h p hp=>?_,fun j h h'=>?_⟩
 ·have h':j<q.blocks.length:=Zx
  have o1:=ho.bs j h';rw[←hg j h h']at o1;have hm:p.d∈o.blocks[j].d.aa:=Jr.2 ⟨p,hp,rfl⟩;exact⟨o1.pto _ hm,o1.pargs _ hm,o1.pal _ hm⟩
 ·rw[←hg j h h'];simp[OBlk.d]
theorem PhS.step {b:Nat}(h:PhS q k os)(hb:b<os.length){o:OBlk}(bn:os[b]=o){p:OPhi}{pc:C}{pl:List (Nat×Obj)}(hp:p.ok)(hg:Gr pl 2 ((p::o.aa).map OPhi.row) pc)
  (h1:rIn q p.to) (h2:∀v∈p.ns,rIn q v) (h3:p.ns.length=(Am (gnx q) (b:Int) q.blocks.length).length) (hk:∀j,k' j=if j=b then k j+1 else k j) :
  PhS q k' (os.set b ⟨p::o.aa,pc,pl,o.ins,o.ic,o.il,o.jump,o.on,o.nx⟩):=by
 subst bn;have au:=h.ok _ (Jc hb);refine⟨by rw[Jah];exact h.n,fun w hw=>?_,fun j hj cw=>?_,fun j hj x hx=>?_,fun j hj cw=>?_⟩
 ·rcases Jau hw with hw|rfl
  ·exact h.ok w hw
  ·refine⟨hg,au.i,fun x hx=>?_⟩;rcases Jy.1 hx with rfl|hx
   ·exact hp
   ·exact au.a x hx
 ·have fb:j<os.length:=ZU
  have hd:=h.d j fb cw;rw[Ja5];split
  ·rename_i e;subst e;exact hd
  ·exact hd
 ·have fb:j<os.length:=ZU
  rw[Ja5]at hx;split at hx
  ·rename_i e;subst e
   rcases Jy.1 hx with rfl|hx
   ·exact⟨h1,h2,h3⟩
   ·exact h.p _ fb x hx
  ·exact h.p j fb x hx
 ·have fb:j<os.length:=ZU
  have hl:=h.l j fb cw;rw[Ja5,hk];split
  ·rename_i e;subst e;rw[if_pos rfl];show (p::os[b].aa).length≤_;simp only[Jj];omega
  ·rename_i e;rw[if_neg (fun h=>e h.symm)];exact hl
theorem PhS.fin (ho:q.ok)(h:PhS q k os)(hk:∀j (hj:j<q.blocks.length),q.blocks[j].aa.length+k j≤1200):(CodeD.mk q.params q.ab (os.map OBlk.d)).ok:=by
 obtain⟨d,hd⟩:∃d:CodeD,d=⟨q.params,q.ab,os.map OBlk.d⟩:=⟨_,rfl⟩;rw[←hd];have hl:d.blocks.length=q.blocks.length:=by rw[hd];simpa using h.n
 have bE:∀j (h1:j<d.blocks.length) (h2:j<os.length),d.blocks[j]=os[j].d:=fun j h1 h2=>by subst hd;simp
 have fR:d.blocks.map BlkD.next=q.blocks.map BlkD.next:=Jav Za8 fun j h1 h2=>by
  simp only[Jd]at h1 h2;have h3:j<os.length:=ZaZ
  simp only[Jaj,bE j h1 h3];exact (h.d j h3 h2).2.2.2
 have hg:gnx d=gnx q:=by funext i;rw[gnx,gnx,fR]
 have hr:∀v,rIn q v→rIn d v:=fun v hv=>by simp only[rIn,hd]at hv⊢;exact hv
 have gM:d.ab=q.ab:=by rw[hd]
 refine⟨by rw[gM];exact ho.r0,by rw[gM];exact ho.r1,by rw[hl];exact ho.b0,by rw[hl];exact ho.b1,fun b hb=>?_,fun b hb=>?_⟩
 ·have h2:b<q.blocks.length:=Zx
  have h3:b<os.length:=ZaZ
  have o:=ho.bs b h2;obtain⟨e1,e2,e3,e4⟩:=h.d b h3 h2;have hp:=h.p b h3;rw[bE b hb h3];have eG:∀p∈os[b].d.aa,rIn q p.to∧(∀v∈p.args,rIn q v)∧p.args.length=(Am (gnx q) (b:Int) q.blocks.length).length:=fun p cg=>by
   obtain⟨x,hx,rfl⟩:=Jr.1 cg;exact hp x hx
  refine⟨by show os[b].nx.ns.length≤2;rw[e4];exact o.nxl,fun v hv=>by rw[hl];exact o.nx v (by rw[←e4];exact hv),by show os[b].jump=1∨os[b].jump=2∨os[b].jump=3;rw[e2];exact o.jmp,fun hj=>?_,
   fun x hx v hv=>hr _ (o.args x Za0 v hv),fun x hx hm=>hr _ (o.to x Za0 hm),fun p hp=>hr _ (eG p hp).1,fun p hp v hv=>hr _ ((eG p hp).2.1 v hv),fun p hp=>by rw[hg,hl];exact (eG p hp).2.2,
   fun x hx=>o.al x Za0⟩
  show rIn d os[b].on;rw[e3];exact hr _ (o.on (by rw[←e2];exact hj))
 ·have h2:b<q.blocks.length:=Zx
  have h3:b<os.length:=ZaZ
  have o:=ho.il b h2;have e1:=(h.d b h3 h2).1;have:=h.l b h3 h2;have:=hk b h2;rw[bE b hb h3,e1];refine⟨o.1,?_⟩;simp only[OBlk.d,Jd];omega
theorem IX {l:List Nat}(h:l.Nodup){i:Nat}(hi:i<l.length):l[i]∉l.take i:=fun hh=>by
 obtain⟨j,hj,he⟩:=Js.1 hh;rw[J0]at hj;rw[Jbq]at he;have cj:j<l.length:=Zx
 have:=(List.getElem?_inj cj h (j:=i)).1 (by rw[Jh cj,Jh hi,he]);omega
def OBlk.rst (o:OBlk):List (Nat×Obj):=o.nx.lg++(o.aa.flatMap OPhi.lg++(o.ins.flatMap OIns.lg++o.il))
theorem OBlk.lg_perm (o:OBlk):o.lg.Perm (o.rst++o.pl):=Qj fun f hf h0 hc hp=>by simp only[hf,OBlk.lg,OBlk.rst];omega
set_option maxHeartbeats 8000000 in
theorem Qbn6 (ho:q.ok)(eG:∀y∈q.blocks,y.aa.length≤900)(hK:∀(d:CodeD) H',d.ok→d.params=q.params→d.ab=q.ab→Upd H H' []→K (.ag d.cells) H') :
  Qs prog Q6z [.ag [.int .i64 q.params,.int .i64 q.ab,.sl false 5 (Qo q.blocks)]] H K:=by
 have bM:=ho.r0;have cG:=ho.r1;have eH:=ho.b0;have bj:=ho.b1;obtain⟨n,hn⟩:∃n,q.blocks.length=n:=⟨_,rfl⟩;obtain⟨R,hR⟩:∃R:Nat,q.ab.toNat=R:=⟨_,rfl⟩;have sM:q.ab=(R:Int):=Zx
 have hgf:=Gy ho.gd;refine Qx ?_;refine Qc Ab Qboz ?_;refine Za ?_;intro x2 aI H1 h1;have kn:=(Kn.aq H).al aI h1;refine Za ?_;refine DQ ho.sg fun o H2 k2 au eN _=>?_;have kn:=kn.comp0 k2;have eV:o.params=q.params:=Za4
 have rf:o.ab=q.ab:=Za4
 have em:o.blocks.length=n:=by rw[←hn,←eN];simp[OCode.d]
 obtain⟨zb,dv,bB⟩:∃z,o.bc=.af z 5 0 n∧o.bl=[(z,.vec 5 (o.blocks.map OBlk.row))]:=by
  rcases au.b with ⟨_,h,_⟩|⟨y,h1,h2⟩
  ·have:=congrArg List.length h;simp only[Jd,Jm]at this;omega
  ·exact⟨y,by rw[h1,Jd,em],h2⟩
 have aK:o.row=[.int .i64 q.params,.int .i64 q.ab,.af zb 5 0 n]:=by rw[OCode.row,eV,rf,dv]
 have hP:=YU ho au eN;have tE:o.lg=o.blocks.flatMap OBlk.lg++[(zb,.vec 5 (o.blocks.map OBlk.row))]:=by rw[OCode.lg,bB]
 rw[tE]at kn;rw[aK];generalize o.blocks=os0 at *;clear au eN eV rf aK tE dv bB k2;simp only[go_sem,Ow];intro x3 aP H3 h3;have kn:=(kn.al aP h3).perm Jo;have aP:=kn.l 0 rfl;simp only[go_sem,Ox,aP];intro H4 h4;have kn:Kn H H4 [] ([(x3,.st [.int .i64 q.params,.int .i64 q.ab,.af zb 5 0 n])]++([(x2,.st [.int .i64 0,.int .i64 0,.sl true 5 []])]++(os0.flatMap OBlk.lg++[(zb,.vec 5 (os0.map OBlk.row))]))):=kn.aB 0 rfl h4;refine Za ?_;refine KF (rows:=Qo q.blocks) (nx:=gnx q) hgf (by rw[Qm];exact ho.fitB) fun H5 hu=>?_;have kn:=kn.aw hu;rw[Qm];simp only[go_sem,Ov];refine Za ?_;refine KU ho (.sl _ _ _ _) fun zi zo H6 hu cI=>?_;have kn:=kn.aw hu;simp only[go_sem,Ot];intro x5 bf H7 h7;have kn:=(kn.al bf h7).perm Jo;have bf:=kn.l 0 rfl;simp only[go_sem,Ou,bf];intro H8 h8;have kn:Kn H H8 [] (([(x3,.st [.int .i64 q.params,.int .i64 q.ab,.af zb 5 0 n]),(x2,.st [.int .i64 0,.int .i64 0,.sl true 5 []]),(x5,.st [.sl false 1 (Cy zi),.sl false 1 (Cy zo)])]++[(zb,.vec 5 (os0.map OBlk.row))])++os0.flatMap OBlk.lg):=
  (kn.aB 0 rfl h8).perm (Qj fun f hf h0 hc hp=>by
   have e3:∀(a b c:Nat×Obj),f [a,b,c]=f [a]+f [b]+f [c]:=fun a b c=>Zau
   show f ([(x5,_)]++_)=_;simp only[hf,e3];omega)
 obtain⟨XL,hX⟩:∃XL,[(x3,Obj.st [.int .i64 q.params,.int .i64 q.ab,.af zb 5 0 n]),(x2,.st [.int .i64 0,.int .i64 0,.sl true 5 []]),(x5,.st [.sl false 1 (Cy zi),.sl false 1 (Cy zo)])]=XL:=⟨_,rfl⟩;rw[hX]at kn;have gX:∀{H1:Heap} {A:List (Nat×Obj)},Kn H H1 [] (XL++A)→H1 x3=.st [.int .i64 q.params,.int .i64 q.ab,.af zb 5 0 n]∧H1 x5=.st [.sl false 1 (Cy zi),.sl false 1 (Cy zo)]:=fun {H1 A} k=>by
  rw[←hX]at k;exact⟨k.l 0 rfl,k.l 2 rfl⟩
 clear aP bf h8 h4 h1 aI;refine Za ?_;refine Qbn7 ho fun H9 hu=>?_;have kn:=kn.aw hu;simp only[go_sem,Oq];refine Wa ?_;refine⟨Qr,?_⟩;have sL:PhS q (fun _=>0) os0:=hP;refine Qh (Qd (Qw (fun m e1 H1=>∃(r:Nat) (os:List OBlk),m=r∧r≤R∧PhS q (fun _=>R-r) os∧Kn H H1 [] ((XL++[(zb,.vec 5 (os.map OBlk.row))])++os.flatMap OBlk.lg)∧
  lk 1 e1=.c (.pp [.int .i64 q.params,.int .i64 q.ab,.sl false 5 (Qo q.blocks)])∧lk 2 e1=.c (.ptr x2 0)∧lk 3 e1=.c (.ptr x3 0)∧lk 4 e1=.c (.sl false 1 (ovOf q.blocks.length (nxN (gnx q)) q.blocks.length))∧lk 5 e1=.c (.ptr x5 0)∧lk 6 e1=.c (.sl false 1 (BX q))∧lk 7 e1=.c (.int .i64 ((r:Int)-1))) R ?_ ?_))
 ·exact⟨R,os0,rfl,Zx,sL.up fun j=>Zz,kn,rfl,rfl,rfl,rfl,rfl,rfl,by simp only[lk,sM];rfl⟩
 ·clear kn sL hP;rintro m e1 H10 ⟨r,os,rfl,yq,hS,kn,l1,l2,l3,l4,l5,l6,l7⟩;refine Q1 (Qa ?_);simp only[go_sem,l1,l2,l3,l4,l5,l6,l7];refine Wu ?_ ?_
  ·intro hc;have bd:(0:Int)≤(m:Int)-1:=ZA
   obtain⟨r,rfl⟩:∃r,m=r+1:=⟨m-1,Zx⟩;have er:((r+1:Nat):Int)-1=(r:Int):=Zx
   rw[er];have hrlt:r<R:=Zx
   have lL:r<q.ab.toNat:=Zx
   refine Zd ?_
   refine Qh (Qd ?_);refine Wf ?_;refine A4 (fun e2 H2=>∃(fo:Bool) (ns:List Int),H2=H10∧ns.Pairwise (· < ·)∧(∀x∈ns,0≤x∧x<n)∧
    lk 1 e2=.c (.pp [.int .i64 q.params,.int .i64 q.ab,.sl false 5 (Qo q.blocks)])∧lk 2 e2=.c (.ptr x2 0)∧lk 3 e2=.c (.ptr x3 0)∧lk 4 e2=.c (.sl false 1 (ovOf q.blocks.length (nxN (gnx q)) q.blocks.length))∧lk 5 e2=.c (.ptr x5 0)∧lk 6 e2=.c (.sl false 1 (BX q))∧lk 7 e2=.c (.int .i64 r)∧lk 8 e2=.c (.sl fo 1 (Qb ns))) ?_ ?_
   ·intro Q bD _ _;refine Wv ?_ ?_
    ·intro _;refine Zh ?_;refine bD _ _ ⟨true,[0],rfl,Zz,?_,rfl,rfl,rfl,rfl,rfl,rfl,rfl,rfl⟩;intro x hx;simp only[Ja]at hx;subst hx;omega
    ·intro _;refine Zd ?_
     exact bD _ _ ⟨true,[],rfl,Zz,Zz,rfl,rfl,rfl,rfl,rfl,rfl,rfl,rfl⟩
   rintro e2 H2 ⟨fo,ns,rfl,ha,cP,l1,l2,l3,l4,l5,l6,l7,l8⟩;refine Q1 (Qa ?_);simp only[go_sem,l1,l2,l3,l4,l5,l6,l7,l8];have ll:∀i (h:i<(BO q r).length),∃b:Nat,(BO q r)[i].1=(b:Int)∧b<n:=fun i h=>by rw[←hn];exact Qbr3 (Jc h)
   obtain⟨sl,gH⟩:∃sl,BO q r=sl:=⟨_,rfl⟩;have lK:=Qbf7 lL;rw[gH]at lK ll;refine Qh (Qd (Qw (fun m2 e1 H1=>∃(i:Nat) (fo:Bool) (ns:List Int),m2=sl.length-i∧i≤sl.length∧ns.Pairwise (· < ·)∧(∀x∈ns,0≤x∧x<n)∧Kn H H1 [] ((XL++[(zb,.vec 5 (os.map OBlk.row))])++os.flatMap OBlk.lg)∧
    lk 1 e1=.c (.pp [.int .i64 q.params,.int .i64 q.ab,.sl false 5 (Qo q.blocks)])∧lk 2 e1=.c (.ptr x2 0)∧lk 3 e1=.c (.ptr x3 0)∧lk 4 e1=.c (.sl false 1 (ovOf q.blocks.length (nxN (gnx q)) q.blocks.length))∧lk 5 e1=.c (.ptr x5 0)∧lk 6 e1=.c (.sl false 1 (BX q))∧lk 7 e1=.c (.int .i64 r)∧lk 8 e1=.c (.sl fo 1 (Qb ns))∧lk 9 e1=.c (.int .i64 i)) sl.length ?_ ?_))
   ·exact⟨0,fo,ns,Zx,Zx,ha,cP,kn,rfl,rfl,rfl,rfl,rfl,rfl,rfl,rfl,rfl⟩
   ·clear kn ha cP l1 l2 l3 l4 l5 l6 l7 l8;rintro m2 e3 H11 ⟨i,fo,ns,eo,hi,ha,cP,kn,l1,l2,l3,l4,l5,l6,l7,l8,l9⟩;have oS:∀x∈ns,0≤x:=fun x hx=>(cP x hx).1;have lX:ns.length≤n:=by
     have:=CR (n:=n) (Hp oS ha) fun x hx=>by
      obtain⟨v,hv,rfl⟩:=Jr.1 hx;have:=cP v hv;omega
     simpa using this
    refine Q1 (Qa ?_);simp only[go_sem,l1,l2,l3,l4,l5,l6,l7,l8,l9,lL,Lz,lK,Dc];intro eA;simp only[LIM]at eA;refine Wu ?_ ?_
    ·intro aC;have ae:i<sl.length:=ZC;obtain⟨b,hb,dt⟩:=ll i ae;refine Zd ?_
     refine Wt ?_;simp only[go_sem,lL,Lz,lK,Dc,ae,Q7h _ _ ae,pRow,hb,Jag,Jbw];try simp only[go_sem,Jag,Jbw,Jj,Jm]
     refine⟨Ja1 0,?_⟩;refine Rw ha Zx fun fl2 ns2 H12 hu kW eZ ig=>?_;have kn:=kn.aw hu;simp only[go_sem,Oo];refine Zh ?_;refine⟨Qr,?_⟩;show ∃m,_;refine⟨sl.length-(i+1),Zx,i+1,fl2,ns2,rfl,Zx,kW,fun x hx=>?_,kn,rfl,rfl,rfl,rfl,rfl,rfl,rfl,rfl,Zy⟩;rcases (eZ x).1 hx with rfl|hx
     ·omega
     ·exact cP x hx
    ·intro _;refine Wc ?_;rw[FM oS];refine Qaop ho (by rw[Jd];omega) fun fs H12 hu jC fW=>?_;have kn:=kn.aw hu;have gA:=CR jC fW;rw[hn]at gA fW;simp only[go_sem,Q5h];refine Za ?_;refine Qd (Qw (fun m2 e1 H1=>∃(i:Nat) (os:List OBlk),m2=fs.length-i∧i≤fs.length∧PhS q (fun j=>R-(r+1)+if j∈fs.take i then 1 else 0) os∧Kn H H1 [] ((XL++[(zb,.vec 5 (os.map OBlk.row))])++os.flatMap OBlk.lg)∧
      lk 1 e1=.c (.pp [.int .i64 q.params,.int .i64 q.ab,.sl false 5 (Qo q.blocks)])∧lk 2 e1=.c (.ptr x2 0)∧lk 3 e1=.c (.ptr x3 0)∧lk 4 e1=.c (.sl false 1 (ovOf q.blocks.length (nxN (gnx q)) q.blocks.length))∧lk 5 e1=.c (.ptr x5 0)∧lk 6 e1=.c (.sl false 1 (BX q))∧lk 7 e1=.c (.int .i64 r)∧
      lk 10 e1=.c (.sl false 1 (Q5 fs))∧lk 11 e1=.c (.int .i64 i)) fs.length ?_ ?_)
     ·exact⟨0,os,Zx,Zx,hS.up fun j=>Zz,kn,rfl,rfl,rfl,rfl,rfl,rfl,rfl,rfl,rfl⟩
     ·have wH:fs.Nodup:=jC.imp fun h=>Zx;clear kn hS jC ha cP oS lX l1 l2 l3 l4 l5 l6 l7 l8 l9;rintro m3 e4 H13 ⟨i,os,nq,hi,hS,kn,l1,l2,l3,l4,l5,l6,l7,l10,l11⟩;refine Q1 (Qa ?_);simp only[go_sem,l1,l2,l3,l4,l5,l6,l7,l10,l11,Qz];try intro _
      refine Wu ?_ ?_
      ·intro aC;have ae:i<fs.length:=ZC;obtain⟨b,hb⟩:∃b,fs[i]=b:=⟨_,rfl⟩;have mj:fs.getD i 0=b:=(by simp[Jb,ae,hb]);have dt:b<n:=(by rw[←hb];exact fW _ (Jc ae));have oU:b∉fs.take i:=(by rw[←hb];exact IX wH ae);have bN:∀j,j∈fs.take (i+1)↔j∈fs.take i∨j=b:=fun j=>by
        rw[Jg ae,hb];simp
       have mr:b<zi.length:=(by rw[cI.1.i,hn];exact dt);obtain⟨nd,cr⟩:∃nd,zi[b].2=nd:=⟨_,rfl⟩;have oX:r<nd.length:=(by rw[←cr,cI.1.li _ (Jc mr)];exact lL);have bf:=(gX (by rw[J7]at kn;exact kn)).2;refine Zd ?_
       refine A4 (fun e2 H2=>∃(os:List OBlk),PhS q (fun j=>R-(r+1)+if j∈fs.take (i+1)then 1 else 0) os∧Kn H H2 [] ((XL++[(zb,.vec 5 (os.map OBlk.row))])++os.flatMap OBlk.lg)∧
        lk 1 e2=.c (.pp [.int .i64 q.params,.int .i64 q.ab,.sl false 5 (Qo q.blocks)])∧lk 2 e2=.c (.ptr x2 0)∧lk 3 e2=.c (.ptr x3 0)∧lk 4 e2=.c (.sl false 1 (ovOf q.blocks.length (nxN (gnx q)) q.blocks.length))∧lk 5 e2=.c (.ptr x5 0)∧lk 6 e2=.c (.sl false 1 (BX q))∧lk 7 e2=.c (.int .i64 r)∧
        lk 10 e2=.c (.sl false 1 (Q5 fs))∧lk 11 e2=.c (.int .i64 i)) ?_ ?_
       ·intro Q bD _ _;refine Qd (Q1 ?_);refine Aj ?_;simp only[go_sem,bf,ae,Qz,AU _ _ ae,mj,mr,Rf,Lk _ _ mr,cr,oX,Qy,Q4 _ _ oX];refine Wu ?_ ?_
        ·intro _;refine Qu ?_;simp only[go_sem];refine bD _ _ ⟨os,hS.up fun j=>?_,kn,rfl,rfl,rfl,rfl,rfl,rfl,rfl,rfl,rfl⟩;show _+_≤_+_;by_cases hj:j∈fs.take i
         ·rw[if_pos hj,if_pos ((bN j).2 (.inl hj))];exact Ji _
         ·rw[if_neg hj];omega
        ·intro _;refine Zd ?_
         refine Za ?_;intro x12 eT H14 dG;have kn:=kn.al eT dG;have eT:H14 x12=.st [.int .i64 0,.sl true 1 []]:=(kn.get (x12,.st [.int .i64 0,.sl true 1 []]) Zz).1;simp only[go_sem,Q5i,eT];intro H15 xR;have kn:Kn H H15 [] (([(x12,.st [.int .i64 r,.sl true 1 []])]++((XL++[(zb,.vec 5 (os.map OBlk.row))])++os.flatMap OBlk.lg))++[]):=by
          rw[Jz];exact (kn.perm Jo).aB 0 rfl xR
         refine Q1 (Aj ?_);simp only[go_sem,ae,Qz,AU _ _ ae,mj];refine Eg (nx:=gnx q) (.mk' _ _ _ _) rfl (Do H15 q false).x fun H16 hu=>?_;have kn:=kn.aw hu;rw[Qm];have dH:=El (gnx q) (b:Int) q.blocks.length;obtain⟨np,kq⟩:∃np,(Am (gnx q) (b:Int) q.blocks.length).length=np:=⟨_,rfl⟩;rw[kq]at dH;simp only[go_sem,Q5j,Qf,kq];try intro _
         refine Qh (Qd (Qw (fun m4 e1 H1=>∃(j:Nat) (t:C) (Lg:List (Nat×Obj)),m4=np-j∧j≤np∧Gr Lg 1 (Qb (List.replicate j (r:Int))) t∧Kn H H1 [] (([(x12,.st [.int .i64 r,t])]++((XL++[(zb,.vec 5 (os.map OBlk.row))])++os.flatMap OBlk.lg))++Lg)∧
          lk 1 e1=.c (.pp [.int .i64 q.params,.int .i64 q.ab,.sl false 5 (Qo q.blocks)])∧lk 2 e1=.c (.ptr x2 0)∧lk 3 e1=.c (.ptr x3 0)∧lk 4 e1=.c (.sl false 1 (ovOf q.blocks.length (nxN (gnx q)) q.blocks.length))∧lk 5 e1=.c (.ptr x5 0)∧lk 6 e1=.c (.sl false 1 (BX q))∧lk 7 e1=.c (.int .i64 r)∧
          lk 10 e1=.c (.sl false 1 (Q5 fs))∧lk 11 e1=.c (.int .i64 i)∧lk 12 e1=.c (.ptr x12 0)∧lk 85 e1=.c (.int .i64 np)∧lk 86 e1=.c (.int .i64 j)) np ?_ ?_))
         ·exact⟨0,_,[],Zx,Zx,.nil 1,kn,rfl,rfl,rfl,rfl,rfl,rfl,rfl,rfl,rfl,rfl,rfl,rfl⟩
         ·clear kn eT bf l1 l2 l3 l4 l5 l6 l7 l10 l11;rintro m4 e5 H17 ⟨j,t,Lg,hm4,hj,n7,kn,l1,l2,l3,l4,l5,l6,l7,l10,l11,l12,l85,l86⟩;have bp:=n7.ah;have eT:=kn.l 0 rfl;refine Qa ?_;simp only[go_sem,l1,l2,l3,l4,l5,l6,l7,l10,l11,l12,l85,l86];refine Wu ?_ ?_
          ·intro bI;have bk:j<np:=ZL;refine Zd ?_
           refine Wt ?_;simp only[go_sem,eT,bp];refine kn.bg (new:=Qb [(r:Int)]) n7 (.mk' _ _ _ _) (Qq _) (by simp only[Qf,LIM,Jj,Jm,Jas];omega) fun t2 Lg2 H18 po ca kn=>?_;have eT:=kn.l 0 rfl;simp only[go_sem,Q5k,eT];intro H19 h19;have kn:=kn.aB 0 rfl h19;refine Zh ?_;refine⟨Qr,?_⟩;show ∃m,_;refine⟨np-(j+1),Zx,j+1,t2,Lg2,rfl,Zx,?_,kn,rfl,rfl,rfl,rfl,rfl,rfl,rfl,rfl,rfl,rfl,rfl,Zy⟩;rw[List.replicate_succ',Cb];exact po
          ·intro bI;have iW:j=np:=(by have:np≤j:=(by simpa using bI);omega);subst iW;refine Zc ?_;have cA:b<os.length:=(by rw[hS.n,hn];exact dt);obtain⟨o,bn⟩:∃o,os[b]=o:=⟨_,rfl⟩;have f0:o.ok:=(by rw[←bn];exact hS.ok _ (Jc cA));obtain⟨Z,hZ⟩:∃Z,(os.eraseIdx b).flatMap OBlk.lg=Z:=⟨_,rfl⟩;have iY:(os.flatMap OBlk.lg).Perm (o.lg++Z):=(by rw[←hZ,←bn];exact Ej cA);obtain⟨RW,lq⟩:∃RW,os.map OBlk.row=RW:=⟨_,rfl⟩;have bt:RW.length=n:=(by rw[←lq,Jd,hS.n,hn]);have bm:RW.getD b []=[o.pc,o.ic,.int .i64 o.jump,.int .i64 o.on,.af o.nx.y 1 0 o.nx.ns.length]:=by
            rw[←lq,Jb];simp only[J2,Jh cA,bn,J5,Ju];exact o.row_eq
           have b9:RW.take n=RW:=Jf Zx;have dC:=f0.p.ah;have kD:=f0.i.ah;rw[lq]at kn;obtain⟨p,hp⟩:∃p:OPhi,p=⟨r,List.replicate j (r:Int),t,Lg⟩:=⟨_,rfl⟩;have gN:p.ok:=by
            rw[hp];rcases n7 with ⟨h1,h2,h3⟩|⟨y,h1,h2⟩
            ·right;refine⟨true,?_,h3⟩;show t=_;rw[h1,h2]
            ·left;refine⟨y,?_,h2⟩;show t=_;rw[h1,Qf]
           have lp:p.row=[.int .i64 r,t]:=(by rw[hp];rfl);have kn:Kn H H17 [] (([(zb,.vec 5 RW)]++([(x12,.st p.row)]++(XL++(Z++(o.rst++Lg)))))++o.pl):=kn.perm (Qj fun f hf h0 hc cg=>by
            have h1:=cg _ _ iY;have h2:=cg _ _ o.lg_perm;rw[lp];simp only[hf]at h1 h2⊢;omega)
           have aP:H17 x3=.st [.int .i64 q.params,.int .i64 q.ab,.af zb 5 0 n]:=(kn.get (x3,.st [.int .i64 q.params,.int .i64 q.ab,.af zb 5 0 n]) ZaX).1;have eT:=kn.l 1 rfl;rw[lp]at eT;have cp:=kn.l 0 rfl;refine Au ?_;simp only[go_sem,aP,eT,cp,bt,b9,bm,ae,Qz,AU _ _ ae,mj,dt,dC,bp,Jl,Ji];intro y hy H18 sW;have kn:=kn.al hy sW;have kp:=kn.perm (L':=(([(zb,.vec 5 RW)]++([(x12,.st p.row)]++(XL++(Z++(o.rst++Lg)))))++[(y,.vec 2 [[.int .i64 r,t]])])++o.pl) Cs;have bE:=f0.p.get kp;have gH:Slc H18 2 (o.aa.map OPhi.row) o.pc:=⟨bE.1,f0.p.aO,bE.2,f0.p.ay⟩;have vr:∀w∈o.aa.map OPhi.row,Go.AE.ak w=true:=fun w hw=>by
            obtain⟨x,hx,rfl⟩:=Jr.1 hw;exact x.ak (f0.a x hx)
           have lO:Gr [(y,.vec 2 [[.int .i64 r,t]])] 2 [[.int .i64 r,t]] (.af y 2 0 1):=.mk _ _ _ rfl;generalize cE:C.af y 2 0 1=yc at lO⊢;have hycw:=lO.ah;have fw:b<q.blocks.length:=(by rw[hn];exact dt);have eF:o.aa.length≤3000:=by
            have h1:=hS.l b cA fw;have h2:=ho.il b fw;rw[bn]at h1;have h3:(R-(r+1)+if b∈fs.take i then 1 else 0)≤R+1:=(by split <;> omega);have h1:o.aa.length≤q.blocks[b].aa.length+(R-(r+1)+if b∈fs.take i then 1 else 0):=h1;omega
           have aP:H18 x3=.st [.int .i64 q.params,.int .i64 q.ab,.af zb 5 0 n]:=(kn.get (x3,.st [.int .i64 q.params,.int .i64 q.ab,.af zb 5 0 n]) ZaX).1;have cp:H18 zb=.vec 5 RW:=(kn.get (zb,.vec 5 RW) Zz).1;simp only[go_sem,Q5m,aP,cp,bt,b9,bm,ae,Qz,AU _ _ ae,mj,dt,dC,Jl,Ji];refine kn.bg (new:=o.aa.map OPhi.row) lO gH vr (by simp only[Jd,Jj,Jm,LIM];omega) fun t2 Lg2 H19 dD ca kn=>?_;have aP:H19 x3=.st [.int .i64 q.params,.int .i64 q.ab,.af zb 5 0 n]:=(kn.get (x3,.st [.int .i64 q.params,.int .i64 q.ab,.af zb 5 0 n]) ZaX).1;have cp:H19 zb=.vec 5 RW:=(kn.get (zb,.vec 5 RW) Zz).1;simp only[go_sem,Q5l,aP,cp,bt,bm,ae,Qz,AU _ _ ae,mj,dt,Jl,Ji];intro H20 qB;obtain⟨o',eQ⟩:∃o':OBlk,o'=⟨p::o.aa,t2,Lg2,o.ins,o.ic,o.il,o.jump,o.on,o.nx⟩:=⟨_,rfl⟩;have bY:RW.set b [t2,o.ic,.int .i64 o.jump,.int .i64 o.on,.af o.nx.y 1 0 o.nx.ns.length]=(os.set b o').map OBlk.row:=(by rw[←lq,Ja9,eQ];rfl);rw[bY]at qB;have kn:=kn.aB 0 rfl qB;have aL:=hS.step cA bn (k':=fun j=>R-(r+1)+if j∈fs.take (i+1)then 1 else 0) gN (pc:=t2) (pl:=Lg2) (by rw[Jan,lp];exact dD) (by rw[hp];exact (⟨Zx,Zx⟩:(0:Int)≤(r:Int)∧(r:Int)<q.ab)) (fun v hv=>by
            rw[hp]at hv;rw[Jal hv];exact⟨Zx,Zx⟩) (by rw[hp,kq];simp) (fun j'=>by
            by_cases cw:j'=b
            ·subst cw;rw[if_pos rfl,if_pos ((bN j').2 (.inr rfl)),if_neg oU]
            ·rw[if_neg cw];by_cases cj:j'∈fs.take i
             ·rw[if_pos cj,if_pos ((bN j').2 (.inl cj))]
             ·rw[if_neg cj,if_neg (fun h=>by rcases (bN j').1 h with h|h;exact cj h;exact cw h)])
           rw[←eQ]at aL;refine bD _ _ ⟨os.set b o',aL,?_,rfl,rfl,rfl,rfl,rfl,rfl,rfl,rfl,rfl⟩;have dS:=Ej (f:=OBlk.lg) (l:=os.set b o') (i:=b) (by rw[Jah];exact cA);rw[List.getElem_set_self,Jbi,hZ]at dS;have uY:∀f:List (Nat×Obj)→Nat,(∀a b,f (a++b)=f a+f b)→f o'.rst=f o.rst+f Lg:=fun f hf=>by
            rw[eQ];simp only[OBlk.rst,Jaa,hf];have:p.lg=Lg:=(by rw[hp]);rw[this];omega
           have vt:o'.pl=Lg2:=(by rw[eQ]);refine Kn.drop (B:=[(x12,.st p.row)]++o.pl) (kn.perm (Qj fun f hf h0 hc cg=>?_));have h1:=cg _ _ dS;have h2:=cg _ _ o'.lg_perm;have h3:=uY f hf;rw[vt]at h2;show f (([(zb,_)]++([(x12,_)]++(XL++(Z++(o.rst++Lg)))))++o.pl++Lg2)=_;simp only[hf]at h1 h2 h3⊢;omega
       ·rintro e5 H14 ⟨os,hS,kn,l1,l2,l3,l4,l5,l6,l7,l10,l11⟩;refine Qp ?_;simp only[go_sem,l1,l2,l3,l4,l5,l6,l7,l10,l11];refine⟨Qr,?_⟩;show ∃m,_;exact⟨fs.length-(i+1),Zx,i+1,os,rfl,Zx,hS,kn,rfl,rfl,rfl,rfl,rfl,rfl,rfl,rfl,Zy⟩
      ·intro aC;refine Zc ?_;refine Zh ?_;refine⟨Qr,?_⟩;show ∃m,_;refine⟨r,Zx,r,os,rfl,Zx,hS.up fun j=>?_,kn,rfl,rfl,rfl,rfl,rfl,rfl,rfl⟩;show _+_≤_;split <;> omega
  ·intro hc;have hre:m=0:=by have:¬(0:Int)≤(m:Int)-1:=ZA;omega
   subst hre;refine Zc ?_;have aP:H10 x3=.st [.int .i64 q.params,.int .i64 q.ab,.af zb 5 0 n]:=(kn.get (x3,.st [.int .i64 q.params,.int .i64 q.ab,.af zb 5 0 n]) ZaX).1;rw[←hX]at kn;have aI:=kn.l 1 rfl;refine Zl aP aI ?_;intro H11 dY;have kn:=kn.aB 1 rfl dY;have aI:=kn.l 1 rfl;refine Zg aI ?_;have gR:Held H11 (un H) (os.flatMap OBlk.lg):=fun p hp=>⟨(kn.get p (by simp only[List.set,Jao,Jam,Jy];exact .inr (.inr (.inr (.inr hp))))).1,BN (kn.loc p (by simp only[List.set,Jao,Jam,Jy];exact .inr (.inr (.inr (.inr hp)))))⟩;have hz:=kn.l 3 rfl;have bT:=OBlks.frzD (H:=H11) (S:=un H) hS.ok gR;exact⟨_,FrzL.ag (.cons (Qg rfl) (.cons (Qg rfl) (.cons (bT.af (kn.un 3 rfl) hz (by rw[Jd,hS.n,hn])) .nil))),hK ⟨q.params,q.ab,os.map OBlk.d⟩ _ (hS.fin ho fun j hj=>by
    have:=eG _ (Jc hj);have:=ho.il j hj;show _+(R-0)≤_;omega) rfl rfl kn.fin⟩
end Go.AE.Y
namespace Go.AE
def SimC (c c':C):Prop:=c'=c∨∃a b:Int,c=.int .i64 a∧c'=.int .i64 b
inductive SimR:List C→List C→Prop
 |nil:SimR [] []
 |cons {c c':C} {l l':List C} (h:SimC c c') (t:SimR l l'):SimR (c::l) (c'::l')
theorem SimR.same:∀l,SimR l l
 |[]=>.nil
 |c::l=>.cons (.inl rfl) (SimR.same l)
theorem SimC.trans {a b c:C}(h:SimC a b)(k:SimC b c):SimC a c:=by
 rcases h with rfl|⟨x,y,rfl,rfl⟩
 ·exact k
 ·rcases k with rfl|⟨u,v,hu,rfl⟩
  ·exact .inr ⟨x,y,rfl,rfl⟩
  ·exact .inr ⟨x,v,rfl,rfl⟩
theorem SimR.trans {a b c:List C}(h:SimR a b):SimR b c→SimR a c:=by
 induction h generalizing c with
 |nil=>exact id
 |cons h t ih=>
  intro k
  cases k with
  |cons h2 t2=>exact .cons (h.trans h2) (ih t2)
theorem SimC.int {a:Int}{c:C}(h:SimC (.int .i64 a) c):∃b:Int,c=.int .i64 b:=by
 rcases h with rfl|⟨x,y,_,rfl⟩
 ·exact⟨a,rfl⟩
 ·exact⟨y,rfl⟩
theorem SimC.sl {fl:Bool}{sz:Nat}{rows:List (List C)}{c:C}(h:SimC (.sl fl sz rows) c):c=.sl fl sz rows:=by
 rcases h with rfl|⟨x,y,h,_⟩
 ·rfl
 ·simp at h
theorem SimC.af {l sz st n:Nat}{c:C}(h:SimC (.af l sz st n) c):c=.af l sz st n:=by
 rcases h with rfl|⟨x,y,h,_⟩
 ·rfl
 ·simp at h
def SimO (X:Nat→Prop)(o o':Obj):Prop:=∃sz rows rows',o=.vec sz rows∧o'=.vec sz rows'∧rows'.length=rows.length∧∀r,r<rows.length→SimR (rows.getD r []) (rows'.getD r [])∧(X r→rows'.getD r []=rows.getD r [])
variable {X X':Nat→Prop}{o o':Obj}
theorem SimO.same (sz:Nat)(rows:List (List C)):SimO X (.vec sz rows) (.vec sz rows):=⟨sz,rows,rows,rfl,rfl,rfl,fun r _=>⟨.same _,fun _=>rfl⟩⟩
theorem SimO.mono (h:SimO X o o')(hX:∀r,X' r→X r):SimO X' o o':=by
 obtain⟨sz,rows,rows',h1,h2,h3,h4⟩:=h;exact⟨sz,rows,rows',h1,h2,h3,fun r hr=>⟨(h4 r hr).1,fun hx=>(h4 r hr).2 (hX r hx)⟩⟩
theorem SimO.get {sz:Nat}{rows:List (List C)}(h:SimO X (.vec sz rows) o'):∃rows',o'=.vec sz rows'∧rows'.length=rows.length∧∀r,r<rows.length→SimR (rows.getD r []) (rows'.getD r [])∧(X r→rows'.getD r []=rows.getD r []):=by
 obtain⟨sz,rows,rows',h1,h2,h3,h4⟩:=h;cases h1;exact⟨rows',h2,h3,h4⟩
theorem SimO.set {sz:Nat}{rows rows':List (List C)}(h:SimO X (.vec sz rows) (.vec sz rows')){r:Nat}{new:List C}(hr:r<rows.length)(hs:SimR (rows.getD r []) new)(hX:∀r',r'≠r→X' r'→X r')(hn:¬X' r) :
  SimO X' (.vec sz rows) (.vec sz (rows'.set r new)):=by
 obtain⟨rows2,h2,h3,h4⟩:=h.get;cases h2;refine⟨sz,rows,_,rfl,rfl,by rw[Jah];exact h3,fun r' be=>?_⟩;by_cases e:r'=r
 ·subst e;have:(rows'.set r' new).getD r' []=new:=by rw[Jb,List.getElem?_set_self Zx];rfl
  rw[this];exact⟨hs,fun hx=>absurd hx hn⟩
 ·have:(rows'.set r new).getD r' []=rows'.getD r' []:=by rw[Jb,List.getElem?_set_ne (fun h=>e h.symm),←Jb]
  rw[this];exact⟨(h4 r' be).1,fun hx=>(h4 r' be).2 (hX r' e hx)⟩
def Ty (LG:List (Nat×Obj))(F:Heap)(E0:List (Nat×Obj))(X:Nat→Nat→Prop)(H:Heap)(L:List (Nat×Obj)):Prop:=
 ∃E1:List (Nat×Obj),E1.map Prod.fst=LG.map Prod.fst∧(∀p∈LG,∀ob,(p.1,ob)∈E1→SimO (X p.1) p.2 ob)∧Kn F H (E0++E1) L
namespace Ty
variable {LG E0 L A N:List (Nat×Obj)}{F H H':Heap}{X X':Nat→Nat→Prop}{m:Nat}{o ob:Obj}
theorem nodup (t:Ty LG F E0 X H L):(LG.map Prod.fst).Nodup:=by
 obtain⟨E1,h1,h2,kn⟩:=t;have:=kn.dE;rw[Jn]at this;rw[←h1];exact (Jw.1 this).2.1
theorem get (t:Ty LG F E0 X H L)(hm:(m,o)∈LG):SimO (X m) o (H m):=by
 obtain⟨E1,h1,h2,kn⟩:=t;have h3:m∈E1.map Prod.fst:=by rw[h1];exact A1 hm
 obtain⟨p,hp,he⟩:=Jr.1 h3;have h4:=(kn.get p (Jk _ (Je _ hp))).1;obtain⟨a,b⟩:=p;simp only at he h4;subst he;rw[h4];exact h2 _ hm _ hp
theorem e (t:Ty LG F E0 X H L)(i:Nat){x:Nat}{oo:Obj}(h:E0[i]? = some (x,oo)):H x=oo:=by
 obtain⟨E1,h1,h2,kn⟩:=t;exact (kn.get (x,oo) (Jk _ (Jk _ (Jbj h)))).1
theorem weak (t:Ty LG F E0 X H L)(hX:∀m r,X' m r→X m r):Ty LG F E0 X' H L:=by
 obtain⟨E1,h1,h2,kn⟩:=t;exact⟨E1,h1,fun p hp ob bn=>(h2 p hp ob bn).mono (hX p.1),kn⟩
theorem st (t:Ty LG F E0 X H L)(hm:(m,o)∈LG)(h:H'=H.set m ob)(hs:SimO (X' m) o ob)(hX:∀m',m'≠m→∀r,X' m' r→X m' r):Ty LG F E0 X' H' L:=by
 have cr:=t.nodup;obtain⟨E1,h1,h2,kn⟩:=t;have h3:m∈E1.map Prod.fst:=by rw[h1];exact A1 hm
 obtain⟨p,hp,he⟩:=Jr.1 h3;obtain⟨i,hi⟩:=Jak hp;obtain⟨a,b⟩:=p;simp only at he;subst he;have bn:ob≠.none:=by
  obtain⟨_,_,_,_,h,_⟩:=hs;rw[h];simp
 have d9:(E1.map Prod.fst).Nodup:=by rw[h1];exact cr
 have bO:(E0++E1)[E0.length+i]? = some (a,b):=by rw[List.getElem?_append_right (by omega),Jbb];exact hi
 have k2:=kn.stE (E0.length+i) bO h bn;rw[Ja4 _ _ (by omega),Jbb]at k2;refine⟨E1.set i (a,ob),(Dj hi).trans h1,fun p hp ob' lW=>?_,k2⟩;rcases Ca lW with e|⟨j,hj,cj⟩
 ·have e1:p.1=a:=congrArg Prod.fst e;have e2:ob'=ob:=congrArg Prod.snd e;have e3:p.2=o:=by
   obtain⟨i1,g1⟩:=Jak hp;obtain⟨i2,g2⟩:=Jak hm;have:=BZ cr g1 g2 e1;subst this;rw[g1]at g2;rw[Ja0 g2]
  rw[e1,e2,e3];exact hs
 ·have bx:p.1≠a:=fun hh=>hj (BZ d9 cj hi hh);exact (h2 p hp ob' (Jbj cj)).mono (hX p.1 bx)
theorem stE (t:Ty LG F E0 X H L)(i:Nat){x:Nat}{a b:Obj}(h:E0[i]? = some (x,a))(h1:H'=H.set x b)(hb:b≠.none:=by nofun):Ty LG F (E0.set i (x,b)) X H' L:=by
 obtain⟨E1,g1,g2,kn⟩:=t;have ae:=(Jba.1 h).1;have k2:=kn.stE (o:=a) i (by rw[List.getElem?_append_left ae];exact h) h1 hb;rw[List.set_append_left _ _ ae]at k2;exact⟨E1,g1,g2,k2⟩
theorem aw (t:Ty LG F E0 X H L)(hu:Upd H H' []):Ty LG F E0 X H' L:=by
 obtain⟨E1,g1,g2,kn⟩:=t;exact⟨E1,g1,g2,kn.aw hu⟩
theorem al (t:Ty LG F E0 X H L){x:Nat}{b:Obj}(hx:H x=.none)(h1:H'=H.set x b)(hb:b≠.none:=by nofun):Ty LG F E0 X H' (L++[(x,b)]):=by
 obtain⟨E1,g1,g2,kn⟩:=t;exact⟨E1,g1,g2,kn.al hx h1 hb⟩
theorem drop (t:Ty LG F E0 X H (A++N)):Ty LG F E0 X H A:=by
 obtain⟨E1,g1,g2,kn⟩:=t;exact⟨E1,g1,g2,kn.drop⟩
theorem sub {wl cy c0:Nat}{a b c:Obj}(t:Ty LG F [(wl,a),(c0,b)] X H (L++[(cy,c)])):Ty LG H [(wl,a),(cy,c)] X H []:=by
 obtain⟨E1,g1,g2,kn⟩:=t;refine⟨E1,g1,g2,Kn.startE (fun p hp=>kn.get p ?_) ?_⟩
 ·rcases Jq.1 hp with hp|hp
  ·rcases Jy.1 hp with rfl|hp
   ·simp
   ·rcases Jy.1 hp with rfl|hp
    ·simp
    ·simp at hp
  ·simp[hp]
 ·have hd:=kn.dE;simp only[Jao,Jam,Jan,Jbe,Jy,not_or]at hd⊢;have fu:∀p∈[(wl,a),(c0,b)]++E1,p.1≠cy:=fun p hp hh=>kn.ext p hp (hh▸kn.loc (cy,c) (by simp));refine⟨⟨fu (wl,a) (by simp),hd.1.2⟩,fun hh=>?_,hd.2.2⟩;obtain⟨p,hp,he⟩:=Jr.1 hh;exact fu p (Je _ hp) he
theorem ret {wl cy c0:Nat}{a b c a' c':Obj}(t:Ty LG F [(wl,a),(c0,b)] X H (L++[(cy,c)]))(t2:Ty LG H [(wl,a'),(cy,c')] X' H' []):Ty LG F [(wl,a'),(c0,b)] X' H' L:=by
 obtain⟨E1,g1,g2,kn⟩:=t;obtain⟨E2,k1,k2,kn2⟩:=t2;have hu:=kn2.upd;have bx:∀p∈[(wl,a'),(cy,c')]++E2,p.2≠.none:=fun p hp=>(kn2.get p (Jk _ hp)).2;have mi:E2.map Prod.fst=E1.map Prod.fst:=k1.trans g1.symm;have hd:=kn.dE;have yS:=kn.dL;rw[Jn]at yS;have fu:∀p∈[(wl,a),(c0,b)]++E1,p.1≠cy:=fun p hp hh=>kn.ext p hp (hh▸kn.loc (cy,c) (by simp));have hk:Kn F H' ([(wl,a'),(c0,b)]++E2) (L++[(cy,c')]):=by
  refine kn.callg hu (by simp[mi]) (by simp) (fun p hp=>?_) (fun u gE=>?_)
  ·rcases Jq.1 hp with hp|hp
   ·rcases Jq.1 hp with hp|hp
    ·rcases Jy.1 hp with rfl|hp
     ·exact⟨bx _ (by simp),.inl (by simp)⟩
     ·simp only[Ja]at hp;subst hp;have h0:(c0,b)∈([(wl,a),(c0,b)]++E1)++(L++[(cy,c)]):=(by simp);refine⟨(kn.get _ h0).2,.inr ⟨h0,?_⟩⟩;simp only[Jao,Jam,Jan,Jbe,Jy,not_or]at hd⊢;refine⟨fun h=>hd.1.1 h.symm,fu (c0,b) (by simp),?_⟩;rw[mi];exact hd.2.1
    ·exact⟨bx p (Je _ hp),.inl (Je _ hp)⟩
   ·rcases Jq.1 hp with hp|hp
    ·have h0:p∈([(wl,a),(c0,b)]++E1)++(L++[(cy,c)]):=(by simp[hp]);refine⟨(kn.get _ h0).2,.inr ⟨h0,fun hh=>?_⟩⟩;have yw:F p.1=.none:=kn.loc p (Jk _ hp);simp only[Jao,Jam,Jan,Jy]at hh;rcases hh with hh|hh|hh
     ·exact kn.ext (wl,a) (by simp) (hh▸yw)
     ·exact (Jw.1 yS).2.2 _ (A1 hp) cy (by simp) hh
     ·rw[mi]at hh;obtain⟨p',cg,he⟩:=Jr.1 hh;exact kn.ext p' (Je _ cg) (he▸yw)
    ·simp only[Ja]at hp;subst hp;exact⟨bx _ (by simp),.inl (by simp)⟩
  ·rcases Jq.1 gE with h|h
   ·rcases Jy.1 h with rfl|h
    ·left;simp
    ·simp only[Ja]at h;subst h;right;simp
   ·left;rw[Jn,Jq,←mi];exact .inr (A1 h)
 exact⟨E2,k1,k2,hk.drop⟩
end Ty
end Go.AE
namespace Go.AE.Y
variable {H H' F:Heap}{q:CodeD}{os:List OBlk}{zb wl cy R n:Nat}{ids:List Int}{U:Nat→Prop}{X X':Nat→Nat→Prop}{nx:Int}{cs:List Int}{o:OBlk}{b x:Nat}
def LGo (os:List OBlk)(zb:Nat):List (Nat×Obj):=os.flatMap OBlk.lg++[(zb,.vec 5 (os.map OBlk.row))]
def OBlk.inN (o:OBlk):List (Nat×Obj):=o.ins.flatMap OIns.lg++o.il
def OBlk.phN (o:OBlk):List (Nat×Obj):=o.aa.flatMap OPhi.lg++o.pl
def XU (os:List OBlk)(zb:Nat)(U:Nat→Prop)(m r:Nat):Prop:=(∃x,∃h:x<os.length,m=os[x].nx.y)∨∃x,∃h:x<os.length,U x∧((m=zb∧r=x)∨∃p∈os[x].inN,m=p.1)
def XP (o:OBlk)(zb b:Nat)(j:Bool)(i k m r:Nat):Prop:=(j=true∧m=zb∧r=b)∨(∃p∈o.il,m=p.1∧i≤r)∨∃i',∃h:i'<o.ins.length,m=o.ins[i'].a.y∧(i<i'∨(i=i'∧k≤r))
theorem FT {α:Type}{f:α→List (Nat×Obj)}:∀{l:List α},((l.flatMap f).map Prod.fst).Nodup→∀{i j:Nat} (hi:i<l.length) (hj:j<l.length),i≠j→∀p∈f l[i],∀p'∈f l[j],p.1≠p'.1
 |[],_,i,j,hi,_,_=>by simp at hi
 |x::l,hd,i,j,hi,hj,fV=>by
  rw[Jaa,Jn]at hd;obtain⟨d1,d2,d3⟩:=Jw.1 hd;intro p hp p' cg
  cases i with
  |zero=>
   cases j with
   |zero=>exact absurd rfl fV
   |succ j=>
    simp only[J9,J8]at hp cg;exact d3 _ (A1 hp) _ (A1 (Jt.2 ⟨_,Jc _,cg⟩))
  |succ i=>
   cases j with
   |zero=>
    simp only[J9,J8]at hp cg;exact fun h=>d3 _ (A1 cg) _ (A1 (Jt.2 ⟨_,Jc _,hp⟩)) h.symm
   |succ j=>
    simp only[J8]at hp cg;exact FT d2 ZV ZU Zx p hp p' cg
theorem Kg {α:Type}{f:α→List (Nat×Obj)}:∀{l:List α},((l.flatMap f).map Prod.fst).Nodup→∀x∈l,((f x).map Prod.fst).Nodup
 |[],_,x,h=>ZF
 |y::l,hd,x,h=>by
  rw[Jaa,Jn]at hd;obtain⟨d1,d2,d3⟩:=Jw.1 hd;rcases Jy.1 h with rfl|h
  ·exact d1
  ·exact Kg d2 x h
structure BlkN (o:OBlk):Prop where
 pn:∀p∈o.phN,p.1≠o.nx.y
 inn:∀p∈o.inN,p.1≠o.nx.y
 pi:∀p∈o.phN,∀p'∈o.inN,p.1≠p'.1
 ii:∀p∈o.ins.flatMap OIns.lg,∀p'∈o.il,p.1≠p'.1
 ij:∀i j (hi:i<o.ins.length) (hj:j<o.ins.length),i≠j→o.ins[i].a.y≠o.ins[j].a.y
theorem XY (h:(o.lg.map Prod.fst).Nodup):BlkN o:=by
 have e:o.lg=o.nx.lg++(o.phN++o.inN):=by simp only[OBlk.lg,OBlk.phN,OBlk.inN,J7]
 rw[e,Jn,Jn]at h;obtain⟨_,d2,d3⟩:=Jw.1 h;obtain⟨_,e2,e3⟩:=Jw.1 d2;rw[OBlk.inN,Jn]at e2;obtain⟨g1,_,g3⟩:=Jw.1 e2;have hy:o.nx.y∈o.nx.lg.map Prod.fst:=by simp[OInts.lg]
 refine⟨fun p hp hh=>d3 _ hy _ (Jk _ (A1 hp)) hh.symm,fun p hp hh=>d3 _ hy _ (Je _ (A1 hp)) hh.symm,fun p hp p' cg=>e3 _ (A1 hp) _ (A1 cg),
  fun p hp p' cg=>g3 _ (A1 hp) _ (A1 cg),fun i j hi hj fV=>?_⟩
 exact FT g1 hi hj fV (o.ins[i].a.y,.vec 1 (Qb o.ins[i].a.ns)) ZaE (o.ins[j].a.y,.vec 1 (Qb o.ins[j].a.ns)) ZaE
def Apart (os:List OBlk)(zb:Nat):Prop:=((LGo os zb).map Prod.fst).Nodup
theorem Apart.zbn (h:Apart os zb)(hx:x<os.length){p:Nat×Obj}(hp:p∈os[x].lg):p.1≠zb:=by
 rw[Apart,LGo,Jn]at h;exact (Jw.1 h).2.2 _ (A1 (Jt.2 ⟨_,Jc hx,hp⟩)) zb Zz
theorem Apart.same (h:Apart os zb){x y:Nat}(hx:x<os.length)(hy:y<os.length){p p':Nat×Obj}(hp:p∈os[x].lg)(cg:p'∈os[y].lg)(he:p.1=p'.1):x=y:=by
 rw[Apart,LGo,Jn]at h;by_cases nO:x=y
 ·exact nO
 ·exact absurd he (FT (Jw.1 h).1 hx hy nO p hp p' cg)
theorem Apart.blk (h:Apart os zb)(hx:x<os.length):BlkN os[x]:=by
 rw[Apart,LGo,Jn]at h;exact XY (Kg (Jw.1 h).1 _ (Jc hx))
theorem OBlk.nxM (o:OBlk):(o.nx.y,Obj.vec 1 (Qb o.nx.ns))∈o.lg:=by simp[OBlk.lg,OInts.lg]
theorem OBlk.phM {p:Nat×Obj}(h:p∈o.phN):p∈o.lg:=by
 simp only[OBlk.phN,OBlk.lg,Jq]at h⊢;rcases h with h|h
 ·exact .inr (.inl h)
 ·exact .inr (.inr (.inl h))
theorem OBlk.inM {p:Nat×Obj}(h:p∈o.inN):p∈o.lg:=by
 simp only[OBlk.inN,OBlk.lg,Jq]at h⊢;exact .inr (.inr (.inr h))
theorem OBlk.aM (o:OBlk){i:Nat}(h:i<o.ins.length):(o.ins[i].a.y,Obj.vec 1 (Qb o.ins[i].a.ns))∈o.ins.flatMap OIns.lg:=Jt.2 ⟨_,Jc h,ZaE⟩
theorem LGo.of {p:Nat×Obj}(hx:x<os.length)(hp:p∈os[x].lg):p∈LGo os zb:=Jk _ (Jt.2 ⟨_,Jc hx,hp⟩)
theorem LGo.zbm:(zb,Obj.vec 5 (os.map OBlk.row))∈LGo os zb:=Je _ Zz
theorem Apart.ph (h:Apart os zb)(hx:x<os.length){p:Nat×Obj}(hp:p∈os[x].phN)(r:Nat):¬XU os zb U p.1 r:=by
 rintro (⟨y,hy,he⟩|⟨y,hy,_,he⟩)
 ·have:=h.same hx hy (OBlk.phM hp) os[y].nxM he;subst this;exact (h.blk hx).pn p hp he
 ·rcases he with ⟨he,_⟩|⟨p',cg,he⟩
  ·exact h.zbn hx (OBlk.phM hp) he
  ·have:=h.same hx hy (OBlk.phM hp) (OBlk.inM cg) he;subst this;exact (h.blk hx).pi p hp p' cg he
theorem Apart.phP (h:Apart os zb)(hx:x<os.length)(hb:b<os.length){p:Nat×Obj}(hp:p∈os[x].phN)(j:Bool)(i k r:Nat):¬XP os[b] zb b j i k p.1 r:=by
 rintro (⟨_,he,_⟩|⟨p',cg,he,_⟩|⟨i',bO,he,_⟩)
 ·exact h.zbn hx (OBlk.phM hp) he
 ·have fz:p'∈os[b].inN:=Je _ cg;have:=h.same hx hb (OBlk.phM hp) (OBlk.inM fz) he;subst this;exact (h.blk hx).pi p hp p' fz he
 ·have fz:(os[b].ins[i'].a.y,Obj.vec 1 (Qb os[b].ins[i'].a.ns))∈os[b].inN:=Jk _ (os[b].aM bO);have:=h.same hx hb (OBlk.phM hp) (OBlk.inM fz) he;subst this;exact (h.blk hx).pi p hp _ fz he
theorem Apart.inU (h:Apart os zb)(hb:b<os.length){p:Nat×Obj}(hp:p∈os[b].inN)(hU:¬U b)(r:Nat):¬XU os zb U p.1 r:=by
 rintro (⟨y,hy,he⟩|⟨y,hy,xy,he⟩)
 ·have:=h.same hb hy (OBlk.inM hp) os[y].nxM he;subst this;exact (h.blk hb).inn p hp he
 ·rcases he with ⟨he,_⟩|⟨p',cg,he⟩
  ·exact h.zbn hb (OBlk.inM hp) he
  ·have:=h.same hb hy (OBlk.inM hp) (OBlk.inM cg) he;subst this;exact hU xy
theorem Apart.zbU (h:Apart os zb)(hU:¬U b):¬XU os zb U zb b:=by
 rintro (⟨y,hy,he⟩|⟨y,hy,xy,he⟩)
 ·exact h.zbn hy os[y].nxM he.symm
 ·rcases he with ⟨_,he⟩|⟨p',cg,he⟩
  ·subst he;exact hU xy
  ·exact h.zbn hy (OBlk.inM cg) he.symm
theorem Apart.zbP (h:Apart os zb)(hb:b<os.length)(i k r:Nat):¬XP os[b] zb b false i k zb r:=by
 rintro (⟨h0,_⟩|⟨p',cg,he,_⟩|⟨i',bO,he,_⟩)
 ·simp at h0
 ·exact h.zbn hb (OBlk.inM (Je _ cg)) he.symm
 ·exact h.zbn hb (OBlk.inM (Jk _ (os[b].aM bO))) he.symm
structure NC (q:CodeD)(os:List OBlk)(zb R n:Nat)(ids:List Int):Prop where
 ok:q.ok
 hn:q.blocks.length=n
 hR:q.ab.toNat=R
 l:os.length=n
 d:∀x (h:x<os.length) (h':x<q.blocks.length),os[x].d=q.blocks[x]
 bo:∀b∈os,b.ok
 ow:∀b∈os,∀p∈b.aa,p.own
 t:Tree n ids (depL n (nxN (gnx q)))
def wO (q:CodeD)(ids:List Int)(zb n:Nat)(nx:Int):Obj:=.st [.int .i64 q.params,.int .i64 q.ab,.sl false 5 (Qo q.blocks),.int .i64 q.params,.int .i64 q.ab,.af zb 5 0 n,.sl false 1 (Qb ids),.int .i64 nx]
abbrev TT (q:CodeD)(os:List OBlk)(zb n wl cy:Nat)(ids:List Int)(F:Heap)(nx:Int)(cs:List Int)(X:Nat→Nat→Prop)(H:Heap):Prop:=Ty (LGo os zb) F [(wl,wO q ids zb n nx),(cy,.vec 1 (Qb cs))] X H []
theorem I3 (hs:SimO (X zb) (.vec 5 (os.map OBlk.row)) (H zb))(c:NC q os zb R n ids)(hx:x<n)(dA:x<os.length)(ho:os[x]=o) :
  ∃RW j on,H zb=.vec 5 RW∧RW.length=n∧RW.take n=RW∧RW.getD x []=[o.pc,o.ic,.int .i64 j,.int .i64 on,.af o.nx.y 1 0 o.nx.ns.length]∧(X zb x→j=o.jump∧on=o.on)∧SimO (X zb) (.vec 5 (os.map OBlk.row)) (.vec 5 RW):=by
 subst ho;obtain⟨RW,h1,h2,h3⟩:=hs.get;rw[h1]at hs;rw[Jd,c.l]at h2;have hg:(os.map OBlk.row).getD x []=os[x].row:=by simp[Jb,dA]
 obtain⟨h4,h5⟩:=h3 x (by rw[Jd];exact dA);rw[hg]at h4 h5;have au:=c.bo _ (Jc dA);have ib:∀c',SimC os[x].pc c'→c'=os[x].pc:=fun c' h=>by
  rcases au.p with ⟨e,_⟩|⟨y,e,_⟩
  ·rw[e]at h⊢;exact h.sl
  ·rw[e]at h⊢;exact h.af
 have gx:∀c',SimC os[x].ic c'→c'=os[x].ic:=fun c' h=>by
  rcases au.i with ⟨e,_⟩|⟨y,e,_⟩
  ·rw[e]at h⊢;exact h.sl
  ·rw[e]at h⊢;exact h.af
 generalize hR:RW.getD x []=row at h4 h5;rw[OBlk.row_eq]at h4 h5
 cases h4 with
 |cons a1 t1=>cases t1 with
  |cons a2 t2=>cases t2 with
   |cons a3 t3=>cases t3 with
    |cons a4 t4=>cases t4 with
     |cons a5 t5=>cases t5 with
      |nil=>
       have e1:=ib _ a1;have e2:=gx _ a2;obtain⟨j,e3⟩:=a3.int;obtain⟨on,e4⟩:=a4.int;have e5:=a5.af;subst e1;subst e2;subst e3;subst e4;subst e5;refine⟨RW,j,on,h1,h2,Jf Zx,hR,fun hX=>?_,hs⟩;have:=h5 hX;simp only[List.cons.injEq,C.int.injEq,true_and]at this;exact⟨this.1,this.2.1⟩
theorem AO (t:TT q os zb n wl cy ids F nx cs X H)(c:NC q os zb R n ids)(hx:x<n)(dA:x<os.length)(ho:os[x]=o) :
  ∃RW j on,H zb=.vec 5 RW∧RW.length=n∧RW.take n=RW∧RW.getD x []=[o.pc,o.ic,.int .i64 j,.int .i64 on,.af o.nx.y 1 0 o.nx.ns.length]∧(X zb x→j=o.jump∧on=o.on)∧SimO (X zb) (.vec 5 (os.map OBlk.row)) (.vec 5 RW):=I3 (t.get LGo.zbm) c hx dA ho
theorem D4 {m:Nat}{ns:List Int}(hs:SimO (X m) (.vec 1 (Qb ns)) (H m)):∃ns':List Int,H m=.vec 1 (Qb ns')∧ns'.length=ns.length∧(∀r,r<ns.length→X m r→ns'.getD r 0=ns.getD r 0)∧SimO (X m) (.vec 1 (Qb ns)) (.vec 1 (Qb ns')):=by
 obtain⟨rows',h1,h2,h3⟩:=hs.get;rw[Qf]at h2 h3;have hg:∀r,r<ns.length→∃v:Int,rows'.getD r []=[.int .i64 v]∧(X m r→v=ns.getD r 0):=fun r hr=>by
  obtain⟨h4,h5⟩:=h3 r hr;rw[Qn _ _ hr]at h4 h5;generalize hR:rows'.getD r []=row at h4 h5
  cases h4 with
  |cons a1 t1=>cases t1 with
   |nil=>
    obtain⟨v,e⟩:=a1.int;subst e;refine⟨v,rfl,fun hX=>?_⟩;have:=h5 hX;simpa using this
 obtain⟨f,hf⟩:∃f:Nat→Int,∀r,r<ns.length→rows'.getD r []=[.int .i64 (f r)]∧(X m r→f r=ns.getD r 0):=by
  classical
  exact⟨fun r=>if h:r<ns.length then (hg r h).choose else 0,fun r hr=>by simp only[hr,dite_true];exact (hg r hr).choose_spec⟩
 have bT:rows'=Qb ((List.range ns.length).map f):=by
  refine Jav (by simp[Qb,h2]) fun i h4 h5=>?_;have hi:i<ns.length:=Zx
  have:=(hf i hi).1;rw[Jb,Jh h4]at this;simp only[Ju]at this;rw[this];simp[Qb]
 subst bT;rw[h1]at hs;refine⟨_,h1,Zz,fun r hr hX=>?_,hs⟩;rw[Jb];simp only[J2,List.getElem?_range hr,J5,Ju];exact (hf r hr).2 hX
theorem Ia (t:TT q os zb n wl cy ids F nx cs X H){m:Nat}{ns ns':List Int}(hm:(m,Obj.vec 1 (Qb ns))∈LGo os zb)(hs:SimO (X m) (.vec 1 (Qb ns)) (.vec 1 (Qb ns'))){r:Nat}(hr:r<ns.length)(v:Int)
  (h:H'=H.set m (.vec 1 (Qb (ns'.set r v)))) (hX:∀m' r',¬(m'=m∧r'=r)→X' m' r'→X m' r') (hn:¬X' m r):TT q os zb n wl cy ids F nx cs X' H':=by
 refine Ty.st t hm h ?_ fun m' de r'=>hX m' r' fun e=>de e.1;rw[←Ds];refine hs.set (by rw[Qf];exact hr) ?_ (fun r' be=>hX m r' fun e=>be e.2) hn;rw[Qn _ _ hr];exact .cons (.inr ⟨_,_,rfl,rfl⟩) .nil
theorem Cn (t:TT q os zb n wl cy ids F nx cs X H)(c:NC q os zb R n ids)(dA:x<os.length)(ho:os[x]=o):bh H o.pc=True∧ay o.pc=o.aa.length∧o.pc.ah=false∧o.ic.ah=false:=by
 subst ho;have au:=c.bo _ (Jc dA);refine⟨?_,by rw[au.p.ay,Jd],au.p.ah,au.i.ah⟩;rcases au.p with ⟨e,_⟩|⟨z,e,e2⟩
 ·rw[e];rfl
 ·have hm:(z,Obj.vec 2 (os[x].aa.map OPhi.row))∈LGo os zb:=LGo.of dA (OBlk.phM (Je _ (by rw[e2];simp)));obtain⟨rows',h1,h2,_⟩:=(t.get hm).get;rw[e];simp only[bh,h1,h2,Jl,Ji,and_self]
theorem OBlk.phZ (au:o.ok){k:Nat}(hk:k<o.aa.length):∃z,o.pc=.af z 2 0 o.aa.length∧o.pl=[(z,.vec 2 (o.aa.map OPhi.row))]:=by
 rcases au.p with ⟨_,h,_⟩|⟨y,h1,h2⟩
 ·have:=congrArg List.length h;simp only[Jd,Jm]at this;omega
 ·exact⟨y,by rw[h1,Jd],h2⟩
theorem OBlk.inZ (au:o.ok){k:Nat}(hk:k<o.ins.length):∃z,o.ic=.af z 4 0 o.ins.length∧o.il=[(z,.vec 4 (o.ins.map OIns.row))]:=by
 rcases au.i with ⟨_,h,_⟩|⟨y,h1,h2⟩
 ·have:=congrArg List.length h;simp only[Jd,Jm]at this;omega
 ·exact⟨y,by rw[h1,Jd],h2⟩
theorem rdPh (t:TT q os zb n wl cy ids F nx cs X H)(c:NC q os zb R n ids)(dA:x<os.length)(ho:os[x]=o){z k:Nat}(hz:o.pl=[(z,.vec 2 (o.aa.map OPhi.row))])(hk:k<o.aa.length) :
  ∃PR to ya,H z=.vec 2 PR∧PR.length=o.aa.length∧PR.take o.aa.length=PR∧PR.getD k []=[.int .i64 to,.af ya 1 0 o.aa[k].ns.length]∧(ya,Obj.vec 1 (Qb o.aa[k].ns))∈o.phN∧o.aa[k].ac=.af ya 1 0 o.aa[k].ns.length∧SimO (X z) (.vec 2 (o.aa.map OPhi.row)) (.vec 2 PR):=by
 subst ho;have hm:(z,Obj.vec 2 (os[x].aa.map OPhi.row))∈LGo os zb:=LGo.of dA (OBlk.phM (Je _ Za3));have hs:=t.get hm;obtain⟨PR,h1,h2,h3⟩:=hs.get;rw[h1]at hs;rw[Jd]at h2 h3;obtain⟨h4,_⟩:=h3 k hk;obtain⟨ya,e1,e2⟩:=c.ow _ (Jc dA) _ (Jc hk);have hg:(os[x].aa.map OPhi.row).getD k []=[.int .i64 os[x].aa[k].to,.af ya 1 0 os[x].aa[k].ns.length]:=by
  simp only[Jb,J2,Jh hk,J5,Ju,OPhi.row,e1]
 rw[hg]at h4;generalize hR:PR.getD k []=row at h4
 cases h4 with
 |cons a1 t1=>cases t1 with
  |cons a2 t2=>cases t2 with
   |nil=>
    obtain⟨v,e⟩:=a1.int;have e3:=a2.af;subst e;subst e3;refine⟨PR,v,ya,h1,h2,Jf Zx,hR,?_,e1,hs⟩;exact Jk _ (Jt.2 ⟨_,Jc hk,by rw[e2];simp⟩)
theorem rdIn (t:TT q os zb n wl cy ids F nx cs X H)(dA:x<os.length)(ho:os[x]=o){z k:Nat}(hz:o.il=[(z,.vec 4 (o.ins.map OIns.row))])(hk:k<o.ins.length)(hX:X z k) :
  ∃IR,H z=.vec 4 IR∧IR.length=o.ins.length∧IR.take o.ins.length=IR∧IR.getD k []=[.int .i64 o.ins[k].op,.int .i64 o.ins[k].to,.af o.ins[k].a.y 1 0 o.ins[k].a.ns.length,.int .i64 o.ins[k].n]∧SimO (X z) (.vec 4 (o.ins.map OIns.row)) (.vec 4 IR):=by
 subst ho;have hm:(z,Obj.vec 4 (os[x].ins.map OIns.row))∈LGo os zb:=LGo.of dA (OBlk.inM (Je _ Za3));have hs:=t.get hm;obtain⟨IR,h1,h2,h3⟩:=hs.get;rw[h1]at hs;rw[Jd]at h2 h3;have h4:=(h3 k hk).2 hX;refine⟨IR,h1,h2,Jf Zx,?_,hs⟩;rw[h4];simp only[Jb,J2,Jh hk,J5,Ju];rfl
theorem Qb3g (t:TT q os zb n wl cy ids F nx cs X H)(c:NC q os zb R n ids)(dA:x<os.length)(ho:os[x]=o):bh H o.ic=True∧ay o.ic=o.ins.length:=by
 subst ho;have au:=c.bo _ (Jc dA);refine⟨?_,by rw[au.i.ay,Jd]⟩;rcases au.i with ⟨e,_⟩|⟨z,e,e2⟩
 ·rw[e];rfl
 ·have hm:(z,Obj.vec 4 (os[x].ins.map OIns.row))∈LGo os zb:=LGo.of dA (OBlk.inM (Je _ (by rw[e2];simp)));obtain⟨rows',h1,h2,_⟩:=(t.get hm).get;rw[e];simp only[bh,h1,h2,Jl,Ji,and_self]
theorem NC.get (c:NC q os zb R n ids)(hb:b<n):∃hl:b<os.length,∃hq:b<q.blocks.length,os[b].d=q.blocks[b]∧os[b].ok∧q.blocks[b].ok q b∧os[b].aa.length≤1200∧os[b].ins.length≤1200:=by
 have hl:b<os.length:=by rw[c.l];exact hb
 have hq:b<q.blocks.length:=by rw[c.hn];exact hb
 have hd:=c.d b hl hq;have ck:=c.ok.il b hq;rw[←hd]at ck;simp only[OBlk.d,Jd]at ck;exact⟨hl,hq,hd,c.bo _ (Jc hl),c.ok.bs b hq,ck.2,ck.1⟩
end Go.AE.Y
namespace Go.AE.Y
attribute [local go_sem] cond_true cond_false Bool.not_true Bool.not_false
open Go.Proofs.Tryz
variable {H H' F:Heap}{K:V→Heap→Prop}{q:CodeD}{os:List OBlk}{zb wl cy R n b:Nat}{ids:List Int}{U:Nat→Prop}{Z Z':Nat→Nat→Prop}{nx:Int}{cs:List Int}{o:OBlk}{y:BlkD}{e:Env}{Q:X→Env→Heap→Prop}
theorem Kw (hw:H wl=wO q ids zb n nx)(h1:0≤nx)(h2:nx≤2 ^ 40)(hK:∀H',H'=H.set wl (wO q ids zb n (nx+1))→K (.c (.int .i64 nx)) H'):Qs prog Sw [.c (.ptr wl 0)] H K:=by
 refine Qc Ab Qadj ?_;rw[wO]at hw;refine Za ?_;refine Zi hw ?_;refine⟨Qr,fun H' h'=>?_⟩;have lE:H' wl=wO q ids zb n (nx+1):=by rw[h',Heap.aE];rfl
 have hK:=hK H' h';rw[wO]at lE;refine Zi lE ?_;try refine⟨Qr,?_⟩
 refine Zb ?_
 first|exact hK|(have e:nx+1-1=nx:=Zx;rw[e];exact hK)
def LK (wl b cy R n zb:Nat)(e:Env):Prop:=lk 0 e=.c (.ptr wl 0)∧lk 1 e=.c (.int .i64 b)∧lk 2 e=.c (.af cy 1 0 R)∧lk 6 e=.c (.ep (.af zb 5 0 n) 5 b 0)
structure NSt (q:CodeD)(os:List OBlk)(zb n R wl cy:Nat)(ids:List Int)(F:Heap)(nx:Int)(cs:List Int)(Z:Nat→Nat→Prop)(H:Heap):Prop where
 t:TT q os zb n wl cy ids F nx cs Z H
 c:cs.length=R
theorem NSt.w (s:NSt q os zb n R wl cy ids F nx cs Z H):H wl=wO q ids zb n nx:=s.t.e 0 rfl
theorem NSt.cu (s:NSt q os zb n R wl cy ids F nx cs Z H):H cy=.vec 1 (Qb cs):=s.t.e 1 rfl
theorem NSt.ct (s:NSt q os zb n R wl cy ids F nx cs Z H):(Qb cs).take R=Qb cs:=Jf (by rw[Qf];exact Nat.le_of_eq s.c)
theorem NSt.cl (s:NSt q os zb n R wl cy ids F nx cs Z H):(Qb cs).length=R:=by rw[Qf];exact s.c
theorem NSt.setW (s:NSt q os zb n R wl cy ids F nx cs Z H){nx':Int}(h:H'=H.set wl (wO q ids zb n nx')):NSt q os zb n R wl cy ids F nx' cs Z H':=⟨s.t.stE 0 rfl h (by simp[wO]),s.c⟩
theorem NSt.setC (s:NSt q os zb n R wl cy ids F nx cs Z H){i:Nat}{v:Int}(h:H'=H.set cy (.vec 1 (Qb (cs.set i v)))):NSt q os zb n R wl cy ids F nx (cs.set i v) Z H':=⟨s.t.stE 1 rfl h,by rw[Jah];exact s.c⟩
theorem NSt.weak (s:NSt q os zb n R wl cy ids F nx cs Z H)(hX:∀m r,Z' m r→Z m r):NSt q os zb n R wl cy ids F nx cs Z' H:=⟨s.t.weak hX,s.c⟩
set_option maxHeartbeats 4000000 in
theorem phA (c:NC q os zb R n ids)(hb:b<n)(hl:b<os.length)(ho:os[b]=o)(hX:∀p∈o.phN,∀r,¬Z p.1 r)(s:NSt q os zb n R wl cy ids F nx cs Z H)(hk:LK wl b cy R n zb e)(h0:0≤nx)(h1:nx+o.aa.length≤2 ^ 40)(hN:o.aa.length≤100000)
  (h:∀e' H',NSt q os zb n R wl cy ids F (nx+o.aa.length) cs Z H'→LK wl b cy R n zb e'→Ac prog Vx Q e' H'):Ac prog Qjl Q e H:=by
 obtain⟨l0,l1,l2,l6⟩:=hk;have au:=c.bo _ (Jc hl);rw[ho]at au;refine Q1 (Qa ?_);simp only[go_sem,l0,l1,l2,l6];refine Qh (Qd (Qw (fun m e1 H1=>∃i:Nat,m=o.aa.length-i∧i≤o.aa.length∧NSt q os zb n R wl cy ids F (nx+i) cs Z H1∧lk 0 e1=.c (.ptr wl 0)∧lk 1 e1=.c (.int .i64 b)∧lk 2 e1=.c (.af cy 1 0 R)∧lk 6 e1=.c (.ep (.af zb 5 0 n) 5 b 0)∧lk 7 e1=.c (.int .i64 i)) o.aa.length ?_ ?_))
 ·exact⟨0,Zx,Zx,by simpa using s,rfl,rfl,rfl,rfl,rfl⟩
 ·clear s l0 l1 l2 l6;rintro m e1 H1 ⟨i,hm,hi,s,l0,l1,l2,l6,l7⟩;obtain⟨RW,j,on,cp,bt,b9,bm,_,_⟩:=AO s.t c hb hl ho;obtain⟨gN,eF,dC,kD⟩:=Cn s.t c hl ho;refine Q1 (Qa ?_);simp only[go_sem,l0,l1,l2,l6,l7,cp,bt,b9,bm,hb,gN,eF,dC,Jl,Ji];try intro _
  refine Wu ?_ ?_
  ·intro hc;have ae:i<o.aa.length:=ZA
   obtain⟨z,ib,dH⟩:=OBlk.phZ au ae;rw[ib]at bm;refine Zd ?_
   refine Wr ?_;simp only[go_sem,cp,bt,b9,bm,hb,Jl,Ji];refine Kw s.w Zx Zx fun H2 h2=>?_;have s:=s.setW h2;obtain⟨RW,j,on,cp,bt,b9,bm,_,_⟩:=AO s.t c hb hl ho;rw[ib]at bm;obtain⟨PR,to,ya,hz,sO,tR,qz,dZ,xo,fP⟩:=rdPh s.t c hl ho dH ae;simp only[go_sem,Qjm,cp,bt,b9,bm,hb,hz,sO,qz,ae,Jl,Ji];intro H3 h3;have pY:(z,Obj.vec 2 (o.aa.map OPhi.row))∈o.phN:=Je _ (by rw[dH];simp);have s:NSt q os zb n R wl cy ids F (nx+i+1) cs Z H3:=⟨Ty.st s.t (LGo.of hl (by rw[ho];exact OBlk.phM pY)) h3 (fP.set (by rw[Jd];exact ae) (by
    have hg:(o.aa.map OPhi.row).getD i []=[.int .i64 o.aa[i].to,.af ya 1 0 o.aa[i].ns.length]:=by
     simp only[Jb,J2,Jh ae,J5,Ju,OPhi.row,xo]
    rw[hg];exact .cons (.inr ⟨_,_,rfl,rfl⟩) (.cons (.inl rfl) .nil)) (fun r' _ h=>h) (hX _ pY _)) (fun m' _ r h=>h),s.c⟩
   refine Zh ?_;refine⟨Qr,?_⟩;show ∃m,_;exact⟨o.aa.length-(i+1),Zx,i+1,rfl,Zx,by have e:nx+((i+1:Nat):Int)=nx+i+1:=Zx;rw[e];exact s,rfl,rfl,rfl,rfl,rfl⟩
  ·intro hc;have mg:i=o.aa.length:=by have:o.aa.length≤i:=ZA;omega
   subst mg;refine Zc ?_;exact h _ _ s ⟨rfl,rfl,rfl,rfl⟩
set_option maxHeartbeats 4000000 in
theorem phB (c:NC q os zb R n ids)(hb:b<n)(hl:b<os.length)(ho:os[b]=o)(hy:o.d=y)(hq:b<q.blocks.length)(lw:q.blocks[b]=y)(s:NSt q os zb n R wl cy ids F nx cs Z H)(hk:LK wl b cy R n zb e)(hN:o.aa.length≤100000)
  (h:∀e' H' cs',NSt q os zb n R wl cy ids F nx cs' Z H'→LK wl b cy R n zb e'→Ac prog Vy Q e' H'):Ac prog Vx Q e H:=by
 obtain⟨l0,l1,l2,l6⟩:=hk;have au:=c.bo _ (Jc hl);rw[ho]at au;have cD:=c.ok.bs b hq;rw[lw]at cD;have lf:y.aa.length=o.aa.length:=by rw[←hy];simp[OBlk.d]
 refine Q1 (Qa ?_);simp only[go_sem,l0,l1,l2,l6];refine Qh (Qd (Qw (fun m e1 H1=>∃(i:Nat) (cs:List Int),m=o.aa.length-i∧i≤o.aa.length∧NSt q os zb n R wl cy ids F nx cs Z H1∧lk 0 e1=.c (.ptr wl 0)∧lk 1 e1=.c (.int .i64 b)∧lk 2 e1=.c (.af cy 1 0 R)∧lk 6 e1=.c (.ep (.af zb 5 0 n) 5 b 0)∧lk 8 e1=.c (.int .i64 i)) o.aa.length ?_ ?_))
 ·exact⟨0,cs,Zx,Zx,s,rfl,rfl,rfl,rfl,rfl⟩
 ·clear s l0 l1 l2 l6;rintro m e1 H1 ⟨i,cs,hm,hi,s,l0,l1,l2,l6,l8⟩;obtain⟨RW,j,on,cp,bt,b9,bm,_,_⟩:=AO s.t c hb hl ho;obtain⟨gN,eF,dC,kD⟩:=Cn s.t c hl ho;refine Q1 (Qa ?_);simp only[go_sem,l0,l1,l2,l6,l8,cp,bt,b9,bm,hb,gN,eF,dC,Jl,Ji];try intro _
  refine Wu ?_ ?_
  ·intro hc;have ae:i<o.aa.length:=ZA
   have aT:i<y.aa.length:=Zx
   obtain⟨z,ib,dH⟩:=OBlk.phZ au ae;rw[ib]at bm;obtain⟨PR,to,ya,hz,sO,tR,qz,dZ,xo,fP⟩:=rdPh s.t c hl ho dH ae;have hw:=s.w;rw[wO]at hw;have jx:=s.cu;have nB:=s.ct;have cm:=s.cl;obtain⟨hv,bQ⟩:=(cD.pto _ (Jc aT)).nat;rw[c.hR]at bQ;refine Zd ?_
   refine Wr ?_;generalize hr:y.aa[i].to.toNat=r at *;have ef:r<cs.length:=ZaF
   simp only[go_sem,hw,cp,bt,b9,bm,hb,hz,sO,tR,qz,ae,hq,Qm,Q9 _ _ hq,BlkD.cells,lw,Q7,aT,BL _ _ aT,PhiD.cells,hv,bQ,jx,cm,Qn _ _ ef,Ds,Jl,Ji];intro H2 h2;have s:=s.setC h2;refine Zh ?_;refine⟨Qr,?_⟩;show ∃m,_;exact⟨o.aa.length-(i+1),Zx,i+1,_,rfl,Zx,s,rfl,rfl,rfl,rfl,rfl⟩
  ·intro hc;refine Zc ?_;exact h _ _ _ s ⟨rfl,rfl,rfl,rfl⟩
def XC (os:List OBlk)(zb:Nat)(U:Nat→Prop)(o:OBlk)(b:Nat)(j:Bool)(i k m r:Nat):Prop:=XU os zb U m r∨XP o zb b j i k m r
theorem XC.stepA {i k m r:Nat}(h:XC os zb U o b true i (k+1) m r):XC os zb U o b true i k m r:=by
 rcases h with h|h|h|⟨i',bO,h1,h2⟩
 ·exact .inl h
 ·exact .inr (.inl h)
 ·exact .inr (.inr (.inl h))
 ·exact .inr (.inr (.inr ⟨i',bO,h1,Zx⟩))
theorem XC.stepI {i k m r:Nat}(h:XC os zb U o b true (i+1) 0 m r):XC os zb U o b true i k m r:=by
 rcases h with h|h|⟨p,hp,h1,h2⟩|⟨i',bO,h1,h2⟩
 ·exact .inl h
 ·exact .inr (.inl h)
 ·exact .inr (.inr (.inl ⟨p,hp,h1,Zx⟩))
 ·exact .inr (.inr (.inr ⟨i',bO,h1,Zx⟩))
theorem XC.notA (ap:Apart os zb)(hl:b<os.length)(ho:os[b]=o)(hU:¬U b){i k:Nat}(hi:i<o.ins.length):¬XC os zb U o b true i (k+1) o.ins[i].a.y k:=by
 subst ho;have hm:(os[b].ins[i].a.y,Obj.vec 1 (Qb os[b].ins[i].a.ns))∈os[b].inN:=Jk _ (os[b].aM hi);rintro (h|⟨_,h,_⟩|⟨p,hp,h1,h2⟩|⟨i',bO,h1,h2⟩)
 ·exact ap.inU hl hm hU _ h
 ·exact ap.zbn hl (OBlk.inM hm) h
 ·exact (ap.blk hl).ii _ (os[b].aM hi) p hp h1
 ·by_cases mf:i=i'
  ·subst mf;omega
  ·exact (ap.blk hl).ij i i' hi bO mf h1
theorem XC.notI (ap:Apart os zb)(hl:b<os.length)(ho:os[b]=o)(hU:¬U b){i z:Nat}{ob:Obj}(hz:(z,ob)∈o.il):¬XC os zb U o b true (i+1) 0 z i:=by
 subst ho;have hm:(z,ob)∈os[b].inN:=Je _ hz;rintro (h|⟨_,h,_⟩|⟨p,hp,h1,h2⟩|⟨i',bO,h1,h2⟩)
 ·exact ap.inU hl hm hU _ h
 ·exact ap.zbn hl (OBlk.inM hm) h
 ·omega
 ·exact (ap.blk hl).ii _ (os[b].aM bO) (z,ob) hz h1.symm
set_option maxHeartbeats 8000000 in
theorem phC (c:NC q os zb R n ids)(hb:b<n)(hl:b<os.length)(ho:os[b]=o)(hy:o.d=y)(hq:b<q.blocks.length)(lw:q.blocks[b]=y)(hU:¬U b)(s:NSt q os zb n R wl cy ids F nx cs (XC os zb U o b true 0 0) H)(hk:LK wl b cy R n zb e)
  (h0:0≤nx) (h1:nx+o.ins.length≤2 ^ 40) (hN:o.ins.length≤100000)
  (h:∀e' H' nx' cs',nx≤nx'→nx'≤nx+o.ins.length→NSt q os zb n R wl cy ids F nx' cs' (XC os zb U o b true o.ins.length 0) H'→LK wl b cy R n zb e'→Ac prog Vz Q e' H'):Ac prog Vy Q e H:=by
 obtain⟨l0,l1,l2,l6⟩:=hk;have au:=c.bo _ (Jc hl);rw[ho]at au;have cD:=c.ok.bs b hq;rw[lw]at cD;have ap:Apart os zb:=s.t.nodup;refine Q1 (Qa ?_);simp only[go_sem,l0,l1,l2,l6];refine Qh (Qd (Qw (fun m e1 H1=>∃(i:Nat) (nx':Int) (cs:List Int),m=o.ins.length-i∧i≤o.ins.length∧nx≤nx'∧nx'≤nx+i∧NSt q os zb n R wl cy ids F nx' cs (XC os zb U o b true i 0) H1∧lk 0 e1=.c (.ptr wl 0)∧lk 1 e1=.c (.int .i64 b)∧lk 2 e1=.c (.af cy 1 0 R)∧lk 6 e1=.c (.ep (.af zb 5 0 n) 5 b 0)∧lk 9 e1=.c (.int .i64 i)) o.ins.length ?_ ?_))
 ·exact⟨0,nx,cs,Zx,Zx,Zx,Zx,s,rfl,rfl,rfl,rfl,rfl⟩
 ·clear s l0 l1 l2 l6;rintro m e1 H1 ⟨i,nx',cs,hm,hi,eW,vD,s,l0,l1,l2,l6,l9⟩;obtain⟨RW,j,on,cp,bt,b9,bm,_,_⟩:=AO s.t c hb hl ho;obtain⟨_,_,dC,kD⟩:=Cn s.t c hl ho;obtain⟨js,fC⟩:=Qb3g s.t c hl ho;refine Q1 (Qa ?_);simp only[go_sem,l0,l1,l2,l6,l9,cp,bt,b9,bm,hb,js,fC,kD,Jl,Ji];try intro _
  refine Wu ?_ ?_
  ·intro hc;have ae:i<o.ins.length:=ZA
   clear cp bt b9 bm js fC;obtain⟨z,gx,ck⟩:=OBlk.inZ au ae;have pY:(z,Obj.vec 4 (o.ins.map OIns.row))∈o.il:=by rw[ck];simp
   obtain⟨x,hx⟩:∃x,o.ins[i]=x:=⟨_,rfl⟩;have iN:x.d∈y.ins:=by rw[←hy,←hx];exact Jr.2 ⟨_,Jc ae,rfl⟩
   have hal3:x.a.ns.length≤3:=cD.al _ iN;have xp:∀k,XC os zb U o b true i k z i:=fun k=>.inr (.inr (.inl ⟨_,pY,rfl,Ji _⟩));refine Zd ?_
   refine A4 (fun e2 H2=>∃(nx2:Int) (cs:List Int),nx'≤nx2∧nx2≤nx'+1∧NSt q os zb n R wl cy ids F nx2 cs (XC os zb U o b true (i+1) 0) H2∧lk 0 e2=.c (.ptr wl 0)∧lk 1 e2=.c (.int .i64 b)∧lk 2 e2=.c (.af cy 1 0 R)∧lk 6 e2=.c (.ep (.af zb 5 0 n) 5 b 0)∧lk 9 e2=.c (.int .i64 i)) ?_ ?_
   ·intro Q2 bD _ _;refine Qd (Q1 ?_);refine Za ?_;refine Qh (Qd (Qw (fun m e1 H1=>∃(k:Nat),m=x.a.ns.length-k∧k≤x.a.ns.length∧NSt q os zb n R wl cy ids F nx' cs (XC os zb U o b true i k) H1∧lk 0 e1=.c (.ptr wl 0)∧lk 1 e1=.c (.int .i64 b)∧lk 2 e1=.c (.af cy 1 0 R)∧lk 6 e1=.c (.ep (.af zb 5 0 n) 5 b 0)∧lk 9 e1=.c (.int .i64 i)∧lk 10 e1=.c (.int .i64 k)) x.a.ns.length ?_ ?_))
    ·exact⟨0,Zx,Zx,s,rfl,rfl,rfl,rfl,rfl,rfl⟩
    ·clear s l0 l1 l2 l6 l9;rintro m2 e3 H3 ⟨k,eo,fA,s,l0,l1,l2,l6,l9,l10⟩;obtain⟨RW,j,on,cp,bt,b9,bm,_,_⟩:=AO s.t c hb hl ho;rw[gx]at bm;obtain⟨IR,hz,pU,q9,lr,_⟩:=rdIn s.t hl ho ck ae (xp k);have hsa:SimO (XC os zb U o b true i k o.ins[i].a.y) (.vec 1 (Qb o.ins[i].a.ns)) (H3 o.ins[i].a.y):=s.t.get (LGo.of hl ZaA);obtain⟨ns',m8,ce,ja,fP⟩:=D4 hsa;have rF:=fun k=>XC.notA (k:=k) ap hl ho hU ae;have bZ:(o.ins[i].a.y,Obj.vec 1 (Qb o.ins[i].a.ns))∈LGo os zb:=LGo.of hl ZaA;rw[hx]at lr m8 ce ja fP rF bZ;refine Q1 (Qa ?_);simp only[go_sem,l0,l1,l2,l6,l9,l10,cp,bt,b9,bm,hb,hz,pU,q9,lr,ae,m8,Qf,ce,Jl,Ji];try intro _
     refine Wu ?_ ?_
     ·intro aC;have aT:k<x.a.ns.length:=ZC;have bk:k<ns'.length:=Zx;have hXk:XC os zb U o b true i k x.a.y k:=.inr (.inr (.inr ⟨i,ae,by rw[hx],.inr ⟨rfl,Ji _⟩⟩));have mT:=ja k aT hXk;have mM:x.a.ns.getD k 0∈x.d.args:=GH aT;obtain⟨hv,bQ⟩:=(cD.args _ iN _ mM).nat;rw[c.hR]at bQ;rw[←mT]at hv bQ;have b7:(Qb ns').take x.a.ns.length=Qb ns':=Jf ZO;have jx:=s.cu;have nB:=s.ct;have cm:=s.cl;refine Zd ?_
      refine Wr ?_;generalize hr:(ns'.getD k 0).toNat=r at *;have ef:r<cs.length:=ZaF;simp only[go_sem,cp,bt,b9,bm,hb,hz,pU,q9,lr,ae,m8,b7,Qf,ce,aT,Qn _ _ bk,hv,bQ,jx,nB,s.c,Qn _ _ ef,Ds,Jl,Ji];intro H4 h4;have s:NSt q os zb n R wl cy ids F nx' cs (XC os zb U o b true i (k+1)) H4:=⟨Ia s.t bZ fP aT _ h4 (fun m' r' _ hh=>hh.stepA) (rF k),s.c⟩;refine Zh ?_;refine⟨Qr,?_⟩;show ∃m,_;exact⟨x.a.ns.length-(k+1),Zx,k+1,rfl,Zx,s,rfl,rfl,rfl,rfl,rfl,rfl⟩
     ·intro aC;refine Zc ?_;refine Qa ?_;simp only[go_sem,cp,bt,b9,bm,hb,hz,pU,q9,lr,ae,Jl,Ji];refine Hq ?_;try simp only[go_sem]
      refine Wv ?_ ?_
      ·intro bI;obtain⟨hv,bQ⟩:=(cD.to _ iN bI).nat;rw[c.hR]at bQ;have uc:x.d.to=x.to:=rfl;rw[uc]at hv bQ;refine Za ?_;refine Kw s.w Zx Zx fun H4 h4=>?_;have s:=s.setW h4;obtain⟨RW,j,on,cp,bt,b9,bm,_,_⟩:=AO s.t c hb hl ho;rw[gx]at bm;obtain⟨IR,hz,pU,q9,lr,_⟩:=rdIn s.t hl ho ck ae (xp k);rw[hx]at lr;have jx:=s.cu;have nB:=s.ct;have cm:=s.cl;simp only[go_sem,Qhn];generalize hr:x.to.toNat=r at *;have ef:r<cs.length:=ZaF;refine Qa ?_;simp only[go_sem,cp,bt,b9,bm,hb,hz,pU,q9,lr,ae,hv,bQ,jx,Qf,s.c,Qn _ _ ef,Ds,Jl,Ji];intro H5 h5;have s:=s.setC h5;obtain⟨RW,j,on,cp,bt,b9,bm,_,_⟩:=AO s.t c hb hl ho;rw[gx]at bm;obtain⟨IR,hz,pU,q9,lr,qY⟩:=rdIn s.t hl ho ck ae (xp k);rw[hx]at lr;refine Qp ?_;simp only[go_sem,cp,bt,b9,bm,hb,hz,pU,lr,ae,Jl,Ji];intro H6 h6;have s:NSt q os zb n R wl cy ids F (nx'+1) (cs.set r nx') (XC os zb U o b true (i+1) 0) H6:=⟨Ty.st s.t (LGo.of hl (by rw[ho];exact OBlk.inM (Je _ pY))) h6 (qY.set (by rw[Jd];exact ae) (by
        have hg:(o.ins.map OIns.row).getD i []=[.int .i64 x.op,.int .i64 x.to,.af x.a.y 1 0 x.a.ns.length,.int .i64 x.n]:=by
         simp only[Jb,J2,Jh ae,J5,Ju,hx];rfl
        rw[hg];exact .cons (.inl rfl) (.cons (.inr ⟨_,_,rfl,rfl⟩) (.cons (.inl rfl) (.cons (.inl rfl) .nil)))) (fun r' _ hh=>hh.stepI) (XC.notI ap hl ho hU pY)) (fun m' _ r' hh=>hh.stepI),s.c⟩
       exact bD _ _ ⟨nx'+1,_,Zx,Zx,s,rfl,rfl,rfl,rfl,rfl⟩
      ·intro bI;refine Zd ?_
       exact bD _ _ ⟨nx',cs,Zx,Zx,s.weak fun m r hh=>hh.stepI,rfl,rfl,rfl,rfl,rfl⟩
   ·rintro e2 H2 ⟨nx2,cs,dk,jr,s,l0,l1,l2,l6,l9⟩;refine Qp ?_;simp only[go_sem,l0,l1,l2,l6,l9];refine⟨Qr,?_⟩;show ∃m,_;exact⟨o.ins.length-(i+1),Zx,i+1,nx2,cs,rfl,Zx,Zx,Zx,s,rfl,rfl,rfl,rfl,rfl⟩
  ·intro hc;have mg:i=o.ins.length:=by have:o.ins.length≤i:=ZA;omega
   subst mg;refine Zc ?_;exact h _ _ _ _ eW vD s ⟨rfl,rfl,rfl,rfl⟩
set_option maxHeartbeats 4000000 in
theorem phD (c:NC q os zb R n ids)(hb:b<n)(hl:b<os.length)(ho:os[b]=o)(hy:o.d=y)(hq:b<q.blocks.length)(lw:q.blocks[b]=y)(hU:¬U b){i0:Nat}(s:NSt q os zb n R wl cy ids F nx cs (XC os zb U o b true i0 0) H)(hk:LK wl b cy R n zb e)
  (h:∀e' H',NSt q os zb n R wl cy ids F nx cs (XU os zb U) H'→LK wl b cy R n zb e'→Ac prog V0 Q e' H'):Ac prog Vz Q e H:=by
 obtain⟨l0,l1,l2,l6⟩:=hk;have cD:=c.ok.bs b hq;rw[lw]at cD;have ap:Apart os zb:=s.t.nodup;obtain⟨RW,j,on,cp,bt,b9,bm,ja,fP⟩:=AO s.t c hb hl ho;obtain⟨_,_,dC,kD⟩:=Cn s.t c hl ho;obtain⟨rfl,rfl⟩:=ja (.inr (.inl ⟨rfl,rfl,rfl⟩));have xW:y.jump=o.jump∧y.on=o.on:=by rw[←hy];exact⟨rfl,rfl⟩
 refine Q1 (Qa ?_);simp only[go_sem,l0,l1,l2,l6,cp,bt,b9,bm,hb,Jl,Ji];refine A4 (fun e2 H2=>NSt q os zb n R wl cy ids F nx cs (XU os zb U) H2∧LK wl b cy R n zb e2) ?_ ?_
 ·intro Q2 bD _ _;refine Wv ?_ ?_
  ·intro hc;have hj:¬y.jump=1:=by rw[xW.1];simpa using hc
   obtain⟨hv,bQ⟩:=(cD.on hj).nat;rw[c.hR]at bQ;rw[xW.2]at hv bQ;have jx:=s.cu;have nB:=s.ct;generalize hr:o.on.toNat=r at *;have ef:r<cs.length:=ZaF
   refine Qp ?_;simp only[go_sem,cp,bt,b9,bm,hb,hv,bQ,jx,nB,Qf,s.c,Qn _ _ ef,Jl,Ji];intro H2 h2;have bx:=fun r'=>ap.zbP hl i0 0 r';have hX:∀m' r',XU os zb U m' r'→XC os zb U o b true i0 0 m' r':=fun m' r' hh=>.inl hh;refine bD _ _ ⟨⟨Ty.st s.t LGo.zbm h2 (fP.set (by rw[Jd];exact hl) (by
    have hg:(os.map OBlk.row).getD b []=o.row:=by
     simp only[Jb,J2,Jh hl,J5,Ju,ho]
    rw[hg,OBlk.row_eq];exact .cons (.inl rfl) (.cons (.inl rfl) (.cons (.inl rfl) (.cons (.inr ⟨_,_,rfl,rfl⟩) (.cons (.inl rfl) .nil))))) (fun r' _ hh=>hX _ _ hh) (ap.zbU hU)) (fun m' _ r' hh=>hX _ _ hh),s.c⟩,rfl,rfl,rfl,rfl⟩
  ·intro _;refine Zd ?_
   exact bD _ _ ⟨s.weak fun m r hh=>.inl hh,rfl,rfl,rfl,rfl⟩
 ·rintro e2 H2 ⟨s,hk⟩;exact h _ _ s hk
set_option maxHeartbeats 8000000 in
theorem phE (c:NC q os zb R n ids)(hb:b<n)(hl:b<os.length)(ho:os[b]=o)(hy:o.d=y)(hq:b<q.blocks.length)(lw:q.blocks[b]=y)(s:NSt q os zb n R wl cy ids F nx cs (XU os zb U) H)(hk:LK wl b cy R n zb e)
  (h:∀e' H',NSt q os zb n R wl cy ids F nx cs (XU os zb U) H'→LK wl b cy R n zb e'→Ac prog Qjk Q e' H'):Ac prog V0 Q e H:=by
 obtain⟨l0,l1,l2,l6⟩:=hk;have cD:=c.ok.bs b hq;rw[lw]at cD;have ap:Apart os zb:=s.t.nodup;have lY:o.nx.ns.length≤2:=by have:=cD.nxl;rw[←hy]at this;exact this
 have tx:y.next=o.nx.ns:=by rw[←hy];rfl
 refine Q1 (Qa ?_);simp only[go_sem,l0,l1,l2,l6];refine Qh (Qd (Qw (fun m e1 H1=>∃(i:Nat),m=o.nx.ns.length-i∧i≤o.nx.ns.length∧NSt q os zb n R wl cy ids F nx cs (XU os zb U) H1∧lk 0 e1=.c (.ptr wl 0)∧lk 1 e1=.c (.int .i64 b)∧lk 2 e1=.c (.af cy 1 0 R)∧lk 6 e1=.c (.ep (.af zb 5 0 n) 5 b 0)∧lk 12 e1=.c (.int .i64 i)) o.nx.ns.length ?_ ?_))
 ·exact⟨0,Zx,Zx,s,rfl,rfl,rfl,rfl,rfl⟩
 ·clear s l0 l1 l2 l6;rintro m e1 H1 ⟨i,hm,hi,s,l0,l1,l2,l6,l12⟩;obtain⟨RW,j,on,cp,bt,b9,bm,_,_⟩:=AO s.t c hb hl ho;obtain⟨_,_,dC,kD⟩:=Cn s.t c hl ho;have tn:SimO (XU os zb U o.nx.y) (.vec 1 (Qb o.nx.ns)) (H1 o.nx.y):=s.t.get (LGo.of hl (by rw[ho];exact o.nxM));obtain⟨ns',m8,ce,ja,_⟩:=D4 tn;refine Q1 (Qa ?_);simp only[go_sem,l0,l1,l2,l6,l12,cp,bt,b9,bm,hb,m8,Qf,ce,Jl,Ji];try intro _
  refine Wu ?_ ?_
  ·intro hc;have ae:i<o.nx.ns.length:=ZA
   have aT:i<ns'.length:=Zx
   have b7:(Qb ns').take o.nx.ns.length=Qb ns':=Jf ZO;have mT:=ja i ae (.inl ⟨b,hl,by rw[ho]⟩);have mM:o.nx.ns.getD i 0∈y.next:=by rw[tx];exact GH ae
   have hvr:=cD.nx _ mM;obtain⟨v,hv⟩:∃v:Nat,o.nx.ns.getD i 0=(v:Int):=⟨(o.nx.ns.getD i 0).toNat,Zx⟩;rw[hv]at mT hvr;have qQ:v<q.blocks.length:=Zx
   have mL:v<n:=by rw[←c.hn];exact qQ
   refine Zd ?_
   refine Wk ?_;simp only[go_sem,cp,bt,b9,bm,hb,m8,b7,Qf,ce,ae,Qn _ _ aT,mT,Jl,Ji];have hw:=s.w;rw[wO]at hw;refine Zi hw ?_;refine Eg (nx:=gnx q) (.mk' _ _ _ _) rfl (Do H1 q false).x fun H2 hu=>?_;have s:NSt q os zb n R wl cy ids F nx cs (XU os zb U) H2:=⟨s.t.aw hu,s.c⟩;rw[Qm];simp only[go_sem,Qhp];refine CN (ns:=Am (gnx q) (v:Int) q.blocks.length) (.mk' _ _ _ _) rfl fun r hr=>?_;have qv:(b:Int)∈Am (gnx q) (v:Int) q.blocks.length:=by
    simp only[Am,Jr,Jab,Jv];refine⟨b,⟨hq,List.contains_iff_mem.2 ?_⟩,rfl⟩;rw[DX hq,lw,←hv];exact mM
   obtain⟨a,ra,dM⟩:∃a:Nat,r=(a:Int)∧a<(Am (gnx q) (v:Int) q.blocks.length).length:=by
    rcases hr with ⟨_,hn⟩|⟨a,h1,h2,_⟩
    ·exact absurd qv hn
    ·exact⟨a,h1,h2⟩
   subst ra;clear hr;simp only[go_sem,Qho];obtain⟨bQ,_,qe,qR,oh,hvp,_⟩:=c.get mL;obtain⟨o',eQ⟩:∃o',os[v]=o':=⟨_,rfl⟩;obtain⟨y',iM⟩:∃y',q.blocks[v]=y':=⟨_,rfl⟩;rw[eQ,iM]at qe;rw[eQ]at qR hvp;rw[iM]at oh;have hyl':y'.aa.length=o'.aa.length:=by rw[←qe];simp[OBlk.d]
   refine Za ?_;refine Qd (Qw (fun m e1 H1=>∃(k:Nat),m=o'.aa.length-k∧k≤o'.aa.length∧NSt q os zb n R wl cy ids F nx cs (XU os zb U) H1∧lk 0 e1=.c (.ptr wl 0)∧lk 1 e1=.c (.int .i64 b)∧lk 2 e1=.c (.af cy 1 0 R)∧lk 6 e1=.c (.ep (.af zb 5 0 n) 5 b 0)∧lk 12 e1=.c (.int .i64 i)∧
    lk 13 e1=.c (.int .i64 v)∧lk 14 e1=.c (.int .i64 a)∧lk 15 e1=.c (.int .i64 k)) o'.aa.length ?_ ?_)
   ·exact⟨0,Zx,Zx,s,rfl,rfl,rfl,rfl,rfl,rfl,rfl,rfl⟩
   ·clear s hw cp bt b9 bm m8 b7 ce ja aT tn l0 l1 l2 l6 l12;rintro m2 e2 H3 ⟨k,eo,fA,s,l0,l1,l2,l6,l12,l13,l14,l15⟩;have hw:=s.w;rw[wO]at hw;refine Q1 (Qa ?_);simp only[go_sem,l0,l1,l2,l6,l12,l13,l14,l15,hw,qQ,Qm,Q9 _ _ qQ,BlkD.cells,iM,Q7];try intro _
    refine Wu ?_ ?_
    ·intro aC;have aT:k<y'.aa.length:=ZC;have bk:k<o'.aa.length:=Zx;obtain⟨z,ib,dH⟩:=OBlk.phZ qR bk;obtain⟨RW,j,on,cp,bt,b9,bm,_,_⟩:=AO s.t c mL bQ eQ;obtain⟨_,_,hpw',hiw'⟩:=Cn s.t c bQ eQ;rw[ib]at bm;obtain⟨PR,to,ya,hz,sO,tR,qz,dZ,xo,_⟩:=rdPh s.t c bQ eQ dH bk;obtain⟨p,hp⟩:∃p,y'.aa[k]=p:=⟨_,rfl⟩;have gk:p∈y'.aa:=(by rw[←hp];exact Jc aT);have vq:p.args=o'.aa[k].ns:=by
      have h1:(o'.aa.map OPhi.d)[k]? = some o'.aa[k].d:=(by simp[bk]);have h2:o'.aa.map OPhi.d=y'.aa:=(by rw[←qe];rfl);rw[h2,Jh aT,hp]at h1;rw[Ja0 h1];rfl
     have rx:=oh.pal p gk;have j4:a<p.args.length:=Zx;have lX:o'.aa[k].ns.length=p.args.length:=(by rw[vq]);have qH:(ya,Obj.vec 1 (Qb o'.aa[k].ns))∈LGo os zb:=LGo.of bQ (by rw[eQ];exact OBlk.phM dZ);obtain⟨ns',m8,ce,_,fP⟩:=D4 (s.t.get qH);rw[lX]at qz ce;have rE:∀r,¬XU os zb U ya r:=fun r=>ap.ph bQ (p:=(ya,Obj.vec 1 (Qb o'.aa[k].ns))) (by rw[eQ];exact dZ) r;have b7:(Qb ns').take p.args.length=Qb ns':=Jf ZO;have han:a<ns'.length:=Zx;obtain⟨hu,mU⟩:=(oh.pargs p gk _ (GH j4)).nat;rw[c.hR]at mU;have jx:=s.cu;have nB:=s.ct;generalize hr:(p.args.getD a 0).toNat=r at *;have ef:r<cs.length:=(by rw[s.c];exact mU);refine Zd ?_
     refine Wr ?_;simp only[go_sem,hw,qQ,mL,Qm,Q9 _ _ qQ,BlkD.cells,iM,Q7,aT,BL _ _ aT,PhiD.cells,hp,cp,bt,b9,bm,hz,sO,tR,qz,bk,m8,Qf,ce,j4,Qn _ _ j4,Qn _ _ han,hu,mU,jx,nB,s.c,Qn _ _ ef,Ds,Jl,Ji];intro H4 h4;have s:NSt q os zb n R wl cy ids F nx cs (XU os zb U) H4:=⟨Ia s.t qH fP (by rw[lX];exact j4) _ h4 (fun m' r' _ hh=>hh) (rE a),s.c⟩;refine Zh ?_;refine⟨Qr,?_⟩;show ∃m,_;exact⟨o'.aa.length-(k+1),Zx,k+1,rfl,Zx,s,rfl,rfl,rfl,rfl,rfl,rfl,rfl,rfl⟩
    ·intro _;refine Zc ?_;refine Zh ?_;refine⟨Qr,?_⟩;show ∃m,_;exact⟨o.nx.ns.length-(i+1),Zx,i+1,rfl,Zx,s,rfl,rfl,rfl,rfl,rfl⟩
  ·intro _;refine Zc ?_;exact h _ _ s ⟨rfl,rfl,rfl,rfl⟩
end Go.AE.Y
namespace Go.AE.Y
attribute [local go_sem] cond_true cond_false Bool.not_true Bool.not_false
attribute [local instance] Classical.propDecidable
open Go.Proofs.Tryz
variable {H H' F:Heap}{K:V→Heap→Prop}{q:CodeD}{os:List OBlk}{zb wl cy R n b:Nat}{ids:List Int}{nx:Int}{cs:List Int}
def wgt (os:List OBlk)(x:Nat):Nat:=match os[x]? with
 |some o=>o.aa.length+o.ins.length
 |none=>0
theorem Qb2x {x:Nat}{o:OBlk}(h:x<os.length)(ho:os[x]=o):wgt os x=o.aa.length+o.ins.length:=by simp[wgt,h,ho]
theorem X3 {n:Nat}{g:Nat→List Nat}{b:Nat}:depL n g b≤n:=by
 have:=Jar (fun a=>domB g a b) (List.range n);simpa[depL]using this
theorem Qa86 (ids:List Int)(b:Nat):(BI ids b).Nodup:=List.Nodup.sublist Jbm List.nodup_range
theorem Qbjp {N B:Nat}{w:Nat→Nat}(hw:∀x,w x≤B)(U:Nat→Prop):potW N w U≤N * B:=by
 have key:∀m,(((List.range m).filter fun x=>decide (U x)).map w).sum≤m * B:=fun m=>by
  induction m with
  |zero=>simp
  |succ m ih=>
   rw[Jaz,Jay,Jn,List.sum_append,Jbt];have h1:(((List.filter (fun x=>decide (U x)) [m]).map w)).sum≤B:=by
    by_cases h:U m
    ·simp[h];exact hw m
    ·simp[h]
   omega
 exact key N
noncomputable def pW (n:Nat)(w:Nat→Nat)(U:Nat→Prop):Nat:=@potW n w U fun _=>Classical.propDecidable _
theorem Qb14 {w:Nat→Nat}{U V:Nat→Prop}{b:Nat}(hb:b<n)(hU:U b)(hV:∀x,V x↔U x∧x≠b):pW n w V+w b=pW n w U:=by
 unfold pW;exact YS hb hU hV
theorem KC {w:Nat→Nat}{U V:Nat→Prop}(h:∀x,V x→U x):pW n w V≤pW n w U:=by
 unfold pW;exact Xb h
theorem YX {N B:Nat}{w:Nat→Nat}(hw:∀x,w x≤B)(U:Nat→Prop):pW N w U≤N * B:=by
 unfold pW;exact Qbjp hw U
set_option maxHeartbeats 8000000 in
theorem VD (c:NC q os zb R n ids)(M:Int)(hM:M≤2 ^ 40):∀(N b:Nat) (U:Nat→Prop) (nx:Int) (cs:List Int) (cy:Nat) (H:Heap) (K:V→Heap→Prop),n<N+depL n (nxN (gnx q)) b→b<n→(∀x,Sub ids b x→U x)→NSt q os zb n R wl cy ids H nx cs (XU os zb U) H→0≤nx→nx+pW n (wgt os) U≤M→
  (∀nx' cs' H',NSt q os zb n R wl cy ids H nx' cs' (XU os zb fun x=>U x∧¬Sub ids b x) H'→0≤nx'→nx'+pW n (wgt os) (fun x=>U x∧¬Sub ids b x)≤M→K (.tup []) H')→
  Qs prog Sz [.c (.ptr wl 0),.c (.int .i64 b),.c (.af cy 1 0 R)] H K:=by
 intro N
 induction N with
 |zero=>intro b U nx cs cy H K h1;have:=X3 (n:=n) (g:=nxN (gnx q)) (b:=b);omega
 |succ N ih=>
  intro b U nx cs cy H K hN hb zk s h0 vp hK;obtain⟨hl,hq,hd,au,cD,dH,ck⟩:=c.get hb;obtain⟨o,ho⟩:∃o,os[b]=o:=⟨_,rfl⟩;obtain⟨y,hy⟩:∃y,q.blocks[b]=y:=⟨_,rfl⟩;rw[ho]at hd au dH ck;rw[hy]at hd cD;have ap:Apart os zb:=s.t.nodup;have tP:U b:=zk b .refl;obtain⟨U1,sK⟩:∃U1:Nat→Prop,U1=fun x=>U x∧x≠b:=⟨_,rfl⟩;have sI:¬U1 b:=by rw[sK];exact fun h=>h.2 rfl
  have hpo:=Qb14 (n:=n) (w:=wgt os) (U:=U) (V:=U1) hb tP (fun x=>by rw[sK]);rw[Qb2x hl ho]at hpo;have s1:NSt q os zb n R wl cy ids H nx cs (XC os zb U1 o b true 0 0) H:=by
   refine⟨?_,s.c⟩;refine s.t.weak fun m r hh=>?_;rcases hh with (h|⟨x,hx,qx,he⟩)|⟨_,h1,h2⟩|⟨p,hp,h1,_⟩|⟨i',bO,h1,_⟩
   ·exact .inl h
   ·rw[sK]at qx;exact .inr ⟨x,hx,qx.1,he⟩
   ·exact .inr ⟨b,hl,tP,.inl ⟨h1,h2⟩⟩
   ·exact .inr ⟨b,hl,tP,.inr ⟨p,by rw[ho];exact Je _ hp,h1⟩⟩
   ·exact .inr ⟨b,hl,tP,.inr ⟨_,by rw[ho];exact Jk _ (o.aM bO),h1⟩⟩
  have xq:∀p∈o.phN,∀r,¬XC os zb U1 o b true 0 0 p.1 r:=fun p hp r hh=>by
   have cg:p∈os[b].phN:=by rw[ho];exact hp
   rcases hh with h|h
   ·exact ap.ph hl cg r h
   ·exact ap.phP hl hl cg true 0 0 r (by rw[ho];exact h)
  clear s;refine Qc Ab Qadi ?_;have hw:=s1.w;rw[wO]at hw;obtain⟨RW,j,on,cp,bt,b9,bm,_,_⟩:=AO s1.t c hb hl ho;refine Qa ?_;simp only[go_sem,hw,cp,bt,hb,Jl,Ji];refine phA c hb hl ho xq s1 ⟨rfl,rfl,rfl,rfl⟩ h0 Zx Zx fun e2 H2 s2 k2=>?_;refine phB c hb hl ho hd hq hy s2 k2 Zx fun e3 H3 cs3 s3 k3=>?_;refine phC c hb hl ho hd hq hy sI s3 k3 Zx Zx Zx fun e4 H4 nx4 cs4 dk jr s4 k4=>?_;refine phD c hb hl ho hd hq hy sI s4 k4 fun e5 H5 s5 k5=>?_;refine phE c hb hl ho hd hq hy s5 k5 fun e6 H6 s6 k6=>?_;obtain⟨l0,l1,l2,l6⟩:=k6;have hw:=s6.w;rw[wO]at hw;refine Zp l0 l1 hw ?_;refine Qbn1 (by rw[c.t.1];have:=c.ok.b1;rw[c.hn]at this;omega) fun H7 hu=>?_;have s7:NSt q os zb n R wl cy ids H nx4 cs4 (XU os zb U1) H7:=⟨s6.t.aw hu,s6.c⟩;simp only[go_sem,Qhq,l0,l2];obtain⟨kl,cO⟩:∃kl,BI ids b=kl:=⟨_,rfl⟩;rw[cO];have hkll:kl.length≤160:=by
   have h1:=Jar (fun i=>decide (ids.getD i 0=(b:Int))) (List.range ids.length);rw[Ja2,c.t.1]at h1;have h2:=c.ok.b1;rw[c.hn]at h2;rw[←cO,BI,c.t.1];omega
  have rO:∀k∈kl,k∈BI ids b:=fun k hk=>by rw[cO];exact hk
  have wj:kl.Nodup:=by rw[←cO];exact Qa86 ids b
  refine Za ?_;refine Qd (Qw (fun m e1 H1=>∃(i:Nat) (nx':Int) (cs:List Int),m=kl.length-i∧i≤kl.length∧NSt q os zb n R wl cy ids H nx' cs (XU os zb fun x=>U1 x∧∀k∈kl.take i,¬Sub ids k x) H1∧0≤nx'∧nx'+pW n (wgt os) (fun x=>U1 x∧∀k∈kl.take i,¬Sub ids k x)≤M∧
   lk 0 e1=.c (.ptr wl 0)∧lk 2 e1=.c (.af cy 1 0 R)∧lk 16 e1=.c (.sl false 1 (Q5 kl))∧lk 17 e1=.c (.int .i64 i)) kl.length ?_ ?_)
  ·refine⟨0,nx4,cs4,Zx,Zx,⟨s7.t.weak fun m r hh=>?_,s7.c⟩,Zx,?_,rfl,rfl,rfl,rfl⟩
   ·rcases hh with h|⟨x,hx,qx,he⟩
    ·exact .inl h
    ·exact .inr ⟨x,hx,qx.1,he⟩
   ·have:=KC (n:=n) (w:=wgt os) (U:=U1) (V:=fun x=>U1 x∧∀k∈kl.take 0,¬Sub ids k x) fun x hx=>hx.1;omega
  ·clear hw cp bt b9 bm s1 s6 s7 hu l0 l1 l2 l6;rintro m e7 H8 ⟨i,nx',cs,hm,hi,s,cC,mZ,l0,l2,l16,l17⟩;refine Q1 (Qa ?_);simp only[go_sem,l0,l2,l16,l17,Qz];try intro _
   refine Wu ?_ ?_
   ·intro hc;have ae:i<kl.length:=ZA;obtain⟨k,hk⟩:∃k,kl[i]=k:=⟨_,rfl⟩;have iV:k∈BI ids b:=rO k ZaR;have bG:kl.getD i 0=k:=(by simp[Jb,ae,hk]);have pb:=kidsL_mem.1 iV;have md:k<n:=(by rw[←c.t.1];exact pb.1);have hdep:=(c.t.up pb.1 pb.2).2;have jx:=s.cu;refine Zd ?_
    refine Wr ?_;simp only[go_sem,ae,Qz,AU _ _ ae,bG,jx,s.ct,s.cl,Jam,Jm,Jbl,Jl,Ji];refine⟨.inl trivial,Qq _,by have h1:=c.ok.r1;have h2:=c.ok.r0;have:=c.hR;simp only[LIM];omega,fun z hz H9 h9=>?_⟩;have t9:=s.t.al hz h9;simp only[go_sem,Qhr,ae,Qz,AU _ _ ae,bG];have o6:Ty (LGo os zb) H9 [(wl,wO q ids zb n nx'),(z,.vec 1 (Qb cs))] (XU os zb fun x=>U1 x∧∀k∈kl.take i,¬Sub ids k x) H9 []:=Ty.sub (L:=[]) t9;refine ih k (fun x=>U1 x∧∀k∈kl.take i,¬Sub ids k x) nx' cs z H9 _ Zx md (fun x hx=>?_) ⟨o6,s.c⟩ cC mZ fun nx2 cs2 H10 s10 vL rq=>?_
    ·refine⟨?_,fun k' kC gJ=>?_⟩
     ·rw[sK];refine⟨zk x (Sub.kid iV hx),fun qJ=>?_⟩;subst qJ;exact Sub.kid_ne c.t iV hx
     ·have hk'm:k'∈kl:=Jbk kC;have:=Sub.kids_apart c.t (rO k' hk'm) iV gJ hx;subst this;rw[←hk]at kC;exact IX wj ae kC
    have xt:∀x,(U1 x∧∀k∈kl.take (i+1),¬Sub ids k x)↔((U1 x∧∀k∈kl.take i,¬Sub ids k x)∧¬Sub ids k x):=fun x=>by
     rw[Jg ae,hk];constructor
     ·rintro⟨g1,g2⟩;exact⟨⟨g1,fun k' kC=>g2 k' (Jk _ kC)⟩,g2 k (Je _ Zz)⟩
     ·rintro⟨⟨g1,g2⟩,g3⟩;refine⟨g1,fun k' kC=>?_⟩;rcases Jq.1 kC with h|h
      ·exact g2 k' h
      ·simp only[Ja]at h;rw[h];exact g3
    have yO:(fun x=>U1 x∧∀k∈kl.take (i+1),¬Sub ids k x)=fun x=>(U1 x∧∀k∈kl.take i,¬Sub ids k x)∧¬Sub ids k x:=funext fun x=>propext (xt x);have t11:=Ty.ret (L:=[]) t9 s10.t;refine Zh ?_;refine⟨Qr,?_⟩;show ∃m,_;refine⟨kl.length-(i+1),Zx,i+1,nx2,cs,rfl,Zx,?_,vL,?_,rfl,rfl,rfl,rfl⟩
    ·rw[yO];exact⟨t11,s.c⟩
    ·rw[yO];exact rq
   ·intro hc;have mg:i=kl.length:=(by have:kl.length≤i:=(by simpa using hc);omega);subst mg;rw[Ja6]at s mZ;refine Qu ?_;simp only[go_sem,X.next,Q6,Aa,Qpi,J1,false_imp_iff,implies_true,Jbr];have iP:∀x,(U x∧¬Sub ids b x)→(U1 x∧∀k∈kl,¬Sub ids k x):=fun x hx=>by
     refine⟨by rw[sK];exact⟨hx.1,fun qJ=>hx.2 (by rw[qJ];exact .refl)⟩,fun k hk hs=>hx.2 (Sub.kid (rO k hk) hs)⟩
    refine hK nx' cs H8 ⟨s.t.weak fun m r hh=>?_,s.c⟩ cC ?_
    ·rcases hh with h|⟨x,hx,qx,he⟩
     ·exact .inl h
     ·exact .inr ⟨x,hx,iP x qx,he⟩
    ·have:=KC (n:=n) (w:=wgt os) iP;omega
theorem LGo.vec {zb:Nat}(au:∀b∈os,b.ok)(b8:∀b∈os,∀p∈b.aa,p.own):∀p∈LGo os zb,∃sz rows,p.2=.vec sz rows:=fun p hp=>by
 rcases Jq.1 hp with hp|hp
 ·obtain⟨o,ho,hp⟩:=Jt.1 hp;have h1:=au o ho;simp only[OBlk.lg,Jq]at hp;rcases hp with hp|hp|hp|hp|hp
  ·simp only[OInts.lg,Ja]at hp;rw[hp];exact⟨_,_,rfl⟩
  ·obtain⟨x,hx,hp⟩:=Jt.1 hp;obtain⟨y,_,e⟩:=b8 o ho x hx;rw[e]at hp;simp only[Ja]at hp;rw[hp];exact⟨_,_,rfl⟩
  ·rcases h1.p with ⟨_,_,e⟩|⟨y,_,e⟩
   ·rw[e]at hp;simp at hp
   ·rw[e]at hp;simp only[Ja]at hp;rw[hp];exact⟨_,_,rfl⟩
  ·obtain⟨x,hx,hp⟩:=Jt.1 hp;simp only[OIns.lg,OInts.lg,Ja]at hp;rw[hp];exact⟨_,_,rfl⟩
  ·rcases h1.i with ⟨_,_,e⟩|⟨y,_,e⟩
   ·rw[e]at hp;simp at hp
   ·rw[e]at hp;simp only[Ja]at hp;rw[hp];exact⟨_,_,rfl⟩
 ·simp only[Ja]at hp;rw[hp];exact⟨_,_,rfl⟩
theorem Y6 {LG E0:List (Nat×Obj)}{Z:Nat→Nat→Prop}(hv:∀p∈LG,∃sz rows,p.2=.vec sz rows)(kn:Kn H H (E0++LG) []):Ty LG H E0 Z H []:=by
 refine⟨LG,rfl,fun p hp ob bn=>?_,kn⟩;have hd:=kn.dE;rw[Jn]at hd;have cr:=(Jw.1 hd).2.1;obtain⟨i1,g1⟩:=Jak hp;obtain⟨i2,g2⟩:=Jak bn;have:=BZ cr g1 g2 rfl;subst this;rw[g1]at g2;have e:p.2=ob:=by rw[Ja0 g2]
 obtain⟨sz,rows,h⟩:=hv p hp;rw[←e,h];exact .same _ _
theorem F4 {S:Nat→Bool}{Z:Nat→Prop}{m k:Nat}{ns:List Int}(hs:SimO Z (.vec 1 (Qb ns)) (H m))(hS:S m=true)(hk:k=ns.length):∃ns':List Int,ns'.length=ns.length∧FrzC H S (.af m 1 0 k) (.sl false 1 (Qb ns')):=by
 obtain⟨ns',h1,h2,_⟩:=D4 (X:=fun _=>Z) (m:=m) hs;exact⟨ns',h2,(FrzR.same (Qq _)).af hS h1 ZO⟩
theorem DR {β:Type}{S:Nat→Bool}{g:β→List C}{P:β→Prop}:∀(l:List (List C)),(∀r∈l,∃y,FrzL H S r (g y)∧P y)→∃l':List β,FrzR H S l (l'.map g)∧l'.length=l.length∧∀y∈l',P y
 |[],_=>⟨[],.nil,rfl,Zz⟩
 |x::l,h=>by
  obtain⟨y,hy,hp⟩:=h x Jac;obtain⟨l',du,hn,i7⟩:=DR l fun z hz=>h z (Jad _ hz);refine⟨y::l',.cons hy du,ZaG,fun z hz=>?_⟩;rcases Jy.1 hz with rfl|hz
  ·exact hp
  ·exact i7 z hz
theorem EM {l:List (List C)}{r:List C}(h:r∈l):∃i,i<l.length∧l.getD i []=r:=by
 obtain⟨i,hi,rfl⟩:=Js.1 h;exact⟨i,hi,Za1⟩
theorem Qbss {S:Nat→Bool}{Z:Nat→Nat→Prop}{o:OBlk}(au:o.ok)(b8:∀p∈o.aa,p.own)(hs:∀p∈o.phN,SimO (Z p.1) p.2 (H p.1)∧S p.1=true):∃ps:List PhiD,FrzC H S o.pc (.sl false 2 (Ae ps))∧ps.length=o.aa.length:=by
 rcases au.p with ⟨h1,h2,_⟩|⟨z,h1,h2⟩
 ·have h0:o.aa=[]:=Jbn.1 h2;exact⟨[],by rw[h1];exact FrzR.nil.sl,by simp[h0]⟩
 ·obtain⟨hz,xz⟩:=hs (z,.vec 2 (o.aa.map OPhi.row)) (Je _ ZZ);obtain⟨PR,g1,g2,g3⟩:=hz.get;rw[Jd]at g2 g3;obtain⟨ps,e1,e2,_⟩:=DR (H:=H) (S:=S) (g:=PhiD.cells) (P:=fun _=>True) PR fun r hr=>by
   obtain⟨i,hi,he⟩:=EM hr;have bO:i<o.aa.length:=Zx
   obtain⟨h4,_⟩:=g3 i bO;obtain⟨ya,e3,e4⟩:=b8 _ (Jc bO);have hg:(o.aa.map OPhi.row).getD i []=[.int .i64 o.aa[i].to,.af ya 1 0 o.aa[i].ns.length]:=by
    simp only[Jb,J2,Jh bO,J5,Ju,OPhi.row,e3]
   rw[hg,he]at h4;have dZ:=hs (ya,.vec 1 (Qb o.aa[i].ns)) (Jk _ (Jt.2 ⟨_,Jc bO,by rw[e4];simp⟩));obtain⟨ns',_,eS⟩:=F4 dZ.1 dZ.2 rfl
   cases h4 with
   |cons a1 t1=>cases t1 with
    |cons a2 t2=>cases t2 with
     |nil=>
      obtain⟨v,e⟩:=a1.int;have e5:=a2.af;subst e;subst e5;exact⟨⟨v,ns'⟩,.cons (Qg rfl) (.cons eS .nil),trivial⟩
  exact⟨ps,by rw[h1];exact e1.af xz g1 (by rw[Jd,g2]),Zx⟩
theorem XK {S:Nat→Bool}{Z:Nat→Nat→Prop}{o:OBlk}(au:o.ok)(hs:∀p∈o.inN,SimO (Z p.1) p.2 (H p.1)∧S p.1=true):∃is:List InsD,FrzC H S o.ic (.sl false 4 (Af is))∧is.length=o.ins.length:=by
 rcases au.i with ⟨h1,h2,_⟩|⟨z,h1,h2⟩
 ·have h0:o.ins=[]:=Jbn.1 h2;exact⟨[],by rw[h1];exact FrzR.nil.sl,by simp[h0]⟩
 ·obtain⟨hz,xz⟩:=hs (z,.vec 4 (o.ins.map OIns.row)) (Je _ ZZ);obtain⟨PR,g1,g2,g3⟩:=hz.get;rw[Jd]at g2 g3;obtain⟨ps,e1,e2,_⟩:=DR (H:=H) (S:=S) (g:=InsD.cells) (P:=fun _=>True) PR fun r hr=>by
   obtain⟨i,hi,he⟩:=EM hr;have bO:i<o.ins.length:=Zx
   obtain⟨h4,_⟩:=g3 i bO;have hg:(o.ins.map OIns.row).getD i []=[.int .i64 o.ins[i].op,.int .i64 o.ins[i].to,.af o.ins[i].a.y 1 0 o.ins[i].a.ns.length,.int .i64 o.ins[i].n]:=by
    simp only[Jb,J2,Jh bO,J5,Ju];rfl
   rw[hg,he]at h4;have dZ:=hs (o.ins[i].a.y,.vec 1 (Qb o.ins[i].a.ns)) (Jk _ (o.aM bO));obtain⟨ns',_,eS⟩:=F4 dZ.1 dZ.2 rfl
   cases h4 with
   |cons a1 t1=>cases t1 with
    |cons a2 t2=>cases t2 with
     |cons a3 t3=>cases t3 with
      |cons a4 t4=>cases t4 with
       |nil=>
        obtain⟨v1,f1⟩:=a1.int;obtain⟨v2,f2⟩:=a2.int;have f3:=a3.af;obtain⟨v4,f4⟩:=a4.int;subst f1;subst f2;subst f3;subst f4;exact⟨⟨v1,v2,ns',v4⟩,.cons (Qg rfl) (.cons (Qg rfl) (.cons eS (.cons (Qg rfl) .nil))),trivial⟩
  exact⟨ps,by rw[h1];exact e1.af xz g1 (by rw[Jd,g2]),Zx⟩
theorem Qbsr {S:Nat→Bool}{Z:Nat→Nat→Prop}(c:NC q os zb R n ids)(t:∀p∈LGo os zb,SimO (Z p.1) p.2 (H p.1))(hS:∀p∈LGo os zb,S p.1=true) :
  ∃bs:List BlkD,FrzC H S (.af zb 5 0 n) (.sl false 5 (Qo bs))∧bs.length=n∧∀y∈bs,y.ins.length≤1200∧y.aa.length≤1200:=by
 have hs:=t _ LGo.zbm;obtain⟨RW,h1,h2,h3⟩:=hs.get;rw[Jd,c.l]at h2;obtain⟨bs,e1,e2,e3⟩:=DR (H:=H) (S:=S) (g:=BlkD.cells) (P:=fun y=>y.ins.length≤1200∧y.aa.length≤1200) RW fun r hr=>by
  obtain⟨x,hx,he⟩:=EM hr;have qc:x<n:=Zx
  obtain⟨hl,hq,hd,au,cD,dH,ck⟩:=c.get qc;obtain⟨RW',j,on,g1,g2,_,g4,_,_⟩:=I3 hs c qc hl rfl;rw[h1]at g1;cases g1;rw[g4]at he;subst he;have oz:∀p∈os[x].lg,SimO (Z p.1) p.2 (H p.1)∧S p.1=true:=fun p hp=>⟨t p (LGo.of hl hp),hS p (LGo.of hl hp)⟩;obtain⟨ps,p1,p2⟩:=Qbss (H:=H) (S:=S) (Z:=Z) au (c.ow _ (Jc hl)) fun p hp=>oz p (OBlk.phM hp);obtain⟨is,i1,i2⟩:=XK (H:=H) (S:=S) (Z:=Z) au fun p hp=>oz p (OBlk.inM hp);have eW:=oz _ os[x].nxM;obtain⟨ns',_,n2⟩:=F4 eW.1 eW.2 rfl;exact⟨⟨ps,is,j,on,ns'⟩,.cons p1 (.cons i1 (.cons (Qg rfl) (.cons (Qg rfl) (.cons n2 .nil)))),by show is.length≤_;omega,by show ps.length≤_;omega⟩
 exact⟨bs,e1.af (hS _ LGo.zbm) h1 Zx,Zx,e3⟩
set_option maxHeartbeats 8000000 in
theorem Qa9a {q:CodeD}(ho:q.ok)(eV:0≤q.params)(lp:q.params≤q.ab)(h9:∀y∈q.blocks,y.ins.length≤900∧y.aa.length≤900)(hK:∀(d:CodeD) H',d.fits→Upd H H' []→K (.ag d.cells) H') :
  Qs prog SQ [.ag [.int .i64 q.params,.int .i64 q.ab,.sl false 5 (Qo q.blocks)]] H K:=by
 refine Qx ?_;refine Qc Ab Qa9j ?_;refine Za ?_;intro x2 aI H1 h1;have kn:=(Kn.aq H).al aI h1;refine Za ?_;refine Qbi6 ho eV h9 fun d1 H2 d9 qk cG h9d hu=>?_;have kn:=kn.aw hu;simp only[go_sem,Qz9,CodeD.cells];refine Qbn6 d9 h9d fun d2 H3 dF fz eE hu=>?_;have kn:=kn.aw hu;have hp:d2.params=q.params:=fz.trans qk;have hr:d2.ab=q.ab:=eE.trans cG;simp only[go_sem,Qz8,CodeD.cells];intro x3 aP H4 h4;have kn:=kn.al aP h4;have aP:=kn.l 1 rfl;simp only[go_sem,Qz7,aP];intro H5 h5;have kn:Kn H H5 [] [(x2,.st [.int .i64 0,.int .i64 0,.sl true 5 []]),(x3,.st [.int .i64 d2.params,.int .i64 d2.ab,.sl false 5 (Qo d2.blocks)])]:=kn.aB 1 rfl h5;have aP:=kn.l 1 rfl;have eH:=dF.b0;have bj:=dF.b1;have hrr0:=dF.r0;have hrr1:=dF.r1;refine Aj ?_;simp only[go_sem,aP];refine DQ dF.sg fun o H6 k2 au eN b8=>?_;have kn:=kn.comp0 k2;obtain⟨n,hn⟩:∃n,d2.blocks.length=n:=⟨_,rfl⟩;have em:o.blocks.length=n:=by rw[←hn,←eN];simp[OCode.d]
 obtain⟨zb,dv,bB⟩:∃z,o.bc=.af z 5 0 n∧o.bl=[(z,.vec 5 (o.blocks.map OBlk.row))]:=by
  rcases au.b with ⟨_,h,_⟩|⟨y,h1,h2⟩
  ·have:=congrArg List.length h;simp only[Jd,Jm]at this;omega
  ·exact⟨y,by rw[h1,Jd,em],h2⟩
 have aK:o.row=[.int .i64 d2.params,.int .i64 d2.ab,.af zb 5 0 n]:=by
  rw[OCode.row,dv,←eN];rfl
 have tE:o.lg=LGo o.blocks zb:=by rw[OCode.lg,bB];rfl
 have lQ:o.blocks.map OBlk.d=d2.blocks:=Za4
 have lV:=au.bs;rw[tE]at kn;have aP:=kn.l 1 rfl;simp only[go_sem,Q0d,aP];refine KF (rows:=Qo d2.blocks) (nx:=gnx d2) (Gy dF.gd) (by rw[Qm];exact dF.fitB) fun H7 hu=>?_;have kn:=kn.aw hu;have aP:=kn.l 1 rfl;rw[Qm,hn];simp only[go_sem,Q0c,aP];refine Qbi5 Zx Zx fun ids H8 qT hu=>?_;have kn:=kn.aw hu;have aP:=kn.l 1 rfl;rw[aK];simp only[go_sem,Q0b,aP];intro x4 br H9 xO;have kn:=kn.al br xO;have aP:=kn.l 1 rfl;simp only[go_sem,Q0a];obtain⟨R,hR⟩:∃R:Nat,d2.ab.toNat=R:=⟨_,rfl⟩;have sM:d2.ab=(R:Int):=Zx
 refine Zi aP ?_;refine⟨Zx,by simp only[LIM];omega,fun cy fu H10 cS=>?_⟩;rw[Q3c,hR]at cS;have kn:=kn.al fu cS;simp only[go_sem,Q0e,hR];refine Wa ?_;generalize hos0:o.blocks=os at *;have kn:Kn H H10 [] ([(cy,.vec 1 (Qb (List.replicate R 0)))]++([(x2,.st [.int .i64 0,.int .i64 0,.sl true 5 []]),(x3,.st [.int .i64 d2.params,.int .i64 d2.ab,.sl false 5 (Qo d2.blocks)])]++([(x4,wO d2 ids zb n q.params)]++LGo os zb))):=kn.perm (Qj fun f hf h0 hc hp=>by
  have e2:∀(a b:Nat×Obj),f [a,b]=f [a]+f [b]:=fun a b=>hc a [b];simp only[hf,e2,wO];omega)
 refine Qh (Qd (Qw (fun m e1 H1=>∃(r:Nat) (cs:List Int),m=q.params.toNat-r∧(r:Int)≤q.params∧cs.length=R∧
  Kn H H1 [] ([(cy,.vec 1 (Qb cs))]++([(x2,.st [.int .i64 0,.int .i64 0,.sl true 5 []]),(x3,.st [.int .i64 d2.params,.int .i64 d2.ab,.sl false 5 (Qo d2.blocks)])]++([(x4,wO d2 ids zb n q.params)]++LGo os zb)))∧
  lk 1 e1=.c (.pp [.int .i64 q.params,.int .i64 q.ab,.sl false 5 (Qo q.blocks)])∧lk 2 e1=.c (.ptr x2 0)∧lk 4 e1=.c (.ptr x4 0)∧lk 5 e1=.c (.af cy 1 0 R)∧lk 6 e1=.c (.int .i64 r)) q.params.toNat ?_ ?_))
 ·exact⟨0,List.replicate R 0,Zx,eV,Zz,kn,rfl,rfl,rfl,rfl,rfl⟩
 ·clear kn cS;rintro m e1 H11 ⟨r,cs,hm,hrp,cm,kn,l1,l2,l4,l5,l6⟩;refine Q1 (Qa ?_);simp only[go_sem,l1,l2,l4,l5,l6];refine Wu ?_ ?_
  ·intro hc;have ae:(r:Int)<q.params:=ZA
   have yq:r<R:=Zx
   have ef:r<cs.length:=Zx
   have jx:=kn.l 0 rfl;have nB:(Qb cs).take R=Qb cs:=Jf ZO;refine Zd ?_
   refine Wt ?_;simp only[go_sem,jx,Qf,cm,yq,Qn _ _ ef,Ds,Jl,Ji];intro H12 fe;have kn:=kn.aB 0 rfl fe;refine Zh ?_;refine⟨Qr,?_⟩;show ∃m,_;exact⟨q.params.toNat-(r+1),Zx,r+1,_,rfl,Zx,by rw[Jah];exact cm,kn,rfl,rfl,rfl,rfl,Zy⟩
  ·intro hc;refine Zc ?_;have hC:NC d2 os zb R n ids:=⟨dF,hn,hR,em,fun x h h'=>by
    have h1:(os.map OBlk.d)[x]? = some os[x].d:=ZaY;rw[lQ,Jh h']at h1;exact (Ja0 h1).symm,lV,b8,qT⟩
   have kn:Kn H H11 [] ((([(x4,wO d2 ids zb n q.params),(cy,.vec 1 (Qb cs))])++LGo os zb)++[(x2,.st [.int .i64 0,.int .i64 0,.sl true 5 []]),(x3,.st [.int .i64 d2.params,.int .i64 d2.ab,.sl false 5 (Qo d2.blocks)])]):=kn.perm (Qj fun f hf h0 hc hp=>by
    have e2:∀(a b:Nat×Obj),f [a,b]=f [a]+f [b]:=fun a b=>hc a [b];simp only[hf,e2];omega)
   have yj:wgt os=wgt os:=rfl;have mI:∀x,wgt os x≤2400:=fun x=>by
    rw[wgt]
    cases hx:os[x]? with
    |none=>simp
    |some o'=>
     obtain⟨dA,ud⟩:=Jba.1 hx;have qc:x<n:=Zx;obtain⟨_,_,_,_,_,a1,a2⟩:=hC.get qc;rw[ud]at a1 a2;show o'.aa.length+o'.ins.length≤2400;omega
   have tu:=YX (N:=n) mI (fun _=>True);have aL:NSt d2 os zb n R x4 cy ids H11 q.params cs (XU os zb fun _=>True) H11:=⟨Y6 (LGo.vec lV b8) kn.mid,cm⟩;refine Za ?_;refine VD hC (2 ^ 40) (Ja1 _) (n+1) 0 (fun _=>True) q.params cs cy H11 _ Zx Zx (fun _ _=>trivial) aL Zx (by
    have:n * 2400≤160 * 2400:=Ja7 _ Zx;omega) fun nx' cs' H12 s2 cC vp=>?_
   obtain⟨t2,hcl2⟩:=s2;have yd:=Ty.e t2 0 rfl;have ca:=t2;obtain⟨E1,g1,g2,k3⟩:=t2;have kn:=kn.comp k3 (by simp[g1]);have kn:Kn H H12 [] ([(x4,wO d2 ids zb n nx'),(x2,.st [.int .i64 0,.int .i64 0,.sl true 5 []])]++([(x3,.st [.int .i64 d2.params,.int .i64 d2.ab,.sl false 5 (Qo d2.blocks)])]++([(cy,.vec 1 (Qb cs'))]++E1))):=kn.perm (Qj fun f hf h0 hc hp=>by
    have e2:∀(a b:Nat×Obj),f [a,b]=f [a]+f [b]:=fun a b=>hc a [b];simp only[hf,h0,e2];omega)
   rw[wO]at yd;try simp only[go_sem]
   refine Zi yd ?_;intro H13 kY;have kn:=kn.aB 0 rfl kY;have br:=kn.l 0 rfl;have aI:=kn.l 1 rfl;refine Zl br aI ?_;intro H14 dG;have kn:=kn.aB 1 rfl dG;have aI:=kn.l 1 rfl;refine Zg aI ?_;have hE:∀p∈E1,H14 p.1=p.2∧un H p.1=true:=fun p hp=>by
    have hm:p∈([(x4,Obj.st [.int .i64 d2.params,.int .i64 d2.ab,.sl false 5 (Qo d2.blocks),.int .i64 d2.params,.int .i64 nx',.af zb 5 0 n,.sl false 1 (Qb ids),.int .i64 nx']),(x2,.st [.int .i64 d2.params,.int .i64 nx',.af zb 5 0 n])]++([(x3,.st [.int .i64 d2.params,.int .i64 d2.ab,.sl false 5 (Qo d2.blocks)])]++([(cy,.vec 1 (Qb cs'))]++E1)):List (Nat×Obj)):=by
     simp[hp]
    exact⟨(kn.get p (Je _ hm)).1,BN (kn.loc p hm)⟩
   have hty:TT d2 os zb n x4 cy ids H11 nx' cs' (XU os zb fun x=>True∧¬Sub ids 0 x) H12:=ca;have hH:∀p∈LGo os zb,H14 p.1=H12 p.1:=fun p hp=>by
    have h1:p.1∈E1.map Prod.fst:=(by rw[g1];exact A1 hp);obtain⟨p',cg,he⟩:=Jr.1 h1;rw[←he,(hE p' cg).1,(k3.get p' (Jk _ (Je _ cg))).1]
   have hS:∀p∈LGo os zb,un H p.1=true:=fun p hp=>by
    have h1:p.1∈E1.map Prod.fst:=(by rw[g1];exact A1 hp);obtain⟨p',cg,he⟩:=Jr.1 h1;rw[←he];exact (hE p' cg).2
   have uM:∀p∈LGo os zb,SimO (XU os zb (fun x=>True∧¬Sub ids 0 x) p.1) p.2 (H14 p.1):=fun p hp=>by
    rw[hH p hp];exact Ty.get hty hp
   obtain⟨bs,b1,b2,b3⟩:=Qbsr (S:=un H) hC uM hS;exact⟨_,FrzL.ag (.cons (Qg rfl) (.cons (Qg rfl) (.cons b1 .nil))),hK ⟨d2.params,nx',bs⟩ _ (fun y hy=>by have:=b3 y hy;exact⟨Zx,Zx⟩) kn.fin⟩
end Go.AE.Y
namespace Go.AE.Y
attribute [local go_sem] cond_true cond_false Bool.not_true Bool.not_false
attribute [local instance] Classical.propDecidable
open Go.Proofs.Tryz
variable {H H0:Heap}{K:V→Heap→Prop}{E B Lg:List (Nat×Obj)}{q:CodeD}
theorem Qbs1 {S:Nat→Bool}(q:CodeD):FrzV H S (.ag q.cells) (.ag q.cells):=FrzL.ag (.cons (.same _ rfl) (.cons (.same _ rfl) (.cons (.same _ rfl) .nil)))
structure CodeD.sgl (q:CodeD):Prop where
 ok:q.ok
 p0:0≤q.params
 pr:q.params≤q.ab
 h9:∀y∈q.blocks,y.ins.length≤900∧y.aa.length≤900
theorem Y5 {cs:List CodeD}(h:Ah cs=true){c:CodeD}(hc:c∈cs):c.sgl:=by
 obtain⟨k,hk,rfl⟩:=Js.1 hc;have ho:=DY h hk;obtain⟨_,h2,h3⟩:=of_decide_eq_true h;obtain⟨g1,g2⟩:=h2 k hk;simp only[B6,Jai,decide_eq_true_eq]at g1;refine⟨ho,Zx,Zx,fun y hy=>?_⟩;have a1:=DP (f:=AH) (Jc hk);have a2:=DP (f:=AF) hy;simp only[AH,AF]at *;omega
set_option maxHeartbeats 2000000 in
theorem Qbn0 (hq:q.sgl)(hK:∀(d:CodeD) H',d.fits→Upd H H' []→K (.ag d.cells) H') :
  Qs prog Q6t [.ag [.int .i64 q.params,.int .i64 q.ab,.sl false 5 (Qo q.blocks)],.c (.str [115,105,110,103,108,101])] H K:=by
 refine Qx ?_;refine Qc Ab Qboq ?_;refine Za ?_;intro x4 br H1 h1;have kn:=(Kn.aq H).al br h1;refine Wa ?_;refine Wi ?_;refine Qe rfl (fun hc=>absurd hc ZK) (fun _=>?_);refine Za ?_;refine Qe rfl (fun hc=>absurd hc ZK) (fun _=>?_);refine Za ?_;refine Qe rfl (fun hc=>absurd hc ZK) (fun _=>?_);refine Za ?_;refine Qe rfl (fun hc=>absurd hc ZK) (fun _=>?_);refine Za ?_;refine Qe rfl (fun _=>?_) (fun hc=>absurd hc ZK);refine Za ?_;refine Qa9a hq.ok hq.p0 hq.pr hq.h9 fun d H2 hd hu=>?_;have kn:=kn.aw hu;have br:=kn.l 0 rfl;simp only[go_sem,OQ,CodeD.cells,br];intro H3 h3;have kn:=kn.aB 0 rfl h3;have br:=kn.l 0 rfl;refine Zg br ?_;exact⟨_,Qbs1 d,hK d _ hd kn.fin⟩
set_option maxHeartbeats 4000000 in
theorem Qbny {cs:List CodeD}{fl:Bool}(aW:∀c∈cs,c.fits)(hK:∀(ds:List CodeD) (b:Bool) H',(b=true→UnitOk ds)→Upd H H' []→K (.tup [.ag [.sl false 3 (Qk ds)],.c (.bool b)]) H') :
  Qs prog Q6r [.ag [.sl fl 3 (Qk cs)],.c (.str [115,105,110,103,108,101])] H K:=by
 refine Qx ?_;refine Qc Ab Qbon ?_;refine Za ?_;intro x4 br H1 h1;have kn:=(Kn.aq H).al br h1;simp only[go_sem,Pe];refine Wa ?_;refine GU aW fun H2 hu=>?_;have kn:=kn.aw hu;simp only[go_sem,Pd];refine Wu ?_ ?_
 ·intro _;have br:=kn.l 0 rfl;refine Zi br ?_;intro H3 h3;have kn:=kn.aB 0 rfl h3;have br:=kn.l 0 rfl;simp only[go_sem,Pc];refine Zt br ?_;refine⟨fun _=>trivial,_,DZ (FrzL.ag (.cons (FrzR.nil.sl) .nil)) (.c _ _ (Qg rfl)),hK [] false _ (fun h=>ZF) kn.fin⟩
 ·intro hc;have hG:Ah cs=true:=AD hc;refine Zd ?_
  refine Za ?_;intro x6 aY H3 h3;have kn:=kn.al aY h3;have aY:=kn.l 1 rfl;simp only[go_sem,Pb,aY];intro H4 h4;have kn:Kn H H4 [] [(x4,.st [.sl true 3 []]),(x6,.st [.sl true 3 []])]:=kn.aB 1 rfl h4;refine Wa ?_;have cm:=(Fj aW hG).1;refine Qh (Qd (Qw (fun m e1 H1=>∃(ds:List CodeD) (t:C) (Lg:List (Nat×Obj)),m=cs.length-ds.length∧ds.length≤cs.length∧(∀d∈ds,d.fits)∧Gr Lg 3 (Qk ds) t∧Kn H H1 [] ([(x4,.st [.sl true 3 []]),(x6,.st [t])]++Lg)∧
   lk 1 e1=.c (.str [115,105,110,103,108,101])∧lk 2 e1=.c (.pp [.sl fl 3 (Qk cs)])∧lk 4 e1=.c (.ptr x4 0)∧lk 6 e1=.c (.ptr x6 0)∧lk 7 e1=.c (.int .i64 ds.length)) cs.length ?_ ?_))
  ·exact⟨[],_,[],Zz,Zz,Zz,.nil 3,ZH,rfl,rfl,rfl,rfl,rfl⟩
  ·clear kn aY;rintro m e1 H5 ⟨ds,t,Lg,hm,pC,iH,ao,kn,l1,l2,l4,l6,l7⟩;have bp:=ao.ah;refine Q1 (Qa ?_);simp only[go_sem,l1,l2,l4,l6,l7,Q0];try intro _
   refine Wu ?_ ?_
   ·intro aC;have ae:ds.length<cs.length:=ZC;have aY:=kn.l 1 rfl;obtain⟨q,hq⟩:∃q,cs[ds.length]=q:=⟨_,rfl⟩;have rh:q.sgl:=Y5 hG (by rw[←hq];exact Jc ae);refine Zd ?_
    refine Wr ?_;simp only[go_sem,aY,bp,ae,Q0,Bc _ _ ae,CodeD.cells,hq];refine Qbn0 rh fun d H6 hd hu=>?_;have kn:=kn.aw hu;have aY:=kn.l 1 rfl;simp only[go_sem,OZ,CodeD.cells,aY,bp];refine kn.bg (new:=Qk [d]) ao (.mk' _ _ _ _) (Dg _) (by simp only[Q0,LIM,Jj,Jm];omega) fun t2 Lg2 H7 bq ca kn=>?_;have aY:=kn.l 1 rfl;simp only[go_sem,Pa,aY];intro H8 h8;have kn:=kn.aB 1 rfl h8;refine Zh ?_;refine⟨Qr,?_⟩;show ∃m,_;refine⟨cs.length-(ds.length+1),Zx,ds++[d],t2,Lg2,Zz,by simp only[Jp,Jj,Jm];omega,fun w hw=>?_,?_,kn,rfl,rfl,rfl,rfl,Zy⟩
    ·rcases Jq.1 hw with hw|hw
     ·exact iH w hw
     ·simp only[Ja]at hw;rw[hw];exact hd
    ·have:Qk (ds++[d])=Qk ds++Qk [d]:=(by simp[Qk]);rw[this];exact bq
   ·intro _;refine Zc ?_;have aY:=kn.l 1 rfl;obtain⟨S,pR,qy,ik,kn⟩:=kn.dh;have jJ:=qy (x6,.st [t]) Zz;have tK:FrzC H5 S t (.sl false 3 (Qk ds)):=Gr.frzM ao pR (FrzR.same (Dg _));have kn:=kn.setL (o':=.st [.sl false 3 (Qk ds)]) 1 rfl Zz;refine c_gh (Et S (CO ?_) (ik.set (o:=.st [.sl false 3 (Qk ds)]) jJ.2 (by rw[jJ.1];exact FrzKL.st (.cons bp tK .nil)))) (e':=[(4,.c (.ptr x4 0)),(6,.c (.ptr x6 0))]) ?_
    ·simp only[Jx];exact⟨.c _ _ (.same _ rfl),.c _ _ (.same _ rfl),Zz⟩
    generalize (H5.frz S).set x6 (Obj.st [C.sl false 3 (Qk ds)])=H6 at *;have aY:=kn.l 1 rfl;have br:=kn.l 0 rfl;clear ik jJ tK pR qy;refine Q1 (Qa ?_);simp only[go_sem,aY];refine GU iH fun H7 hu=>?_;have kn:=kn.aw hu;have aY:=kn.l 1 rfl;have br:=kn.l 0 rfl;simp only[go_sem,Q4n];refine Wu ?_ ?_
    ·intro _;refine Zi br ?_;intro H8 h8;have kn:=kn.aB 0 rfl h8;have br:=kn.l 0 rfl;simp only[go_sem,Q4o];refine Zt br ?_;refine⟨fun _=>trivial,_,DZ (FrzL.ag (.cons (FrzR.nil.sl) .nil)) (.c _ _ (Qg rfl)),hK [] false _ (fun h=>ZF) kn.fin⟩
    ·intro bI;have fH:Ah ds=true:=AD bI;refine Zd ?_
     refine Zl aY br ?_;intro H8 h8;have kn:=kn.aB 0 rfl h8;have br:=kn.l 0 rfl;simp only[go_sem,Q4p];refine Zt br ?_;obtain⟨u1,u2,u3⟩:=Fj iH fH;refine⟨fun _=>trivial,_,DZ (C5 ds) (.c _ _ (Qg rfl)),hK ds true _ (fun _=>⟨u2,u1,u3⟩) kn.fin⟩
theorem Qazc {cs:List CodeD}{fl:Bool}(aW:∀c∈cs,c.fits)(hK:∀(ds:List CodeD) (b:Bool) H',(b=true→UnitOk ds)→Upd H H' []→K (.tup [.ag [.sl false 3 (Qk ds)],.c (.bool b)]) H') :
  Qs prog Vg [.ag [.sl fl 3 (Qk cs)]] H K:=by
 refine Qx ?_;refine Qc Ab Qahq ?_;refine Za ?_;intro x2 aI H1 h1;have kn:=(Kn.aq H).al aI h1;simp only[go_sem,Qk4];refine Za ?_;refine Qbny aW fun ds b H2 hb hu=>?_;have kn:=kn.aw hu;have aI:=kn.l 0 rfl;simp only[go_sem,Qk6,Jag,Jax,aI];intro H3 h3;have kn:=kn.aB 0 rfl h3;have aI:=kn.l 0 rfl;simp only[go_sem,Qk5];refine Zt aI ?_;exact⟨fun _=>trivial,_,DZ (C5 ds) (.c _ _ (Qg rfl)),hK ds b _ hb kn.fin⟩
def oneU:List CodeD:=[⟨0,1,[⟨[],[⟨1,0,[],0⟩],3,0,[]⟩]⟩]
theorem VB:UnitOk oneU:=by
 refine⟨by simp[oneU],by simp[oneU],fun c hc=>?_⟩;simp only[oneU,Ja]at hc;subst hc;refine⟨Zz,Zz,fun y hy=>?_,fun y hy=>?_⟩
 ·simp only[Ja]at hy;subst hy;simp
 ·simp only[Ja]at hy;subst hy;simp
theorem Qbu6 {S:Nat→Bool}:FrzC H S (.sl true 3 [[.int .i64 0,.int .i64 1,.sl true 5 [[.sl true 2 [],.sl true 4 [[.int .i64 1,.int .i64 0,.sl true 1 [],.int .i64 0]],.int .i64 3,.int .i64 0,.sl true 1 []]]]]) (.sl false 3 (Qk oneU)):=
 FrzR.sl (.cons (.cons (Qg rfl) (.cons (Qg rfl) (.cons (FrzR.sl (.cons (.cons FrzR.nil.sl (.cons (FrzR.sl (.cons (.cons (Qg rfl) (.cons (Qg rfl) (.cons FrzR.nil.sl (.cons (Qg rfl) .nil)))) .nil)) (.cons (Qg rfl) (.cons (Qg rfl) (.cons FrzR.nil.sl .nil))))) .nil)) .nil))) .nil)
theorem Qbn5 {R:Rdr}{k:Nat}(hH:H R.l=R.o k)(hk:k+7100000≤2^30)
  (hK:∀(cs:List CodeD) (H':Heap) (k':Nat),k<k'→k'≤k+7050000→Upd H H' [(R.l,R.o k')]→UnitOk cs→K (.ag [.sl false 3 (Qk cs)]) H') :
  Qs prog Q6y [.c (.ptr R.l 0)] H K:=by
 refine Qx ?_;refine Qc Ab Qboy ?_;refine Za ?_;intro x2 aI H1 h1;have kn:=(Kn.start1 hH (R.aj k)).al aI h1;refine Za ?_;refine KG (kn.e 0 rfl) Zx fun cs H3 k2 gu f9 hu au=>?_;have kn:=kn.an 0 rfl hu (R.aj _);simp only[go_sem,Oy];refine Qazc au.fits fun ds b H4 hb hu=>?_;have kn:=kn.aw hu;simp only[go_sem,Oz,Jag,Jax];intro x3 aP H5 h5;have kn:=kn.al aP h5;have aP:=kn.l 1 rfl;simp only[go_sem,O0,aP];intro H6 h6;have kn:=kn.aB 1 rfl h6;have aI:=kn.l 0 rfl;have aP:=kn.l 1 rfl;simp only[go_sem,O1];refine Wa ?_;refine Wu ?_ ?_
 ·intro _;refine Zi aI ?_;intro H7 h7;have kn:=kn.aB 0 rfl h7;have aI:=kn.l 0 rfl;refine Zg aI ?_;exact⟨_,FrzL.ag (.cons Qbu6 .nil),hK oneU _ k2 gu f9 kn.fin VB⟩
 ·intro hc;have mz:b=true:=AD hc;refine Zd ?_
  refine Zl aI aP ?_;intro H7 h7;have kn:=kn.aB 0 rfl h7;have aI:=kn.l 0 rfl;refine Zg aI ?_;exact⟨_,C5 ds,hK ds _ k2 gu f9 kn.fin (hb mz)⟩
theorem Qbn4 {R:Rdr}{k:Nat}(hH:H R.l=R.o k)(hk:k+7300000≤2^30)
  (hK:∀(cs:List CodeD) (H':Heap) (k':Nat),k<k'→k'≤k+7150000→Upd H H' [(R.l,R.o k')]→UnitOk cs→K (.ag [.sl false 3 (Qk cs)]) H') :
  Qs prog Q6x [.c (.ptr R.l 0)] H K:=by
 refine Qx ?_;refine Qc Ab Qbox ?_;refine Za ?_;intro x2 aI H1 h1;have kn:=(Kn.start1 hH (R.aj k)).al aI h1;refine Wa ?_;refine A5 (kn.e 0 rfl) Zx fun v H2 hv hu=>?_;have kn:=kn.an 0 rfl hu (R.aj _);simp only[go_sem,O5];refine Wu ?_ ?_
 ·intro hc;refine Za ?_;refine FP (kn.e 0 rfl) Zx fun cs H3 k2 gu f9 hu au=>?_;have kn:=kn.an 0 rfl hu (R.aj _);have aI:=kn.l 0 rfl;simp only[go_sem,O4,aI];intro H4 h4;have kn:=kn.aB 0 rfl h4;have aI:=kn.l 0 rfl;refine Zg aI ?_;exact⟨_,C5 cs,hK cs _ k2 Zx Zx kn.fin au⟩
 ·intro hc;refine Zd ?_
  refine Za ?_;refine Qbn5 (kn.e 0 rfl) Zx fun cs H3 k2 gu f9 hu au=>?_;have kn:=kn.an 0 rfl hu (R.aj _);have aI:=kn.l 0 rfl;simp only[go_sem,O3,aI];intro H4 h4;have kn:=kn.aB 0 rfl h4;have aI:=kn.l 0 rfl;refine Zg aI ?_;exact⟨_,C5 cs,hK cs _ k2 Zx Zx kn.fin au⟩
theorem Qa9b {R:Rdr}{k:Nat}(hH:H R.l=R.o k)(hk:k+7400000≤2^30)
  (hK:∀(cs:List CodeD) (H':Heap) (k':Nat),k<k'→k'≤k+7200000→Upd H H' [(R.l,R.o k')]→UnitOk cs→K (.ag [.sl false 3 (Qk cs)]) H') :
  Qs prog SP [.c (.ptr R.l 0)] H K:=by
 refine Qx ?_;refine Qc Ab Qa9k ?_;refine Za ?_;intro x2 aI H1 h1;have kn:=(Kn.start1 hH (R.aj k)).al aI h1;refine Wa ?_;refine A5 (kn.e 0 rfl) Zx fun v H2 hv hu=>?_;have kn:=kn.an 0 rfl hu (R.aj _);simp only[go_sem,Q0f];refine Wu ?_ ?_
 ·intro hc;refine Za ?_;refine Qbn4 (kn.e 0 rfl) Zx fun cs H3 k2 gu f9 hu au=>?_;have kn:=kn.an 0 rfl hu (R.aj _);have aI:=kn.l 0 rfl;simp only[go_sem,Q0g,aI];intro H4 h4;have kn:=kn.aB 0 rfl h4;have aI:=kn.l 0 rfl;refine Ql ?_;simp only[go_sem,X.next,Q6,Aa,Ja,forall_eq,RS.op,aI];exact⟨_,C5 cs,hK cs _ k2 Zx Zx kn.fin au⟩
 ·intro hc;refine Zd ?_
  refine Za ?_;refine FP (kn.e 0 rfl) Zx fun cs H3 k2 gu f9 hu au=>?_;have kn:=kn.an 0 rfl hu (R.aj _);have aI:=kn.l 0 rfl;simp only[go_sem,Q0h,aI];intro H4 h4;have kn:=kn.aB 0 rfl h4;have aI:=kn.l 0 rfl;refine Zg aI ?_;exact⟨_,C5 cs,hK cs _ k2 Zx Zx kn.fin au⟩
def caI (q:CodeD)(b j:Nat):List Plc:=((List.range j).filter fun i=>decide ((((Ad q b).ins[i]?).map InsD.op).getD 0=14)).map fun (i:Nat)=>((b:Int),(i:Int))
def caTo (q:CodeD)(b:Nat):List Plc:=(List.range b).flatMap fun b=>caI q b (Ad q b).ins.length
def caL (q:CodeD):List Plc:=caTo q q.blocks.length
theorem Kq {b j:Nat}(h:j<(Ad q b).ins.length):caI q b (j+1)=caI q b j++if (Ad q b).ins[j].op=14 then [((b:Int),(j:Int))]else []:=by
 rw[caI,caI,Jaz,Jay,Jn];congr 1;have e:(((Ad q b).ins[j]?).map InsD.op).getD 0=(Ad q b).ins[j].op:=ZaY
 by_cases hc:(Ad q b).ins[j].op=14
 ·rw[if_pos hc];simp[e,hc]
 ·rw[if_neg hc];simp[e,hc]
theorem Ho {b:Nat}:caTo q (b+1)=caTo q b++caI q b (Ad q b).ins.length:=by simp[caTo,Jaz]
noncomputable def BR (cs:List CodeD)(k:Int):List Plc:=if hasG cs k=true then match cs[k.toNat]? with
 |some q=>caL q
 |none=>[]else []
theorem CQ {b j:Nat}:(caI q b j).length≤j:=by
 rw[caI,Jd];exact Jbs (Jar _ _) Zz
set_option maxHeartbeats 4000000 in
theorem Q0x {cs:List CodeD}{fl:Bool}{k:Int}(aW:∀c∈cs,c.fits)(hK:∀(H':Heap),Upd H H' []→K (.c (.sl false 1 (Aw (BR cs k)))) H') :
  Qs prog Sr [.ag [.sl fl 3 (Qk cs)],.c (.int .i64 k)] H K:=by
 refine Qx ?_;refine Qc Ab Qahp ?_;refine Wb ?_;refine Wa ?_;refine Qbt1 aW fun H1 hu=>?_;have kn:=(Kn.aq H).aw hu;simp only[go_sem,Qkz];refine Wu ?_ ?_
 ·intro hc;have hg:hasG cs k=false:=B4 hc;refine Za ?_;refine Zm ?_;have e:BR cs k=[]:=by rw[BR,hg];simp
  have:=hK _ kn.fin;rw[e]at this;exact⟨_,.c _ _ FrzR.nil.sl,this⟩
 ·intro hc;have hg:hasG cs k=true:=AD hc;obtain⟨m,hm,rfl,ho⟩:=Qbnj hg;obtain⟨q,hq⟩:∃q,cs[m]=q:=⟨_,rfl⟩;rw[hq]at ho;have e:BR cs (m:Int)=caL q:=by
   rw[BR,if_pos hg];simp[hm,hq]
  have bj:=ho.b1;refine Zd ?_
  refine Qa ?_;simp only[go_sem,hm,Q0,Bc _ _ hm,CodeD.cells,hq];intro x6 aY H2 h2;have kn:=kn.al aY h2;have aY:=kn.l 0 rfl;simp only[go_sem,Qk0,aY];intro H3 h3;have kn:Kn H H3 [] ([(x6,.st [.int .i64 q.params,.int .i64 q.ab,.sl false 5 (Qo q.blocks)])]++[]):=kn.aB 0 rfl h3;refine Wa ?_;refine Qh (Qd (Qw (fun m2 e1 H1=>∃(b:Nat) (t:C) (Lg:List (Nat×Obj)),m2=q.blocks.length-b∧b≤q.blocks.length∧(caTo q b).length≤b * 1200∧Gr Lg 1 (Aw (caTo q b)) t∧Kn H H1 [] ([(x6,.st [.int .i64 q.params,.int .i64 q.ab,.sl false 5 (Qo q.blocks)])]++Lg)∧
   lk 5 e1=.c t∧lk 6 e1=.c (.ptr x6 0)∧lk 7 e1=.c (.int .i64 b)) q.blocks.length ?_ ?_))
  ·exact⟨0,_,[],Zx,Zx,by simp[caTo],.nil 1,kn,rfl,rfl,rfl⟩
  ·clear kn aY;rintro m2 e1 H4 ⟨b,t,Lg,eo,hb,cm,ao,kn,l5,l6,l7⟩;have bp:=ao.ah;have aY:=kn.l 0 rfl;refine Q1 (Qa ?_);simp only[go_sem,l5,l6,l7,aY,bp,Qm];try intro _
   refine Wu ?_ ?_
   ·intro aC;have ae:b<q.blocks.length:=ZC;obtain⟨y,hy⟩:∃y,q.blocks[b]=y:=⟨_,rfl⟩;have dZ:Ad q b=y:=(by rw[AA ae,hy]);have ck:=ho.il b ae;rw[hy]at ck;refine Zd ?_
    refine Qh (Qd ?_);refine Zi bp ?_;refine Qd (Qw (fun m3 e1 H1=>∃(j:Nat) (t:C) (Lg:List (Nat×Obj)),m3=y.ins.length-j∧j≤y.ins.length∧Gr Lg 1 (Aw (caTo q b++caI q b j)) t∧Kn H H1 [] ([(x6,.st [.int .i64 q.params,.int .i64 q.ab,.sl false 5 (Qo q.blocks)])]++Lg)∧
     lk 5 e1=.c t∧lk 6 e1=.c (.ptr x6 0)∧lk 7 e1=.c (.int .i64 b)∧lk 8 e1=.c (.int .i64 j)) y.ins.length ?_ ?_)
    ·exact⟨0,t,Lg,Zx,Zx,by simpa[caI]using ao,kn,rfl,rfl,rfl,rfl⟩
    ·clear kn aY ao bp l5 l6 l7;rintro m3 e2 H5 ⟨j,t,Lg,nq,hj,ao,kn,l5,l6,l7,l8⟩;have bp:=ao.ah;have aY:=kn.l 0 rfl;refine Q1 (Qa ?_);simp only[go_sem,l5,l6,l7,l8,aY,bp,ae,Qm,Q9 _ _ ae,BlkD.cells,hy,Ax];try intro _
     refine Wu ?_ ?_
     ·intro bI;have bk:j<y.ins.length:=ZL;obtain⟨x,hx⟩:∃x,y.ins[j]=x:=⟨_,rfl⟩;have eU:caI q b (j+1)=caI q b j++if x.op=14 then [((b:Int),(j:Int))]else []:=by
       have:=Kq (q:=q) (b:=b) (j:=j) Za6;simp only[dZ,hx]at this;exact this
      have am:=CQ (q:=q) (b:=b) (j:=j);refine Zd ?_
      refine A4 (fun e2 H2=>∃(t:C) (Lg:List (Nat×Obj)),Gr Lg 1 (Aw (caTo q b++caI q b (j+1))) t∧Kn H H2 [] ([(x6,.st [.int .i64 q.params,.int .i64 q.ab,.sl false 5 (Qo q.blocks)])]++Lg)∧
       lk 5 e2=.c t∧lk 6 e2=.c (.ptr x6 0)∧lk 7 e2=.c (.int .i64 b)∧lk 8 e2=.c (.int .i64 j)) ?_ ?_
      ·intro Q bD _ _;refine Qd (Qa ?_);simp only[go_sem,l5,l6,l7,l8,aY,bp,ae,Qm,Q9 _ _ ae,BlkD.cells,hy,bk,Ax,B0 _ _ bk,InsD.cells,hx];refine Wv ?_ ?_
       ·intro dq;have dG:x.op=14:=ZN;refine Zq bp ?_;refine kn.bg (new:=Aw [((b:Int),(j:Int))]) ao (.mk' _ _ _ _) (Ep _) (by
         simp only[Dc,Jp,LIM,Jj,Jm];have:b * 1200≤160 * 1200:=Ja7 _ Zx;omega) fun t2 Lg2 H6 bq ca kn=>?_
        simp only[go_sem,Qk1,ca];refine bD _ _ ⟨t2,Lg2,?_,kn,rfl,rfl,rfl,rfl⟩;rw[eU,if_pos dG,←J7];have:Aw (caTo q b++caI q b j++[((b:Int),(j:Int))])=Aw (caTo q b++caI q b j)++Aw [((b:Int),(j:Int))]:=(by simp[Aw]);rw[this];exact bq
       ·intro dq;have dG:¬x.op=14:=ZN;refine Zd ?_
        refine bD _ _ ⟨t,Lg,?_,kn,rfl,rfl,rfl,rfl⟩;rw[eU,if_neg dG,Jz];exact ao
      ·rintro e3 H6 ⟨t,Lg,ao,kn,l5,l6,l7,l8⟩;have bp:=ao.ah;refine Qp ?_;simp only[go_sem,l5,l6,l7,l8,bp];refine⟨Qr,?_⟩;show ∃m,_;exact⟨y.ins.length-(j+1),Zx,j+1,t,Lg,rfl,Zx,ao,kn,rfl,rfl,rfl,rfl⟩
     ·intro bI;have iW:j=y.ins.length:=(by have:y.ins.length≤j:=(by simpa using bI);omega);subst iW;have am:=CQ (q:=q) (b:=b) (j:=y.ins.length);refine Zc ?_;refine Qp ?_;simp only[go_sem,l5,l6,l7,bp];refine⟨Qr,?_⟩;show ∃m,_;refine⟨q.blocks.length-(b+1),Zx,b+1,t,Lg,rfl,Zx,?_,?_,kn,rfl,rfl,rfl⟩
      ·rw[Ho,dZ,Jp,Jbt];omega
      ·rw[Ho,dZ];exact ao
   ·intro aC;have je:b=q.blocks.length:=(by have:q.blocks.length≤b:=(by simpa using aC);omega);subst je;refine Zc ?_;refine Zl l5 bp ?_;refine Zg bp ?_;have:=hK _ kn.fin;rw[e]at this;exact⟨_,.c _ _ (ao.frz kn (Ep _)),this⟩
set_option maxHeartbeats 4000000 in
theorem Qbn8 {R:Rdr}{k:Nat}(hH:H R.l=R.o k)(hk:k+40000000≤2^30)
  (hK:∀(cs:List CodeD) (H':Heap) (k':Nat),k<k'→k'≤k+39000000→Upd H H' [(R.l,R.o k')]→UnitOk cs→K (.ag [.sl false 3 (Qk cs)]) H') :
  Qs prog Q61 [.c (.ptr R.l 0)] H K:=by
 refine Qx ?_;refine Qc Ab Qbo1 ?_;refine Za ?_;intro x2 aI H1 h1;have kn:=(Kn.start1 hH (R.aj k)).al aI h1;refine Wa ?_;refine Qh (Qd (Qw (fun m e1 H1=>∃(i k':Nat) (L:List (Nat×Obj)),m=4-i∧i≤4∧k≤k'∧k'≤k+i * 7300000∧Kn H H1 [(R.l,R.o k')] ([(x2,.st [.sl true 3 []])]++L)∧
  lk 0 e1=.c (.ptr R.l 0)∧lk 2 e1=.c (.ptr x2 0)∧lk 4 e1=.c (.int .i64 i)) 4 ?_ ?_))
 ·exact⟨0,k,[],Zx,Zx,Zx,Zx,kn,rfl,rfl,rfl⟩
 ·clear kn;rintro m e1 H2 ⟨i,k1,L,hm,hi,fT,fA,kn,l0,l2,l4⟩;have aI:=kn.l 0 rfl;refine Zp l0 l2 l4 ?_;refine Wu ?_ ?_
  ·intro hc;have ae:i<4:=by
    have:=of_decide_eq_true hc;omega
   refine Zd ?_
   refine Wi ?_;refine Qa9b (kn.e 0 rfl) Zx fun cs H3 k3 gu f9 hu au=>?_;have kn:=kn.an 0 rfl hu (R.aj _);simp only[go_sem,OM];intro x3 aP H4 h4;have kn:=(kn.al aP h4).perm Jo;have aP:=kn.l 0 rfl;simp only[go_sem,ON,aP];intro H5 h5;have kn:Kn H H5 [(R.l,R.o k3)] ([(x2,.st [.sl true 3 []])]++([(x3,.st [.sl false 3 (Qk cs)])]++L)):=
    (kn.aB 0 rfl h5).perm (Qj fun f hf h0 hc hp=>by
     show f ([(x3,_)]++([(x2,_)]++L))=_;simp only[hf];omega)
   have aP:=kn.l 1 rfl;obtain⟨u0,u4,ugd⟩:=au;have ny:((cs.length:Int)-1)=((cs.length-1:Nat):Int):=Zx
   have wS:∀c∈cs,c.fits:=fun c hc=>(ugd c hc).f;refine A4 (fun e2 H2=>∃(bb:Bool),Kn H H2 [(R.l,R.o k3)] ([(x2,.st [.sl true 3 []])]++([(x3,.st [.sl false 3 (Qk cs)])]++L))∧lk 0 e2=.c (.ptr R.l 0)∧lk 2 e2=.c (.ptr x2 0)∧lk 3 e2=.c (.ptr x3 0)∧lk 4 e2=.c (.int .i64 i)∧lk 21 e2=.c (.bool bb)) ?_ ?_
   ·intro Q bD _ _;refine Qp ?_;simp only[go_sem,aP,Q0];intro _ _;refine⟨fun _=>Qr,fun h=>?_,fun h=>?_⟩
    ·refine Q0x wS fun H6 hu=>?_;have kn:=kn.aw hu;simp only[go_sem,SI,h];try intro _
     exact bD _ _ ⟨_,kn,rfl,rfl,rfl,rfl,rfl⟩
    ·simp only[go_sem,SI,h];try intro _
     exact bD _ _ ⟨_,kn,rfl,rfl,rfl,rfl,rfl⟩
   ·rintro e2 H6 ⟨bb,kn,l0,l2,l3,l4,l21⟩;refine Qe (c:=bb) l21 ?_ ?_
    ·intro _;have aI:=kn.l 0 rfl;have aP:=kn.l 1 rfl;refine Qa ?_;simp only[go_sem,l0,l2,l3,l4,aI,aP];intro H7 h7;have kn:=kn.aB 0 rfl h7;have aI:=kn.l 0 rfl;refine Ql ?_;simp only[go_sem,X.next,Q6,Aa,Ja,forall_eq,RS.op,aI];exact⟨_,C5 cs,hK cs _ k3 Zx Zx kn.fin ⟨u0,u4,ugd⟩⟩
    ·intro _;refine Zd ?_
     refine Qp ?_;simp only[go_sem,l0,l2,l3,l4];refine⟨Qr,?_⟩;show ∃m,_;exact⟨4-(i+1),Zx,i+1,k3,_,rfl,Zx,Zx,Zx,kn,rfl,rfl,rfl⟩
  ·intro _;refine Zc ?_;refine Zl l0 l2 ?_;refine FP (kn.e 0 rfl) Zx fun cs H3 k3 gu f9 hu au=>?_;have kn:=kn.an 0 rfl hu (R.aj _);have aI:=kn.l 0 rfl;simp only[go_sem,OL,aI];intro H4 h4;have kn:=kn.aB 0 rfl h4;have aI:=kn.l 0 rfl;refine Zg aI ?_;exact⟨_,C5 cs,hK cs _ k3 Zx Zx kn.fin au⟩
section
variable {P:Program}{e:Env}{its r:List Item}{KK:Env→Heap→Prop}{KP:Value→Heap→Prop}{d:Option Nat}{t:Nat}{w:Bool}{op:FOp}
end
set_option maxHeartbeats 4000000 in
theorem Qazi (ho:q.ok)(hK:∀(H':Heap),Upd H H' []→K (.c (.sl false 1 (Aw (caL q)))) H'):Qs prog Vi [.ag q.cells] H K:=by
 refine Qx ?_;have kn:=Kn.aq H;have bj:=ho.b1;simp only[CodeD.cells];refine Qc Ab Qahk ?_;refine Wq ?_;simp only[go_sem,Qm];try intro _
 refine Qh (Qd (Qw (fun m2 e1 H1=>∃(b:Nat) (t:C) (Lg:List (Nat×Obj)),m2=q.blocks.length-b∧b≤q.blocks.length∧(caTo q b).length≤b * 1200∧Gr Lg 1 (Aw (caTo q b)) t∧Kn H H1 [] ([]++Lg)∧
  lk 3 e1=.c t∧lk 9 e1=.c (.sl false 5 (Qo q.blocks))∧lk 10 e1=.c (.int .i64 q.blocks.length)∧lk 11 e1=.c (.int .i64 b)) q.blocks.length ?_ ?_))
 ·exact⟨0,_,[],Zx,Zx,by simp[caTo],.nil 1,kn,rfl,rfl,rfl,rfl⟩
 ·clear kn;rintro m2 e1 H4 ⟨b,t,Lg,eo,hb,cm,ao,kn,l3,l9,l10,l11⟩;have bp:=ao.ah;refine Qa ?_;simp only[go_sem,l3,l9,l10,l11,bp];refine Wu ?_ ?_
  ·intro aC;have ae:b<q.blocks.length:=ZC
   obtain⟨y,hy⟩:∃y,q.blocks[b]=y:=⟨_,rfl⟩;have dZ:Ad q b=y:=by rw[AA ae,hy]
   have ck:=ho.il b ae;rw[hy]at ck;refine Zd ?_
   refine Wk ?_;simp only[go_sem,bp,ae,Qm,Q9 _ _ ae,BlkD.cells,hy];intro x5 bf H5 h5;have kn:=kn.al bf h5;have bf:H5 x5=.st [.sl true 2 [],.sl true 4 [],.int .i64 0,.int .i64 0,.sl true 1 []]:=(kn.get (x5,.st [.sl true 2 [],.sl true 4 [],.int .i64 0,.int .i64 0,.sl true 1 []]) Zz).1;simp only[go_sem,Qkr,bf,bp];intro H6 h6;have kn:Kn H H5 [] ([(x5,.st [.sl true 2 [],.sl true 4 [],.int .i64 0,.int .i64 0,.sl true 1 []])]++Lg):=kn.perm Zz;have kn:Kn H H6 [] ([(x5,.st [.sl false 2 (Ae y.aa),.sl false 4 (Af y.ins),.int .i64 y.jump,.int .i64 y.on,.sl false 1 (Qb y.next)])]++Lg):=kn.aB 0 rfl h6;have bf:H6 x5=.st [.sl false 2 (Ae y.aa),.sl false 4 (Af y.ins),.int .i64 y.jump,.int .i64 y.on,.sl false 1 (Qb y.next)]:=kn.l 0 rfl;refine Qa ?_;simp only[go_sem,bf,bp,Ax];try intro _
   refine Qd (Qw (fun m3 e1 H1=>∃(j:Nat) (t:C) (Lg:List (Nat×Obj)),m3=y.ins.length-j∧j≤y.ins.length∧Gr Lg 1 (Aw (caTo q b++caI q b j)) t∧Kn H H1 [] ([]++Lg)∧
    lk 3 e1=.c t∧lk 4 e1=.c (.int .i64 b)∧lk 9 e1=.c (.sl false 5 (Qo q.blocks))∧lk 10 e1=.c (.int .i64 q.blocks.length)∧lk 11 e1=.c (.int .i64 b)∧
    lk 17 e1=.c (.sl false 4 (Af y.ins))∧lk 18 e1=.c (.int .i64 y.ins.length)∧lk 19 e1=.c (.int .i64 j)) y.ins.length ?_ ?_)
   ·exact⟨0,t,Lg,Zx,Zx,by simpa[caI]using ao,Kn.drop (B:=[(x5,_)]) (kn.perm (by simpa using Jo (l₁:=[(x5,_)]) (l₂:=Lg))),rfl,rfl,rfl,rfl,rfl,rfl,rfl,rfl⟩
   ·clear kn bf ao bp l3 l9 l10 l11;rintro m3 e2 H7 ⟨j,t,Lg,nq,hj,ao,kn,l3,l4,l9,l10,l11,l17,l18,l19⟩;have bp:=ao.ah;refine Qa ?_;simp only[go_sem,l3,l4,l9,l10,l11,l17,l18,l19,bp];refine Wu ?_ ?_
    ·intro bI;have bk:j<y.ins.length:=ZL;obtain⟨x,hx⟩:∃x,y.ins[j]=x:=⟨_,rfl⟩;have eU:caI q b (j+1)=caI q b j++if x.op=14 then [((b:Int),(j:Int))]else []:=by
      have:=Kq (q:=q) (b:=b) (j:=j) Za6;simp only[dZ,hx]at this;exact this
     have am:=CQ (q:=q) (b:=b) (j:=j);refine Zd ?_
     refine A4 (fun e2 H2=>∃(t:C) (Lg:List (Nat×Obj)),Gr Lg 1 (Aw (caTo q b++caI q b (j+1))) t∧Kn H H2 [] ([]++Lg)∧
      lk 3 e2=.c t∧lk 4 e2=.c (.int .i64 b)∧lk 9 e2=.c (.sl false 5 (Qo q.blocks))∧lk 10 e2=.c (.int .i64 q.blocks.length)∧lk 11 e2=.c (.int .i64 b)∧
      lk 17 e2=.c (.sl false 4 (Af y.ins))∧lk 18 e2=.c (.int .i64 y.ins.length)∧lk 19 e2=.c (.int .i64 j)) ?_ ?_
     ·intro Q bD _ _;refine Qd (Qa ?_);simp only[go_sem,l3,l4,l9,l10,l11,l17,l18,l19,bp,bk,Ax,B0 _ _ bk,InsD.cells,hx];intro x7 bC H8 h8;have kn:=kn.al bC h8;have bC:H8 x7=.st [.int .i64 0,.int .i64 0,.sl true 1 [],.int .i64 0]:=(kn.get (x7,.st [.int .i64 0,.int .i64 0,.sl true 1 [],.int .i64 0]) Zz).1;simp only[go_sem,Qks,bC,bp];intro H9 h9;have kn:Kn H H8 [] ([(x7,.st [.int .i64 0,.int .i64 0,.sl true 1 [],.int .i64 0])]++Lg):=kn.perm Zz;have kn:Kn H H9 [] ([(x7,.st [.int .i64 x.op,.int .i64 x.to,.sl false 1 (Qb x.args),.int .i64 x.n])]++Lg):=kn.aB 0 rfl h9;have bC:H9 x7=.st [.int .i64 x.op,.int .i64 x.to,.sl false 1 (Qb x.args),.int .i64 x.n]:=kn.l 0 rfl;refine Zl bC bp ?_;refine Wv ?_ ?_
      ·intro dq;have dG:x.op=14:=ZN;refine Zq bp ?_;refine kn.bg (new:=Aw [((b:Int),(j:Int))]) ao (.mk' _ _ _ _) (Ep _) (by
        simp only[Dc,Jp,LIM,Jj,Jm];have:b * 1200≤160 * 1200:=Ja7 _ Zx;omega) fun t2 Lg2 H10 bq ca kn=>?_
       simp only[go_sem,Qkt,ca];refine bD _ _ ⟨t2,Lg2,?_,Kn.drop (B:=[(x7,_)]) (kn.perm (by simpa using Jo (l₁:=[(x7,_)]) (l₂:=Lg2))),rfl,rfl,rfl,rfl,rfl,rfl,rfl,rfl⟩;rw[eU,if_pos dG,←J7];have:Aw (caTo q b++caI q b j++[((b:Int),(j:Int))])=Aw (caTo q b++caI q b j)++Aw [((b:Int),(j:Int))]:=(by simp[Aw]);rw[this];exact bq
      ·intro dq;have dG:¬x.op=14:=ZN;refine Zd ?_
       refine bD _ _ ⟨t,Lg,?_,Kn.drop (B:=[(x7,_)]) (kn.perm (by simpa using Jo (l₁:=[(x7,_)]) (l₂:=Lg))),rfl,rfl,rfl,rfl,rfl,rfl,rfl,rfl⟩;rw[eU,if_neg dG,Jz];exact ao
     ·rintro e3 H6 ⟨t,Lg,ao,kn,l3,l4,l9,l10,l11,l17,l18,l19⟩;have bp:=ao.ah;refine Qp ?_;simp only[go_sem,l3,l4,l9,l10,l11,l17,l18,l19,bp];refine⟨Qr,?_⟩;show ∃m,_;exact⟨y.ins.length-(j+1),Zx,j+1,t,Lg,rfl,Zx,ao,kn,rfl,rfl,rfl,rfl,rfl,rfl,rfl,rfl⟩
    ·intro bI;have iW:j=y.ins.length:=(by have:y.ins.length≤j:=(by simpa using bI);omega);subst iW;have am:=CQ (q:=q) (b:=b) (j:=y.ins.length);refine Zc ?_;refine Qp ?_;simp only[go_sem,l3,l9,l10,l11,bp];refine⟨Qr,?_⟩;show ∃m,_;refine⟨q.blocks.length-(b+1),Zx,b+1,t,Lg,rfl,Zx,?_,?_,kn,rfl,rfl,rfl,rfl⟩
     ·rw[Ho,dZ,Jp,Jbt];omega
     ·rw[Ho,dZ];exact ao
  ·intro aC;have je:b=q.blocks.length:=by have:q.blocks.length≤b:=ZC;omega
   subst je;refine Zc ?_;refine Zl l3 bp ?_;refine Zg bp ?_;exact⟨_,.c _ _ (ao.frz kn (Ep _)),hK _ kn.fin⟩
theorem XT {b j:Nat}{p:Plc}(h:p∈caI q b j):∃i:Nat,p=((b:Int),(i:Int))∧i<j∧(((Ad q b).ins[i]?).map InsD.op).getD 0=14:=by
 simp only[caI,Jr,Jab,Jv,decide_eq_true_eq]at h;obtain⟨i,⟨h1,h2⟩,rfl⟩:=h;exact⟨i,rfl,h1,h2⟩
theorem Qbsy {n:Nat}{p:Plc}(h:p∈caTo q n):∃b i:Nat,p=((b:Int),(i:Int))∧b<n∧i<(Ad q b).ins.length∧(((Ad q b).ins[i]?).map InsD.op).getD 0=14:=by
 simp only[caTo,Jt,Jv]at h;obtain⟨b,hb,h⟩:=h;obtain⟨i,h1,h2,h3⟩:=XT h;exact⟨b,i,h1,hb,h2,h3⟩
end Go.AE.Y
namespace Go.AE.Y
open Go.Proofs.Tryz
attribute [local instance] Classical.propDecidable
def Ce (q:CodeD)(p:Plc):InsD:=((Ad q p.1.toNat).ins[p.2.toNat]?).getD ⟨0,0,[],0⟩
def kcN (q:CodeD):List Nat:=(caL q).map fun p=>(Ce q p).n.toNat
def A3 (cs:List CodeD)(k:Nat):CodeD:=(cs[k]?).getD ⟨0,0,[]⟩
theorem Ch {cs:List CodeD}{k:Nat}(h:k<cs.length):A3 cs k=cs[k]:=by simp[A3,h]
inductive Nd (cs:List CodeD):Nat→Prop
 |top:Nd cs (cs.length-1)
 |to {k n:Nat}:Nd cs k→n∈kcN (A3 cs k)→Nd cs n
noncomputable def As (cs:List CodeD):List Nat:=ascL cs.length (Nd cs)
theorem CI {q:CodeD}{p:Plc}(h:p∈caL q):∃b i:Nat,p=((b:Int),(i:Int))∧∃(hb:b<q.blocks.length) (hi:i<q.blocks[b].ins.length),q.blocks[b].ins[i].op=14∧Ce q p=q.blocks[b].ins[i]:=by
 obtain⟨b,i,rfl,hb,hi,ho⟩:=Qbsy h;rw[AA hb]at hi ho;rw[Jh hi]at ho;refine⟨b,i,rfl,hb,hi,by simpa using ho,?_⟩;simp only[Ce,Jaf,AA hb,Jh hi,Ju]
theorem CP {cs:List CodeD}(h:Ah cs=true){k b i:Nat}(hk:k<cs.length)(hb:b<cs[k].blocks.length)(hi:i<cs[k].blocks[b].ins.length)(ho:cs[k].blocks[b].ins[i].op=14) :
  ∃n:Nat,cs[k].blocks[b].ins[i].n=n∧n<k:=by
 obtain⟨_,h2,_⟩:=of_decide_eq_true h;obtain⟨_,g2⟩:=h2 k hk;have g:=g2 b hb;simp only[blkG,Jai,Jbc]at g;have gi:=g.1.2 _ (Jc hi);simp only[AC,Jai,insL,ho,if_true,decide_eq_true_eq]at gi;have:=gi.2.1;exact⟨(cs[k].blocks[b].ins[i].n).toNat,Zx,Zx⟩
theorem E8 {cs:List CodeD}(h:Ah cs=true){k n:Nat}(hk:k<cs.length)(hn:n∈kcN (A3 cs k)):n<k:=by
 obtain⟨p,hp,rfl⟩:=Jr.1 hn;rw[Ch hk]at hp⊢;obtain⟨b,i,rfl,hb,hi,ho,he⟩:=CI hp;obtain⟨n,hn,ae⟩:=CP h hk hb hi ho;rw[he,hn];exact ae
theorem Bn {cs:List CodeD}(h:Ah cs=true){n:Nat}(hn:Nd cs n):n<cs.length:=by
 have h0:=(of_decide_eq_true h).1
 induction hn with
 |top=>omega
 |to _ h1 ih=>have:=E8 h ih h1;omega
theorem C3 {cs:List CodeD}(h:Ah cs=true){n:Nat}:n∈As cs↔Nd cs n:=by
 rw[As,Qbsv];exact⟨fun x=>x.2,fun x=>⟨Bn h x,x⟩⟩
theorem GG {cs:List CodeD}:(As cs).Pairwise (· < ·):=Qbsu
theorem Qb3e {cs:List CodeD}{S:Nat→Prop}(h0:S (cs.length-1))(h1:∀k,S k→∀n∈kcN (A3 cs k),S n){n:Nat}(hn:Nd cs n):S n:=by
 induction hn with
 |top=>exact h0
 |to _ h ih=>exact h1 _ ih _ h
theorem Iz {cs:List CodeD}(h:Ah cs=true){l:List Nat}(ha:l.Pairwise (· < ·))(h0:cs.length-1∈l)(h1:∀k∈l,∀n∈kcN (A3 cs k),n∈l)(h2:∀k∈l,Nd cs k):l=As cs:=
 CJ ha GG fun n=>⟨fun x=>(C3 h).2 (h2 n x),fun x=>Qb3e (S:=(·∈l)) h0 h1 ((C3 h).1 x)⟩
theorem Hw {cs:List CodeD}(h:Ah cs=true):0<(As cs).length∧∀(hn:(As cs).length-1<(As cs).length),(As cs)[(As cs).length-1]=cs.length-1:=by
 have hm:cs.length-1∈As cs:=(C3 h).2 .top;obtain⟨i,hi,he⟩:=Js.1 hm;refine⟨Zx,fun hn=>?_⟩;have hl:=Bn h ((C3 h).1 (Jc hn));by_cases mf:i=(As cs).length-1
 ·subst mf;exact he
 ·have:=J4.1 (GG (cs:=cs)) i ((As cs).length-1) hi hn Zx;omega
theorem Ky {cs:List CodeD}:(As cs).length≤cs.length:=XZ
end Go.AE.Y
namespace Go.AE.Y
attribute [local go_sem] cond_true cond_false Bool.not_true Bool.not_false
attribute [local instance] Classical.propDecidable
open Go.Proofs.Tryz
variable {H H0:Heap}{K:V→Heap→Prop}{E B Lg:List (Nat×Obj)}{q:CodeD}{cs:List CodeD}
theorem Kp (ho:q.ok):∀n,n≤q.blocks.length→(caTo q n).length≤n * 1200
 |0,_=>by simp[caTo]
 |n+1,h=>by
  have h1:=Kp ho n Zx;have h2:=CQ (q:=q) (b:=n) (j:=(Ad q n).ins.length);have h3:=ho.il n Zx;rw[AA Zx]at h2;rw[Ho,AA Zx,Jp];omega
theorem Im (ho:q.ok):(caL q).length≤1000000:=by
 have:=Kp ho _ (Ji _);have:=ho.b1;rw[caL];omega
theorem X8 (h:Ah cs=true){k:Nat}(hk:k<cs.length):Qb ((caL cs[k]).map fun p=>(Ce cs[k] p).n)=Q5 (kcN (A3 cs k)):=by
 rw[Ch hk,Q5,kcN,Jae];congr 1;refine J6 fun p hp=>?_;obtain⟨b,i,rfl,hb,hi,ho,he⟩:=CI hp;obtain⟨n,hn,_⟩:=CP h hk hb hi ho;show _=Int.ofNat (Ce cs[k] ((b:Int),(i:Int))).n.toNat;rw[he,hn];rfl
set_option maxHeartbeats 1000000 in
theorem Qb1c {x4:Nat}{p:Plc}(br:H x4=.st [.int .i64 q.params,.int .i64 q.ab,.sl false 5 (Qo q.blocks)])(hp:p∈caL q)(hK:K (.c (.int .i64 (Ce q p).n)) H) :
  Qs prog K5 [.c (.sl true 1 [[.int .i64 p.1],[.int .i64 p.2]]),.c (.ptr x4 0)] H K:=by
 obtain⟨b,i,rfl,hb,hi,ho,he⟩:=CI hp;obtain⟨y,hy⟩:∃y,q.blocks[b]=y:=⟨_,rfl⟩;simp only[hy]at hi ho he;obtain⟨x,hx⟩:∃x,y.ins[i]=x:=⟨_,rfl⟩;rw[hx]at he;rw[he]at hK;have tn0:Int.toNat 0=0:=rfl;have tn1:Int.toNat 1=1:=rfl;have xS:((0:Int)≤1)=True:=Zz
 have l01:(0<0+1+1)=True:=Zz
 have l11:(1<0+1+1)=True:=Zz
 refine Qc Ab Qq8 ?_;refine Za ?_;refine Aj ?_;simp only[go_sem,br,hb,Qm,Q9 _ _ hb,BlkD.cells,hy,hi,Ax,B0 _ _ hi,InsD.cells,hx,tn0,tn1,xS,l01,l11,Ja1,Jag,Jax];refine Zb ?_;exact hK
set_option maxHeartbeats 4000000 in
theorem Qbpg {x4:Nat}{ps:List Plc}{f:Bool}(br:H x4=.st [.int .i64 q.params,.int .i64 q.ab,.sl false 5 (Qo q.blocks)])(i7:∀p∈ps,p∈caL q)(hl:ps.length≤1000000)
  (hK:∀(H':Heap),Upd H H' []→K (.c (.sl false 1 (Qb (ps.map fun p=>(Ce q p).n)))) H') :
  Qs prog V7 [.c (.sl f 1 (Aw ps)),.c (.fn K5 [.ptr x4 0])] H K:=by
 refine Qx ?_;refine Qc Ab Qx1 ?_;have kn:=Kn.start1 br (by nofun);refine Wq ?_;simp only[go_sem,Dc];try intro _
 refine Qh (Qd (Qw (fun m e1 H1=>∃(i:Nat) (t:C) (Lg:List (Nat×Obj)),m=ps.length-i∧i≤ps.length∧Gr Lg 1 (Qb ((ps.take i).map fun p=>(Ce q p).n)) t∧Kn H H1 [(x4,.st [.int .i64 q.params,.int .i64 q.ab,.sl false 5 (Qo q.blocks)])] ([]++Lg)∧
  lk 1 e1=.c (.fn K5 [.ptr x4 0])∧lk 5 e1=.c t∧lk 8 e1=.c (.sl f 1 (Aw ps))∧lk 9 e1=.c (.int .i64 ps.length)∧lk 10 e1=.c (.int .i64 i)) ps.length ?_ ?_))
 ·exact⟨0,_,[],Zx,Zx,.nil 1,kn,rfl,rfl,rfl,rfl,rfl⟩
 ·clear kn;rintro m e1 H1 ⟨i,t,Lg,hm,hi,ao,kn,l1,l5,l8,l9,l10⟩;have bp:=ao.ah;refine Qa ?_;simp only[go_sem,l1,l5,l8,l9,l10,bp];refine Wu ?_ ?_
  ·intro hc;have ae:i<ps.length:=ZA
   obtain⟨p,hp⟩:∃p,ps[i]=p:=⟨_,rfl⟩;have gk:p∈caL q:=i7 p ZaS;refine Zd ?_
   refine Wk ?_;simp only[go_sem,l1,l5,l8,l9,l10,bp,ae,Dc,Q7h _ _ ae,hp,pRow];refine Zq bp ?_;refine Qb1c (kn.e 0 rfl) gk ?_;simp only[go_sem,Qer,bp];refine kn.bg (new:=Qb [(Ce q p).n]) ao (.mk' _ _ _ _) (Qq _) (by simp only[Qf,Jd,J0,LIM,Jj,Jm];omega) fun t2 Lg2 H4 bq ca kn=>?_;simp only[go_sem,Qeq,ca];refine Zq ca ?_;refine⟨Qr,?_⟩;show ∃m,_;refine⟨ps.length-(i+1),Zx,i+1,t2,Lg2,rfl,Zx,?_,kn,rfl,rfl,rfl,rfl,rfl⟩;have:Qb ((ps.take (i+1)).map fun p=>(Ce q p).n)=Qb ((ps.take i).map fun p=>(Ce q p).n)++Qb [(Ce q p).n]:=by
    rw[Jg ae,hp];simp[Qb]
   rw[this];exact bq
  ·intro hc;have bd:ps.length≤i:=ZA
   rw[Jf bd]at ao;refine Zc ?_;refine Zl l5 bp ?_;refine Zg bp ?_;exact⟨_,.c _ _ (ao.frz kn (Qq _)),hK _ (kn.fin.drop1 br)⟩
set_option maxHeartbeats 2000000 in
theorem Qb21 {f:Bool}{k:Nat}(hg:Ah cs=true)(hk:k<cs.length)(hK:∀H',Upd H H' []→K (.c (.sl false 1 (Q5 (kcN (A3 cs k))))) H') :
  Qs prog Ip [.c (.int .i64 k),.c (.pp [.sl f 3 (Qk cs)])] H K:=by
 have ho:=DY hg hk;have md:=X8 hg hk;obtain⟨q,hq⟩:∃q,cs[k]=q:=⟨_,rfl⟩;rw[hq]at ho md;refine Qx ?_;refine Qc Ab Q05 ?_;refine Wg ?_;simp only[go_sem,hk,Q0,Bc _ _ hk,CodeD.cells,hq];intro x4 br H1 h1;have kn:=(Kn.aq H).al br h1;have br:=kn.l 0 rfl;simp only[go_sem,Qe0,br];intro H2 h2;have kn:Kn H H2 [] [(x4,.st [.int .i64 q.params,.int .i64 q.ab,.sl false 5 (Qo q.blocks)])]:=kn.aB 0 rfl h2;have br:=kn.l 0 rfl;refine Zi br ?_;refine Qazi ho fun H3 hu=>?_;have kn:=kn.aw hu;have br:=kn.l 0 rfl;simp only[go_sem,Qe2];refine Qbpg br (fun p h=>h) (Im ho) fun H4 hu=>?_;have kn:=kn.aw hu;simp only[go_sem,Qe1];refine Zb ?_;have:=hK _ kn.fin;rw[←md]at this;exact⟨_,.c _ _ (Da (noOw_mem (Qq _))),this⟩
structure Vst (cs:List CodeD)(ks ns ks':List Nat):Prop where
 nd:ks'.Nodup
 sub:∀x∈ks,x∈ks'
 ns:∀x∈ns,x∈ks'
 cl:∀x∈ks',x∈ks∨∀m∈kcN (A3 cs x),m∈ks'
 need:∀x∈ks',Nd cs x
theorem Vst.nil {ks:List Nat}(h:ks.Nodup)(hn:∀x∈ks,Nd cs x):Vst cs ks [] ks:=⟨h,fun _ h=>h,Zz,fun _ h=>.inl h,hn⟩
theorem Vst.app {ks ns k1 k2:List Nat}{n:Nat}(h:Vst cs ks ns k1)(k:Vst cs k1 [n] k2):Vst cs ks (ns++[n]) k2:=
 ⟨k.nd,fun x hx=>k.sub x (h.sub x hx),fun x hx=>by
  rcases Jq.1 hx with hx|hx
  ·exact k.sub x (h.ns x hx)
  ·exact k.ns x hx,fun x hx=>by
  rcases k.cl x hx with h1|h1
  ·rcases h.cl x h1 with h2|h2
   ·exact .inl h2
   ·exact .inr fun m hm=>k.sub m (h2 m hm)
  ·exact .inr h1,k.need⟩
theorem Vst.one {ks k1:List Nat}{n:Nat}(h:Vst cs (ks++[n]) (kcN (A3 cs n)) k1):Vst cs ks [n] k1:=
 ⟨h.nd,fun x hx=>h.sub x (Jk _ hx),fun x hx=>h.sub x (Je _ hx),fun x hx=>by
  rcases h.cl x hx with h1|h1
  ·rcases Jq.1 h1 with h1|h1
   ·exact .inl h1
   ·simp only[Ja]at h1;subst h1;exact .inr h.ns
  ·exact .inr h1,h.need⟩
theorem Ie {ks:List Nat}(hg:Ah cs=true)(h:ks.Nodup)(hn:∀x∈ks,Nd cs x):ks.length≤4:=by
 have:=Q90 h fun x hx=>Bn hg (hn x hx);have:=(of_decide_eq_true hg).1;omega
def EU (x5 x6:Nat)(f:Bool)(cs:List CodeD):List C:=[.ptr x5 0,.pp [.fn Ip [.pp [.sl f 3 (Qk cs)]]],.ptr x6 0]
def clE (M x5 x6:Nat)(f:Bool)(cs:List CodeD)(ver:Nat)(ks:List Nat):List (Nat×Obj):=
 [(M,.map ver (AQ ks)),(x5,.st [.mp M]),(x6,.st [.fn Su (EU x5 x6 f cs)])]
set_option maxHeartbeats 2000000 in
theorem Qb37 {F:Heap}{M x5 x6:Nat}{f:Bool}(hg:Ah cs=true) :
  ∀(n:Nat) (ks:List Nat) (ver:Nat) (H:Heap) (K:V→Heap→Prop),Nd cs n→ks.Nodup→(∀x∈ks,Nd cs x)→Kn F H (clE M x5 x6 f cs ver ks) []→
   (∀(ks':List Nat) (ver':Nat) (H':Heap),Vst cs ks [n] ks'→Kn F H' (clE M x5 x6 f cs ver' ks') []→K (.tup []) H')→
   Qs prog Su ([.c (.int .i64 n)]++(EU x5 x6 f cs).map .c) H K:=by
 intro n
 induction n using Nat.strongRecOn with
 |ind n ih=>
 intro ks ver H K hn cr cP kn hK;have ce:=Bn hg hn;have hM:=kn.e 0 rfl;have bf:=kn.e 1 rfl;have aY:=kn.e 2 rfl;refine Qc Ab Qahm ?_;refine Qa ?_;simp only[go_sem,EU,bf,hM,Bl,Bx,Nm,Qa8u];refine Wv ?_ ?_
 ·intro hc;have oV:n∉ks:=ZA
  have cO:=Ie hg cr cP;refine Qa ?_;simp only[go_sem,bf,hM,Nm,Qbpj,Qbmd _ _ oV];refine⟨by simp only[LIM];omega,fun H1 h1=>?_⟩;have kn:Kn F H1 (clE M x5 x6 f cs (ver+1) (ks++[n])) []:=kn.stE 0 rfl h1;refine Za ?_;refine Qb21 hg ce fun H2 hu=>?_;have kn:=kn.aw hu;obtain⟨L,hL⟩:∃L,kcN (A3 cs n)=L:=⟨_,rfl⟩;have hLn:∀x∈L,x<n∧Nd cs x:=fun x hx=>by
   rw[←hL]at hx;exact⟨E8 hg ce hx,.to hn hx⟩
  rw[hL];simp only[go_sem,Qkv,Qz];try intro eA
  simp only[LIM]at eA;have vH:(ks++[n]).Nodup:=Jw.2 ⟨cr,Zz,fun a ha c hc=>by
   simp only[Ja]at hc;subst hc;exact fun e=>oV (e▸ha)⟩
  have rC:∀x∈ks++[n],Nd cs x:=fun x hx=>by
   rcases Jq.1 hx with hx|hx
   ·exact cP x hx
   ·simp only[Ja]at hx;subst hx;exact hn
  refine Qd (Qw (fun m e1 H1=>∃(i:Nat) (k1:List Nat) (ver1:Nat),m=L.length-i∧i≤L.length∧Vst cs (ks++[n]) (L.take i) k1∧Kn F H1 (clE M x5 x6 f cs ver1 k1) []∧
   e1=[(3,.c (.ptr x6 0)),(15,.c (.sl false 1 (Q5 L))),(16,.c (.int .i64 L.length)),(17,.c (.int .i64 i))]) L.length ?_ ?_)
  ·exact⟨0,_,_,Zx,Zx,.nil vH rC,kn,rfl⟩
  ·clear kn aY;rintro m e1 H3 ⟨i,k1,ver1,hm,hi,hv,kn,rfl⟩;have aY:=kn.e 2 rfl;refine Za ?_;refine Wu ?_ ?_
   ·intro aC;have ae:i<L.length:=ZC;have bG:L.getD i 0=L[i]:=ZX;obtain⟨h1,h2⟩:=hLn _ (Jc ae);rw[←bG]at h1 h2;refine Zd ?_
    refine Wk ?_;simp only[go_sem,ae,Qz,AU _ _ ae];refine Zq aY ?_;refine ih _ h1 k1 ver1 H3 _ h2 hv.nd hv.need kn fun k2 ver2 H4 ge kn=>?_;refine Zf ?_;refine⟨Qr,L.length-(i+1),Zx,i+1,k2,ver2,rfl,Zx,?_,kn,rfl⟩;rw[Jg ae,←bG];exact hv.app ge
   ·intro aC;have bd:L.length≤i:=ZC;rw[Jf bd]at hv;refine Qu ?_;simp only[go_sem,X.next,Q6,Aa,Va,J1];refine⟨fun _=>trivial,hK k1 ver1 H3 (.one ?_) kn⟩;rw[hL];exact hv
 ·intro hc;have oV:n∈ks:=ZA
  refine Qi ?_;simp only[go_sem,Q6,Aa,Va,J1];exact⟨fun _=>trivial,hK ks ver H ⟨cr,fun _ h=>h,by simpa using oV,fun _ h=>.inl h,cP⟩ kn⟩
set_option maxHeartbeats 2000000 in
theorem Qbmw {ns:List Nat}{f:Bool}(hg:Ah cs=true)(cP:ns=[cs.length-1])(hK:∀H',Upd H H' []→K (.c (.sl false 1 (Q5 (As cs)))) H') :
  Qs prog Ts [.c (.sl true 1 (Q5 ns)),.c (.fn Ip [.pp [.sl f 3 (Qk cs)]])] H K:=by
 refine Qx ?_;refine Qc Ab Qaz8 ?_;refine Wb ?_;intro M hM0 H1 h1;have kn:Kn H H1 [] [(M,.map 0 (AQ []))]:=(Kn.aq H).al hM0 h1;simp only[go_sem,Qt3];intro x5 bf H3 h3;have kn:=kn.al bf h3;have bf:=kn.l 1 rfl;simp only[go_sem,Qt2,bf];intro H4 h4;have kn:=kn.aB 1 rfl h4;refine Za ?_;intro x6 aY H5 h5;have kn:=kn.al aY h5;have aY:=kn.l 2 rfl;refine Zi aY ?_;intro H6 h6;have kn:Kn H H6 [] (clE M x5 x6 f cs 0 []++[]):=kn.aB 2 rfl h6;have kF:=kn.mid;have ce:ns.length=1:=by rw[cP];rfl
 refine Q1 (Qa ?_);simp only[go_sem,Qz];try intro eA
 refine Qh (Qd (Qw (fun m e1 H1=>∃(i:Nat) (k1:List Nat) (ver1:Nat),m=ns.length-i∧i≤ns.length∧Vst cs [] (ns.take i) k1∧Kn H6 H1 (clE M x5 x6 f cs ver1 k1) []∧
  e1=[(5,.c (.ptr x5 0)),(6,.c (.ptr x6 0)),(11,.c (.sl true 1 (Q5 ns))),(12,.c (.int .i64 ns.length)),(13,.c (.int .i64 i))]) ns.length ?_ ?_))
 ·exact⟨0,_,_,Zx,Zx,.nil List.nodup_nil Zz,kF,rfl⟩
 ·clear kF bf aY;rintro m e1 H8 ⟨i,k1,ver1,hm,hi,hv,kF,rfl⟩;have aY:=kF.e 2 rfl;have bf:=kF.e 1 rfl;have hM:=kF.e 0 rfl;refine Za ?_;refine Wu ?_ ?_
  ·intro aC;have ae:i<ns.length:=ZC
   have bG:ns.getD i 0=ns[i]:=ZX
   have cr:Nd cs (ns.getD i 0):=by
    have:ns[i]∈ns:=Jc ae;rw[←bG]at this;rw[cP]at this⊢;simp only[Ja]at this;rw[this];exact .top
   refine Zd ?_
   refine Wk ?_;simp only[go_sem,ae,Qz,AU _ _ ae];refine Zq aY ?_;refine Qb37 hg _ k1 ver1 H8 _ cr hv.nd hv.need kF fun k2 ver2 H9 ge kF=>?_;refine Zf ?_;refine⟨Qr,ns.length-(i+1),Zx,i+1,k2,ver2,rfl,Zx,?_,kF,rfl⟩;rw[Jg ae,←bG];exact hv.app ge
  ·intro aC;have bd:ns.length≤i:=ZC
   rw[Jf bd]at hv;have cO:=Ie hg hv.nd hv.need;refine Zc ?_;refine Zi bf ?_;refine Q9p hM hv.nd ZM fun fl2 l H9 hu xi bZ=>?_;have kn:=kn.comp (kF.aw hu) rfl;simp only[go_sem,Qt4];refine Zb ?_;have hl:l=As cs:=by
    refine Iz hg xi ?_ ?_ ?_
    ·rw[bZ];exact hv.ns _ (by rw[cP];simp)
    ·intro k hk n hn;rw[bZ]at hk⊢;exact (hv.cl k hk).resolve_left Zz n hn
    ·intro k hk;rw[bZ]at hk;exact hv.need k hk
   rw[hl];exact⟨_,.c _ _ (Da (noOw_mem (BC _))),hK _ kn.fin⟩
theorem Qaub {f:Bool}(hg:Ah cs=true)(hK:∀H',Upd H H' []→K (.c (.sl false 1 (Q5 (As cs)))) H') :
  Qs prog Vm [.ag [.sl f 3 (Qk cs)]] H K:=by
 have h1:=(of_decide_eq_true hg).1;have e1:(cs.length:Int)-1=((cs.length-1:Nat):Int):=Zx
 refine Qx ?_;refine Qc Ab Qadh ?_;refine Wg ?_;simp only[go_sem,Q0,e1];try intro _
 refine⟨Qr,?_⟩;refine Qbmw (ns:=[cs.length-1]) (f:=f) hg rfl fun H1 hu=>?_;have kn:=(Kn.aq H).aw hu;simp only[go_sem,Qji];refine Zb ?_;exact⟨_,.c _ _ (Da (noOw_mem (BC _))),hK _ kn.fin⟩
noncomputable def Bm (cs:List CodeD):List Nat:=if Ah cs=true then As cs else []
end Go.AE.Y
namespace Go.AE.Y
open Go.Proofs.Tryz
attribute [local instance] Classical.propDecidable
theorem IsIx.eq {ns:List Int}{v r s:Int}(h:IsIx ns v r)(k:IsIx ns v s):r=s:=by
 by_cases hm:v∈ns
 ·rw[h.idx hm,k.idx hm]
 ·rcases h with ⟨rfl,_⟩|⟨i,_,h1,h2,_⟩
  ·rcases k with ⟨rfl,_⟩|⟨i,_,h1,h2,_⟩
   ·rfl
   ·rw[Jb,Jh h1]at h2;exact absurd (h2▸Jc h1) hm
  ·rw[Jb,Jh h1]at h2;exact absurd (h2▸Jc h1) hm
noncomputable def ixI (L:List Nat)(v:Int):Int:=if h:∃r,IsIx (L.map Int.ofNat) v r then Classical.choose h else 0
theorem EQ {L:List Nat}{v r:Int}(h:IsIx (L.map Int.ofNat) v r):ixI L v=r:=by
 have he:∃r,IsIx (L.map Int.ofNat) v r:=⟨r,h⟩;rw[ixI,dif_pos he];exact (Classical.choose_spec he).eq h
theorem Ih {L:List Nat}(ha:L.Pairwise (· < ·)){i:Nat}(hi:i<L.length):ixI L (L[i]:Int)=i:=by
 refine EQ (.inr ⟨i,rfl,ZV,Za1,fun hm=>?_⟩);obtain⟨j,hj,he⟩:=Js.1 hm;have cj:j<i:=by simp only[J0,Jd]at hj;omega
 have fb:j<L.length:=Zx
 simp only[Jbq,Jaj]at he;have he:(L[j]:Int)=(L[i]:Int):=he;have:=J4.1 ha j i fb hi cj;omega
noncomputable def rnI (L:List Nat)(x:InsD):InsD:=if x.op=14 then { x with n:=ixI L x.n } else x
noncomputable def rnB (L:List Nat)(y:BlkD):BlkD:={ y with ins:=y.ins.map (rnI L) }
noncomputable def rnC (L:List Nat)(q:CodeD):CodeD:={ q with blocks:=q.blocks.map (rnB L) }
noncomputable def Ar (cs:List CodeD)(L:List Nat):List CodeD:=L.map fun k=>rnC L (A3 cs k)
theorem CW (L:List Nat)(x:InsD):(rnI L x).op=x.op:=by rw[rnI];split <;> rfl
theorem EN (L:List Nat)(x:InsD):(rnI L x).to=x.to:=by rw[rnI];split <;> rfl
theorem Fl (L:List Nat)(x:InsD):(rnI L x).args=x.args:=by rw[rnI];split <;> rfl
theorem By (cs:List CodeD)(L:List Nat):(Ar cs L).length=L.length:=by simp[Ar]
theorem Ed {cs:List CodeD}{L:List Nat}{i:Nat}(h:i<(Ar cs L).length):(Ar cs L)[i]=rnC L (A3 cs (L[i]'(by rwa [By]at h))):=by simp[Ar]
theorem XR (L:List Nat)(y:BlkD):AF (rnB L y)=AF y:=by simp[AF,rnB]
theorem XS (L:List Nat)(q:CodeD):AH (rnC L q)=AH q:=by
 simp only[AH,Ay,rnC,Jae];congr 1;exact J6 fun y _=>XR L y
theorem Qb0o {a b:List Nat}(h:a.Sublist b):a.sum≤b.sum:=by
 induction h with
 |slnil=>exact Ji _
 |cons x _ ih=>simp only[Jby];omega
 |cons_cons x _ ih=>simp only[Jby];omega
theorem Qbmb {f:Nat→Nat}{n:Nat}{L:List Nat}(ha:L.Pairwise (· < ·))(hl:∀x∈L,x<n):(L.map f).sum≤((List.range n).map f).sum:=by
 have hs:L.Sublist (List.range n):=by
  have e:L=(List.range n).filter fun x=>decide (x∈L):=CJ ha (Jbh _ Jaq) fun x=>by
   simp only[Jab,Jv,decide_eq_true_eq];exact⟨fun h=>⟨hl x h,h⟩,fun h=>h.2⟩
  rw[e];exact Jbm
 exact Qb0o (hs.map f)
section
variable {cs:List CodeD}{L:List Nat}(hg:Ah cs=true)(hL:L=As cs)
include hg hL
theorem Hc {i:Nat}(hi:i<L.length):L[i]<cs.length:=by
 subst hL;exact Bn hg ((C3 hg).1 (Jc hi))
theorem Gn {i:Nat}(hi:i<L.length){x:InsD}{y:BlkD}(hy:y∈(A3 cs L[i]).blocks)(hx:x∈y.ins)(ho:x.op=14):∃m,∃hm:m<L.length,x.n=(L[m]:Int)∧m<i∧(rnI L x).n=m:=by
 have hk:=Hc hg hL hi;obtain⟨b,hb,rfl⟩:=Js.1 hy;obtain⟨j,hj,rfl⟩:=Js.1 hx;have e:=Ch hk;obtain⟨n,hn,ae⟩:∃n:Nat,(A3 cs L[i]).blocks[b].ins[j].n=n∧n<L[i]:=by
  simp only[e]at ho hb hj⊢;exact CP hg hk hb hj ho
 have hN:n∈L:=by
  have cr:Nd cs L[i]:=(C3 hg).1 (by rw[←hL];exact Jc hi);have h1:Nd cs n:=.to cr (by
   refine Jr.2 ⟨((b:Int),(j:Int)),?_,?_⟩
   ·refine Jt.2 ⟨b,Jv.2 hb,?_⟩;refine Jr.2 ⟨j,Jab.2 ⟨Jv.2 (by rw[AA hb];exact hj),?_⟩,rfl⟩;simp only[AA hb,Jh hj,J5,Ju,ho,decide_true]
   ·simp only[Ce,Jaf,AA hb,Jh hj,Ju,hn])
  rw[hL];exact (C3 hg).2 h1
 obtain⟨m,hm,rfl⟩:=Js.1 hN;have ha:L.Pairwise (· < ·):=Za7
 refine⟨m,hm,hn,?_,?_⟩
 ·by_cases eR:m<i
  ·exact eR
  ·by_cases he:m=i
   ·subst he;omega
   ·have:=J4.1 ha i m hi hm Zx;omega
 ·rw[rnI,if_pos ho,hn];exact Ih ha hm
theorem FY:Ah (Ar cs L)=true:=by
 obtain⟨h1,h2,h3⟩:=of_decide_eq_true hg;have ha:L.Pairwise (· < ·):=Za7
 have iT:=Ky (cs:=cs);have ig:=(Hw hg).1;rw[←hL]at iT ig;refine decide_eq_true ⟨by rw[By];omega,fun i hi=>?_,?_⟩
 ·rw[By]at hi;have hk:=Hc hg hL hi;obtain⟨g1,g2⟩:=h2 _ hk;have bO:i<(Ar cs L).length:=by rw[By];exact hi
  have e:(Ar cs L)[i]=rnC L cs[L[i]]:=by rw[Ed bO,Ch hk]
  refine⟨?_,fun b hb=>?_⟩
  ·rw[e];simp only[B6,Jai,decide_eq_true_eq]at g1⊢;simpa only[rnC,Jd]using g1
  ·have aZ:b<cs[L[i]].blocks.length:=by rw[e]at hb;simpa[rnC]using hb
   have g:=g2 b aZ;have eb:(Ar cs L)[i].blocks[b]=rnB L cs[L[i]].blocks[b]:=by simp only[e,rnC,Jaj]
   have en:(fun j=>((rnC L cs[L[i]]).blocks.map BlkD.next).getD j [])=fun j=>(cs[L[i]].blocks.map BlkD.next).getD j []:=by
    have:(rnC L cs[L[i]]).blocks.map BlkD.next=cs[L[i]].blocks.map BlkD.next:=by
     simp only[rnC,Jae];exact J6 fun y _=>rfl
    funext j;rw[this]
   have el:(Qo (rnC L cs[L[i]]).blocks).length=(Qo cs[L[i]].blocks).length:=by simp[rnC,Qm]
   have er:rgOf (Ar cs L) i=rgOf cs L[i]:=by rw[CK bO,CK hk,e];rfl
   rw[eb,e];simp only[blkG,Jai,Jbc]at g⊢;obtain⟨⟨⟨gj,gn⟩,gi⟩,gp⟩:=g;refine⟨⟨⟨gj,fun x hx=>?_⟩,fun x hx=>?_⟩,fun x hx=>?_⟩
   ·rw[el];exact gn x hx
   ·obtain⟨z,hz,rfl⟩:=Jr.1 hx;have gz:=gi z hz;simp only[AC,Jai]at gz⊢;obtain⟨⟨a1,a2⟩,a3⟩:=gz;refine⟨⟨?_,?_⟩,?_⟩
    ·rw[er];simpa only[insH,CW,Fl]using a1
    ·rw[er];simpa only[insT,CW,EN]using a2
    ·by_cases ho:z.op=14
     ·obtain⟨m,hm,eP,eR,ke⟩:=Gn hg hL hi (x:=z) (y:=cs[L[i]].blocks[b]) (by rw[Ch hk];exact Jc aZ) hz ho;have dd:=Hc hg hL hm;have de:m<(Ar cs L).length:=(by rw[By];exact hm);simp only[insL,CW,Fl,ho,if_true,Jai,decide_eq_true_eq,ke,Jaf]at a3⊢;refine⟨Zx,?_⟩;rw[Hb de,Ed de,Ch dd,a3.2,eP,Jaf,Hb dd];rfl
     ·have:rnI L z=z:=(by rw[rnI,if_neg ho]);rw[this];simpa only[insL,ho,if_false]using a3
   ·rw[en,el];exact gp x hx
 ·have e:Ay AH (Ar cs L)=(L.map fun k=>AH (A3 cs k)).sum:=by
   simp only[Ay,Ar,Jae];congr 1;exact J6 fun k _=>XS L _
  have e2:Ay AH cs=((List.range cs.length).map fun k=>AH (A3 cs k)).sum:=by
   rw[Ay];congr 1;refine Jav Zz fun i h1 h2=>?_;have:i<cs.length:=Zah
   simp[A3,this]
  have:=Qbmb (f:=fun k=>AH (A3 cs k)) ha (fun x hx=>Bn hg ((C3 hg).1 (by rw[←hL];exact hx)));omega
theorem Qbm3:As (Ar cs L)=List.range L.length:=by
 have hu:=FY hg hL;have ha:L.Pairwise (· < ·):=Za7
 have key:∀k,Nd cs k→∀i (hi:i<L.length),L[i]=k→Nd (Ar cs L) i:=by
  intro k hk
  induction hk with
  |top=>
   intro i hi he;have ig:=(Hw hg).1;have qq:=(Hw hg).2 Zx;have:i=L.length-1:=by
    subst hL;by_cases mf:i=(As cs).length-1
    ·exact mf
    ·have:=J4.1 ha i ((As cs).length-1) hi Zx Zx;omega
   rw[this,←By cs L];exact .top
  |@to k n hk hn ih=>
   intro i hi he;have hkL:k∈L:=by rw[hL];exact (C3 hg).2 hk
   obtain⟨j,hj,iW⟩:=Js.1 hkL;have hjd:=ih j hj iW;refine .to hjd ?_;have cw:j<(Ar cs L).length:=by rw[By];exact hj
   rw[Ch cw,Ed cw,iW];obtain⟨p,hp,rr⟩:=Jr.1 hn;obtain⟨b,t,rfl,hb,ht,ho,hI⟩:=CI hp;obtain⟨m,hm,eP,eR,ke⟩:=Gn hg hL hj (x:=(A3 cs k).blocks[b].ins[t]) (y:=(A3 cs k).blocks[b]) (by rw[iW];exact Jc hb) (Jc ht) ho;have vR:m=i:=by
    rw[hI,eP,Jaf]at rr;have:L[m]=L[i]:=(by rw[rr,he]);by_cases h1:m<i
    ·have:=J4.1 ha m i hm hi h1;omega
    ·by_cases h2:m=i
     ·exact h2
     ·have:=J4.1 ha i m hi hm Zx;omega
   have bX:b<(rnC L (A3 cs k)).blocks.length:=by simpa[rnC]using hb
   have eb:(rnC L (A3 cs k)).blocks[b]=rnB L (A3 cs k).blocks[b]:=by simp only[rnC,Jaj]
   have ca:t<(rnB L (A3 cs k).blocks[b]).ins.length:=by simpa[rnB]using ht
   have ei:(rnB L (A3 cs k).blocks[b]).ins[t]=rnI L (A3 cs k).blocks[b].ins[t]:=by simp only[rnB,Jaj]
   refine Jr.2 ⟨((b:Int),(t:Int)),?_,?_⟩
   ·refine Jt.2 ⟨b,Jv.2 bX,?_⟩;refine Jr.2 ⟨t,Jab.2 ⟨Jv.2 (by rw[AA bX,eb];exact ca),?_⟩,rfl⟩;simp only[AA bX,eb,Jh ca,ei,J5,Ju,CW,ho,decide_true]
   ·simp only[Ce,Jaf,AA bX,eb,Jh ca,ei,Ju,ke,vR]
 refine (CJ Jaq GG fun i=>?_).symm;rw[C3 hu,Jv];refine⟨fun hi=>?_,fun h=>by have:=Bn hu h;rwa [By]at this⟩;exact key L[i] ((C3 hg).1 (by rw[←hL];exact Jc hi)) i hi rfl
end
theorem Qbs2 {cs:List CodeD}(hg:Ah cs=true):Ar cs (List.range cs.length)=cs:=by
 refine Jav (by simp[Ar]) fun k h1 hk=>?_;rw[Ed h1];simp only[Ja8];rw[Ch hk];have hb:∀y∈cs[k].blocks,rnB (List.range cs.length) y=y:=fun y hy=>by
  have hi:∀x∈y.ins,rnI (List.range cs.length) x=x:=fun x hx=>by
   rw[rnI];split
   ·rename_i ho
    obtain⟨b,hb,rfl⟩:=Js.1 hy;obtain⟨j,hj,rfl⟩:=Js.1 hx;obtain⟨n,hn,ae⟩:=CP hg hk hb hj ho;have ce:n<(List.range cs.length).length:=(by rw[Ja2];omega);have h:=Ih (L:=List.range cs.length) Jaq ce;rw[Ja8]at h;have e:ixI (List.range cs.length) cs[k].blocks[b].ins[j].n=cs[k].blocks[b].ins[j].n:=(by rw[hn];exact h);rw[e]
   ·rfl
  rw[rnB,J6 hi,List.map_id']
 rw[rnC,J6 hb,List.map_id']
end Go.AE.Y
namespace Go.AE.Y
open Go.Proofs.Tryz
variable {H H0:Heap}{K:V→Heap→Prop}{S:Nat→Bool}
theorem OBlk.frzF {o:OBlk}(au:o.ok)(h:Held H S o.lg):FrzL H S o.row o.d.cells:=
 .cons (Gr.frzM au.p h.r.r.l (FK au.a h.r.l)) (.cons (Gr.frzM au.i h.r.r.r.r (Fx h.r.r.r.l)) (.cons (Qg rfl) (.cons (Qg rfl) (.cons (o.nx.frz h.l) .nil))))
theorem Qbmr {bs:List OBlk}(ho:∀o∈bs,o.ok)(h:Held H S (bs.flatMap OBlk.lg)):FrzR H S (bs.map OBlk.row) (Qo (bs.map OBlk.d)):=by
 rw[Qo,Jae];exact Dp bs fun x hx=>OBlk.frzF (ho x hx) (h.m hx)
end Go.AE.Y
namespace Go.AE.Y
attribute [local go_sem] cond_true cond_false Bool.not_true Bool.not_false
attribute [local instance] Classical.propDecidable
open Go.Proofs.Tryz
variable {H H0 F:Heap}{K:V→Heap→Prop}{E L B Lg:List (Nat×Obj)}{q:CodeD}{cs:List CodeD}
theorem Qbpk {l:List PhiD}{fl:Bool}(hl:l.length≤2 ^ 38)(ha:∀x∈l,x.args.length≤LIM)(hK:∀H',Upd H H' []→K (.c (.sl false 2 (Ae l))) H') :
  Qs prog Sy [.c (.sl fl 2 (Ae l)),.c (.fn GX [])] H K:=
 Qx (Qbuy hl ha (Kn.aq H) fun t Lg H' ao kn=>⟨_,.c _ _ (ao.frz kn (HN _)),hK _ kn.fin⟩)
theorem Qbpi {l:List InsD}{fl:Bool}(hl:l.length≤2 ^ 38)(ha:∀x∈l,x.args.length≤LIM)(kn:Kn H0 H E L)(hK:∀t Lg H',Gr Lg 4 (Af l) t→Kn H0 H' E (L++Lg)→K (.c t) H') :
  Qs prog Vw [.c (.sl fl 4 (Af l)),.c (.fn HU [])] H K:=by
 refine Qc Ab Q06 ?_;refine Wq ?_;simp only[go_sem,Ax];intro _;refine Qh (Qd (Qw (fun m e1 H1=>∃(i:Nat) (t:C) (Lg:List (Nat×Obj)),m=l.length-i∧i≤l.length∧Gr Lg 4 (Af (l.take i)) t∧Kn H0 H1 E (L++Lg)∧
  e1=[(1,.c (.fn HU [])),(5,.c t),(8,.c (.sl fl 4 (Af l))),(9,.c (.int .i64 l.length)),(10,.c (.int .i64 i))]) l.length ?_ ?_))
 ·exact⟨0,_,[],Zx,Zx,.nil 4,ZH,rfl⟩
 ·clear kn;rintro m e1 H1 ⟨i,t,Lg,hm,hi,ao,kn,rfl⟩;have bp:=ao.ah;refine Zi bp ?_;refine Wu ?_ ?_
  ·intro hc;have ae:i<l.length:=ZA
   obtain⟨p,hp⟩:∃p,l[i]=p:=⟨_,rfl⟩;have gk:p∈l:=ZaS
   have bN:l.take (i+1)=l.take i++[p]:=by rw[Jg ae,hp]
   refine Zd ?_
   refine Wk ?_;simp only[go_sem,bp,ae,Ax,B0 _ _ ae,InsD.cells,hp];intro x7 bC H2 h2;have kn:=kn.al bC h2;have bC:H2 x7=.st [.int .i64 0,.int .i64 0,.sl true 1 [],.int .i64 0]:=(kn.get (x7,.st [.int .i64 0,.int .i64 0,.sl true 1 [],.int .i64 0]) Zz).1;simp only[go_sem,Qe3,bC,bp];intro H3 h3;have kn:Kn H0 H3 E ((L++[(x7,.st [.int .i64 p.op,.int .i64 p.to,.sl false 1 (Qb p.args),.int .i64 p.n])])++Lg):=by
    have:=kn.aB (L++Lg).length (x:=x7) (o:=.st [.int .i64 0,.int .i64 0,.sl true 1 [],.int .i64 0]) Zz h3;refine Kn.perm (by simpa using this) (Qj fun f hf h0 hc hp=>by simp only[hf];omega)
   have bC:H3 x7=.st [.int .i64 p.op,.int .i64 p.to,.sl false 1 (Qb p.args),.int .i64 p.n]:=(kn.get (x7,.st [.int .i64 p.op,.int .i64 p.to,.sl false 1 (Qb p.args),.int .i64 p.n]) Zz).1;refine Qp ?_;simp only[go_sem,bp,bC,Jz,Jbr];refine Qbij (x:=p) (ha p gk) fun H4 hu=>?_;have kn:=kn.aw hu;simp only[go_sem,Qe5,bp,InsD.cells];have ll:(l.take i).length≤l.length:=by rw[J0];omega
   refine kn.bg (new:=Af [p]) ao (.mk' _ _ _ _) (Hz _) (by simp only[Ax,LIM,Jj,Jm];omega) fun t2 Lg2 H5 bq ca kn=>?_;simp only[go_sem,Qe4,ca];refine Qp ?_;simp only[go_sem,X.next,ca];refine⟨Qr,l.length-(i+1),Zx,i+1,t2,Lg2,rfl,Zx,?_,?_,rfl⟩
   ·rw[bN];have:Af (l.take i++[p])=Af (l.take i)++Af [p]:=(by simp[Af]);rw[this];exact bq
   ·exact Kn.drop (B:=[(x7,.st [.int .i64 p.op,.int .i64 p.to,.sl false 1 (Qb p.args),.int .i64 p.n])]) (kn.perm (Qj fun f hf h0 hc hp=>by simp only[hf];omega))
  ·intro hc;have bd:l.length≤i:=ZA
   rw[Jf bd]at ao;refine Zc ?_;refine Zi bp ?_;refine Zg bp ?_;exact hK t Lg H1 ao kn
def iRow (y:BlkD)(ic:C):List C:=[.sl false 2 (Ae y.aa),ic,.int .i64 y.jump,.int .i64 y.on,.sl false 1 (Qb y.next)]
theorem Qat9 {y:BlkD}(hy:y.cl)(hK:∀pc N H',Gr N 4 (Af y.ins) pc→Kn H H' [] N→K (.ag (iRow y pc)) H'):Qs prog HV [.ag y.cells] H K:=by
 refine De ?_;refine Qc Ab Qadg ?_;refine Qa ?_;simp only[go_sem,BlkD.cells];intro x1 dO H0 h0;have kn:=(Kn.aq H).al dO h0;intro x2 aI H1 h1;have kn:=kn.al aI h1;have dO:=kn.l 0 rfl;refine Zi dO ?_;refine Qbpk hy.p hy.pa fun H2 hu=>?_;have kn:=kn.aw hu;have dO:=kn.l 0 rfl;simp only[go_sem,Qjc,dO];intro H3 h3;have kn:=kn.aB 0 rfl h3;have dO:=kn.l 0 rfl;refine Zi dO ?_;refine Qbpi hy.i hy.ia kn fun pc N H4 kH kn=>?_;have dC:=kH.ah;have dO:=kn.l 0 rfl;simp only[go_sem,Qjd,dC,dO];intro H5 h5;have kn:=kn.aB 0 rfl h5;have dO:=kn.l 0 rfl;refine Zl dO dC ?_;refine CS kn hy.n fun t Lg H6 ao b8 kn=>?_;have dO:=kn.l 0 rfl;simp only[go_sem,Qje,dC,b8,dO];intro H7 h7;have kn:=kn.aB 0 rfl h7;have dO:=kn.l 0 rfl;have aI:=kn.l 1 rfl;refine Qa ?_;simp only[go_sem,dO,aI,dC,b8];intro H8 h8;have kn:Kn H H8 [] (([(x1,.st [.sl false 2 (Ae y.aa),pc,.int .i64 y.jump,.int .i64 y.on,t]),(x2,.st [.sl false 2 (Ae y.aa),pc,.int .i64 y.jump,.int .i64 y.on,t])]++Lg)++N):=
  (kn.aB 1 rfl h8).perm (Qj fun f hf h0 hc hp=>by
   have e1:=hc (x1,.st [.sl false 2 (Ae y.aa),pc,.int .i64 y.jump,.int .i64 y.on,t]) ([(x2,.st [.sl false 2 (Ae y.aa),pc,.int .i64 y.jump,.int .i64 y.on,t])]++N++Lg);have e2:=hc (x1,.st [.sl false 2 (Ae y.aa),pc,.int .i64 y.jump,.int .i64 y.on,t]) [(x2,.st [.sl false 2 (Ae y.aa),pc,.int .i64 y.jump,.int .i64 y.on,t])];show f ((x1,_)::([(x2,_)]++N++Lg))=_;rw[e1];simp only[hf,e2];omega)
 have aI:=kn.l 1 rfl;have eS:∀p∈Lg,H8 p.1=p.2∧unx H N p.1=true:=fun p hp=>
  ⟨(kn.get p (Je _ (Jk _ (Je _ hp)))).1,kn.unx (Je _ hp)⟩
 refine Ql ?_;simp only[go_sem,Q6,Aa,Ja,forall_eq,RS.op,dC,b8,aI];exact⟨unx H N,.ag (iRow y pc),H8.frz (unx H N),FrzL.ag (.cons (Da (noOw_mem (HN _))) (.cons (.same _ dC) (.cons (Qg rfl) (.cons (Qg rfl) (.cons (Gr.frzM ao eS (FrzR.same (Qq _))) .nil))))),C7 _ _,hK pc N _ kH kn.finK⟩
structure IBlk where
 y:BlkD
 pc:C
 pl:List (Nat×Obj)
def IBlk.row (b:IBlk):List C:=iRow b.y b.pc
def IBlk.ok (b:IBlk):Prop:=Gr b.pl 4 (Af b.y.ins) b.pc
theorem IBlk.ak {b:IBlk}(h:b.ok):Go.AE.ak b.row=true:=by
 have:=h.ah;simp only[Go.AE.ak,IBlk.row,iRow,List.all_cons,List.all_nil,this];rfl
theorem IBlk.frzR {S:Nat→Bool}:∀{ds:List IBlk},(∀d∈ds,d.ok)→(∀d∈ds,∀p∈d.pl,H p.1=p.2∧S p.1=true)→FrzR H S (ds.map IBlk.row) (Qo (ds.map IBlk.y))
 |[],_,_=>.nil
 |d::ds,h,hm=>.cons (.cons (Da (noOw_mem (HN _))) (.cons (Gr.frzM (h d Jac) (hm d Jac) (FrzR.same (Hz _)))
   (.cons (Qg rfl) (.cons (Qg rfl) (.cons (Da (noOw_mem (Qq _))) .nil)))))
   (IBlk.frzR (fun d hd=>h d (Jad _ hd)) fun d hd=>hm d (Jad _ hd))
theorem Qbpf {l:List BlkD}{fl:Bool}(hl:l.length≤2 ^ 38)(ha:∀y∈l,y.cl)(kn:Kn H0 H E L)
  (hK:∀(ks:List IBlk) t Lg H',ks.map IBlk.y=l→(∀b∈ks,b.ok)→Gr Lg 5 (ks.map IBlk.row) t→Kn H0 H' E ((L++ks.flatMap IBlk.pl)++Lg)→K (.c t) H') :
  Qs prog V5 [.c (.sl fl 5 (Qo l)),.c (.fn HV [])] H K:=by
 refine Qc Ab Qon ?_;refine Wq ?_;simp only[go_sem,Qm];intro _;refine Qh (Qd (Qw (fun m e1 H1=>∃(ks:List IBlk) (t:C) (Lg:List (Nat×Obj)),m=l.length-ks.length∧ks.length≤l.length∧ks.map IBlk.y=l.take ks.length∧(∀b∈ks,b.ok)∧Gr Lg 5 (ks.map IBlk.row) t∧Kn H0 H1 E ((L++ks.flatMap IBlk.pl)++Lg)∧
  e1=[(1,.c (.fn HV [])),(5,.c t),(8,.c (.sl fl 5 (Qo l))),(9,.c (.int .i64 l.length)),(10,.c (.int .i64 ks.length))]) l.length ?_ ?_))
 ·exact⟨[],_,[],Zz,Zz,Zz,Zz,.nil 5,ZH,rfl⟩
 ·clear kn;rintro m e1 H1 ⟨ks,t,Lg,hm,hi,f8,fS,ao,kn,rfl⟩;have bp:=ao.ah;refine Zi bp ?_;refine Wu ?_ ?_
  ·intro hc;have ae:ks.length<l.length:=ZA
   obtain⟨y,hy⟩:∃y,l[ks.length]=y:=⟨_,rfl⟩;have hym:y∈l:=by rw[←hy];exact Jc ae
   have bN:l.take (ks.length+1)=l.take ks.length++[y]:=by rw[Jg ae,hy]
   refine Zd ?_
   refine Wk ?_;simp only[go_sem,bp,ae,Qm,Q9 _ _ ae,BlkD.cells,hy];intro x7 bC H2 h2;have kn:=kn.al bC h2;have bC:H2 x7=.st [.sl true 2 [],.sl true 4 [],.int .i64 0,.int .i64 0,.sl true 1 []]:=(kn.get (x7,.st [.sl true 2 [],.sl true 4 [],.int .i64 0,.int .i64 0,.sl true 1 []]) Zz).1;simp only[go_sem,Qdg,bC,bp];intro H3 h3;have kn:Kn H0 H3 E (((L++ks.flatMap IBlk.pl)++Lg)++[(x7,blkC y)]):=by
    have:=kn.aB ((L++ks.flatMap IBlk.pl)++Lg).length (x:=x7) (o:=.st [.sl true 2 [],.sl true 4 [],.int .i64 0,.int .i64 0,.sl true 1 []]) Zz h3;simpa[blkC]using this
   have bC:H3 x7=.st [.sl false 2 (Ae y.aa),.sl false 4 (Af y.ins),.int .i64 y.jump,.int .i64 y.on,.sl false 1 (Qb y.next)]:=(kn.get (x7,blkC y) Zz).1;have kn:=kn.drop;refine Qp ?_;simp only[go_sem,bp,bC,Jz,Jbr];refine Qat9 (y:=y) (ha y hym) fun pc N H4 kH k2=>?_;have kn:Kn H0 H4 E ((L++(ks++[(⟨y,pc,N⟩:IBlk)]).flatMap IBlk.pl)++Lg):=(kn.comp0 k2).perm (Qj fun f hf h0 hc hp=>by
    simp only[hf,Jaw,Jaa,Jap,Jz];omega)
   have dC:=kH.ah;simp only[go_sem,Qdi,bp,iRow,dC];refine kn.bg (new:=[IBlk.row ⟨y,pc,N⟩]) ao (.mk' _ _ _ _) (by intro r hr;simp only[Ja]at hr;subst hr;exact IBlk.ak kH) Zav fun t2 Lg2 H5 bq ca kn=>?_;simp only[go_sem,Qdh,ca];refine Qp ?_;simp only[go_sem,X.next,ca];refine⟨Qr,l.length-(ks.length+1),Zx,ks++[⟨y,pc,N⟩],t2,Lg2,Zz,by simp;omega,?_,fun b hb=>?_,?_,kn,?_⟩
   ·rw[Jp,Jat,bN,Jn,f8];rfl
   ·rcases Jq.1 hb with hb|hb
    ·exact fS b hb
    ·simp only[Ja]at hb;subst hb;exact kH
   ·rw[Jn];exact bq
   ·simp
  ·intro hc;have bd:ks.length=l.length:=by have:l.length≤ks.length:=ZA;omega
   rw[bd,Ja6]at f8;refine Zc ?_;refine Zi bp ?_;refine Zg bp ?_;exact hK ks t Lg H1 f8 fS ao kn
theorem Qazl {q:CodeD}{fl:Bool}(hb:q.blocks.length≤2 ^ 38)(ha:∀y∈q.blocks,y.cl)
  (hK:∀(ks:List IBlk) bc bl H',ks.map IBlk.y=q.blocks→(∀b∈ks,b.ok)→Gr bl 5 (ks.map IBlk.row) bc→Kn H H' [] (ks.flatMap IBlk.pl++bl)→K (.ag [.int .i64 q.params,.int .i64 q.ab,bc]) H') :
  Qs prog TW [.ag [.int .i64 q.params,.int .i64 q.ab,.sl fl 5 (Qo q.blocks)]] H K:=by
 refine De ?_;refine Qc Ab Qahl ?_;refine Za ?_;intro x1 dO H0 h0;have kn:=(Kn.aq H).al dO h0;intro x2 aI H1 h1;have kn:=kn.al aI h1;have dO:=kn.l 0 rfl;refine Zi dO ?_;refine Qbpf hb ha kn fun ks bc bl H2 f8 fS ao kn=>?_;have fD:=ao.ah;have dO:=kn.l 0 rfl;simp only[go_sem,Qku,fD,dO];intro H3 h3;have kn:=kn.aB 0 rfl h3;have dO:=kn.l 0 rfl;have aI:=kn.l 1 rfl;refine Zp dO aI fD ?_;intro H4 h4;have kn:Kn H H4 [] ([(x1,.st [.int .i64 q.params,.int .i64 q.ab,bc]),(x2,.st [.int .i64 q.params,.int .i64 q.ab,bc])]++(ks.flatMap IBlk.pl++bl)):=by
  have:=kn.aB 1 rfl h4;refine this.perm ?_;simp only[List.set,Jao,Jam,J7];exact .refl _
 have aI:=kn.l 1 rfl;refine Zn fD aI ?_;exact⟨unx H (ks.flatMap IBlk.pl++bl),.ag [.int .i64 q.params,.int .i64 q.ab,bc],H4.frz (unx H (ks.flatMap IBlk.pl++bl)),FrzL.ag (.cons (Qg rfl) (.cons (Qg rfl) (.cons (.same _ fD) .nil))),C7 _ _,hK ks bc bl _ f8 fS ao kn.finK⟩
noncomputable def mxI (L:List Nat)(is:List InsD)(i:Nat):List InsD:=(is.take i).map (rnI L)++is.drop i
theorem I1 (L:List Nat)(is:List InsD)(i:Nat):(mxI L is i).length=is.length:=by
 simp only[mxI,Jp,Jd,J0,Jbu];omega
theorem Qb11 {L:List Nat}{is:List InsD}{i:Nat}(h:i<is.length)(h2:i<(mxI L is i).length):(mxI L is i)[i]=is[i]:=by
 have hl:((is.take i).map (rnI L)).length=i:=ZaK
 simp only[mxI];rw[List.getElem_append_right Zx];simp only[hl,Jbg,Jbp,Jbf]
theorem VG {L:List Nat}{is:List InsD}{i:Nat}(h:i<is.length):(mxI L is i).set i (rnI L is[i])=mxI L is (i+1):=by
 have hl:((is.take i).map (rnI L)).length=i:=ZaK
 rw[mxI,mxI,Ja4 _ _ Zx,hl,Jbg,J3 h,Jbo,Jg h,Jn,J7];rfl
theorem Qbu0 {L:List Nat}{is:List InsD}{i:Nat}(h:i<is.length)(h2:rnI L is[i]=is[i]):mxI L is (i+1)=mxI L is i:=by
 rw[mxI,mxI,Jg h,J3 h,Jn,J7,List.map_singleton,h2];rfl
theorem Qbu1 (L:List Nat)(is:List InsD):mxI L is 0=is:=by simp[mxI]
theorem VH (L:List Nat)(is:List InsD){i:Nat}(h:is.length≤i):mxI L is i=is.map (rnI L):=by
 rw[mxI,Jf h,Jbd h,Jz]
theorem Qbno (l:List InsD)(i:Nat)(x:InsD):(Af l).set i x.cells=Af (l.set i x):=by simp[Af,Ja9]
def dcE (x4 x5 zb:Nat)(q:CodeD)(rows:List (List C)):List (Nat×Obj):=
 [(x4,.st [.int .i64 0,.int .i64 0,.sl true 5 []]),(x5,.st [.int .i64 q.params,.int .i64 q.ab,.af zb 5 0 q.blocks.length]),(zb,.vec 5 rows)]
set_option maxHeartbeats 8000000 in
theorem Qbm2 {f:Bool}{k xl:Nat}{L:List Nat}(hg:Ah cs=true)(hk:k<cs.length)(zx:L.length≤1000)(dA:H xl=.st [.sl false 1 (Q5 L)])(hK:∀H',Upd H H' []→K (.ag (rnC L (A3 cs k)).cells) H') :
  Qs prog K6 [.c (.int .i64 k),.c (.pp [.sl f 3 (Qk cs)]),.c (.ptr xl 0)] H K:=by
 have ho:=DY hg hk;rw[Ch hk]at hK;obtain⟨q,hq⟩:∃q,cs[k]=q:=⟨_,rfl⟩;rw[hq]at ho hK;have eH:=ho.b0;have bj:=ho.b1;refine Qx ?_;refine Qc Ab Q69 ?_;refine Za ?_;intro x4 br H1 h1;have kn:=(Kn.start1 dA (by nofun)).al br h1;refine Qa ?_;simp only[go_sem,hk,Q0,Bc _ _ hk,CodeD.cells,hq];refine Qazl (q:=q) Zx ho.cl fun ks bc bl H3 f8 fS ao k2=>?_;have kn:=kn.comp0 k2;have cO:ks.length=q.blocks.length:=by rw[←f8,Jd]
 obtain⟨zb,rfl,rfl⟩:∃z,bc=.af z 5 0 q.blocks.length∧bl=[(z,.vec 5 (ks.map IBlk.row))]:=by
  rcases ao with ⟨_,h,_⟩|⟨y,h1,h2⟩
  ·have:=congrArg List.length h;simp only[Jd,Jm]at this;omega
  ·exact⟨y,by rw[h1,Jd,cO],h2⟩
 simp only[go_sem,Qhb];intro x5 bf H4 h4;have kn:=kn.al bf h4;have bf:H4 x5=.st [.int .i64 0,.int .i64 0,.sl true 5 []]:=(kn.get (x5,.st [.int .i64 0,.int .i64 0,.sl true 5 []]) Zz).1;simp only[go_sem,Qha,bf];intro H5 h5;obtain⟨R,hR⟩:∃R,ks.map IBlk.row=R:=⟨_,rfl⟩;have iK:R.length=q.blocks.length:=by rw[←hR,Jd,cO]
 rw[hR]at kn;have kn:Kn H H5 [(xl,.st [.sl false 1 (Q5 L)])] (dcE x4 x5 zb q R++(([]:List IBlk).flatMap IBlk.pl++ks.flatMap IBlk.pl)):=by
  have k3:=(kn.perm (Jo)).aB 0 rfl h5;exact k3.perm (Qj fun f hf h0 hc hp=>by
   have e:∀(a b c:Nat×Obj),f [a,b,c]=f [a]+f [b]+f [c]:=fun a b c=>Zau
   show f ([(x5,_)]++_)=_;simp only[hf,dcE,e,Jap,h0];omega)
 clear bf h5 ao;have bf:=kn.l 1 rfl;have cp:=kn.l 2 rfl;refine Q1 (Qa ?_);simp only[go_sem,bf,cp,iK,Jl,Ji];try intro _
 refine Qh (Qd (Qw (fun m e1 H1=>∃(ds ks:List IBlk),m=ks.length∧ds.length+ks.length=q.blocks.length∧ks.map IBlk.y=q.blocks.drop ds.length∧ds.map IBlk.y=(q.blocks.take ds.length).map (rnB L)∧(∀d∈ds,d.ok)∧(∀b∈ks,b.ok)∧(ds++ks).map IBlk.row=R∧
  Kn H H1 [(xl,.st [.sl false 1 (Q5 L)])] (dcE x4 x5 zb q R++(ds.flatMap IBlk.pl++ks.flatMap IBlk.pl))∧
  lk 2 e1=.c (.ptr xl 0)∧lk 4 e1=.c (.ptr x4 0)∧lk 5 e1=.c (.ptr x5 0)∧lk 16 e1=.c (.af zb 5 0 q.blocks.length)∧lk 17 e1=.c (.int .i64 q.blocks.length)∧lk 18 e1=.c (.int .i64 ds.length)) q.blocks.length ?_ ?_))
 ·exact⟨[],ks,Zx,by simpa using cO,by simpa using f8,Zz,Zz,fS,hR,kn,rfl,rfl,rfl,rfl,rfl,rfl⟩
 ·clear bf cp fS f8 cO hR;rintro m2 e2 H6 ⟨ds,ks,eo,am,f8,p9,jD,fS,hR,kn,l2,l4,l5,l16,l17,l18⟩;refine Qa ?_;simp only[go_sem,l2,l4,l5,l16,l17,l18];refine Wu ?_ ?_
  ·intro hc;have ae:ds.length<q.blocks.length:=ZA
   obtain⟨b,ks',rfl⟩:∃k ks',ks=k::ks':=by
    cases ks with
    |nil=>simp at am;omega
    |cons k ks'=>exact⟨k,ks',rfl⟩
   simp only[Jj]at am eo;rw[J3 ae,Jan]at f8;obtain⟨hy,oZ⟩:=List.cons.inj f8;have cA:=fS b Jac;have ck:=ho.il ds.length ae;obtain⟨y,ji⟩:∃y,b.y=y:=⟨_,rfl⟩;have cA:Gr b.pl 4 (Af y.ins) b.pc:=by rw[←ji];exact cA
   rw[←hy,ji]at ck;have aK:R.getD ds.length []=iRow y b.pc:=by
    rw[←hR,Jn,Jan];rw[Ib (by rw[Jd])];rw[IBlk.row,ji]
   have bN:R.take q.blocks.length=R:=Jf Zx;obtain⟨pc,ib⟩:∃pc,b.pc=pc:=⟨_,rfl⟩;obtain⟨pl,dH⟩:∃pl,b.pl=pl:=⟨_,rfl⟩;rw[ib]at cA aK;rw[dH]at cA;have dC:=cA.ah;refine Zd ?_
   refine A4 (fun e1 H1=>∃(t:List (Nat×Obj)),Gr t 4 (Af (y.ins.map (rnI L))) pc∧Kn H H1 [(xl,.st [.sl false 1 (Q5 L)])] (dcE x4 x5 zb q R++(ds.flatMap IBlk.pl++(t++ks'.flatMap IBlk.pl)))∧
    lk 2 e1=.c (.ptr xl 0)∧lk 4 e1=.c (.ptr x4 0)∧lk 5 e1=.c (.ptr x5 0)∧lk 16 e1=.c (.af zb 5 0 q.blocks.length)∧lk 17 e1=.c (.int .i64 q.blocks.length)∧lk 18 e1=.c (.int .i64 ds.length)) ?_ ?_
   ·intro Q bD _ _;refine Qd ?_;have cp:=kn.l 2 rfl;refine Qa ?_;simp only[go_sem,l2,l4,l5,l16,l17,l18,cp,bN,iK,aK,iRow,ae,dC,Jl,Ji];intro x7 bC H7 h7;have kn:=kn.al bC h7;have bC:H7 x7=.st [.sl true 2 [],.sl true 4 [],.int .i64 0,.int .i64 0,.sl true 1 []]:=(kn.get (x7,.st [.sl true 2 [],.sl true 4 [],.int .i64 0,.int .i64 0,.sl true 1 []]) Zz).1;simp only[go_sem,Qhc,bC,dC];intro H8 h8;obtain⟨A,hA⟩:∃A,ds.flatMap IBlk.pl++ks'.flatMap IBlk.pl=A:=⟨_,rfl⟩;have kn:Kn H H8 [(xl,.st [.sl false 1 (Q5 L)])] (([(x7,.st (iRow y pc))]++(dcE x4 x5 zb q R++A))++pl):=by
     have k3:=(kn.perm (Jo)).aB 0 rfl h8;refine k3.perm (Qj fun f hf h0 hc hp=>?_);show f ([(x7,Obj.st (iRow y pc))]++_)=_;rw[←hA,Jaa,dH];simp only[hf];omega
    have cY:=cA.ay;rw[Ax]at cY;have lS:=eq_true (cA.slc kn).ok;have bC:H8 x7=.st [.sl false 2 (Ae y.aa),pc,.int .i64 y.jump,.int .i64 y.on,.sl false 1 (Qb y.next)]:=kn.l 0 rfl;refine Qa ?_;simp only[go_sem,bC,dC,cY,lS];try intro _
    refine Qd (Qw (fun m3 e1 H1=>∃(i:Nat) (t:List (Nat×Obj)),m3=y.ins.length-i∧i≤y.ins.length∧Gr t 4 (Af (mxI L y.ins i)) pc∧Kn H H1 [(xl,.st [.sl false 1 (Q5 L)])] (([(x7,.st (iRow y pc))]++(dcE x4 x5 zb q R++A))++t)∧
     lk 2 e1=.c (.ptr xl 0)∧lk 4 e1=.c (.ptr x4 0)∧lk 5 e1=.c (.ptr x5 0)∧lk 7 e1=.c (.ptr x7 0)∧lk 16 e1=.c (.af zb 5 0 q.blocks.length)∧lk 17 e1=.c (.int .i64 q.blocks.length)∧lk 18 e1=.c (.int .i64 ds.length)∧lk 24 e1=.c (.int .i64 y.ins.length)∧lk 25 e1=.c (.int .i64 i)) y.ins.length ?_ ?_)
    ·exact⟨0,pl,Zx,Zx,by rw[Qbu1];exact cA,kn,rfl,rfl,rfl,rfl,rfl,rfl,rfl,rfl,rfl⟩
    ·clear kn bC cp lS cY l2 l4 l5 l16 l17 l18;rintro m3 e3 H9 ⟨i,t,nq,hi,dK,kn,l2,l4,l5,l7,l16,l17,l18,l24,l25⟩;refine Qa ?_;simp only[go_sem,l2,l4,l5,l7,l16,l17,l18,l24,l25];refine Wu ?_ ?_
     ·intro bI;have bk:i<y.ins.length:=ZL;obtain⟨x,hx⟩:∃x,y.ins[i]=x:=⟨_,rfl⟩;have eY:=I1 L y.ins i;have eR:i<(mxI L y.ins i).length:=(by rw[eY];exact bk);have iE:=Qb11 (L:=L) bk eR;have bY:=VG (L:=L) bk;have cV:=Qbu0 (L:=L) bk;rw[hx]at iE bY cV;obtain⟨zi,rj,rfl⟩:∃z,pc=.af z 4 0 y.ins.length∧t=[(z,.vec 4 (Af (mxI L y.ins i)))]:=by
       rcases dK with ⟨_,h,_⟩|⟨z,h1,h2⟩
       ·have:=congrArg List.length h;rw[Ax]at this;simp only[Jm]at this;omega
       ·exact⟨z,by rw[h1,Ax,eY],h2⟩
      have gB:H9 zi=.vec 4 (Af (mxI L y.ins i)):=(kn.get (zi,.vec 4 (Af (mxI L y.ins i))) Zz).1;have bC:H9 x7=.st [.sl false 2 (Ae y.aa),pc,.int .i64 y.jump,.int .i64 y.on,.sl false 1 (Qb y.next)]:=kn.l 0 rfl;rw[rj]at bC;have dA:=kn.e 0 rfl;have ey:(Af (mxI L y.ins i)).take y.ins.length=Af (mxI L y.ins i):=Jf (by rw[Ax];omega);refine Zd ?_
      refine A4 (fun e1 H1=>∃(t:List (Nat×Obj)),Gr t 4 (Af (mxI L y.ins (i+1))) pc∧Kn H H1 [(xl,.st [.sl false 1 (Q5 L)])] (([(x7,.st (iRow y pc))]++(dcE x4 x5 zb q R++A))++t)∧
       lk 2 e1=.c (.ptr xl 0)∧lk 4 e1=.c (.ptr x4 0)∧lk 5 e1=.c (.ptr x5 0)∧lk 7 e1=.c (.ptr x7 0)∧lk 16 e1=.c (.af zb 5 0 q.blocks.length)∧lk 17 e1=.c (.int .i64 q.blocks.length)∧lk 18 e1=.c (.int .i64 ds.length)∧lk 24 e1=.c (.int .i64 y.ins.length)∧lk 25 e1=.c (.int .i64 i)) ?_ ?_
      ·intro Q2 iC _ _;refine Qd (Qa ?_);simp only[go_sem,l2,l4,l5,l7,l16,l17,l18,l24,l25];refine Qa ?_;simp only[go_sem,bC,gB,ey,bk,eY,Ax,B0 _ _ eR,iE,InsD.cells,Jl,Ji];refine Wv ?_ ?_
       ·intro dq;have dG:x.op=14:=ZN;refine Au ?_;simp only[go_sem,bC,gB,dA,ey,bk,eY,Ax,B0 _ _ eR,iE,InsD.cells,Jl,Ji];refine Gv (ns:=L.map Int.ofNat) (.mk' _ _ _ _) rfl fun r hr=>?_;simp only[go_sem,Qhd,bC,gB,ey,bk,eY,Ax,B0 _ _ eR,iE,InsD.cells,Jl,Ji];intro H10 cS;have ke:rnI L x=⟨x.op,x.to,x.args,r⟩:=(by rw[rnI,if_pos dG,EQ hr]);have kd:(Af (mxI L y.ins i)).set i [.int .i64 x.op,.int .i64 x.to,.sl false 1 (Qb x.args),.int .i64 r]=Af (mxI L y.ins (i+1)):=by
         rw[←bY,ke,←Qbno];rfl
        rw[kd]at cS;have kn:Kn H H10 [(xl,.st [.sl false 1 (Q5 L)])] ([(zi,.vec 4 (Af (mxI L y.ins (i+1))))]++([(x7,.st (iRow y pc))]++(dcE x4 x5 zb q R++A))):=(kn.perm (Jo)).aB 0 rfl cS;refine iC _ _ ⟨[(zi,.vec 4 (Af (mxI L y.ins (i+1))))],?_,kn.perm Jo,rfl,rfl,rfl,rfl,rfl,rfl,rfl,rfl,rfl⟩;rw[rj];exact .mk _ _ _ (by rw[Ax,I1])
       ·intro dq;have dG:¬x.op=14:=ZN;refine Zd ?_
        refine iC _ _ ⟨_,?_,kn,rfl,rfl,rfl,rfl,rfl,rfl,rfl,rfl,rfl⟩;rw[cV (by rw[rnI,if_neg dG])];exact dK
      ·rintro e4 H10 ⟨t,dK,kn,l2,l4,l5,l7,l16,l17,l18,l24,l25⟩;refine Qp ?_;simp only[go_sem,l2,l4,l5,l7,l16,l17,l18,l24,l25];refine⟨Qr,?_⟩;show ∃m,_;exact⟨y.ins.length-(i+1),Zx,i+1,t,rfl,Zx,dK,kn,rfl,rfl,rfl,rfl,rfl,rfl,rfl,rfl,rfl⟩
     ·intro bI;have bd:y.ins.length≤i:=ZL;rw[VH _ _ bd]at dK;refine Zc ?_;refine bD _ _ ⟨t,dK,Kn.drop (B:=[(x7,.st (iRow y pc))]) (kn.perm (Qj fun f hf h0 hc hp=>?_)),rfl,rfl,rfl,rfl,rfl,rfl⟩;rw[←hA];simp only[hf];omega
   ·rintro e4 H7 ⟨t,dK,kn,l2,l4,l5,l16,l17,l18⟩;refine Qp ?_;simp only[go_sem,l2,l4,l5,l16,l17,l18];refine⟨Qr,?_⟩;show ∃m,_;obtain⟨d,hd⟩:∃d:IBlk,d=⟨rnB L y,pc,t⟩:=⟨_,rfl⟩;have pB:d.ok:=(by rw[hd];exact dK);have pA:d.row=b.row:=(by rw[hd,IBlk.row,IBlk.row,ib,ji];rfl);refine⟨ks'.length,Zx,ds++[d],ks',rfl,by simp only[Jp,Jj,Jm];omega,by simpa using oZ,?_,fun w hw=>?_,fun b hb=>fS b (Jad _ hb),?_,?_,rfl,rfl,rfl,rfl,rfl,Zy⟩
    ·rw[Jn,p9,Jp,Jat,Jg ae,Jn,←hy,ji,hd];rfl
    ·rcases Jq.1 hw with hw|hw
     ·exact jD w hw
     ·simp only[Ja]at hw;rw[hw];exact pB
    ·rw[←hR];simp[pA]
    ·refine kn.perm (Qj fun f hf h0 hc hp=>?_);have e:d.pl=t:=(by rw[hd]);simp only[hf,Jaw,Jaa,Jap,Jz,e];omega
  ·intro hc;have wh:ks=[]:=by
    have:q.blocks.length≤ds.length:=ZA;exact List.eq_nil_of_length_eq_zero Zx
   subst wh;simp only[Jm,Jbf]at am;rw[am,Ja6]at p9;rw[Jz]at hR;refine Zc ?_;have bf:=kn.l 1 rfl;have br:=kn.l 0 rfl;refine Qa ?_;simp only[go_sem,l4,l5,bf,br];intro H7 h7;have kn:Kn H H7 [(xl,.st [.sl false 1 (Q5 L)])] ([(x4,.st [.int .i64 q.params,.int .i64 q.ab,.af zb 5 0 q.blocks.length]),(x5,.st [.int .i64 q.params,.int .i64 q.ab,.af zb 5 0 q.blocks.length]),(zb,.vec 5 R)]++(ds.flatMap IBlk.pl++([]:List IBlk).flatMap IBlk.pl)):=kn.aB 0 rfl h7;have br:=kn.l 0 rfl;have hz:H7 zb=.vec 5 R:=kn.l 2 rfl;have tW:un H zb=true:=kn.un 2 rfl;have bZ:∀p∈ds.flatMap IBlk.pl,H7 p.1=p.2∧un H p.1=true:=fun p hp=>
    ⟨(kn.get p (Je _ (Je _ (Jk _ hp)))).1,BN (kn.loc p (Je _ (Jk _ hp)))⟩
   have bT:FrzR H7 (un H) R (Qo (rnC L q).blocks):=by
    rw[←hR,rnC,←p9];exact IBlk.frzR jD fun w hw p hp=>bZ p (Jt.2 ⟨w,hw,hp⟩)
   refine Zg br ?_;exact⟨_,FrzL.ag (.cons (Qg rfl) (.cons (Qg rfl) (.cons (FrzR.af tW hz iK.symm bT) .nil))),hK _ (kn.fin.drop1 dA)⟩
end Go.AE.Y
namespace Go.AE.Y
attribute [local go_sem] cond_true cond_false Bool.not_true Bool.not_false
attribute [local instance] Classical.propDecidable
open Go.Proofs.Tryz
variable {H H0:Heap}{K:V→Heap→Prop}{E B Lg:List (Nat×Obj)}{q:CodeD}{cs:List CodeD}
structure Fnd (cs:List CodeD)(bs:List Bool)(n:Nat):Prop where
 len:bs.length=cs.length
 top:bs.getD (cs.length-1) false=true
 nd:∀x,bs.getD x false=true→Nd cs x
 cl:∀x,n≤x→bs.getD x false=true→∀m∈kcN (A3 cs x),bs.getD m false=true
theorem Fg {bs:List Bool}{m x:Nat}(h:bs.getD x false=true):(bs.set m true).getD x false=true:=by
 rw[C6];split
 ·rfl
 ·exact h
theorem Fnd.set {bs:List Bool}{n m k:Nat}(h:Fnd cs bs n)(hg:Ah cs=true)(hk:bs.getD k false=true)(hm:m∈kcN (A3 cs k))(md:k<n):Fnd cs (bs.set m true) n:=by
 have oV:=h.nd k hk;have ae:=E8 hg (Bn hg oV) hm;refine⟨by rw[Jah];exact h.len,Fg h.top,fun x hx=>?_,fun x hx hb m' de=>?_⟩
 ·rw[C6]at hx;split at hx
  ·rename_i hh
   rw[hh.1];exact .to oV hm
  ·exact h.nd x hx
 ·rw[C6,if_neg Zx]at hb;exact Fg (h.cl x hx hb m' de)
theorem Qbnd (hg:Ah cs=true):Fnd cs ((List.replicate cs.length false).set (cs.length-1) true) cs.length:=by
 have h1:=(of_decide_eq_true hg).1;refine⟨Zz,?_,fun x hx=>?_,fun x hx hb=>?_⟩
 ·rw[C6,if_pos ⟨rfl,by rw[Jas];omega⟩]
 ·rw[C6]at hx;split at hx
  ·rename_i hh
   rw[hh.1];exact .top
  ·rw[Di]at hx;simp at hx
 ·rw[C6,if_neg Zx,Di]at hb;simp at hb
theorem Qbtf {bs:List Bool}(hg:Ah cs=true)(h:Fnd cs bs 0):AP bs bs.length=As cs:=by
 have hm:∀x,x∈AP bs bs.length↔bs.getD x false=true:=fun x=>by
  simp only[AP,Jab,Jv];refine⟨fun h=>h.2,fun hx=>⟨?_,hx⟩⟩;by_cases hl:x<bs.length
  ·exact hl
  ·rw[Jb,List.getElem?_eq_none Zx]at hx;simp at hx
 refine Iz hg (Jbh _ Jaq) ((hm _).2 h.top) (fun k hk n hn=>?_) fun k hk=>h.nd k ((hm k).1 hk);exact (hm n).2 (h.cl k (Nat.zero_le _) ((hm k).1 hk) n hn)
set_option maxHeartbeats 4000000 in
theorem Qaod {fl:Bool}(aW:∀c∈cs,c.fits)(hK:∀H',Upd H H' []→K (.c (.sl false 1 (Q5 (Bm cs)))) H') :
  Qs prog Vl [.ag [.sl fl 3 (Qk cs)]] H K:=by
 refine Qx ?_;refine Qc Ab Qadk ?_;refine Wb ?_;refine Wa ?_;refine GU aW fun H1 hu=>?_;have kn:=(Kn.aq H).aw hu;simp only[go_sem,Qjt];refine Wu ?_ ?_
 ·intro hc;have hg:Ah cs=false:=B4 hc;refine Za ?_;refine Zm ?_;have:=hK _ kn.fin;rw[Bm,hg]at this;exact⟨_,.c _ _ FrzR.nil.sl,this⟩
 ·intro hc;have hg:Ah cs=true:=AD hc;rw[Bm,if_pos hg]at hK;have dG:=(of_decide_eq_true hg).1;have e1:(cs.length:Int)-1=((cs.length-1:Nat):Int):=Zx
  have iT:cs.length-1<cs.length:=Zx
  have tD:cs.length-1<(List.replicate cs.length false).length:=by rw[Jas];exact iT
  refine Zd ?_
  refine Qa ?_;simp only[go_sem,Q0,EY];try intro _
  refine⟨by simp only[LIM];omega,fun y hy H2 h2=>?_⟩;have kn:=kn.al hy h2;have hy:=kn.l 0 rfl;simp only[go_sem,Qju];refine Qa ?_;simp only[go_sem,hy,Q0,e1,iT,Qy,Jas,Q4 _ _ tD,Cl,Jl,Ji];try intro _
  refine⟨Qr,fun H3 h3=>?_⟩;have kn:Kn H H3 [] [(y,.vec 1 (Qt ((List.replicate cs.length false).set (cs.length-1) true)))]:=kn.aB 0 rfl h3;refine Q1 (Qa ?_);simp only[go_sem,Q0];try intro _
  refine⟨Qr,?_⟩;refine Qh (Qd (Qw (fun m e1 H1=>∃(bs:List Bool),Fnd cs bs m∧m≤cs.length∧Kn H H1 [] [(y,.vec 1 (Qt bs))]∧
   lk 1 e1=.c (.pp [.sl fl 3 (Qk cs)])∧lk 4 e1=.c (.af y 1 0 cs.length)∧lk 5 e1=.c (.int .i64 ((m:Int)-1))) cs.length ?_ ?_))
  ·exact⟨_,Qbnd hg,Zx,kn,rfl,rfl,rfl⟩
  ·clear kn hy;rintro m e1 H4 ⟨bs,hf,hm,kn,l1,l4,l5⟩;refine Q1 (Qa ?_);simp only[go_sem,l1,l4,l5];refine Wu ?_ ?_
   ·intro aC;obtain⟨k,rfl⟩:∃k,m=k+1:=⟨m-1,by simp at aC;omega⟩;have e5:((k+1:Nat):Int)-1=(k:Int):=Zx;rw[e5]at l5;have cO:k<cs.length:=Zx;have ho:=DY hg cO;have hgk:hasG cs (k:Int)=true:=by
     simp only[hasG,hg,Jbx,decide_eq_true_eq];omega
    obtain⟨q,hq⟩:∃q,cs[k]=q:=⟨_,rfl⟩;have cm:BR cs (k:Int)=caL q:=by
     rw[BR,if_pos hgk];simp[cO,hq]
    have yV:A3 cs k=q:=(by rw[Ch cO,hq]);rw[hq]at ho;have hcle:=Im ho;refine Zd ?_
    refine Wk ?_;simp only[go_sem,l1,l4,l5,e5];refine Q0x aW fun H5 hu=>?_;have kn:=kn.aw hu;rw[cm];simp only[go_sem,Qjv];refine Qa ?_;simp only[go_sem,l1,l4,l5,e5];refine Qd (Qw (fun m2 e1 H1=>∃(i:Nat) (bs:List Bool),m2=(caL q).length-i∧i≤(caL q).length∧Fnd cs bs (k+1)∧(∀x∈(kcN q).take i,bs.getD x false=true)∧Kn H H1 [] [(y,.vec 1 (Qt bs))]∧
     lk 1 e1=.c (.pp [.sl fl 3 (Qk cs)])∧lk 4 e1=.c (.af y 1 0 cs.length)∧lk 5 e1=.c (.int .i64 (k:Int))∧lk 6 e1=.c (.sl false 1 (Aw (caL q)))∧lk 7 e1=.c (.int .i64 i)) (caL q).length ?_ ?_)
    ·exact⟨0,bs,Zx,Zx,hf,Zz,kn,rfl,rfl,rfl,rfl,rfl⟩
    ·clear kn hf l1 l4 l5;rintro m2 e2 H6 ⟨i,bs,eo,hi,hf,dm,kn,l1,l4,l5,l6,l7⟩;have hy:=kn.l 0 rfl;have gr:k<bs.length:=(by rw[hf.len];exact cO);have bB:=hf.len;have bN:List.take cs.length (Qt bs)=Qt bs:=Jf Zai;have done:(∀x∈kcN q,bs.getD x false=true)∨bs.getD k false=false→Fnd cs bs k:=fun h=>⟨hf.len,hf.top,hf.nd,fun x hx hb m' de=>by
      by_cases sZ:x=k
      ·subst sZ;rw[yV]at de;rcases h with h|h
       ·exact h m' de
       ·rw[h]at hb;simp at hb
      ·exact hf.cl x Zx hb m' de⟩
     refine Q1 (Qa ?_);simp only[go_sem,l1,l4,l5,l6,l7,Dc];try intro _
     by_cases ae:i<(caL q).length
     ·have dW:decide ((i:Int)<((caL q).length:Int))=true:=decide_eq_true Zx;simp only[go_sem,dW,l1,l4,l5,l6,l7,hy,cO,gr,bB,bN,Qy,Q4 _ _ gr,Jbl,Jl,Ji];refine Wu ?_ ?_
      ·intro bI;have nE:bs.getD k false=true:=bI;obtain⟨p,hp⟩:∃p,(caL q)[i]=p:=⟨_,rfl⟩;obtain⟨b,j,rfl,hb,hj,vC,he⟩:=CI (p:=p) ZaS;obtain⟨w,hw,hwk⟩:∃n:Nat,q.blocks[b].ins[j].n=n∧n<k:=by
        have:=CP (b:=b) (i:=j) hg cO;simp only[hq]at this;exact this hb hj vC
       have pd:(kcN q).take (i+1)=(kcN q).take i++[w]:=by
        rw[Jg (by rw[kcN,Jd];exact ae)];congr 2;simp only[kcN,Jaj,hp,he,hw,Jaf]
       have u9:w∈kcN (A3 cs k):=by
        rw[yV];have:w∈(kcN q).take (i+1):=(by rw[pd];simp);exact Jbk this
       have iZ:=hf.set hg nE u9 Zx;obtain⟨z,hz⟩:∃z,q.blocks[b]=z:=⟨_,rfl⟩;simp only[hz]at hj hw;obtain⟨x,hx⟩:∃x,z.ins[j]=x:=⟨_,rfl⟩;rw[hx]at hw;have oe:w<cs.length:=Zx;have mI:w<bs.length:=Zx;have tn0:Int.toNat 0=0:=rfl;have tn1:Int.toNat 1=1:=rfl;have xS:((0:Int)≤1)=True:=Zz;have l01:(0<0+1+1)=True:=Zz;have l11:(1<0+1+1)=True:=Zz;refine Zd ?_
       refine Wr ?_;simp only[go_sem,l1,l4,l5,l6,l7,ae,cO,Dc,Q7h _ _ ae,hp,pRow,Q0,Bc _ _ cO,CodeD.cells,hq,hb,Qm,Q9 _ _ hb,BlkD.cells,hz,hj,Ax,B0 _ _ hj,InsD.cells,hx,hw,hy,oe,mI,bB,Qy,Q4 _ _ mI,Cl,tn0,tn1,xS,l01,l11,Ja1,Jag,Jax,Jl,Ji];intro H7 h7;have kn:Kn H H7 [] [(y,.vec 1 (Qt (bs.set w true)))]:=kn.aB 0 rfl h7;refine Qp ?_;simp only[go_sem,l1,l4,l5,l6,l7];refine⟨Qr,?_⟩;show ∃m,_;refine⟨(caL q).length-(i+1),Zx,i+1,_,rfl,Zx,iZ,fun x hx=>?_,kn,rfl,rfl,rfl,rfl,rfl⟩;rw[pd]at hx;rcases Jq.1 hx with hx|hx
       ·exact Fg (dm x hx)
       ·simp only[Ja]at hx;subst hx;rw[C6,if_pos ⟨rfl,mI⟩]
      ·intro bI;have nE:bs.getD k false=false:=bI;refine Zc ?_;refine Qp ?_;simp only[go_sem,l1,l4,l5];refine⟨Qr,?_⟩;show ∃m,_;exact⟨k,Zx,bs,done (.inr nE),Zx,kn,rfl,rfl,rfl⟩
     ·have dW:decide ((i:Int)<((caL q).length:Int))=false:=decide_eq_false Zx;simp only[go_sem,dW,l1,l4,l5,l6,l7,hy,cO,gr,bB,bN,Qy,Q4 _ _ gr,Jbl,Jl,Ji];refine Wu ?_ ?_
      ·intro h;simp at h
      intro _;rw[Jf (by rw[kcN,Jd];omega)]at dm;refine Zc ?_;refine Qp ?_;simp only[go_sem,l1,l4,l5];refine⟨Qr,?_⟩;show ∃m,_;exact⟨k,Zx,bs,done (.inl dm),Zx,kn,rfl,rfl,rfl⟩
   ·intro aC;obtain rfl:m=0:=(by simp at aC;omega);refine Zc ?_;refine Zi l4 ?_;refine Qbn3 (vslc (kn.l 0 rfl) (by rw[Qy,hf.len])) rfl (by rw[hf.len];omega) fun H5 hu=>?_;have kn:=kn.aw hu;simp only[go_sem,Qht];refine Zb ?_;have:=hK _ kn.fin;rw[←Qbtf hg hf]at this;exact⟨_,.c _ _ (Da (noOw_mem (BC _))),this⟩
end Go.AE.Y
namespace Go.AE.Y
attribute [local go_sem] cond_true cond_false Bool.not_true Bool.not_false
attribute [local instance] Classical.propDecidable
open Go.Proofs.Tryz
variable {H H0 F:Heap}{K:V→Heap→Prop}{E B Lg:List (Nat×Obj)}{q:CodeD}{cs:List CodeD}
noncomputable def AY (cs:List CodeD):List CodeD:=if Ah cs=true then Ar cs (As cs)else []
theorem Kx (hg:Ah cs=true):(As cs).length≤1000:=by
 have:=Ky (cs:=cs);have:=(of_decide_eq_true hg).1;omega
theorem Iy (hg:Ah cs=true):∀x∈As cs,x<cs.length:=fun x hx=>Bn hg ((C3 hg).1 hx)
set_option maxHeartbeats 4000000 in
theorem Qbph {f g:Bool}{L:List Nat}{xl:Nat}(hg:Ah cs=true)(zx:L.length≤1000)(hL:∀x∈L,x<cs.length)(dA:H xl=.st [.sl false 1 (Q5 L)])
  (hK:∀H',Upd H H' []→K (.c (.sl false 3 (Qk (Ar cs L)))) H') :
  Qs prog V6 [.c (.sl g 1 (Q5 L)),.c (.fn K6 [.pp [.sl f 3 (Qk cs)],.ptr xl 0])] H K:=by
 refine Qx ?_;refine Qc Ab Qx2 ?_;have kn:=Kn.start1 dA (by nofun);refine Wq ?_;simp only[go_sem,Qz];try intro _
 refine Qh (Qd (Qw (fun m e1 H1=>∃(i:Nat) (t:C) (Lg:List (Nat×Obj)),m=L.length-i∧i≤L.length∧Gr Lg 3 (Qk ((Ar cs L).take i)) t∧Kn H H1 [(xl,.st [.sl false 1 (Q5 L)])] ([]++Lg)∧
  lk 1 e1=.c (.fn K6 [.pp [.sl f 3 (Qk cs)],.ptr xl 0])∧lk 5 e1=.c t∧lk 8 e1=.c (.sl g 1 (Q5 L))∧lk 9 e1=.c (.int .i64 L.length)∧lk 10 e1=.c (.int .i64 i)) L.length ?_ ?_))
 ·exact⟨0,_,[],Zx,Zx,.nil 3,kn,rfl,rfl,rfl,rfl,rfl⟩
 ·clear kn;rintro m e1 H1 ⟨i,t,Lg,hm,hi,ao,kn,l1,l5,l8,l9,l10⟩;have bp:=ao.ah;refine Qa ?_;simp only[go_sem,l1,l5,l8,l9,l10,bp];refine Wu ?_ ?_
  ·intro hc;have ae:i<L.length:=ZA
   obtain⟨k,hk⟩:∃k,L[i]=k:=⟨_,rfl⟩;have bG:L.getD i 0=k:=by simp[Jb,ae,hk]
   have cO:k<cs.length:=hL k ZaR;have rW:i<(Ar cs L).length:=by rw[By];exact ae
   have bN:(Ar cs L).take (i+1)=(Ar cs L).take i++[rnC L (A3 cs k)]:=by
    rw[Jg rW,Ed rW];simp only[hk]
   refine Zd ?_
   refine Wk ?_;simp only[go_sem,l1,l5,l8,l9,l10,bp,ae,Qz,AU _ _ ae,bG];refine Zq bp ?_;refine Qbm2 hg cO zx (kn.e 0 rfl) fun H4 hu=>?_;have kn:=kn.aw hu;simp only[go_sem,Qet,bp,CodeD.cells];refine kn.bg (new:=Qk [rnC L (A3 cs k)]) ao (.mk' _ _ _ _) (Dg _) (by simp only[Q0,J0,LIM,Jj,Jm];omega) fun t2 Lg2 H5 bq ca kn=>?_;simp only[go_sem,Qes,ca];refine Zq ca ?_;refine⟨Qr,?_⟩;show ∃m,_;refine⟨L.length-(i+1),Zx,i+1,t2,Lg2,rfl,Zx,?_,kn,rfl,rfl,rfl,rfl,rfl⟩;have:Qk ((Ar cs L).take (i+1))=Qk ((Ar cs L).take i)++Qk [rnC L (A3 cs k)]:=by rw[bN];simp[Qk]
   rw[this];exact bq
  ·intro hc;have bd:L.length≤i:=ZA
   rw[Jf (by rw[By];exact bd)]at ao;refine Zc ?_;refine Zl l5 bp ?_;refine Zg bp ?_;exact⟨_,.c _ _ (ao.frz kn (Dg _)),hK _ (kn.fin.drop1 dA)⟩
theorem Qauk {fl:Bool}(aW:∀c∈cs,c.fits)(hK:∀H',Upd H H' []→K (.tup [.ag [.sl false 3 (Qk (AY cs))],.c (.bool (Ah cs))]) H') :
  Qs prog TX [.ag [.sl fl 3 (Qk cs)]] H K:=by
 refine Qx ?_;refine Qc Ab Qaoq ?_;refine Za ?_;intro x2 aI H1 h1;have kn:=(Kn.aq H).al aI h1;simp only[go_sem,Qmx];refine Wa ?_;refine Sd aW fun H2 hu=>?_;have kn:=kn.aw hu;have aI:=kn.l 0 rfl;simp only[go_sem,Qmy];refine Wu ?_ ?_
 ·intro hc;have hc:Ah cs=false:=B4 hc;refine Zi aI ?_;intro H3 h3;have kn:=kn.aB 0 rfl h3;have aI:=kn.l 0 rfl;simp only[go_sem,Qmz];refine Ql ?_;simp only[go_sem,X.next,Q6,Aa,Jx,J1,RS.op,aI];have hK:=hK _ kn.fin;rw[AY,hc]at hK;exact⟨fun _=>trivial,_,DZ (FrzL.ag (.cons FrzR.nil.sl .nil)) (.c _ _ (Qg rfl)),hK⟩
 ·intro hc;have hg:Ah cs=true:=AD hc;rw[AY,if_pos hg,hg]at hK;refine Zd ?_
  refine Za ?_;refine Qaub hg fun H3 hu=>?_;have kn:=kn.aw hu;simp only[go_sem,Qm1];intro x4 br H4 h4;have kn:=kn.al br h4;have br:=kn.l 1 rfl;simp only[go_sem,Qm0,br];intro H5 h5;have kn:Kn H H5 [] [(x2,.st [.sl true 3 []]),(x4,.st [.sl false 1 (Q5 (As cs))])]:=kn.aB 1 rfl h5;have br:=kn.l 1 rfl;refine Zi br ?_;refine Qbph hg (Kx hg) (Iy hg) br fun H6 hu=>?_;have kn:=kn.aw hu;have aI:=kn.l 0 rfl;simp only[go_sem,Qm3,aI];intro H7 h7;have kn:=kn.aB 0 rfl h7;have aI:=kn.l 0 rfl;simp only[go_sem,Qm2];refine Ql ?_;simp only[go_sem,X.next,Q6,Aa,Jx,J1,RS.op,aI];exact⟨fun _=>trivial,_,DZ (C5 _) (.c _ _ (Qg rfl)),hK _ kn.fin⟩
noncomputable def rnO (L:List Nat)(x:OIns):OIns:=if x.op=14 then { x with n:=ixI L x.n } else x
theorem Qb3h (L:List Nat)(x:OIns):(rnO L x).d=rnI L x.d:=by
 by_cases h:x.op=14
 ·have h2:x.d.op=14:=h;rw[rnO,if_pos h,rnI,if_pos h2];rfl
 ·have h2:¬x.d.op=14:=h;rw[rnO,if_neg h,rnI,if_neg h2]
theorem Qb2a (L:List Nat)(x:OIns):(rnO L x).lg=x.lg:=by
 rw[rnO];split <;> rfl
noncomputable def mxO (L:List Nat)(is:List OIns)(i:Nat):List OIns:=(is.take i).map (rnO L)++is.drop i
theorem I0 (L:List Nat)(is:List OIns)(i:Nat):(mxO L is i).length=is.length:=by
 simp only[mxO,Jp,Jd,J0,Jbu];omega
theorem Qb12 {L:List Nat}{is:List OIns}{i:Nat}(h:i<is.length)(h2:i<(mxO L is i).length):(mxO L is i)[i]=is[i]:=by
 have hl:((is.take i).map (rnO L)).length=i:=ZaK
 simp only[mxO];rw[List.getElem_append_right Zx];simp only[hl,Jbg,Jbp,Jbf]
theorem VE {L:List Nat}{is:List OIns}{i:Nat}(h:i<is.length):(mxO L is i).set i (rnO L is[i])=mxO L is (i+1):=by
 have hl:((is.take i).map (rnO L)).length=i:=ZaK
 rw[mxO,mxO,Ja4 _ _ Zx,hl,Jbg,J3 h,Jbo,Jg h,Jn,J7];rfl
theorem Qbu2 {L:List Nat}{is:List OIns}{i:Nat}(h:i<is.length)(h2:rnO L is[i]=is[i]):mxO L is (i+1)=mxO L is i:=by
 rw[mxO,mxO,Jg h,J3 h,Jn,J7,List.map_singleton,h2];rfl
theorem VF (L:List Nat)(is:List OIns){i:Nat}(h:is.length≤i):mxO L is i=is.map (rnO L):=by
 rw[mxO,Jf h,Jbd h,Jz]
def Be (is:List OIns):List (List C):=is.map OIns.row
theorem Dq (is:List OIns):(Be is).length=is.length:=by simp[Be]
theorem Q7o (is:List OIns)(i:Nat)(h:i<is.length):(Be is).getD i []=is[i].row:=by simp[Be,Jb,h]
theorem Qbp7 (is:List OIns)(i:Nat)(x:OIns):(Be is).set i x.row=Be (is.set i x):=by simp[Be,Ja9]
noncomputable def rnOB (L:List Nat)(b:OBlk)(t:List (Nat×Obj)):OBlk:={ b with ins:=b.ins.map (rnO L),il:=t }
theorem Qb19 (L:List Nat)(b:OBlk)(t:List (Nat×Obj)):(rnOB L b t).d=rnB L b.d:=by
 simp only[rnOB,OBlk.d,rnB,Jae];congr 1;exact J6 fun x _=>Qb3h L x
theorem YR (L:List Nat)(is:List OIns):(is.map (rnO L)).flatMap OIns.lg=is.flatMap OIns.lg:=by
 rw[List.flatMap_map];congr 1
 funext x;exact Qb2a L x
theorem Qbim {S:Nat→Bool}{os:List OCode}(ho:∀o∈os,o.ok)(h:Held H S (os.flatMap OCode.lg)):FrzR H S (os.map OCode.row) (Qk (os.map OCode.d)):=by
 rw[Qk,Jae];exact Dp os fun x hx=>.cons (Qg rfl) (.cons (Qg rfl) (.cons (Gr.frzM (ho x hx).b (h.m hx).r (Qbmr (ho x hx).bs (h.m hx).l)) .nil))
def dsE (x2 x5 x7 z:Nat)(t:C)(q:CodeD)(rows:List (List C)):List (Nat×Obj):=
 [(x2,.st [.sl true 3 []]),(x5,.st [t]),(x7,.st [.int .i64 q.params,.int .i64 q.ab,.af z 5 0 q.blocks.length]),(z,.vec 5 rows)]
set_option maxHeartbeats 8000000 in
theorem Qay0 {fl:Bool}(aW:∀c∈cs,c.fits)(hK:∀H',Upd H H' []→K (.tup [.ag [.sl false 3 (Qk (AY cs))],.c (.bool (Ah cs))]) H') :
  Qs prog TN [.ag [.sl fl 3 (Qk cs)]] H K:=by
 refine Qx ?_;refine Qc Ab Qao1 ?_;refine Za ?_;intro x2 aI H1 h1;have kn:=(Kn.aq H).al aI h1;simp only[go_sem,Qnl];refine Wa ?_;refine GU aW fun H2 hu=>?_;have kn:=kn.aw hu;have aI:=kn.l 0 rfl;simp only[go_sem,Qnm];refine Wu ?_ ?_
 ·intro hc;have hc:Ah cs=false:=B4 hc;refine Zi aI ?_;intro H3 h3;have kn:=kn.aB 0 rfl h3;have aI:=kn.l 0 rfl;simp only[go_sem,Qnn];refine Ql ?_;simp only[go_sem,X.next,Q6,Aa,Jx,J1,RS.op,aI];have hK:=hK _ kn.fin;rw[AY,hc]at hK;exact⟨fun _=>trivial,_,DZ (FrzL.ag (.cons FrzR.nil.sl .nil)) (.c _ _ (Qg rfl)),hK⟩
 ·intro hc;have hg:Ah cs=true:=AD hc;have xE:=Kx hg;have sP:=Iy hg;have vG:Bm cs=As cs:=by rw[Bm,if_pos hg]
  rw[AY,if_pos hg,hg]at hK;refine Zd ?_
  refine Za ?_;refine Qaod aW fun H3 hu=>?_;have kn:=kn.aw hu;rw[vG];obtain⟨L,hL⟩:∃L,As cs=L:=⟨_,rfl⟩;rw[hL]at xE sP hK⊢;simp only[go_sem,Qno];refine Za ?_;intro x5 bf H4 h4;have kn:=kn.al bf h4;have bf:=kn.l 1 rfl;simp only[go_sem,Qnp,bf];intro H5 h5;have kn:Kn H H5 [] [(x2,.st [.sl true 3 []]),(x5,.st [.sl true 3 []])]:=kn.aB 1 rfl h5;refine Wa ?_;refine Qh (Qd (Qw (fun m e1 H1=>∃(os:List OCode) (t:C) (Lg:List (Nat×Obj)),m=L.length-os.length∧os.length≤L.length∧os.map OCode.d=(Ar cs L).take os.length∧(∀o∈os,o.ok)∧Gr Lg 3 (os.map OCode.row) t∧
   Kn H H1 [] (([(x2,.st [.sl true 3 []]),(x5,.st [t])]++os.flatMap OCode.lg)++Lg)∧
   lk 1 e1=.c (.pp [.sl fl 3 (Qk cs)])∧lk 2 e1=.c (.ptr x2 0)∧lk 4 e1=.c (.sl false 1 (Q5 L))∧lk 5 e1=.c (.ptr x5 0)∧lk 6 e1=.c (.int .i64 os.length)) L.length ?_ ?_))
  ·exact⟨[],_,[],Zz,Zz,Zz,Zz,.nil 3,ZH,rfl,rfl,rfl,rfl,rfl⟩
  ·clear kn bf aI;rintro m e1 H6 ⟨os,t,Lg,hm,em,eN,f0,ao,kn,l1,l2,l4,l5,l6⟩;have bp:=ao.ah;refine Q1 (Qa ?_);simp only[go_sem,l1,l2,l4,l5,l6,Qz];try intro _
   refine Wu ?_ ?_
   ·intro bF;have ae:os.length<L.length:=Zap;obtain⟨k,hk⟩:∃k,L[os.length]=k:=⟨_,rfl⟩;have bG:L.getD os.length 0=k:=(by simp[Jb,ae,hk]);have cO:k<cs.length:=sP k ZaR;have rW:os.length<(Ar cs L).length:=(by rw[By];exact ae);have bN:(Ar cs L).take (os.length+1)=(Ar cs L).take os.length++[rnC L cs[k]]:=by
     rw[Jg rW,Ed rW];simp only[hk,Ch cO]
    have ho:=DY hg cO;obtain⟨q,hq⟩:∃q,cs[k]=q:=⟨_,rfl⟩;rw[hq]at ho bN;have eH:=ho.b0;have bj:=ho.b1;refine Zd ?_
    refine A4 (fun e2 H2=>∃(o:OCode) (t:C) (Lg:List (Nat×Obj)),o.ok∧o.d=rnC L q∧Gr Lg 3 ((os++[o]).map OCode.row) t∧
     Kn H H2 [] (([(x2,.st [.sl true 3 []]),(x5,.st [t])]++(os++[o]).flatMap OCode.lg)++Lg)∧
     lk 1 e2=.c (.pp [.sl fl 3 (Qk cs)])∧lk 2 e2=.c (.ptr x2 0)∧lk 4 e2=.c (.sl false 1 (Q5 L))∧lk 5 e2=.c (.ptr x5 0)∧lk 6 e2=.c (.int .i64 os.length)) ?_ ?_
    ·intro Q bD _ _;refine Qd (Aj ?_);simp only[go_sem,l1,l2,l4,l5,l6,ae,Qz,AU _ _ ae,bG,cO,Q0,Bc _ _ cO,CodeD.cells,hq];refine DQ (q:=q) ho.sg fun o H7 k2 au hd _=>?_;have kn:=kn.comp0 k2;have km:o.blocks.length=q.blocks.length:=(by rw[←hd];simp[OCode.d]);have lp:o.params=q.params:=Za5;have gM:o.ab=q.ab:=Za5;have pL:o.blocks.map OBlk.d=q.blocks:=Za5;obtain⟨z,nM,hz2⟩:∃z,o.bc=.af z 5 0 q.blocks.length∧o.bl=[(z,.vec 5 (o.blocks.map OBlk.row))]:=by
      rcases au.b with ⟨_,h,_⟩|⟨y,h1,h2⟩
      ·have:=congrArg List.length h;simp only[Jd,Jm]at this;omega
      ·exact⟨y,by rw[h1,Jd,km],h2⟩
     simp only[go_sem,Qnr,OCode.row,lp,gM,nM];intro x7 bC H8 h8;have kn:=kn.al bC h8;have bC:H8 x7=.st [.int .i64 0,.int .i64 0,.sl true 5 []]:=(kn.get (x7,.st [.int .i64 0,.int .i64 0,.sl true 5 []]) Zz).1;simp only[go_sem,Qnq,bC,ae,Qz,AU _ _ ae,bG,cO,Q0,Bc _ _ cO,CodeD.cells,hq];intro H9 h9;obtain⟨A,hA⟩:∃A,os.flatMap OCode.lg++Lg=A:=⟨_,rfl⟩;obtain⟨R,hR⟩:∃R,o.blocks.map OBlk.row=R:=⟨_,rfl⟩;have iK:R.length=q.blocks.length:=(by rw[←hR,Jd,km]);have kn:Kn H H9 [] (dsE x2 x5 x7 z t q R++(A++(([]:List OBlk).flatMap OBlk.lg++o.blocks.flatMap OBlk.lg))):=by
      have k3:=(kn.perm (Jo)).aB 0 rfl h9;refine k3.perm (Qj fun f hf h0 hc hp=>?_);have e:∀(a b c d:Nat×Obj),f [a,b,c,d]=f [a]+f [b]+f [c]+f [d]:=fun a b c d=>Zax;have e2:∀(a b:Nat×Obj),f [a,b]=f [a]+f [b]:=fun a b=>hc a [b];show f ([(x7,_)]++_)=_;rw[←hA,OCode.lg,hz2,hR];simp only[hf,dsE,e,e2,Jap,h0];omega
     refine Wa ?_;refine Qh (Qd (Qw (fun m e1 H1=>∃(ds ks:List OBlk),m=ks.length∧ds.length+ks.length=q.blocks.length∧ks.map OBlk.d=q.blocks.drop ds.length∧ds.map OBlk.d=(q.blocks.take ds.length).map (rnB L)∧(∀d∈ds,d.ok)∧(∀b∈ks,b.ok)∧(ds++ks).map OBlk.row=R∧
      Kn H H1 [] (dsE x2 x5 x7 z t q R++(A++(ds.flatMap OBlk.lg++ks.flatMap OBlk.lg)))∧
      lk 1 e1=.c (.pp [.sl fl 3 (Qk cs)])∧lk 2 e1=.c (.ptr x2 0)∧lk 4 e1=.c (.sl false 1 (Q5 L))∧lk 5 e1=.c (.ptr x5 0)∧lk 6 e1=.c (.int .i64 os.length)∧lk 7 e1=.c (.ptr x7 0)∧lk 8 e1=.c (.int .i64 ds.length)) q.blocks.length ?_ ?_))
     ·exact⟨[],o.blocks,Zx,by simpa using km,by simpa using pL,Zz,Zz,au.bs,hR,kn,rfl,rfl,rfl,rfl,rfl,rfl,rfl⟩
     ·clear kn bC hR l1 l2 l4 l5 l6 k2;rintro m2 e2 H10 ⟨ds,ks,eo,am,f8,p9,jD,fS,hR,kn,l1,l2,l4,l5,l6,l7,l8⟩;have bC:=kn.l 2 rfl;have hz:=kn.l 3 rfl;have ey:R.take q.blocks.length=R:=Jf Zx;refine Q1 (Qa ?_);simp only[go_sem,l1,l2,l4,l5,l6,l7,l8,bC,hz,iK,Jl,Ji];try intro _
      refine Wu ?_ ?_
      ·intro aC;have aT:ds.length<q.blocks.length:=ZC;obtain⟨b,ks',rfl⟩:∃k ks',ks=k::ks':=by
        cases ks with
        |nil=>simp at am;omega
        |cons k ks'=>exact⟨k,ks',rfl⟩
       simp only[Jj]at am eo;rw[J3 aT,Jan]at f8;obtain⟨hy,oZ⟩:=List.cons.inj f8;have cA:=fS b Jac;have ck:=ho.il ds.length aT;rw[←hy]at ck;have pk:b.ins.length≤1200:=by
        have:b.d.ins.length=b.ins.length:=(by simp[OBlk.d]);omega
       have aK:R.getD ds.length []=b.row:=by
        rw[←hR,Jn,Jan];exact Ib (by rw[Jd])
       have cf:Gr b.il 4 (Be b.ins) b.ic:=cA.i;have dC:=cA.p.ah;have kD:=cf.ah;have hiz:=cf.aO;refine Zd ?_
       refine A4 (fun e1 H1=>∃(t2:List (Nat×Obj)),Gr t2 4 (Be (b.ins.map (rnO L))) b.ic∧Kn H H1 [] (dsE x2 x5 x7 z t q R++(A++(ds.flatMap OBlk.lg++((rnOB L b t2).lg++ks'.flatMap OBlk.lg))))∧
        lk 1 e1=.c (.pp [.sl fl 3 (Qk cs)])∧lk 2 e1=.c (.ptr x2 0)∧lk 4 e1=.c (.sl false 1 (Q5 L))∧lk 5 e1=.c (.ptr x5 0)∧lk 6 e1=.c (.int .i64 os.length)∧lk 7 e1=.c (.ptr x7 0)∧lk 8 e1=.c (.int .i64 ds.length)) ?_ ?_
       ·intro Q2 iC _ _;refine Qd (Qa ?_);simp only[go_sem,l1,l2,l4,l5,l6,l7,l8];obtain⟨A2,zC⟩:∃A2,A++(ds.flatMap OBlk.lg++((b.nx.lg++(b.aa.flatMap OPhi.lg++(b.pl++b.ins.flatMap OIns.lg)))++ks'.flatMap OBlk.lg))=A2:=⟨_,rfl⟩;have kn:Kn H H10 [] ((dsE x2 x5 x7 z t q R++A2)++b.il):=kn.perm (Qj fun f hf h0 hc hp=>by
         rw[←zC,Jaa,OBlk.lg];simp only[hf];omega)
        refine Qd (Qw (fun m3 e1 H1=>∃(i:Nat) (t2:List (Nat×Obj)),m3=b.ins.length-i∧i≤b.ins.length∧Gr t2 4 (Be (mxO L b.ins i)) b.ic∧Kn H H1 [] ((dsE x2 x5 x7 z t q R++A2)++t2)∧
         lk 1 e1=.c (.pp [.sl fl 3 (Qk cs)])∧lk 2 e1=.c (.ptr x2 0)∧lk 4 e1=.c (.sl false 1 (Q5 L))∧lk 5 e1=.c (.ptr x5 0)∧lk 6 e1=.c (.int .i64 os.length)∧lk 7 e1=.c (.ptr x7 0)∧lk 8 e1=.c (.int .i64 ds.length)∧lk 9 e1=.c (.int .i64 i)) b.ins.length ?_ ?_)
        ·exact⟨0,b.il,Zx,Zx,by simpa[mxO]using cf,kn,rfl,rfl,rfl,rfl,rfl,rfl,rfl,rfl⟩
        ·clear kn bC hz l1 l2 l4 l5 l6 l7 l8;rintro m3 e3 H11 ⟨i,t2,nq,hi,dK,kn,l1,l2,l4,l5,l6,l7,l8,l9⟩;have bC:=kn.l 2 rfl;have hz:=kn.l 3 rfl;have cY:=dK.ay;have eY:=I0 L b.ins i;rw[Dq,eY]at cY;have lS:=eq_true (dK.slc kn).ok;refine Q1 (Qa ?_);simp only[go_sem,l1,l2,l4,l5,l6,l7,l8,l9,bC,hz,ey,iK,aK,OBlk.row,OInts.c,aT,dC,kD,cY,lS,Jl,Ji];try intro _
         refine Wu ?_ ?_
         ·intro bI;have bk:i<b.ins.length:=ZL;obtain⟨x,hx⟩:∃x,b.ins[i]=x:=⟨_,rfl⟩;have eR:i<(mxO L b.ins i).length:=(by rw[eY];exact bk);have iE:=Qb12 (L:=L) bk eR;have bY:=VE (L:=L) bk;have cV:=Qbu2 (L:=L) bk;rw[hx]at iE bY cV;obtain⟨zi,rj,rfl⟩:∃z,b.ic=.af z 4 0 b.ins.length∧t2=[(z,.vec 4 (Be (mxO L b.ins i)))]:=by
           rcases dK with ⟨_,h,_⟩|⟨z,h1,h2⟩
           ·have:=congrArg List.length h;rw[Dq]at this;simp only[Jm]at this;omega
           ·exact⟨z,by rw[h1,Dq,eY],h2⟩
          have gB:H11 zi=.vec 4 (Be (mxO L b.ins i)):=(kn.get (zi,.vec 4 (Be (mxO L b.ins i))) Zz).1;have gG:(Be (mxO L b.ins i)).take b.ins.length=Be (mxO L b.ins i):=Jf (by rw[Dq];omega);refine Zd ?_
          refine A4 (fun e1 H1=>∃(t2:List (Nat×Obj)),Gr t2 4 (Be (mxO L b.ins (i+1))) b.ic∧Kn H H1 [] ((dsE x2 x5 x7 z t q R++A2)++t2)∧
           lk 1 e1=.c (.pp [.sl fl 3 (Qk cs)])∧lk 2 e1=.c (.ptr x2 0)∧lk 4 e1=.c (.sl false 1 (Q5 L))∧lk 5 e1=.c (.ptr x5 0)∧lk 6 e1=.c (.int .i64 os.length)∧lk 7 e1=.c (.ptr x7 0)∧lk 8 e1=.c (.int .i64 ds.length)∧lk 9 e1=.c (.int .i64 i)) ?_ ?_
          ·intro Q3 rD _ _;refine Qd (Qa ?_);simp only[go_sem,l1,l2,l4,l5,l6,l7,l8,l9,bC,hz,ey,iK,aK,OBlk.row,OInts.c,aT,dC,kD,rj,gB,gG,Dq,eY,bk,Jl,Ji];refine Qa ?_;simp only[go_sem,gB,gG,Dq,eY,bk,Q7o _ _ eR,iE,OIns.row,OInts.c,Jl,Ji];refine Wv ?_ ?_
           ·intro dq;have dG:x.op=14:=ZN;refine Qp ?_;simp only[go_sem,gB,gG,Dq,eY,bk,Q7o _ _ eR,iE,OIns.row,OInts.c,Jl,Ji];refine CN (ns:=L.map Int.ofNat) (.mk' _ _ _ _) rfl fun r hr=>?_;simp only[go_sem,Qns,gB,gG,Dq,eY,bk,Q7o _ _ eR,iE,OIns.row,OInts.c,Jl,Ji];intro H12 fe;have ke:rnO L x=⟨x.op,x.to,x.a,r⟩:=(by rw[rnO,if_pos dG,EQ hr]);have kd:(Be (mxO L b.ins i)).set i [.int .i64 x.op,.int .i64 x.to,.af x.a.y 1 0 x.a.ns.length,.int .i64 r]=Be (mxO L b.ins (i+1)):=by
             rw[←bY,ke,←Qbp7];rfl
            rw[kd]at fe;have kn:Kn H H12 [] ([(zi,.vec 4 (Be (mxO L b.ins (i+1))))]++(dsE x2 x5 x7 z t q R++A2)):=(kn.perm (Jo)).aB 0 rfl fe;refine rD _ _ ⟨[(zi,.vec 4 (Be (mxO L b.ins (i+1))))],?_,kn.perm Jo,rfl,rfl,rfl,rfl,rfl,rfl,rfl,rfl⟩;rw[rj];exact .mk _ _ _ (by rw[Dq,I0])
           ·intro dq;have dG:¬x.op=14:=ZN;refine Zd ?_
            refine rD _ _ ⟨_,?_,kn,rfl,rfl,rfl,rfl,rfl,rfl,rfl,rfl⟩;rw[cV (by rw[rnO,if_neg dG])];exact dK
          ·rintro e4 H12 ⟨t2,dK,kn,l1,l2,l4,l5,l6,l7,l8,l9⟩;refine Qp ?_;simp only[go_sem,l1,l2,l4,l5,l6,l7,l8,l9];refine⟨Qr,?_⟩;show ∃m,_;exact⟨b.ins.length-(i+1),Zx,i+1,t2,rfl,Zx,dK,kn,rfl,rfl,rfl,rfl,rfl,rfl,rfl,rfl⟩
         ·intro bI;have bd:b.ins.length≤i:=ZL;rw[VF _ _ bd]at dK;refine Zc ?_;refine iC _ _ ⟨t2,dK,kn.perm (Qj fun f hf h0 hc hp=>?_),rfl,rfl,rfl,rfl,rfl,rfl,rfl⟩;rw[←zC,rnOB,OBlk.lg,YR];simp only[hf];omega
       ·rintro e4 H11 ⟨t2,dK,kn,l1,l2,l4,l5,l6,l7,l8⟩;refine Qp ?_;simp only[go_sem,l1,l2,l4,l5,l6,l7,l8];refine⟨Qr,?_⟩;show ∃m,_;obtain⟨d,dF⟩:∃d:OBlk,rnOB L b t2=d:=⟨_,rfl⟩;have pB:d.ok:=(by rw[←dF];exact⟨cA.p,dK,cA.a⟩);have pA:d.row=b.row:=(by rw[←dF];rfl);have tO:d.d=rnB L b.d:=(by rw[←dF];exact Qb19 L b t2);rw[dF]at kn;refine⟨ks'.length,Zx,ds++[d],ks',rfl,by simp only[Jp,Jj,Jm];omega,by simpa using oZ,?_,fun w hw=>?_,fun b hb=>fS b (Jad _ hb),?_,?_,rfl,rfl,rfl,rfl,rfl,rfl,Zy⟩
        ·rw[Jn,p9,Jp,Jat,Jg aT,Jn,←hy,List.map_singleton,tO];rfl
        ·rcases Jq.1 hw with hw|hw
         ·exact jD w hw
         ·simp only[Ja]at hw;rw[hw];exact pB
        ·rw[←hR];simp[pA]
        ·refine kn.perm (Qj fun f hf h0 hc hp=>?_);simp only[hf,Jaw,Jaa,Jap,Jz];omega
      ·intro aC;have wh:ks=[]:=by
        have:q.blocks.length≤ds.length:=ZC;exact List.eq_nil_of_length_eq_zero Zx
       subst wh;simp only[Jm,Jbf]at am;rw[am,Ja6]at p9;rw[Jz]at hR;refine Zc ?_;obtain⟨o2,iS⟩:∃o2:OCode,o2=⟨q.params,q.ab,ds,.af z 5 0 q.blocks.length,[(z,.vec 5 R)]⟩:=⟨_,rfl⟩;have eM:o2.ok:=by
        rw[iS];refine⟨.inr ⟨z,?_,?_⟩,jD⟩
        ·rw[hR,iK]
        ·rw[hR]
       have vA:o2.d=rnC L q:=(by rw[iS,OCode.d,rnC,p9]);have oP:o2.row=[.int .i64 q.params,.int .i64 q.ab,.af z 5 0 q.blocks.length]:=(by rw[iS];rfl);have we:o2.lg=ds.flatMap OBlk.lg++[(z,.vec 5 R)]:=(by rw[iS];rfl);have bf:=kn.l 1 rfl;refine Qp ?_;simp only[go_sem,l1,l2,l4,l5,l6,l7,l8,bC,bf,bp];have kn:Kn H H10 [] (([(x2,.st [.sl true 3 []]),(x5,.st [t])]++(os.flatMap OCode.lg++o2.lg))++Lg):=Kn.drop (B:=[(x7,.st [.int .i64 q.params,.int .i64 q.ab,.af z 5 0 q.blocks.length])]) (kn.perm (Qj fun f hf h0 hc hp=>by
        have e:∀(a b c d:Nat×Obj),f [a,b,c,d]=f [a]+f [b]+f [c]+f [d]:=fun a b c d=>Zax;have e2:∀(a b:Nat×Obj),f [a,b]=f [a]+f [b]:=fun a b=>hc a [b];rw[←hA,we];simp only[hf,dsE,e,e2,Jap,h0];omega))
       refine kn.bg (new:=[o2.row]) ao (by rw[oP];exact .mk' _ _ _ _) (fun r hr=>by simp only[Ja]at hr;rw[hr];exact o2.ak eM) Zav fun t3 Lg3 H11 w4 ox kn=>?_;have bf:=kn.l 1 rfl;simp only[go_sem,Qk2,bf,ox];intro H12 fe;have kn:Kn H H12 [] (([(x2,.st [.sl true 3 []]),(x5,.st [t3])]++(os.flatMap OCode.lg++o2.lg))++Lg3):=kn.aB 1 rfl fe;refine bD _ _ ⟨o2,t3,Lg3,eM,vA,by simpa using w4,?_,rfl,rfl,rfl,rfl,rfl⟩;have e:(os++[o2]).flatMap OCode.lg=os.flatMap OCode.lg++o2.lg:=(by simp[Jaw]);rw[e];exact kn
    ·rintro e4 H7 ⟨o,t2,Lg2,au,hd,bq,kn,l1,l2,l4,l5,l6⟩;refine Qp ?_;simp only[go_sem,l1,l2,l4,l5,l6];refine⟨Qr,?_⟩;show ∃m,_;refine⟨L.length-(os.length+1),Zx,os++[o],t2,Lg2,Zz,by simp only[Jp,Jj,Jm];omega,?_,fun w hw=>?_,bq,kn,rfl,rfl,rfl,rfl,Zy⟩
     ·rw[Jn,eN,Jp,Jat,bN,List.map_singleton,hd]
     ·rcases Jq.1 hw with hw|hw
      ·exact f0 w hw
      ·simp only[Ja]at hw;rw[hw];exact au
   ·intro bF;have bd:L.length≤os.length:=Zap;rw[Jf (by rw[By];exact bd)]at eN;refine Zc ?_;have bf:=kn.l 1 rfl;have aI:=kn.l 0 rfl;refine Qa ?_;simp only[go_sem,l2,l5,bf,aI,bp];intro H7 h7;have kn:Kn H H7 [] (([(x2,.st [t]),(x5,.st [t])]++os.flatMap OCode.lg)++Lg):=kn.aB 0 rfl h7;have aI:=kn.l 0 rfl;simp only[go_sem,Qk3];have bZ:∀p∈os.flatMap OCode.lg,H7 p.1=p.2∧un H p.1=true:=fun p hp=>
     ⟨(kn.get p (Je _ (Jk _ (Je _ hp)))).1,BN (kn.loc p (Jk _ (Je _ hp)))⟩
    have eS:=ao.frzR kn (Qbim (S:=un H) f0 bZ);rw[eN]at eS;refine Ql ?_;simp only[go_sem,Q6,Aa,Jx,J1,RS.op,aI,bp];exact⟨fun _=>trivial,_,DZ (FrzL.ag (.cons eS .nil)) (.c _ _ (Qg rfl)),hK _ kn.fin⟩
end Go.AE.Y
namespace Go.AE.Y
attribute [local go_sem] cond_true cond_false Bool.not_true Bool.not_false
attribute [local instance] Classical.propDecidable
open Go.Proofs.Tryz
variable {H H0:Heap}{K:V→Heap→Prop}{E B Lg:List (Nat×Obj)}{cs:List CodeD}
theorem Qagg {bs:List UInt8}(hK:∀(cs:List CodeD) (H':Heap),Upd H H' []→UnitOk cs→K (.ag [.sl false 3 (Qk cs)]) H') :
  Qs prog V1 [.c (.sl false 1 (AT bs))] H K:=by
 refine Qx ?_;refine Qc Ab Q3g ?_;refine Za ?_;intro x2 aI H1 h1;have kn:=(Kn.aq H).al aI h1;refine Za ?_;refine Qboc fun R H2 hR h2=>?_;have kn:=kn.al hR h2 (R.aj 0);simp only[go_sem,Qgw];refine Qbn8 (kn.l 1 rfl) Zx fun cs H3 k2 gu f9 hu au=>?_;have kn:=kn.callL 1 rfl hu (R.aj _);have aI:=kn.l 0 rfl;simp only[go_sem,Qgv,aI];intro H5 h5;have kn:=kn.aB 0 rfl h5;have aI:=kn.l 0 rfl;refine Zg aI ?_;exact⟨_,C5 cs,hK cs _ kn.fin au⟩
theorem Qbiq (hg:Ah cs=true):Ah (AY cs)=true∧AY (AY cs)=AY cs∧(Bm (AY cs)).length=(AY cs).length∧(Bm cs).length=(AY cs).length:=by
 have e:AY cs=Ar cs (As cs):=by rw[AY,if_pos hg]
 have h1:Ah (Ar cs (As cs))=true:=FY hg rfl;have h2:As (Ar cs (As cs))=List.range (Ar cs (As cs)).length:=by rw[By];exact Qbm3 hg rfl
 refine⟨by rw[e];exact h1,?_,?_,?_⟩
 ·rw[e,AY,if_pos h1,h2];exact Qbs2 h1
 ·rw[e,Bm,if_pos h1,h2,Ja2]
 ·rw[e,Bm,if_pos hg,By]
theorem Qbsm (hg:Ah cs=true):∀c∈cs,c.fits:=fun c hc=>by
 obtain⟨i,hi,rfl⟩:=Js.1 hc;exact (DY hg hi).fts
theorem Qbip (cs:List CodeD):∀c∈AY cs,c.fits:=by
 by_cases hg:Ah cs=true
 ·exact Qbsm (Qbiq hg).1
 ·rw[AY,if_neg hg];simp
end Go.AE.Y
namespace Go.AE.Y
attribute [local instance] Classical.propDecidable
variable {cs:List CodeD}{L:List Nat}
theorem Gp (L:List Nat)(q:CodeD)(b:Nat):Ad (rnC L q) b=rnB L (Ad q b):=by
 rw[Ad,Ad,Jb,Jb,rnC];simp only[J2];cases q.blocks[b]? <;> rfl
theorem Xa (L:List Nat)(q:CodeD):gnx (rnC L q)=gnx q:=by
 funext i
 rw[gnx,gnx,rnC];simp only[Jae];congr 1
theorem VZ (L:List Nat)(q:CodeD)(b a:Nat):wayI (rnC L q) b a=wayI q b a:=by
 rw[wayI,wayI,Xa];simp[rnC]
structure DcF (cs:List CodeD)(L:List Nat)(f f':Fr):Prop where
 i:∃i,∃h:i<L.length,L[i]=f.k∧f'=⟨i,f.b,f.todo.map (rnI L),f.ab⟩
 k:f.k<cs.length
 b:f.b<(Ai cs f.k).blocks.length
 t:∃p,(Ad (Ai cs f.k) f.b).ins=p++f.todo
theorem ET (hg:Ah cs=true)(hL:L=As cs){i:Nat}(hi:i<L.length):Ai (Ar cs L) i=rnC L (Ai cs L[i]):=by
 rw[Cc (by rw[By];exact hi),Ed,Ch (Hc hg hL hi),Cc (Hc hg hL hi)]
theorem Ik (hg:Ah cs=true)(hL:L=As cs){i:Nat}(hi:i<L.length)(l:List Int):DcF cs L (fr0 cs L[i] l) (fr0 (Ar cs L) i l):=by
 have hk:=Hc hg hL hi;refine⟨⟨i,hi,rfl,?_⟩,hk,(Rm hg).ok _ hk |>.b0,⟨[],rfl⟩⟩;rw[fr0,fr0,ET hg hL hi,Gp];rfl
theorem Qb1e (hg:Ah cs=true)(hL:L=As cs):SimR cs (Ar cs L) (DcF cs L) 1:=by
 have hr:=Rm hg;have gQ:∀k b x t R f',DcF cs L ⟨k,b,x::t,R⟩ f'→∃i,∃h:i<L.length,L[i]=k∧f'=⟨i,b,rnI L x::t.map (rnI L),R⟩∧x∈(Ad (Ai cs k) b).ins∧k<cs.length∧b<(Ai cs k).blocks.length∧∀R',R'.length=R.length→DcF cs L ⟨k,b,t,R'⟩ ⟨i,b,t.map (rnI L),R'⟩:=fun k b x t R f' h=>by
  obtain⟨⟨i,hi,he,rfl⟩,hk,hb,⟨p,hp⟩⟩:=h;exact⟨i,hi,he,rfl,by rw[hp];simp,hk,hb,fun R' _=>⟨⟨i,hi,he,rfl⟩,hk,hb,⟨p++[x],by rw[hp];simp⟩⟩⟩
 refine⟨Ji _,fun k b x t R f' h=>?_,fun k b R f' fs fs' s c h hf=>⟨1,Ji _,?_⟩⟩
 ·obtain⟨i,hi,rfl,rfl,hx,hk,hb,hR⟩:=gQ _ _ _ _ _ _ h;refine⟨_,_,_,_,rfl,⟨CW L x,EN L x,Fl L x,fun h1=>by rw[rnI,if_neg Zx],fun dG l _=>?_⟩,hR⟩;have e:Ai cs L[i]=A3 cs L[i]:=by rw[Cc hk,Ch hk]
  rw[e]at hx hb;rw[AA hb]at hx;obtain⟨m,hm,eP,_,ke⟩:=Gn hg hL hi (x:=x) (Jc hb) hx dG;rw[eP,ke];exact Ik hg hL hm l
 ·obtain⟨⟨i,hi,he,rfl⟩,hk,hb,⟨p,hp⟩⟩:=h;change k<cs.length at hk;change b<(Ai cs k).blocks.length at hb;change L[i]=k at he;subst he;show RelC _ (stJ cs L[i] b R fs s c) (stJ (Ar cs L) i b R fs' s c);have cM:Ad (Ai (Ar cs L) i) b=rnB L (Ad (Ai cs L[i]) b):=by rw[ET hg hL hi,Gp]
  by_cases hj:(Ad (Ai cs L[i]) b).jump=3
  ·rw[EH hj,EH (by rw[cM];exact hj),cM];exact SimR.rtnF hf fun k b x t R f' h=>by
    obtain⟨i,hi,rfl,rfl,_,_,_,hR⟩:=gQ _ _ _ _ _ _ h;exact⟨_,_,_,_,rfl,EN L x,hR⟩
  ·rw[EG hj,EG (by rw[cM];exact hj),cM];obtain⟨v,hv,e,e2⟩:=Iw hr hk hb hj R;have mL:=((hr.ok _ hk).bs b hb).nx v (by rw[AA hb]at hv;exact hv);have e':nxB (rnB L (Ad (Ai cs L[i]) b)) R=nxB (Ad (Ai cs L[i]) b) R:=rfl;rw[e',e];refine .go s c ⟨⟨i,hi,rfl,?_⟩,hk,by show v.toNat<(Ai cs L[i]).blocks.length;omega,⟨[],rfl⟩⟩ hf;rw[frJ,frJ,ET hg hL hi,Gp,VZ];rfl
theorem X7 (hg:Ah cs=true)(hL:L=As cs)(l:List Int){S:Nat}(hS:S≤60000):BV cs (Ar cs L) l S:=by
 refine (Qb1e hg hL).same Zx ?_;have h1:=(Rm hg).n;obtain⟨a1,a2⟩:=Hw hg;rw[←hL]at a1 a2;rw[By];have:=a2 Zx;have h0:=Ik hg hL (i:=L.length-1) Zx l;rw[this]at h0;exact h0
end Go.AE.Y
