/- Part 5 of the proof: the engine, codes, walks and plain laws, each named where it stands. -/
import Derived.Test.YtchjcdooknkfpaaGreatDoorZD
open Nat (reduceEqDiff reduceAdd reduceLeDiff reduceLT)
set_option linter.unusedVariables false
set_option linter.unusedSimpArgs false
set_option maxRecDepth 4000
set_option maxHeartbeats 16000000
open Bool renaming and_eq_true->Js,false_eq_true->Jax
open Int renaming toNat_natCast->Jae,le_refl->Jbl
open List renaming getD_eq_getElem?_getD->Ja,mem_singleton->Jb,getElem_mem->Jc,length_map->Jd,take_of_length_le->Je,mem_append_right->Jf,take_succ_eq_append_getElem->Jg,idxOf_lt_length_of_mem->Jh,length_nil->Ji,getElem?_eq_getElem->Jj,mem_map->Jk,length_cons->Jl,perm_append_comm->Jn,getElem_map->Jo,mem_iff_getElem->Jq,getElem?_eq_none->Jr,contains_iff_mem->Jt,length_set->Ju,mem_range->Jv,mem_cons_of_mem->Jw,getElem?_map->Jx,length_take->Jy,forall_mem_cons->Jz,length_append->J0,map_append->J1,map_map->J2,getElem_set->J3,map_cons->J4,mem_append_left->J5,mem_cons_self->J6,mem_append->J7,mem_flatMap->J8,flatMap_cons->J9,take_length->Jaa,mem_or_eq_of_mem_set->Jab,mem_filter->Jac,all_eq_true->Jad,ext_getElem->Jah,append_nil->Jai,eq_of_mem_replicate->Jaj,getD_cons_zero->Jak,map_congr_left->Jal,not_mem_nil->Jam,getElem_cons_succ->Jao,getElem_cons_zero->Jap,flatMap_append->Jaq,map_nil->Jas,map_set->Jat,eraseIdx_set_eq->Jau,all_cons->Jav,getD_cons_succ->Jaw,all_nil->Jaz,getElem_range->Ja0,drop_eq_getElem_cons->Ja1,append_assoc->Ja2,pairwise_map->Ja3,flatMap_eq_nil_iff->Ja4,mem_cons->Ja5,foldl_cons->Ja6,getElem_set_self->Ja7,length_filter_le->Ja8,set_append_right->Ja9,set_getElem_self->Jba,mem_of_getElem?->Jbb,filter_sublist->Jbc,set_cons_zero->Jbd,sum_cons->Jbe,nodup_append->Jbf,flatMap_nil->Jbi,getElem_inj->Jbj,nodup_range->Jbk,map_id->Jbo
open List.Nodup renaming sublist->Jay
open Nat renaming le_refl->Jm,zero_add->Jp,le_trans->Jbg,sub_self->Jbh,lt_irrefl->Jbm,add_zero->Jbn
open Option renaming map_some->Jaf,getD_some->Jan
open Option.some renaming inj->Jag,injEq->Jbp
open Prod.mk renaming injEq->Jar
namespace Go.AE
variable{H H0 H':Heap}{K:Uk}{E B Lg:Ul}{S:Nat->Bool}{fl:Bool}{sz i x ver:Nat}{α:Type}{nx:Nat->List Int}{p:Y.PhiD}{Q:X->Env->Heap->Prop}{y:Y.BlkD}{bc:C}{g:Nat->Y.PhiD->Int->Int}{nl:List (Int×Int)}{ns:List Int}{f:Y.CodeD->Y.CodeD}
namespace Y
attribute [local go_sem] cond_true cond_false Bool.not_true Bool.not_false
open Go.Proofs.Tryz
theorem Fa{a b a' b':V}(h:FrzV H S a a')(k:FrzV H S b b'):FrzV H S (.tup [a,b]) (.tup [a',b']):=by
 refine .tup _ _ rfl λj x x' h1 h2=>?_
 match j with
 |0=>simp at h1 h2;subst h1;subst h2;exact h
 |1=>simp at h1 h2;subst h1;subst h2;exact k
 |j+2=>simp at h1
theorem ET(cs:List CodeD):FrzV H S (.ag [.sl false 3 (Qm cs)]) (.ag [.sl false 3 (Qm cs)]):=FrzL.ag (.cons (FrzR.same (EV cs)).sl .nil)
theorem UnitOk.fits {cs:List CodeD}(h:UnitOk cs):∀c∈cs,c.fits:=λc hc=>(h.2.2 c hc).f
end Y
namespace Y
open Go.Proofs.Tryz
def Qk1:=dY 69227126882
def Qabd:=dZ 0x7210054e546072101210137d011220331012001700432f052f0121 .skip Qk1
theorem Qaau:mFn prog Kt 1 8 Qabd Rx=true:=ZE
def Qh2:=dY 69226995810
def Qh3:=dY 0x101e18120a2
def Qh4:=dY 0x101e18420e2
def Q4d:=dW 0x72100285e18560f2101230137d0118420b31012218f015120731012108f011020331012017004727532f052f0121 [] [Qh2,Qh3,Qh4] [eI 5 (.call Tq [.t 4,.k (.c (.fn Ks []))]),eI 9 (.call Tr [.t 8,.k (.c (.fn Kt []))])]
theorem Q37:mFn prog Qmn 1 16 Q4d OW=true:=ZE
end Y
namespace Y
attribute [local go_sem] cond_true cond_false Bool.not_true Bool.not_false
open Go.Proofs.Tryz
variable{F:Heap}{L:Ul}
theorem Qap9 {x:PhiD}(hl:x.args.length<=LIM)(hK:∀H',Upd H H' []->K (.ag x.cells) H'):Qu prog Ks [.ag x.cells] H K:=by
 refine Q0 ?_;refine Qd Co Qae1 ?_;refine Qa ?_;simp only[go_sem,PhiD.cells];intro x2 aL H1 h1;have kn:=(Kn.an H).al aL h1;refine Zu ?_;refine Il kn hl λt Lg H2 ax bq kn=>?_;have aL:=kn.l 0 rfl;simp only[go_sem,Qm4,aL];intro H3 h3;have kn:Kn H H3 [] ([(x2,.st [Ui x.to,t])]++Lg):=kn.az 0 rfl h3;have aL:=kn.l 0 rfl;refine Ql ?_;simp only[go_sem,Q5,Cn,Jb,forall_eq,RS.op,bq,aL];exact⟨_,FrzL.ag (.cons (Qg rfl) (.cons (ax.frz kn (Qr _)) .nil)),hK _ kn.fin⟩
theorem Qap8 {x:InsD}(hl:x.args.length<=LIM)(hK:∀H',Upd H H' []->K (.ag x.cells) H'):Qu prog Kt [.ag x.cells] H K:=by
 refine Q0 ?_;refine Qd Co Qaau ?_;refine Zy ?_;intro x1 cV H0 h0;have kn:=(Kn.an H).al cV h0;intro x2 aL H1 h1;have kn:=kn.al aL h1;have cV:=kn.l 0 rfl;refine Zj cV ?_;refine Il kn hl λt Lg H2 ax bq kn=>?_;have cV:=kn.l 0 rfl;simp only[go_sem,Qk1,cV];intro H3 h3;have kn:=kn.az 0 rfl h3;have cV:=kn.l 0 rfl;have aL:=kn.l 1 rfl;refine Zp cV aL bq ?_;intro H4 h4;have kn:Kn H H4 [] ([(x1,.st [Ui x.op,Ui x.to,t,Ui x.n]),(x2,.st [Ui x.op,Ui x.to,t,Ui x.n])]++Lg):=kn.az 1 rfl h4;have aL:=kn.l 1 rfl;refine Ql ?_;simp only[go_sem,Q5,Cn,Jb,forall_eq,RS.op,bq,aL];exact⟨_,FrzL.ag (.cons (Qg rfl) (.cons (Qg rfl) (.cons (ax.frz kn (Qr _)) (.cons (Qg rfl) .nil)))),hK _ kn.fin⟩
theorem Qa0b {l:List PhiD}(hl:l.length<=2 ^ 38)(ha:∀x∈l,x.args.length<=LIM)(kn:Kn H0 H E L)(hK:∀t Lg H',Gr Lg 2 (Q3 l) t->Kn H0 H' E (L++Lg)->K (.c t) H') :
  Qu prog Tq [.c (.sl fl 2 (Q3 l)),.c (.fn Ks [])] H K:=by
 refine Qd Co Qvp ?_;refine Wd ?_;refine Q1 (Qa ?_);simp only[go_sem,Qz];intro _;refine Qh (Qe (Qy (λm e1 H1=>∃(i:Nat) (t:C) (Lg:Ul),m=l.length-i/\i<=l.length/\Gr Lg 2 (Q3 (l.take i)) t/\Kn H0 H1 E (L++Lg)/\
  e1=[(1,.c (.fn Ks [])),(5,.c t),(8,.c (.sl fl 2 (Q3 l))),(9,.c (Ui l.length)),(10,Uv i)]) l.length ?_ ?_))
 ·exact⟨0,_,[],ZA,ZA,.nil 2,ZL,rfl⟩
 ·clear kn;rintro m e1 H1 ⟨i,t,Lg,hm,hi,ax,kn,rfl⟩;have fU:=ax.ai;refine Za ?_;refine Wt ?_ ?_
  ·intro hc;have af:i<l.length:=ZD
   obtain⟨p,hp⟩:∃p,l[i]=p:=⟨_,rfl⟩;have dD:p∈l:=Za2
   have bQ:l.take (i+1)=l.take i++[p]:=by rw[Jg af,hp]
   refine Zc ?_
   refine Wc ?_;simp only[go_sem,af,Qz,D2 _ _ af,PhiD.cells,hp];intro x7 bz H2 h2;have kn:=kn.al bz h2;have bz:H2 x7=.st [Ui 0,.sl true 1 []]:=(kn.get (x7,.st [Ui 0,.sl true 1 []]) ZC).1;simp only[go_sem,Rg,bz];intro H3 h3;have kn:Kn H0 H3 E ((L++[(x7,.st [Ui p.to,.sl false 1 (Qb p.args)])])++Lg):=by
    have:=kn.az (L++Lg).length (x:=x7) (o:=.st [Ui 0,.sl true 1 []]) ZC h3;refine Kn.perm (by simpa using this) (Qi λf hf h0 hc hp=>by simp only[Ui,hf];omega)
   have bz:H3 x7=.st [Ui p.to,.sl false 1 (Qb p.args)]:=(kn.get (x7,.st [Ui p.to,.sl false 1 (Qb p.args)]) ZC).1;refine Qt ?_;simp only[go_sem,bz,Jai,Jas];refine Qap9 (x:=p) (ha p dD) λH4 hu=>?_;have kn:=kn.au hu;simp only[go_sem,Qek,PhiD.cells];have iu:(l.take i).length<=l.length:=by rw[Jy];omega
   refine kn.bk (new:=Q3 [p]) ax (.mk' _ _ _ _) (RM _) (by simp only[Qz,LIM,Jl,Ji];omega) λt2 Lg2 H5 bY cQ kn=>?_;simp only[go_sem,EK];refine Zg ?_;refine⟨Qv,l.length-(i+1),ZA,i+1,t2,Lg2,rfl,ZA,?_,?_,rfl⟩
   ·rw[bQ];have:Q3 (l.take i++[p])=Q3 (l.take i)++Q3 [p]:=(by simp[Q3]);rw[this];exact bY
   ·exact Kn.drop (B:=[(x7,.st [Ui p.to,.sl false 1 (Qb p.args)])]) (kn.perm (Qi λf hf h0 hc hp=>by simp only[Ui,hf];omega))
  ·intro hc;have bp:l.length<=i:=ZD
   rw[Je bp]at ax;refine Wh ?_;exact hK t Lg H1 ax kn
theorem XE {l:List InsD}(hl:l.length<=2 ^ 38)(ha:∀x∈l,x.args.length<=LIM)(kn:Kn H0 H E L)(hK:∀t Lg H',Gr Lg 4 (Cu l) t->Kn H0 H' E (L++Lg)->K (.c t) H') :
  Qu prog Tr [.c (.sl fl 4 (Cu l)),.c (.fn Kt [])] H K:=by
 refine Qd Co Qvo ?_;refine Wd ?_;refine Q1 (Qa ?_);simp only[go_sem,CR];intro _;refine Qh (Qe (Qy (λm e1 H1=>∃(i:Nat) (t:C) (Lg:Ul),m=l.length-i/\i<=l.length/\Gr Lg 4 (Cu (l.take i)) t/\Kn H0 H1 E (L++Lg)/\
  e1=[(1,.c (.fn Kt [])),(5,.c t),(8,.c (.sl fl 4 (Cu l))),(9,.c (Ui l.length)),(10,Uv i)]) l.length ?_ ?_))
 ·exact⟨0,_,[],ZA,ZA,.nil 4,ZL,rfl⟩
 ·clear kn;rintro m e1 H1 ⟨i,t,Lg,hm,hi,ax,kn,rfl⟩;have fU:=ax.ai;refine Za ?_;refine Wt ?_ ?_
  ·intro hc;have af:i<l.length:=ZD
   obtain⟨p,hp⟩:∃p,l[i]=p:=⟨_,rfl⟩;have dD:p∈l:=Za2
   have bQ:l.take (i+1)=l.take i++[p]:=by rw[Jg af,hp]
   refine Zc ?_
   refine Qh (Qe ?_);refine Zt af hp ?_;intro x7 bz H2 h2;have kn:=kn.al bz h2;have bz:H2 x7=.st [Ui 0,Ui 0,.sl true 1 [],Ui 0]:=(kn.get (x7,.st [Ui 0,Ui 0,.sl true 1 [],Ui 0]) ZC).1;simp only[go_sem,Qei,bz];intro H3 h3;have kn:Kn H0 H3 E ((L++[(x7,.st [Ui p.op,Ui p.to,.sl false 1 (Qb p.args),Ui p.n])])++Lg):=by
    have:=kn.az (L++Lg).length (x:=x7) (o:=.st [Ui 0,Ui 0,.sl true 1 [],Ui 0]) ZC h3;refine Kn.perm (by simpa using this) (Qi λf hf h0 hc hp=>by simp only[Ui,hf];omega)
   have bz:H3 x7=.st [Ui p.op,Ui p.to,.sl false 1 (Qb p.args),Ui p.n]:=(kn.get (x7,.st [Ui p.op,Ui p.to,.sl false 1 (Qb p.args),Ui p.n]) ZC).1;refine Qt ?_;simp only[go_sem,bz,Jai,Jas];refine Qap8 (x:=p) (ha p dD) λH4 hu=>?_;have kn:=kn.au hu;simp only[go_sem,Qej,InsD.cells];have iu:(l.take i).length<=l.length:=by rw[Jy];omega
   refine kn.bk (new:=Cu [p]) ax (.mk' _ _ _ _) (GT _) (by simp only[CR,LIM,Jl,Ji];omega) λt2 Lg2 H5 bY cQ kn=>?_;simp only[go_sem,EK];refine Zg ?_;refine⟨Qv,l.length-(i+1),ZA,i+1,t2,Lg2,rfl,ZA,?_,?_,rfl⟩
   ·rw[bQ];have:Cu (l.take i++[p])=Cu (l.take i)++Cu [p]:=(by simp[Cu]);rw[this];exact bY
   ·exact Kn.drop (B:=[(x7,.st [Ui p.op,Ui p.to,.sl false 1 (Qb p.args),Ui p.n])]) (kn.perm (Qi λf hf h0 hc hp=>by simp only[Ui,hf];omega))
  ·intro hc;have bp:l.length<=i:=ZD
   rw[Je bp]at ax;refine Wh ?_;exact hK t Lg H1 ax kn
def kRow (y:BlkD)(pc:C):List C:=[pc,.sl false 4 (Cu y.ins),.int .i64 y.jump,.int .i64 y.on,.sl false 1 (Qb y.next)]
structure BlkD.cl (y:BlkD):Prop where
 i:y.ins.length<=2 ^ 38
 p:y.ab.length<=2 ^ 38
 n:y.next.length<=LIM
 ia:∀x∈y.ins,x.args.length<=LIM
 pa:∀x∈y.ab,x.args.length<=LIM
structure KBlk where
 y:BlkD
 pc:C
 pl:Ul
def KBlk.row (b:KBlk):List C:=kRow b.y b.pc
def KBlk.ok (b:KBlk):Prop:=Gr b.pl 2 (Q3 b.y.ab) b.pc
theorem KBlk.am {b:KBlk}(h:b.ok):Go.AE.am b.row=true:=by
 have:=h.ai;simp only[Go.AE.am,KBlk.row,kRow,Jav,Jaz,this];rfl
end Y
variable{ks ks0:List Y.KBlk}
namespace Y
attribute [local go_sem] cond_true cond_false Bool.not_true Bool.not_false
open Go.Proofs.Tryz
variable{F:Heap}{L pl:Ul}
theorem NW (l:List PhiD)(i:Nat)(x:PhiD):(Q3 l).set i x.cells=Q3 (l.set i x):=by simp[Q3,Jat]
end Y
namespace Y
attribute [local go_sem] cond_true cond_false Bool.not_true Bool.not_false
open Go.Proofs.Tryz
variable{F:Heap}{L:Ul}{q:CodeD}
theorem CodeD.ok.fts (h:q.ok):q.fits:=λy hy=>by
 obtain⟨b,hb,rfl⟩:=Jq.1 hy;have:=h.il b hb;omega
theorem CodeD.ok.cl (h:q.ok):∀y∈q.blocks,y.cl:=λy hy=>by
 obtain⟨b,hb,rfl⟩:=Jq.1 hy;have h1:=h.il b hb;have h2:=h.bs b hb;have h3:=h2.nxl;have h4:=h.b1;refine⟨ZA,ZA,by simp only[LIM];omega,λx hx=>?_,λx hx=>?_⟩
 ·have:=h2.al x hx;simp only[LIM];omega
 ·have:=h2.pal x hx;have h5:=E3 (gnx q) (b:Int) q.blocks.length;simp only[LIM];omega
end Y
section
variable{L:Ul}
theorem Kn.bW (kn:Kn H0 H E (B++Lg)):∃S:Nat->Bool,(∀p∈Lg,H p.1=p.2/\S p.1=true)/\(∀p∈B,H p.1=p.2/\S p.1=false)/\FrzH H S (H.frz S)/\Kn H0 (H.frz S) E B:=by
 have hd:=kn.dL;rw[J1]at hd;obtain⟨d1,d2,d3⟩:=Jbf.1 hd;have keyB:∀m,m∉Lg.map Prod.fst->(Lg.map Prod.fst).contains m=false:=λm hm=>by
  cases hc:(Lg.map Prod.fst).contains m with
  |false=>rfl
  |true=>exact absurd (Jt.1 hc) hm
 have key:∀m,m∉Lg.map Prod.fst->(H.frz λm=>(Lg.map Prod.fst).contains m) m=H m:=λm hm=>by
  simp only[Heap.frz,keyB m hm];rfl
 have hB:∀p∈B,p.1∉Lg.map Prod.fst:=λp hp hh=>d3 _ (CD hp) _ hh rfl;refine⟨λm=>(Lg.map Prod.fst).contains m,λp hp=>⟨(kn.get p (Jf _ (Jf _ hp))).1,Jt.2 (CD hp)⟩,
  λp hp=>⟨(kn.get p (Jf _ (J5 _ hp))).1,keyB _ (hB p hp)⟩,E9 _ _,?_⟩
 refine⟨λp hp=>?_,kn.ext,λp hp=>kn.loc p (J5 _ hp),kn.dE,d1,λm hm hx=>?_⟩
 ·have hg:H p.1=p.2/\p.2≠.none:=kn.get p (by
   rcases J7.1 hp with h|h
   ·exact J5 _ h
   ·exact Jf _ (J5 _ h))
  refine⟨?_,hg.2⟩;rw[key p.1 (λhh=>?_)];exact hg.1;rcases J7.1 hp with h|h
  ·obtain⟨r,hr,he⟩:=Jk.1 hh;exact kn.ext p h (he▸kn.loc r (Jf _ hr))
  ·exact hB p h hh
 ·rw[key m (λhh=>?_)]
  ·exact kn.chg m hm hx
  ·obtain⟨r,hr,he⟩:=Jk.1 hh;exact hm (he▸kn.loc r (Jf _ hr))
theorem FC {e e':Env}(h:∀p∈e',FrzV H S (lk p.1 e) p.2):∀t,FrzV H S (lk t e) (lk t e'):=λt=>by
 induction e' with
 |nil=>exact .unk _
 |cons p e' ih=>
  obtain⟨s,v⟩:=p;by_cases ht:t=s
  ·subst ht;have:=h (t,v) J6;simpa[lk]using this
  ·have:=ih λp hp=>h p (Jw _ hp);simpa[lk,ht]using this
theorem FrzO.vecR{rows rows':List (List C)}(h:Y.FrzR H S rows rows')(hn:∀r∈rows,am r=true):FrzO H S (.vec sz rows) (.vec sz rows'):=by
 refine .vec sz rows rows' h.spec.1 (λi r r' h1 h2=>(h.spec.2 i r r' h1 h2).spec.1) λi r r' j c c' h1 h2 h3 h4=>.inr ⟨?_,(h.spec.2 i r r' h1 h2).spec.2 j c c' h3 h4⟩;exact Y.noOw_mem hn r (Jbb h1) c (Jbb h3)
end
namespace Y
variable{L R:Ul}
theorem Fc {α:Type}{f g:α->List C}:∀(l:List α),(∀x∈l,FrzL H S (f x) (g x))->FrzR H S (l.map f) (l.map g)
 |[],_=>.nil
 |x::l,h=>.cons (h x J6) (Fc l λy hy=>h y (Jw _ hy))
theorem L5 {is:List OIns}(h:Held H S (is.flatMap OIns.lg)):FrzR H S (is.map OIns.row) (Cu (is.map OIns.d)):=by
 rw[Cu,J2];exact Fc is λx hx=>x.frz (h.m hx)
theorem M8 {ph:List OPhi}(ho:∀p∈ph,p.ok)(h:Held H S (ph.flatMap OPhi.lg)):FrzR H S (ph.map OPhi.row) (Q3 (ph.map OPhi.d)):=by
 rw[Q3,J2];exact Fc ph λx hx=>x.frz (ho x hx) (h.m hx)
theorem OBlk.gh {o:OBlk}(aq:o.ok){x8:Nat}(kn:Kn H0 H E ([(x8,.st o.row)]++(R++o.lg))) :
  ∃S H3 pl,FrzH H S H3/\Gr pl 2 (Q3 o.d.ab) o.pc/\Kn H0 H3 E ([(x8,.st (kRow o.d o.pc))]++(R++pl)):=by
 have kn:Kn H0 H E (([(x8,.st o.row)]++(o.pl++R))++(o.nx.lg++(o.ab.flatMap OPhi.lg++(o.ins.flatMap OIns.lg++o.il)))):=kn.perm (Qi λf hf h0 hc hp=>by
  simp only[Ui,hf,OBlk.lg];omega)
 obtain⟨S,hS,hB,fh,kn⟩:=kn.bW;have sG:Held H S (o.nx.lg++(o.ab.flatMap OPhi.lg++(o.ins.flatMap OIns.lg++o.il))):=hS;have ja:=Gr.frzM aq.i sG.r.r.r (L5 sG.r.r.l);have fb:=M8 aq.a sG.r.l;have fd:=o.nx.frz sG.l;have aV:=hB (x8,.st o.row) ZC;have f1:FrzH H S ((H.frz S).set x8 (.st (kRow o.d o.pc))):=fh.set aV.2 (by
  rw[aV.1];exact FrzKL.st (.same (.cons aq.i.ai ja (.same (.same (.cons rfl fd .nil))))))
 have kn:=kn.setL (o':=.st (kRow o.d o.pc)) 0 rfl ZC;have kn:Kn H0 ((H.frz S).set x8 (.st (kRow o.d o.pc))) E ([(x8,.st (kRow o.d o.pc))]++(o.pl++R)):=kn;rcases aq.p with ⟨h1,h2,h3⟩|⟨z,h1,h2⟩
 ·have yw:o.ab=[]:=List.map_eq_nil_iff.1 h2;refine⟨S,_,[],f1,?_,by rw[h3]at kn;simpa using kn⟩;rw[h1];simp only[OBlk.d,yw,Jas];exact .nil 2
 ·rw[h2]at kn;have hz:=hB (z,.vec 2 (o.ab.map OPhi.row)) Zad;have b7:∀r∈o.ab.map OPhi.row,Go.AE.am r=true:=λr hr=>by
   obtain⟨p,hp,rfl⟩:=Jk.1 hr;exact p.am (aq.a p hp)
  refine⟨S,_,[(z,.vec 2 (Q3 o.d.ab))],f1.set (o:=.vec 2 (Q3 o.d.ab)) hz.2 (by rw[hz.1];exact .vecR fb b7),?_,?_⟩
  ·rw[h1];exact .mk _ _ _ (by simp[OBlk.d,Qz])
  ·have kn:=kn.setL (o':=.vec 2 (Q3 o.d.ab)) 1 rfl ZC;exact kn.perm (Qi λf hf h0 hc hp=>by
    show f ([(x8,_)]++([(z,_)]++R))=_;simp only[Ui,hf];omega)
def Qq (q:CodeD)(b:Nat):BlkD:=q.blocks.getD b ⟨[],[],0,0,[]⟩
theorem C3 {q:CodeD}{b:Nat}(h:b<q.blocks.length):Qq q b=q.blocks[b]:=by simp[Qq,Ja,h]
theorem DI {q:CodeD}{b:Nat}(h:b<q.blocks.length):gnx q b=(Qq q b).next:=by rw[C3 h,EZ h]
structure Pk (q:CodeD)(l:List Nat):Prop where
 n:l.length<=160
 z:l[0]? = some 0
 lt:∀x∈l,x<q.blocks.length
 cl:∀x∈l,∀v∈gnx q x,v.toNat∈l
def pkY (q:CodeD)(P:List Int)(b:Nat):BlkD:=⟨(Qq q b).ab,(Qq q b).ins,(Qq q b).jump,(Qq q b).on,(Qq q b).next.map λv=>P.getD v.toNat 0⟩
def pkN (q:CodeD)(P:List Int)(l:List Nat):Nat->List Int:=λi=>(l.map λb=>(pkY q P b).next).getD i []
structure PkB (q:CodeD)(P:List Int)(b:Nat)(y:BlkD):Prop where
 j:y.jump=(Qq q b).jump
 o:y.on=(Qq q b).on
 i:y.ins=(Qq q b).ins
 n:y.next=(pkY q P b).next
 t:y.ab.map PhiD.to=(Qq q b).ab.map PhiD.to
def PkA (q:CodeD)(P:List Int)(l:List Nat)(j:Nat)(p:PhiD):Prop:=p.args.length=(Qs (pkN q P l) (j:Int) l.length).length/\∀v∈p.args,rIn q v
structure PkR (q d:CodeD):Prop where
 ok:d.ok
 p:d.params=q.params
 r:d.ae=q.ae
 i:∀y∈d.blocks,∃y0∈q.blocks,y.ins=y0.ins/\y.ab.length=y0.ab.length
variable{q:CodeD}{P:List Int}{l:List Nat}
theorem Pk.get (hp:Pk q l){j:Nat}(hj:j<l.length):l.getD j 0=l[j]/\l[j]∈l/\l[j]<q.blocks.length:=
 ⟨by simp[Ja,hj],Jc hj,hp.lt _ (Jc hj)⟩
theorem Pk.to (ho:q.ok)(hp:Pk q l)(hP:Er q.blocks.length l P){b:Nat}(hb:b∈l){w:Int}(hw:w∈(Qq q b).next):1<=w/\w.toNat<P.length/\∃i,∃h:i<l.length,l[i]=w.toNat/\P.getD w.toNat 0=(i:Int)/\1<=i:=by
 have af:=hp.lt b hb;have h1:1<=w/\w<q.blocks.length:=by
  rw[C3 af]at hw;exact (ho.bs b af).nx w hw
 have h2:=hp.cl b hb w (by rw[DI af];exact hw);obtain⟨i,hi,h3,h4⟩:=hP.2 _ h2;refine⟨h1.1,by rw[hP.1];exact hp.lt _ h2,i,hi,h3,h4,?_⟩;have hz:=hp.z;by_cases h0:i=0
 ·subst h0;rw[Jj hi,h3]at hz;have:=Jag hz;omega
 ·omega
theorem GH {j:Nat}(hj:j<l.length):pkN q P l j=(pkY q P l[j]).next:=by simp[pkN,Ja,hj]
theorem Pk.preds (ho:q.ok)(hp:Pk q l)(hP:Er q.blocks.length l P){j:Nat}(hj:j<l.length){m:Int}(hm:m∈Qs (pkN q P l) (j:Int) l.length) :
  ∃j',∃h:j'<l.length,m=(j':Int)/\((l[j']:Nat):Int)∈Qs (gnx q) ((l[j]:Nat):Int) q.blocks.length:=by
 simp only[Qs,Jk,Jac,Jv]at hm;obtain⟨j',⟨h1,h2⟩,rfl⟩:=hm;refine⟨j',h1,rfl,?_⟩;have h3:=Jt.1 h2;rw[GH h1]at h3;obtain⟨w,hw,h4⟩:=Jk.1 h3;obtain⟨g1,g2⟩:=(hp.get h1).2;obtain⟨w1,_,i,hi,h5,h6,_⟩:=hp.to ho hP g1 hw;have hY:i=j:=ZA
 subst hY;simp only[Qs,Jk,Jac,Jv];refine⟨l[j'],⟨g2,Jt.2 ?_⟩,rfl⟩;rw[DI g2,h5];have e:((w.toNat:Nat):Int)=w:=ZA
 rw[e];exact hw
theorem CodeD.ok.sg (h:q.ok):q.sg:=⟨by have:=h.b1;omega,λy hy=>by
 obtain⟨b,hb,rfl⟩:=Jq.1 hy;have h1:=h.il b hb;have h2:=h.bs b hb;have h3:=h2.nxl;have h4:=h.b1;refine⟨ZA,ZA,ZA,λx hx=>by have:=h2.al x hx;omega,λx hx=>?_⟩;have:=h2.pal x hx;have h5:=E3 (gnx q) (b:Int) q.blocks.length;omega⟩
theorem Qa8y (ho:q.ok)(hp:Pk q l)(hP:Er q.blocks.length l P){d:CodeD}(h1:d.params=q.params)(h2:d.ae=q.ae)(hl:d.blocks.length=l.length)
  (hb:∀j (h:j<d.blocks.length),PkB q P (l.getD j 0) d.blocks[j]/\∀p∈d.blocks[j].ab,PkA q P l j p):PkR q d:=by
 have hg:gnx d=pkN q P l:=by
  funext i
  by_cases hi:i<l.length
  ·have bZ:i<d.blocks.length:=ZA
   rw[GH hi,EZ bZ,(hb i bZ).1.n,(hp.get hi).1]
  ·have bZ:¬i<d.blocks.length:=ZA
   rw[gnx,pkN,Ja,Ja,Jr (by simpa using bZ),Jr ZV]
 have hr:∀v,rIn q v->rIn d v:=λv hv=>by simp only[rIn,h2]at hv⊢;exact hv
 have iX:0<l.length:=by
  have:=hp.z
  cases l with
  |nil=>simp at this
  |cons=>simp
 have hn:=hp.n;refine⟨⟨by rw[h2];exact ho.r0,by rw[h2];exact ho.r1,ZA,ZA,λb h=>?_,λb h=>?_⟩,h1,h2,λy hy=>?_⟩
 ·have bj:b<l.length:=ZA
  obtain⟨g,ga⟩:=hb b h;obtain⟨e1,e2,e3⟩:=hp.get bj;rw[e1]at g;have o:=ho.bs _ e3;rw[<-C3 e3]at o;have gt:∀p∈d.blocks[b].ab,rIn q p.to:=λp bV=>by
   have:p.to∈d.blocks[b].ab.map PhiD.to:=Jk.2 ⟨p,bV,rfl⟩;rw[g.t]at this;obtain⟨p0,iG,he⟩:=Jk.1 this;rw[<-he];exact o.pto p0 iG
  refine⟨by rw[g.n];simpa[pkY]using o.nxl,λv hv=>?_,by rw[g.j];exact o.jmp,λhj=>by rw[g.j]at hj;rw[g.o];exact hr _ (o.on hj),λx hx v hv=>?_,λx hx hm=>?_,λx hx=>hr _ (gt x hx),λx hx v hv=>hr _ ((ga x hx).2 v hv),λx hx=>?_,λx hx=>?_⟩
  ·rw[g.n]at hv;obtain⟨w,hw,rfl⟩:=Jk.1 hv;obtain⟨_,_,i,hi,_,h6,h7⟩:=hp.to ho hP e2 hw;rw[h6];omega
  ·rw[g.i]at hx;exact hr _ (o.args x hx v hv)
  ·rw[g.i]at hx;exact hr _ (o.to x hx hm)
  ·rw[(ga x hx).1,hg,hl]
  ·rw[g.i]at hx;exact o.al x hx
 ·have bj:b<l.length:=ZA
  obtain⟨g,ga⟩:=hb b h;obtain⟨e1,e2,e3⟩:=hp.get bj;rw[e1]at g;have gi:=g.i;have h3:=congrArg List.length g.t;rw[C3 e3]at gi h3;have:=ho.il _ e3;simp only[Jd]at h3;rw[gi];omega
 ·obtain⟨b,h,rfl⟩:=Jq.1 hy;have bj:b<l.length:=ZA
  obtain⟨g,ga⟩:=hb b h;obtain⟨e1,e2,e3⟩:=hp.get bj;rw[e1]at g;have gi:=g.i;have h3:=congrArg List.length g.t;rw[C3 e3]at gi h3;simp only[Jd]at h3;exact⟨_,Jc e3,gi,h3⟩
theorem Qa0c{f:α->α}{l:List α}{k:Nat}(hk:k<l.length):((l.take k).map f++l.drop k).set k (f l[k])=(l.take (k+1)).map f++l.drop (k+1):=by
 have h1:((l.take k).map f).length=k:=ZF
 rw[Ja9 _ _ ZA,h1,Jbh,Ja1 hk,Jbd,Jg hk,J1];simp
end Y
namespace Y
def mix(f:α->α)(is:List α)(k:Nat):List α:=(is.take k).map f++is.drop k
theorem Eg(f:α->α)(is:List α)(k:Nat):(mix f is k).length=is.length:=by
 simp only[mix,J0,Jd,Jy,List.length_drop];omega
theorem EO{f:α->α}{is:List α}(h:i<is.length)(h2:i<(mix f is i).length):(mix f is i)[i]=is[i]:=by
 have hl:((is.take i).map f).length=i:=by rw[Jd,Jy];omega
 simp only[mix];rw[List.getElem_append_right ZA];simp only[hl,Jbh,List.getElem_drop,Jbn]
theorem OO{f:α->α}{is:List α}(h:i<is.length):(mix f is i).set i (f is[i])=mix f is (i+1):=by
 have hl:((is.take i).map f).length=i:=by rw[Jd,Jy];omega
 rw[mix,mix,Ja9 _ _ ZA,hl,Jbh,Ja1 h,Jbd,Jg h,J1,Ja2];rfl
theorem IQ(f:α->α)(is:List α):mix f is 0=is:=by simp[mix]
theorem OP(f:α->α)(is:List α)(h:is.length<=i):mix f is i=is.map f:=by
 rw[mix,Je h,List.drop_of_length_le h,Jai]
variable{n:Nat}
theorem IP (nx:Nat->List Int)(b:Int)(n:Nat):(Qs nx b n).Nodup:=by
 rw[Qs,List.nodup_iff_pairwise_ne,Ja3];exact List.Pairwise.imp (λbe he=>be (Int.ofNat.inj he)) (Jay Jbc Jbk)
theorem preds_mem{b w:Int}:w∈Qs nx b n↔∃j:Nat,j<n/\b∈nx j/\w=j:=by
 simp only[Qs,Jk,Jac,Jv,Jt];constructor
 ·rintro⟨j,⟨h1,h2⟩,rfl⟩;exact⟨j,h1,h2,rfl⟩
 ·rintro⟨j,h1,h2,rfl⟩;exact⟨j,⟨h1,h2⟩,rfl⟩
theorem Qa3v {q:CodeD}{b:Nat}(h:q.blocks.length<=b):gnx q b=[]:=by
 rw[gnx,Ja,Jr ZI];rfl
end Y
namespace Y
attribute [local go_sem] cond_true cond_false Bool.not_true Bool.not_false
open Go.Proofs.Tryz
theorem OBlk.row_eq (o:OBlk):o.row=[o.pc,o.ic,Ui o.jump,Ui o.on,.ah o.nx.y 1 0 o.nx.ns.length]:=rfl
def OBlk.rest (o:OBlk):List (Nat×Obj):=o.ab.flatMap OPhi.lg++(o.pl++(o.ins.flatMap OIns.lg++o.il))
theorem OBlk.lg_eq (o:OBlk):o.lg=[(o.nx.y,.vec 1 (Qb o.nx.ns))]++o.rest:=rfl
theorem KBlk.row_eq (b:KBlk):b.row=[b.pc,.sl false 4 (Cu b.y.ins),Ui b.y.jump,Ui b.y.on,.sl false 1 (Qb b.y.next)]:=rfl
structure PkS (q:CodeD)(P:List Int)(l:List Nat)(i:Nat)(ks:List KBlk):Prop where
 n:ks.length=l.length
 b:∀j (h:j<ks.length),PkB q P (l.getD j 0) ks[j].y
 ok:∀b∈ks,b.ok
 a:∀j (h:j<ks.length),j<i->∀p∈ks[j].y.ab,PkA q P l j p
 u:∀j (h:j<ks.length),i<=j->ks[j].y.ab=(Qq q (l.getD j 0)).ab
theorem DL {α β:Type}{f:α->List β}:∀{l:List α} {i:Nat} (h:i<l.length),(l.flatMap f).Perm (f l[i]++(l.eraseIdx i).flatMap f)
 |[],i,h=>ZH
 |x::l,0,h=>ZC
 |x::l,i+1,h=>by
  have:=DL (f:=f) (l:=l) (i:=i) ZI;simp only[J9,Jao,List.eraseIdx_cons_succ];refine (List.Perm.append_left _ this).trans ?_;rw[<-Ja2,<-Ja2];exact List.Perm.append_right _ Jn
theorem vslc{z n:Nat}{rows:List (List C)}(h:H z=.vec sz rows)(hn:n=rows.length):Slc H sz rows (.ah z sz 0 n):=by
 subst hn;exact⟨by simp only[aZ,h,Jp,Jm,and_self],rfl,by simp only[rowsOf,h,List.drop_zero,Jaa],rfl⟩
variable{q:CodeD}{P:List Int}{l:List Nat}
theorem PkS.step {i:Nat}(hS:PkS q P l i ks)(hi:i<ks.length){ph:List PhiD}{pl:Ul}(h1:ph.map PhiD.to=(Qq q (l.getD i 0)).ab.map PhiD.to)(h2:∀p∈ph,PkA q P l i p)(hg:Gr pl 2 (Q3 ph) ks[i].pc) :
  PkS q P l (i+1) (ks.set i ⟨⟨ph,ks[i].y.ins,ks[i].y.jump,ks[i].y.on,ks[i].y.next⟩,ks[i].pc,pl⟩):=by
 have hb:=hS.b i hi;refine⟨by rw[Ju];exact hS.n,λj h=>?_,λw hw=>?_,λj h hj=>?_,λj h hj=>?_⟩
 ·have h':j<ks.length:=ZI
  rw[J3];split
  ·rename_i e;subst e;exact⟨hb.j,hb.o,hb.i,hb.n,h1⟩
  ·exact hS.b j h'
 ·rcases Jab hw with h|rfl
  ·exact hS.ok w h
  ·exact hg
 ·have h':j<ks.length:=ZI
  rw[J3];split
  ·rename_i e;subst e;exact h2
  ·exact hS.a j h' ZA
 ·have h':j<ks.length:=ZI
  rw[J3];split
  ·omega
  ·exact hS.u j h' ZA
theorem PkS.rows{ph:List PhiD}{pl:Ul}(hi:i<ks.length):(ks.set i ⟨⟨ph,ks[i].y.ins,ks[i].y.jump,ks[i].y.on,ks[i].y.next⟩,ks[i].pc,pl⟩).map KBlk.row=ks.map KBlk.row:=by
 rw[Jat];have:(KBlk.mk ⟨ph,ks[i].y.ins,ks[i].y.jump,ks[i].y.on,ks[i].y.next⟩ ks[i].pc pl).row=(ks.map KBlk.row)[i]'ZV:=by simp[KBlk.row,kRow]
 rw[this,Jba]
end Y
namespace Y
attribute [local go_sem] cond_true cond_false Bool.not_true Bool.not_false
attribute [local instance] Classical.propDecidable
open Go.Proofs.Tryz
def nwA (q:CodeD)(P:List Int)(l:List Nat)(i:Nat)(args:List Int):List Int:=
 (Qs (pkN q P l) (i:Int) l.length).map λw=>args.getD ((Qs (gnx q) ((l.getD i 0:Nat):Int) q.blocks.length).idxOf ((l.getD w.toNat 0:Nat):Int)) 0
def nwP (q:CodeD)(P:List Int)(l:List Nat)(i:Nat)(p:PhiD):PhiD:=⟨p.to,nwA q P l i p.args⟩
structure PkZ (q:CodeD)(P:List Int)(l:List Nat)(i:Nat)(ks:List KBlk):Prop where
 n:ks.length=l.length
 b:∀j (h:j<ks.length),PkB q P (l.getD j 0) ks[j].y
 ok:∀b∈ks,b.ok
 a:∀j (h:j<ks.length),j<i->ks[j].y.ab=(Qq q (l.getD j 0)).ab.map (nwP q P l j)
 u:∀j (h:j<ks.length),i<=j->ks[j].y.ab=(Qq q (l.getD j 0)).ab
variable{q:CodeD}{P:List Int}{l:List Nat}
theorem PkZ.step {i:Nat}(hS:PkZ q P l i ks)(hi:i<ks.length){ph:List PhiD}{pl:Ul}(h1:ph.map PhiD.to=(Qq q (l.getD i 0)).ab.map PhiD.to)(h2:ph=(Qq q (l.getD i 0)).ab.map (nwP q P l i))(hg:Gr pl 2 (Q3 ph) ks[i].pc) :
  PkZ q P l (i+1) (ks.set i ⟨⟨ph,ks[i].y.ins,ks[i].y.jump,ks[i].y.on,ks[i].y.next⟩,ks[i].pc,pl⟩):=by
 have hb:=hS.b i hi;refine⟨by rw[Ju];exact hS.n,λj h=>?_,λw hw=>?_,λj h hj=>?_,λj h hj=>?_⟩
 ·have h':j<ks.length:=ZI
  rw[J3];split
  ·rename_i e;subst e;exact⟨hb.j,hb.o,hb.i,hb.n,h1⟩
  ·exact hS.b j h'
 ·rcases Jab hw with h|rfl
  ·exact hS.ok w h
  ·exact hg
 ·have h':j<ks.length:=ZI
  rw[J3];split
  ·rename_i e;subst e;exact h2
  ·exact hS.a j h' ZA
 ·have h':j<ks.length:=ZI
  rw[J3];split
  ·omega
  ·exact hS.u j h' ZA
def pkX (q:CodeD)(P:List Int)(l:List Nat)(i:Nat):BlkD:=⟨(Qq q (l.getD i 0)).ab.map (nwP q P l i),(Qq q (l.getD i 0)).ins,(Qq q (l.getD i 0)).jump,(Qq q (l.getD i 0)).on,(pkY q P (l.getD i 0)).next⟩
def pkD (q:CodeD)(P:List Int)(l:List Nat):CodeD:=⟨q.params,q.ae,(List.range l.length).map (pkX q P l)⟩
theorem OC (ho:q.ok)(hp:Pk q l)(hP:Er q.blocks.length l P){j:Nat}(hj:j<l.length)(h:p∈(Qq q (l.getD j 0)).ab.map (nwP q P l j)):PkA q P l j p:=by
 obtain⟨p0,h0,rfl⟩:=Jk.1 h;obtain⟨g0,g1,g2⟩:=hp.get hj;have cp:=ho.bs _ g2;rw[g0,C3 g2]at h0;refine⟨by rw[nwP,nwA,Jd],λv hv=>?_⟩;obtain⟨w,hw,rfl⟩:=Jk.1 hv;obtain⟨j',bE,rfl,eF⟩:=hp.preds ho hP hj hw;have e:l.getD ((j':Int)).toNat 0=l[j']:=by rw[Jae];exact (hp.get bE).1
 rw[e,g0];have ee:=cp.pal p0 h0;have gH:(Qs (gnx q) ((l[j]:Nat):Int) q.blocks.length).idxOf ((l[j']:Nat):Int)<p0.args.length:=by
  rw[ee];exact Jh eF
 exact cp.pargs p0 h0 _ (I1 gH)
theorem Qarf{e:Env}{fl2:Bool}{x4 x6 zb:Nat}(ho:q.ok)(hp:Pk q l)(hP:Er q.blocks.length l P)(hS:PkZ q P l 0 ks0)
  (kn:Kn H0 H E ([(x4,.st [Ui 0,Ui 0,.sl true 5 []]),(x6,.st [Ui q.params,Ui q.ae,.ah zb 5 0 l.length]),(zb,.vec 5 (ks0.map KBlk.row))]++ks0.flatMap KBlk.pl))
  (l1:lk 1 e=.c (.sl fl2 1 (Cs l))) (l2:lk 2 e=.c (.pp [Ui q.params,Ui q.ae,.sl fl 5 (Qo q.blocks)])) (l4:lk 4 e=Up x4) (l6:lk 6 e=Up x6)
  (hQ:∀(e:Env) (H':Heap) (ks:List KBlk),PkZ q P l l.length ks->Kn H0 H' E ([(x4,.st [Ui q.params,Ui q.ae,.ah zb 5 0 l.length]),(x6,.st [Ui q.params,Ui q.ae,.ah zb 5 0 l.length]),(zb,.vec 5 (ks.map KBlk.row))]++ks.flatMap KBlk.pl)->
   lk 4 e=Up x4->Q .ret e H'):Cr prog Q1o Q e H:=by
 have bm:=ho.b1;have nS:=hp.n;obtain⟨X4,BM⟩:∃o,o=Obj.st [Ui 0,Ui 0,.sl true 5 []]:=⟨_,rfl⟩;obtain⟨X6,nC⟩:∃o,o=Obj.st [Ui q.params,Ui q.ae,.ah zb 5 0 l.length]:=⟨_,rfl⟩;rw[<-BM,<-nC]at kn;refine Q1 (Qa ?_);simp only[go_sem,l1,l2,l4,l6];refine Qh (Qe (Qy (λm e1 H1=>∃(i:Nat) (ks:List KBlk),m=l.length-i/\i<=l.length/\PkZ q P l i ks/\
  Kn H0 H1 E ([(x4,X4),(x6,X6),(zb,.vec 5 (ks.map KBlk.row))]++ks.flatMap KBlk.pl)/\
  lk 1 e1=.c (.sl fl2 1 (Cs l))/\lk 2 e1=.c (.pp [Ui q.params,Ui q.ae,.sl fl 5 (Qo q.blocks)])/\lk 4 e1=Up x4/\lk 6 e1=Up x6/\lk 10 e1=Uv i) l.length ?_ ?_))
 ·exact⟨0,ks0,ZA,ZA,hS,kn,Rf0⟩
 ·clear kn hS l1 l2 l4 l6;rintro m e1 H1 ⟨i,ks,hm,hi,hS,kn,l1,l2,l4,l6,l10⟩;have cz:=hS.n;refine Q1 (Qa ?_);simp only[go_sem,l1,l2,l4,l6,l10,Q6];try intro _
  refine Wt ?_ ?_
  ·intro hc;have af:i<l.length:=ZD
   have qg:i<ks.length:=ZA
   obtain⟨b,hb⟩:∃b,l[i]=b:=⟨_,rfl⟩;have lS:b∈l:=by rw[<-hb];exact Jc af
   have cB:=hp.lt b lS;have b8:l.getD i 0=b:=by simp[Ja,af,hb]
   obtain⟨kb,dy⟩:∃kb,ks[i]=kb:=⟨_,rfl⟩;have gz:Gr kb.pl 2 (Q3 kb.y.ab) kb.pc:=by rw[<-dy];exact hS.ok _ (Jc qg)
   have hkbB:PkB q P b kb.y:=by have:=hS.b i qg;rw[b8,dy]at this;exact this
   have rS:kb.y.ab=(Qq q b).ab:=by have:=hS.u i qg (Jm _);rw[b8,dy]at this;exact this
   have cp:=ho.bs b cB;have cK:=ho.il b cB;rw[<-C3 cB]at cp cK;obtain⟨R,hR⟩:∃R,(ks.eraseIdx i).flatMap KBlk.pl=R:=⟨_,rfl⟩;have fv:(ks.flatMap KBlk.pl).Perm (kb.pl++R):=by rw[<-hR,<-dy];exact DL qg
   obtain⟨RW,eH⟩:∃RW,ks.map KBlk.row=RW:=⟨_,rfl⟩;have bg:RW.length=l.length:=by rw[<-eH,Jd,cz]
   have ba:RW.getD i []=[kb.pc,.sl false 4 (Cu kb.y.ins),Ui kb.y.jump,Ui kb.y.on,.sl false 1 (Qb kb.y.next)]:=by
    rw[<-eH,Ja];simp only[Jx,Jj qg,dy,Jaf,Jan];exact kb.row_eq
   have bx:RW.take l.length=RW:=Je ZA;rw[eH]at kn;have aY:H1 x6=X6:=(kn.get (x6,X6) ZC).1;rw[nC]at aY;refine Zc ?_
   refine Qh (Qe ?_);refine Cv ?_;simp only[go_sem,af,Q6,D5 _ _ af,b8];refine F6 (nx:=gnx q) (.mk' _ _ _ _) rfl (Fb H1 q fl).x λH2 hu=>?_;have kn:=kn.au hu;simp only[go_sem,Qyd,Qn];obtain⟨olds,eJ⟩:∃o,Qs (gnx q) (b:Int) q.blocks.length=o:=⟨_,rfl⟩;rw[eJ];have aY:H2 x6=X6:=(kn.get (x6,X6) ZC).1;rw[nC]at aY;have cn:H2 zb=.vec 5 RW:=(kn.get (zb,.vec 5 RW) ZC).1;refine Zj aY ?_;refine F6 (nx:=pkN q P l) (vslc cn bg.symm) rfl (λj hj=>?_) λH3 hu=>?_
   ·have bE:j<ks.length:=ZA;have cR:j<l.length:=ZA;have Bx:=hS.b j bE;rw[(hp.get cR).1]at Bx;refine⟨ks[j].pc,.sl false 4 (Cu ks[j].y.ins),Ui ks[j].y.jump,Ui ks[j].y.on,false,?_⟩;rw[<-eH,Ja];simp only[Jx,Jj bE,Jaf,Jan];rw[GH cR,<-Bx.n];exact KBlk.row_eq _
   have kn:=kn.au hu;rw[bg];obtain⟨news,jI⟩:∃o,Qs (pkN q P l) (i:Int) l.length=o:=⟨_,rfl⟩;rw[jI];have bF:news.length<=l.length:=by rw[<-jI];exact E3 _ _ _
   simp only[go_sem,Qye];refine Za ?_;have kn:Kn H0 H3 E (([(x4,X4),(x6,X6),(zb,.vec 5 RW)]++R)++kb.pl):=kn.perm (Qi λf hf h0 hc hp=>by
    have:=hp _ _ fv;simp only[Ui,hf]at this⊢;omega)
   refine Qe (Qy (λm e1 H1=>∃(k:Nat) (ph:List PhiD) (pl:Ul),m=ph.length-k/\k<=ph.length/\ph=mix (nwP q P l i) (Qq q b).ab k/\Gr pl 2 (Q3 ph) kb.pc/\
    Kn H0 H1 E (([(x4,X4),(x6,X6),(zb,.vec 5 RW)]++R)++pl)/\
    lk 1 e1=.c (.sl fl2 1 (Cs l))/\lk 2 e1=.c (.pp [Ui q.params,Ui q.ae,.sl fl 5 (Qo q.blocks)])/\lk 4 e1=Up x4/\lk 6 e1=Up x6/\lk 10 e1=Uv i/\lk 11 e1=.c (.sl false 1 (Qb olds))/\lk 12 e1=.c (.sl false 1 (Qb news))/\lk 13 e1=Uv k) kb.y.ab.length ?_ ?_)
   ·exact⟨0,kb.y.ab,kb.pl,ZA,ZA,by rw[rS,IQ],gz,kn,Rf0⟩
   ·clear kn aY cn fv hu l1 l2 l4 l6 l10;rintro m2 e2 H4 ⟨k,ph,pl,fz,hk,eW,ax,kn,l1,l2,l4,l6,l10,l11,l12,l13⟩;have jW:ph.length=(Qq q b).ab.length:=(by rw[eW,Eg]);have aY:H4 x6=X6:=(kn.get (x6,X6) ZC).1;rw[nC]at aY;have cn:H4 zb=.vec 5 RW:=(kn.get (zb,.vec 5 RW) ZC).1;have fx:=ax.ai;have gk:=eq_true (ax.get kn).1;have dM:=ax.ay;rw[Qz]at dM;refine Q1 (Qa ?_);simp only[go_sem,l1,l2,l4,l6,l10,l11,l12,l13,aY,cn,bg,bx,ba,af,fx,gk,dM,Jp,Jm];try intro _
    refine Wt ?_ ?_
    ·intro aC;have aP:k<ph.length:=ZG;obtain⟨z,gS,db⟩:∃z,kb.pc=.ah z 2 0 ph.length/\pl=[(z,.vec 2 (Q3 ph))]:=by
      rcases ax with ⟨_,h,_⟩|⟨y,h1,h2⟩
      ·have:=congrArg List.length h;rw[Qz]at this;simp only[Ji]at this;omega
      ·exact⟨y,by rw[h1,Qz],h2⟩
     rw[gS]at ba;rw[db]at kn;clear fx gk dM;obtain⟨p,ur⟩:∃p,ph[k]=p:=⟨_,rfl⟩;have iI:k<(Qq q b).ab.length:=ZA;have iG:(Qq q b).ab[k]=p:=by
      rw[<-ur];subst eW;exact (EO iI aP).symm
     have dD:p∈(Qq q b).ab:=(by rw[<-iG];exact Jc iI);obtain⟨NA,tq⟩:∃NA,nwA q P l i p.args=NA:=⟨_,rfl⟩;have hNl:NA.length=news.length:=(by rw[<-tq,nwA,Jd,jI]);have mP:p.args.length=olds.length:=(by rw[<-eJ];exact cp.pal p dD);have y4:=cp.pargs p dD;have o8:(Q3 ph).take ph.length=Q3 ph:=Je (by rw[Qz];omega);have kU:(Q3 ph).getD k []=[Ui p.to,.sl false 1 (Qb p.args)]:=(by rw[D2 _ _ aP,ur];rfl);refine Zc ?_
     refine We ?_;refine Wa ?_;refine Qh (Qe (Qy (λm e1 H1=>∃(j:Nat) (av:List Int) (t:C) (Lg:Ul),m=news.length-j/\j<=news.length/\av=NA.take j/\Gr Lg 1 (Qb av) t/\
      Kn H0 H1 E (([(x4,X4),(x6,X6),(zb,.vec 5 RW)]++R++[(z,.vec 2 (Q3 ph))])++Lg)/\
      lk 1 e1=.c (.sl fl2 1 (Cs l))/\lk 2 e1=.c (.pp [Ui q.params,Ui q.ae,.sl fl 5 (Qo q.blocks)])/\lk 4 e1=Up x4/\lk 6 e1=Up x6/\lk 10 e1=Uv i/\lk 11 e1=.c (.sl false 1 (Qb olds))/\lk 12 e1=.c (.sl false 1 (Qb news))/\lk 13 e1=Uv k/\
      lk 14 e1=.c t/\lk 15 e1=Uv j) news.length ?_ ?_))
     ·exact⟨0,[],_,[],ZA,ZA,ZC,.nil 1,ZL,Rf0⟩
     ·clear kn aY cn l1 l2 l4 l6 l10 l11 l12 l13;rintro m3 e3 H5 ⟨j,av,t,Lg,uH,hj,fT,gI,kn,l1,l2,l4,l6,l10,l11,l12,l13,l14,l15⟩;have fU:=gI.ai;have pk:av.length=j:=(by rw[fT,Jy];omega);refine Q1 (Qa ?_);simp only[go_sem,l1,l2,l4,l6,l10,l11,l12,l13,l14,l15,Qc];try intro _
      refine Wt ?_ ?_
      ·intro bv;have bR:j<news.length:=ZT;have nQ:news[j]∈Qs (pkN q P l) (i:Int) l.length:=(by rw[jI];exact Jc bR);obtain⟨j',bE,yJ,eF⟩:=hp.preds ho hP af nQ;rw[hb,eJ]at eF;have rY:news.getD j 0=(j':Int):=(by rw[<-yJ];simp[Ja,bR]);have vd:l.getD j' 0=l[j']:=(by simp[Ja,bE]);have aY:H5 x6=X6:=(kn.get (x6,X6) ZC).1;rw[nC]at aY;have cn:H5 zb=.vec 5 RW:=(kn.get (zb,.vec 5 RW) ZC).1;have hz:H5 z=.vec 2 (Q3 ph):=(kn.get (z,.vec 2 (Q3 ph)) ZC).1;refine Zc ?_
       refine Wq ?_;simp only[go_sem,aY,cn,hz,bg,bx,ba,af,aP,o8,kU,Qz,bR,Qc,Qk _ _ bR,rY,bE,Q6,D5 _ _ bE,vd,Jp,Jm];refine OR (ns:=olds) (.mk' _ _ _ _) rfl λr hr=>?_;obtain⟨a,ha⟩:∃a,olds.idxOf ((l[j']:Nat):Int)=a:=⟨_,rfl⟩;have ra:r=(a:Int):=(by rw[<-ha];exact hr.idx eF);have ee:a<olds.length:=(by rw[<-ha];exact Jh eF);have AA:j<NA.length:=ZA;have wD:NA[j]=p.args.getD a 0:=by
        subst tq;simp only[nwA,Jo,b8,eJ];have e:(Qs (pkN q P l) (i:Int) l.length)[j]'(by rw[jI];exact bR)=(j':Int):=by
         subst jI;exact yJ
        rw[e,Jae,vd,ha]
       have nA:a<p.args.length:=ZA;simp only[go_sem,Qyg,ra,aY,cn,hz,bg,bx,ba,af,aP,o8,kU,Qz,nA,Qc,Qk _ _ nA,Jp,Jm];refine kn.bk (new:=Qb [p.args.getD a 0]) gI (.mk' _ _ _ _) (Qr _) (by simp only[Qc,LIM,Jl,Ji];omega) λt2 Lg2 H6 ni cQ kn=>?_;simp only[go_sem,Qyf];refine Zh ?_;refine⟨Qv,?_⟩;show ∃m,_;refine⟨news.length-(j+1),ZA,j+1,av++[p.args.getD a 0],t2,Lg2,rfl,ZA,by rw[fT,Jg AA,wD],by rw[Ec];exact ni,kn,rfl,rfl,rfl,rfl,rfl,rfl,rfl,rfl,rfl,ZB⟩
      ·intro bv;have nf:j=news.length:=(by have:news.length<=j:=(by simpa using bv);omega);have fT:av=NA:=(by rw[fT,Je (by omega)]);subst fT;have jm:=OO (f:=nwP q P l i) iI;rw[iG,nwP,tq]at jm;refine Zb ?_;obtain⟨S,kq,ly,fh,kn⟩:=kn.bW;have oV:FrzC H5 S t (.sl false 1 (Qb av)):=Gr.frzM gI kq (FrzR.same (Qr _));refine c_gh (Fe S (FC ?_) fh) (e':=[(1,.c (.sl fl2 1 (Cs l))),(2,.c (.pp [Ui q.params,Ui q.ae,.sl fl 5 (Qo q.blocks)])),(4,Up x4),(6,Up x6),(10,Uv i),(11,.c (.sl false 1 (Qb olds))),(12,.c (.sl false 1 (Qb news))),(13,Uv k),(14,.c (.sl false 1 (Qb av)))]) ?_
       ·simp only[Jz];exact⟨.c _ _ (.same _ rfl),.c _ _ (.same _ rfl),.c _ _ (.same _ rfl),.c _ _ (.same _ rfl),.c _ _ (.same _ rfl),.c _ _ (.same _ rfl),.c _ _ (.same _ rfl),.c _ _ (.same _ rfl),.c _ _ oV,ZC⟩
       generalize H5.frz S=H6 at *;have aY:H6 x6=X6:=(kn.get (x6,X6) ZC).1;rw[nC]at aY;have cn:H6 zb=.vec 5 RW:=(kn.get (zb,.vec 5 RW) ZC).1;have hz:H6 z=.vec 2 (Q3 ph):=(kn.get (z,.vec 2 (Q3 ph)) ZC).1;have bX:(Q3 ph).set k [Ui p.to,.sl false 1 (Qb av)]=Q3 (ph.set k ⟨p.to,av⟩):=NW ph k ⟨p.to,av⟩;refine Qt ?_;simp only[go_sem,aY,cn,hz,bg,bx,ba,af,aP,kU,bX,Qz,Jp,Jm];intro H7 h7;have kn:Kn H0 H7 E (([(x4,X4),(x6,X6),(zb,.vec 5 RW)]++R)++[(z,.vec 2 (Q3 (ph.set k ⟨p.to,av⟩)))]):=by
        have:=kn.az ([(x4,X4),(x6,X6),(zb,Obj.vec 5 RW)]++R).length (x:=z) (o:=.vec 2 (Q3 ph)) ZC h7;simpa using this
       refine Zh ?_;refine⟨Qv,?_⟩;show ∃m,_;refine⟨ph.length-(k+1),ZA,k+1,ph.set k ⟨p.to,av⟩,_,by rw[Ju],by rw[Ju];omega,by rw[eW];exact jm,?_,kn,rfl,rfl,rfl,rfl,rfl,rfl,rfl,ZB⟩;rw[gS];exact .mk _ _ _ (by rw[Qz,Ju])
    ·intro aC;have bp:ph.length<=k:=ZG;refine Zb ?_;refine Zh ?_;refine⟨Qv,?_⟩;show ∃m,_;have jX:ph=(Qq q b).ab.map (nwP q P l i):=(by rw[eW,OP _ _ (by omega)]);have aI:=hS.step qg (ph:=ph) (pl:=pl) (by rw[b8,jX,J2];rfl) (by rw[b8];exact jX) (by rw[dy];exact ax);have de:=PkS.rows (ks:=ks) (ph:=ph) (pl:=pl) qg;have d9:=DL (f:=KBlk.pl) (l:=ks.set i ⟨⟨ph,ks[i].y.ins,ks[i].y.jump,ks[i].y.on,ks[i].y.next⟩,ks[i].pc,pl⟩) (i:=i) (by rw[Ju];exact qg);rw[Ja7,Jau,hR]at d9;generalize ks.set i ⟨⟨ph,ks[i].y.ins,ks[i].y.jump,ks[i].y.on,ks[i].y.next⟩,ks[i].pc,pl⟩=ks' at *;have kn:Kn H0 H4 E ([(x4,X4),(x6,X6),(zb,.vec 5 (ks'.map KBlk.row))]++ks'.flatMap KBlk.pl):=by
      rw[de,eH];refine kn.perm (Qi λf hf h0 hc hp=>?_);have:=hp _ _ d9;simp only[Ui,hf]at this⊢;omega
     exact⟨l.length-(i+1),ZA,i+1,ks',rfl,ZA,aI,kn,rfl,rfl,rfl,rfl,ZB⟩
  ·intro hc;have iZ:i=l.length:=by have:l.length<=i:=ZD;omega
   subst iZ;refine Zb ?_;have bh:=kn.l 0 rfl;have aY:=kn.l 1 rfl;rw[nC]at aY;rw[BM]at bh;refine Zl bh aY ?_;intro H2 h2;have kn:=kn.az 0 rfl h2;refine Ql ?_;refine hQ _ _ ks hS ?_ ZB;rw[nC]at kn;exact kn
theorem Qaqr{fl2:Bool}(ho:q.ok)(hp:Pk q l)
  (hK:∀(d:CodeD) z H',PkR q d->(∃P,Er q.blocks.length l P/\d=pkD q P l)->Kn H H' [] [(z,.vec 5 (Qo d.blocks))]->K (.ag [Ui d.params,Ui d.ae,.ah z 5 0 d.blocks.length]) H') :
  Qu prog Of [.ag [Ui q.params,Ui q.ae,.sl fl 5 (Qo q.blocks)],.c (.sl fl2 1 (Cs l))] H K:=by
 have bm:=ho.b1;have nS:=hp.n;have iX:0<l.length:=by
  have:=hp.z
  cases l with
  |nil=>simp at this
  |cons=>simp
 refine EB ?_;refine Qd Co Yg ?_;refine Za ?_;intro x4 bh H1 h1;have kn:=(Kn.an H).al bh h1;refine Qa ?_;simp only[go_sem,Qn];try intro _
 refine Qaqs (n:=q.blocks.length) ZA ZA hp.lt λP H2 hP hu=>?_;have kn:=kn.au hu;simp only[go_sem,P3];refine Za ?_;intro x6 aY H3 h3;have kn:=kn.al aY h3;have aY:=kn.l 1 rfl;simp only[go_sem,Q1p,aY];intro H4 h4;have kn:Kn H H4 [] [(x4,.st [Ui 0,Ui 0,.sl true 5 []]),(x6,.st [Ui q.params,Ui q.ae,.sl true 5 []])]:=kn.az 1 rfl h4;refine Wa ?_;refine Qh (Qe (Qy (λm e1 H1=>∃(ks:List KBlk) (bc:C) (bl:Ul),m=l.length-ks.length/\ks.length<=l.length/\ks.map KBlk.y=(l.take ks.length).map (pkY q P)/\(∀b∈ks,b.ok)/\Gr bl 5 (ks.map KBlk.row) bc/\
  Kn H H1 [] (([(x4,.st [Ui 0,Ui 0,.sl true 5 []]),(x6,.st [Ui q.params,Ui q.ae,bc])]++ks.flatMap KBlk.pl)++bl)/\
  lk 1 e1=.c (.sl fl2 1 (Cs l))/\lk 2 e1=.c (.pp [Ui q.params,Ui q.ae,.sl fl 5 (Qo q.blocks)])/\lk 4 e1=Up x4/\lk 5 e1=.c (.sl false 1 (Qb P))/\lk 6 e1=Up x6/\lk 7 e1=.c (Ui ks.length)) l.length ?_ ?_))
 ·exact⟨[],_,[],ZC,ZC,ZC,ZC,.nil 5,ZL,Rf0⟩
 ·clear kn aY;rintro m e1 H5 ⟨ks,bc,bl,hm,cz,oQ,kZ,ax,kn,l1,l2,l4,l5,l6,l7⟩;have j5:=ax.ai;refine Q1 (Qa ?_);simp only[go_sem,l1,l2,l4,l5,l6,l7,Q6];try intro _
  refine Wt ?_ ?_
  ·intro hc;have af:ks.length<l.length:=ZD
   obtain⟨b,hb⟩:∃b,l[ks.length]=b:=⟨_,rfl⟩;have lS:b∈l:=by rw[<-hb];exact Jc af
   have cB:=hp.lt b lS;have b8:l.getD ks.length 0=b:=by simp[Ja,af,hb]
   refine Zc ?_
   refine Qh (Qe ?_);refine Cv ?_;simp only[go_sem,af,Q6,D5 _ _ af,b8,cB,Qn,CU _ _ cB,BlkD.take5,BlkD.b6,BlkD.len5];refine Qw7 (ho.sg.bs _ (Jc cB)) λo H6 k2 aq gU _=>?_;have kn:=kn.comp0 k2;rw[<-C3 cB]at gU;have bq:=o.am aq;have fx:=aq.p.ai;have ki:=aq.i.ai;simp only[go_sem,Q1r];intro x8 aV H7 h7;have kn:=(kn.al aV h7).perm Jn;have aV:=kn.l 0 rfl;simp only[go_sem,Q1q,aV,o.row_eq,af,Q6,D5 _ _ af,b8,cB,Qn,CU _ _ cB,BlkD.take5,BlkD.b6,BlkD.len5];intro H8 h8;have kn:Kn H H8 [] ([(o.nx.y,.vec 1 (Qb o.nx.ns))]++([(x8,.st [o.pc,o.ic,Ui o.jump,Ui o.on,.ah o.nx.y 1 0 o.nx.ns.length])]++(([(x4,.st [Ui 0,Ui 0,.sl true 5 []]),(x6,.st [Ui q.params,Ui q.ae,bc])]++ks.flatMap KBlk.pl)++bl)++o.rest)):=
    (kn.az 0 rfl h8).perm (Qi λf hf h0 hc hp=>by
     show f ([(x8,_)]++(_++_))=_;simp only[Ui,o.lg_eq,hf];omega)
   clear aV;have dT:o.nx.ns=(Qq q b).next:=Zbl
   have hns2:o.nx.ns.length<=2:=by rw[dT,C3 cB];exact (ho.bs b cB).nxl
   refine Wa ?_;refine Qh (Qe (Qy (λm e1 H1=>∃(k:Nat) (ns:List Int),m=o.nx.ns.length-k/\k<=o.nx.ns.length/\ns=(o.nx.ns.take k).map (λv=>P.getD v.toNat 0)++o.nx.ns.drop k/\
    Kn H H1 [] ([(o.nx.y,.vec 1 (Qb ns))]++([(x8,.st [o.pc,o.ic,Ui o.jump,Ui o.on,.ah o.nx.y 1 0 o.nx.ns.length])]++(([(x4,.st [Ui 0,Ui 0,.sl true 5 []]),(x6,.st [Ui q.params,Ui q.ae,bc])]++ks.flatMap KBlk.pl)++bl)++o.rest))/\
    lk 1 e1=.c (.sl fl2 1 (Cs l))/\lk 2 e1=.c (.pp [Ui q.params,Ui q.ae,.sl fl 5 (Qo q.blocks)])/\lk 4 e1=Up x4/\lk 5 e1=.c (.sl false 1 (Qb P))/\lk 6 e1=Up x6/\lk 7 e1=.c (Ui ks.length)/\lk 8 e1=Up x8/\lk 9 e1=Uv k) o.nx.ns.length ?_ ?_))
   ·exact⟨0,o.nx.ns,ZA,ZA,ZC,kn,Rf0⟩
   ·clear kn;rintro m2 e2 H9 ⟨k,ns,fz,hk,mT,kn,l1,l2,l4,l5,l6,l7,l8,l9⟩;have bF:ns.length=o.nx.ns.length:=(by rw[mT];simp;omega);have aV:H9 x8=.st [o.pc,o.ic,Ui o.jump,Ui o.on,.ah o.nx.y 1 0 o.nx.ns.length]:=(kn.get (x8,.st [o.pc,o.ic,Ui o.jump,Ui o.on,.ah o.nx.y 1 0 o.nx.ns.length]) ZC).1;have hy:=kn.l 0 rfl;refine Q1 (Qa ?_);simp only[go_sem,l1,l2,l4,l5,l6,l7,l8,l9,aV,hy,Qc,bF,Jp,Jm];try intro _
    refine Wt ?_ ?_
    ·intro aC;have aP:k<o.nx.ns.length:=ZG;obtain⟨w,hw⟩:∃w,o.nx.ns[k]=w:=⟨_,rfl⟩;have nN:w∈(Qq q b).next:=(by rw[<-dT,<-hw];exact Jc aP);obtain⟨w1,w2,_⟩:=hp.to ho hP lS nN;have zI:ns.getD k 0=w:=by
      rw[mT,Ja,List.getElem?_append_right (by rw[Jd,Jy];exact Nat.min_le_left _ _)];simp[aP,hw,Nat.min_eq_left (Nat.le_of_lt aP)]
     have uM:k<ns.length:=ZA;have bQ:(Qb ns).take o.nx.ns.length=Qb ns:=Je ZZ;have ky:=Qa0c (f:=λv=>P.getD v.toNat 0) aP;rw[hw]at ky;have vV:w=(w.toNat:Int):=ZA;refine Zc ?_
     refine Wq ?_;generalize hr:w.toNat=r at *;simp only[go_sem,aV,hy,bQ,aP,Qc,bF,Qk _ _ uM,zI,vV,w2,Qk _ _ w2,F8,Jp,Jm];intro H10 dh;have kn:=kn.az 0 rfl dh;refine Zh ?_;refine⟨Qv,?_⟩;show ∃m,_;exact⟨o.nx.ns.length-(k+1),ZA,k+1,ns.set k (P.getD r 0),rfl,ZA,by rw[mT];exact ky,kn,Rf0⟩
    ·intro aC;have bp:o.nx.ns.length<=k:=ZG;rw[Je bp,List.drop_eq_nil_of_le bp,Jai]at mT;refine Zb ?_;obtain⟨o2,lK⟩:∃o2:OBlk,o2=⟨o.ab,o.pc,o.pl,o.ins,o.ic,o.il,o.jump,o.on,⟨ns,o.nx.y⟩⟩:=⟨_,rfl⟩;have fA:o2.ok:=(by rw[lK];exact⟨aq.p,aq.i,aq.a⟩);have fi:o2.d=pkY q P b:=by
      rw[lK,pkY,<-gU];simp only[OBlk.d,mT]
     have yz:o2.pc=o.pc:=(by rw[lK]);have kn:Kn H H9 [] ([(x8,.st o2.row)]++((([(x4,.st [Ui 0,Ui 0,.sl true 5 []]),(x6,.st [Ui q.params,Ui q.ae,bc])]++ks.flatMap KBlk.pl)++bl)++o2.lg)):=by
      have er:o2.row=[o.pc,o.ic,Ui o.jump,Ui o.on,.ah o.nx.y 1 0 o.nx.ns.length]:=(by rw[lK,OBlk.row_eq,bF]);have el:o2.lg=[(o.nx.y,.vec 1 (Qb ns))]++o.rest:=(by rw[lK];rfl);rw[er,el];exact kn.perm (Qi λf hf h0 hc hp=>by simp only[Ui,hf];omega)
     obtain⟨S,H10,pl,fh,lO,kn⟩:=OBlk.gh fA kn;rw[fi,yz]at lO kn;refine c_gh (Fe S (FC ?_) fh) (e':=[(1,.c (.sl fl2 1 (Cs l))),(2,.c (.pp [Ui q.params,Ui q.ae,.sl fl 5 (Qo q.blocks)])),(4,Up x4),(5,.c (.sl false 1 (Qb P))),(6,Up x6),(7,.c (Ui ks.length)),(8,Up x8)]) ?_
     ·simp only[Jz];exact⟨.c _ _ (.same _ rfl),.c _ _ (.same _ rfl),.c _ _ (.same _ rfl),.c _ _ (.same _ rfl),.c _ _ (.same _ rfl),.c _ _ (.same _ rfl),.c _ _ (.same _ rfl),ZC⟩
     clear fh aV hy;have kn:Kn H H10 [] (([(x6,.st [Ui q.params,Ui q.ae,bc])]++([(x8,.st (kRow (pkY q P b) o.pc))]++([(x4,.st [Ui 0,Ui 0,.sl true 5 []])]++(ks.flatMap KBlk.pl++pl))))++bl):=
      kn.perm (Qi λf hf h0 hc hp=>by
       have e:∀(a b:Nat×Obj),f [a,b]=f [a]+f [b]:=λa b=>hc a [b];simp only[Ui,hf,e];omega)
     have aY:=kn.l 0 rfl;have aV:=kn.l 1 rfl;obtain⟨kb,dy⟩:∃kb:KBlk,kb=⟨pkY q P b,o.pc,pl⟩:=⟨_,rfl⟩;have rR:kRow (pkY q P b) o.pc=kb.row:=(by rw[dy];rfl);have gz:kb.ok:=(by rw[dy];exact lO);have uL:=KBlk.am gz;rw[rR]at aV kn;have rP:kb.row.length=5:=rfl;have rO:kb.row.take 5=kb.row:=rfl;have zn:(kb.row.all λc=>!c.ai)=true:=uL;refine Qt ?_;simp only[go_sem,aY,aV,j5,rP,rO,zn];refine kn.bk (new:=[kb.row]) ax (.mk' _ _ _ _) (by intro r hr;simp only[Jb]at hr;rw[hr];exact uL) ZaB λbc2 bl2 H11 bY Ae kn=>?_;have aY:=kn.l 0 rfl;simp only[go_sem,Q1s,aY];intro H12 jf;have kn:Kn H H12 [] ((([(x4,.st [Ui 0,Ui 0,.sl true 5 []]),(x6,.st [Ui q.params,Ui q.ae,bc2])]++(ks++[kb]).flatMap KBlk.pl)++bl2)++[(x8,.st kb.row)]):=
      (kn.az 0 rfl jf).perm (Qi λf hf h0 hc hp=>by
       have e:∀(a b:Nat×Obj),f [a,b]=f [a]+f [b]:=λa b=>hc a [b];have ek:kb.pl=pl:=(by rw[dy]);show f ([(x6,_)]++([(x8,_)]++([(x4,_)]++(ks.flatMap KBlk.pl++pl)))++bl2)=_;simp only[Ui,Jaq,J9,Jbi,Jai,ek,hf,e];omega)
     refine Zh ?_;refine⟨Qv,?_⟩;show ∃m,_;refine⟨l.length-(ks.length+1),ZA,ks++[kb],bc2,bl2,ZC,by simp only[J0,Jl,Ji];omega,?_,λw hw=>?_,by rw[J1];exact bY,kn.drop,rfl,rfl,rfl,rfl,rfl,ZB⟩
     ·simp only[J0,Jl,Ji,Jp];rw[J1,oQ,Jg af,J1,hb,dy];rfl
     ·rcases J7.1 hw with hw|hw
      ·exact kZ w hw
      ·simp only[Jb]at hw;rw[hw];exact gz
  ·intro hc;have jK:ks.length=l.length:=by have:l.length<=ks.length:=ZD;omega
   rw[jK,Jaa]at oQ;obtain⟨zb,rfl,rfl⟩:∃z,bc=.ah z 5 0 l.length/\bl=[(z,.vec 5 (ks.map KBlk.row))]:=by
    rcases ax with ⟨_,h,_⟩|⟨y,h1,h2⟩
    ·have:=congrArg List.length h;simp only[Jd,Ji]at this;omega
    ·exact⟨y,by rw[h1,Jd,jK],h2⟩
   have hS:PkZ q P l 0 ks:=by
    have hg:∀j (h:j<ks.length),ks[j].y=pkY q P (l.getD j 0):=λj h=>by
     have hj:j<l.length:=ZA;have h1:(ks.map KBlk.y)[j]? = some ks[j].y:=Zbd;rw[oQ]at h1;simp only[Jx,Jj hj,Jaf]at h1;rw[(hp.get hj).1];exact (Jag h1).symm
    exact⟨jK,λj h=>by rw[hg j h];exact⟨rfl,rfl,rfl,rfl,rfl⟩,kZ,λj h h0=>ZA,λj h _=>by rw[hg j h];rfl⟩
   have kn:Kn H H5 [] ([(x4,.st [Ui 0,Ui 0,.sl true 5 []]),(x6,.st [Ui q.params,Ui q.ae,.ah zb 5 0 l.length]),(zb,.vec 5 (ks.map KBlk.row))]++ks.flatMap KBlk.pl):=
    kn.perm (Qi λf hf h0 hc hp=>by
     have e2:∀(a b:Nat×Obj),f [a,b]=f [a]+f [b]:=λa b=>hc a [b];have e3:∀(a b c:Nat×Obj),f [a,b,c]=f [a]+f [b]+f [c]:=λa b c=>(by rw[hc a [b,c],e2];omega);simp only[Ui,hf,e2,e3];omega)
   clear oQ kZ jK ax;refine Zb ?_;refine Qarf (fl:=fl) (fl2:=fl2) ho hp hP hS kn rfl rfl rfl rfl λe6 H6 ks hS kn l4=>?_;have bh:=kn.l 0 rfl;simp only[go_sem,Q5,Cn,Jb,forall_eq,RS.op,l4,bh];obtain⟨d,hd⟩:∃d:CodeD,d=⟨q.params,q.ae,ks.map KBlk.y⟩:=⟨_,rfl⟩;have lp:d.blocks.length=l.length:=by rw[hd];simpa using hS.n
   have hR:=Qa8y (d:=d) ho hp hP (by rw[hd]) (by rw[hd]) lp λj h=>by
    have hj:j<ks.length:=(by rw[hS.n];omega);have e:d.blocks[j]=ks[j].y:=(by subst hd;simp);rw[e];refine⟨hS.b j hj,λp fy=>?_⟩;rw[hS.a j hj ZA]at fy;exact OC ho hp hP ZA fy
   have zW:d=pkD q P l:=by
    rw[hd,pkD];congr 1;refine Jah (by simp[hS.n]) λj h1 h2=>?_;have hj:j<ks.length:=ZX;simp only[Jo,Ja0];have hB:=hS.b j hj;have hA:=hS.a j hj (by have:=hS.n;omega);rw[pkX];obtain⟨y,hy⟩:∃y,ks[j].y=y:=⟨_,rfl⟩;rw[hy]at hB hA⊢;cases y;simp only at hA;obtain⟨e1,e2,e3,e4,_⟩:=hB;simp only at e1 e2 e3 e4;rw[hA,e1,e2,e3,e4]
   have kn:Kn H H6 [] ([(zb,.vec 5 (ks.map KBlk.row))]++(([(x4,.st [Ui q.params,Ui q.ae,.ah zb 5 0 l.length])]++[(x6,.st [Ui q.params,Ui q.ae,.ah zb 5 0 l.length])])++ks.flatMap KBlk.pl)):=
    kn.perm (Qi λf hf h0 hc hp=>by
     have e3:∀(a b c:Nat×Obj),f [a,b,c]=f [a]+f [b]+f [c]:=λa b c=>ZP;simp only[Ui,hf,e3];omega)
   obtain⟨S,kq,ly,fh,kn⟩:=kn.bW;have hz:=ly (zb,.vec 5 (ks.map KBlk.row)) ZC;have b9:FrzR H6 S (ks.map KBlk.row) (Qo d.blocks):=by
    rw[hd];show FrzR H6 S (ks.map KBlk.row) (Qo (ks.map KBlk.y));rw[Qo,J2];refine Fc ks λk hk=>?_;refine .cons (Gr.frzM (hS.ok k hk) (λp hp=>kq p (Jf _ (J8.2 ⟨k,hk,hp⟩))) (FrzR.same (RM _))) (.cons (Qg rfl) (.cons (Qg rfl) (.cons (Qg rfl) (.cons (Qg rfl) .nil))))
   have b7:∀r∈ks.map KBlk.row,Go.AE.am r=true:=λr hr=>by
    obtain⟨k,hk,rfl⟩:=Jk.1 hr;exact KBlk.am (hS.ok k hk)
   refine⟨S,.ag [Ui q.params,Ui q.ae,.ah zb 5 0 l.length],_,FrzL.ag (.cons (Qg rfl) (.cons (Qg rfl) (.cons (.same _ rfl) .nil))),fh.set (o:=.vec 5 (Qo d.blocks)) hz.2 (by rw[hz.1];exact .vecR b9 b7),?_⟩;have:=hK d zb _ hR ⟨P,hP,zW⟩ (kn.setL (o':=.vec 5 (Qo d.blocks)) 0 rfl ZC);rw[lp,hR.p,hR.r]at this;exact this
end Y
namespace Y
attribute [local go_sem] cond_true cond_false Bool.not_true Bool.not_false
open Go.Proofs.Tryz
variable{q:CodeD}
theorem CodeD.ok.gd (h:q.ok):q.gd:=⟨h.b0,h.b1,λy hy=>by
 obtain⟨b,hb,rfl⟩:=Jq.1 hy;exact (h.bs b hb).nxl,h.fts,h.sg⟩
theorem CodeD.ok.fitB (h:q.ok):CX q.blocks.length (gnx q)=true:=by
 have h1:(List.range q.blocks.length).all (λi=>(gnx q i).all λx=>decide (0<=x/\x<=(q.blocks.length:Int)-1))=true:=by
  simp only[Jad,Jv,decide_eq_true_eq];intro b hb x hx;rw[EZ hb]at hx;have:=(h.bs b hb).nx x hx;omega
 have h2:decide (0<q.blocks.length)=true:=decide_eq_true h.b0;simp only[CX,h1,Bool.true_and]
 first|exact h2|simpa using h.b0
theorem CodeD.ok.rchPk (h:q.ok):Pk q (rchL q.blocks.length (nxN (gnx q))):=by
 have eB:=h.b0;have bm:=h.b1;refine⟨?_,?_,λx hx=>?_,λx hx v hv=>?_⟩
 ·have:=Ja8 (CF (nxN (gnx q)) (-1)) (List.range q.blocks.length);rw[List.length_range]at this;rw[rchL];omega
 ·obtain⟨m,hm⟩:∃m,q.blocks.length=m+1:=⟨q.blocks.length-1,ZA⟩;have h0:CF (nxN (gnx q)) (-1) 0=true:=rchB_iff.2 (.refl ZA);rw[rchL,hm,List.range_succ_eq_map,List.filter_cons,h0];rfl
 ·rw[rchL,Jac,Jv]at hx;exact hx.1
 ·rw[rchL,Jac,Jv]at hx⊢;have AY:=hv;rw[EZ hx.1]at AY;have:=(h.bs x hx.1).nx v AY;refine⟨ZA,rchB_iff.2 (.step (rchB_iff.1 hx.2) (Jk.2 ⟨v,hv,rfl⟩) ZA)⟩
theorem N6(ho:q.ok)(hK:∀(d:CodeD) z H',PkR q d->(∃P,Er q.blocks.length (rchL q.blocks.length (nxN (gnx q))) P/\d=pkD q P (rchL q.blocks.length (nxN (gnx q))))->Kn H H' [] [(z,.vec 5 (Qo d.blocks))]->K (.ag [Ui d.params,Ui d.ae,.ah z 5 0 d.blocks.length]) H') :
  Qu prog Kg [.ag [Ui q.params,Ui q.ae,.sl fl 5 (Qo q.blocks)]] H K:=by
 refine EB ?_;refine Qd Co Yi ?_;refine Za ?_;intro x2 aL H1 h1;have kn:=(Kn.an H).al aL h1;refine Zu ?_;refine Qage (rows:=Qo q.blocks) (nx:=gnx q) (Hx ho.gd) (by rw[Qn];exact ho.fitB) λH2 hu=>?_;have kn:=kn.au hu;rw[Qn];simp only[go_sem,Q1m];refine Qaqr ho ho.rchPk λd z H3 hR hP k2=>?_;have kn:=kn.comp0 k2;have aL:=kn.l 0 rfl;simp only[go_sem,P4,aL];intro H4 h4;have kn:Kn H H4 [] ([(x2,.st [Ui d.params,Ui d.ae,.ah z 5 0 d.blocks.length])]++[(z,.vec 5 (Qo d.blocks))]):=kn.az 0 rfl h4;have aL:=kn.l 0 rfl;refine Zs aL ?_;obtain⟨S,kq,ly,fh,kn⟩:=(kn.perm Jn).bW;exact⟨S,_,_,FrzL.ag (.cons (Qg rfl) (.cons (Qg rfl) (.cons (.same _ rfl) .nil))),fh,hK d z _ hR hP kn⟩
theorem Y7(ho:q.ok)(hK:∀(d:CodeD) z H',PkR q d->Kn H H' [] [(z,.vec 5 (Qo d.blocks))]->K (.ag [Ui d.params,Ui d.ae,.ah z 5 0 d.blocks.length]) H') :
  Qu prog Kg [.ag [Ui q.params,Ui q.ae,.sl fl 5 (Qo q.blocks)]] H K:=N6 ho λd z H' hR _ kn=>hK d z H' hR kn
def zRow (v:Int):List C:=[.int .i64 1,.int .i64 v,.sl true 1 [],.int .i64 0]
def zIns (v:Int):InsD:=⟨1,v,[],0⟩
theorem Qa19(vs:List Int):FrzR H S (vs.map zRow) (Cu (vs.map zIns)):=by
 rw[Cu,J2];exact Fc vs λv _=>.cons (Qg rfl) (.cons (Qg rfl) (.cons FrzR.nil.sl (.cons (Qg rfl) .nil)))
theorem V7 {d:CodeD}(ho:d.ok)(h9:∀y∈d.blocks,y.ins.length<=900/\y.ab.length<=900){vs:List Int}(hv:∀v∈vs,rIn d v)(hl:vs.length<=300){ys:List BlkD}(hd:d.blocks=y::ys) :
  (CodeD.mk d.params d.ae (⟨y.ab,vs.map zIns++y.ins,y.jump,y.on,y.next⟩::ys)).ok:=by
 obtain⟨y',eQ⟩:∃y':BlkD,y'=⟨y.ab,vs.map zIns++y.ins,y.jump,y.on,y.next⟩:=⟨_,rfl⟩;obtain⟨d',dj⟩:∃d':CodeD,d'=⟨d.params,d.ae,y'::ys⟩:=⟨_,rfl⟩;rw[<-eQ,<-dj];have ak:d'.blocks.length=d.blocks.length:=by rw[dj,hd];rfl
 have gu:d'.blocks.map BlkD.next=d.blocks.map BlkD.next:=by rw[dj,hd,eQ];rfl
 have hg:gnx d'=gnx d:=by funext i;rw[gnx,gnx,gu]
 have hr:∀v,rIn d v->rIn d' v:=λv h=>by simp only[rIn,dj]at h⊢;exact h
 have h9y:=h9 y (by rw[hd];exact J6);have jq:d'.ae=d.ae:=by rw[dj]
 refine⟨by rw[jq];exact ho.r0,by rw[jq];exact ho.r1,by rw[ak];exact ho.b0,by rw[ak];exact ho.b1,λb h=>?_,λb h=>?_⟩
 ·have h':b<d.blocks.length:=ZA
  have o:=ho.bs b h';have bT:∀x∈d'.blocks[b].ins,x∈d.blocks[b].ins\/∃v∈vs,x=zIns v:=λx hx=>by
   cases b with
   |zero=>
    simp only[dj,Jap,eQ]at hx;rcases J7.1 hx with hx|hx
    ·obtain⟨v,hv,rfl⟩:=Jk.1 hx;exact .inr ⟨v,hv,rfl⟩
    ·left;simp only[hd,Jap];exact hx
   |succ b=>left;simp only[dj,hd,Jao]at hx⊢;exact hx
  have e:d'.blocks[b].ab=d.blocks[b].ab/\d'.blocks[b].jump=d.blocks[b].jump/\d'.blocks[b].on=d.blocks[b].on/\d'.blocks[b].next=d.blocks[b].next:=by
   cases b with
   |zero=>simp only[dj,hd,Jap,eQ,and_self]
   |succ b=>simp only[dj,hd,Jao,and_self]
  obtain⟨e1,e2,e3,e4⟩:=e;refine⟨by rw[e4];exact o.nxl,λv hv=>by rw[e4]at hv;rw[ak];exact o.nx v hv,by rw[e2];exact o.jmp,λhj=>by rw[e2]at hj;rw[e3];exact hr _ (o.on hj),λx hx v hv=>?_,λx hx hm=>?_,
   λp hp=>by rw[e1]at hp;exact hr _ (o.pto p hp),λp hp v hv=>by rw[e1]at hp;exact hr _ (o.pargs p hp v hv),λp hp=>by rw[e1]at hp;rw[hg,ak];exact o.pal p hp,λx hx=>?_⟩
  ·rcases bT x hx with h|⟨v',_,rfl⟩
   ·exact hr _ (o.args x h v hv)
   ·simp[zIns]at hv
  ·rcases bT x hx with h|⟨v',iS,rfl⟩
   ·exact hr _ (o.to x h hm)
   ·exact hr _ (hv v' iS)
  ·rcases bT x hx with h|⟨v',_,rfl⟩
   ·exact o.al x h
   ·simp[zIns]
 ·have h':b<d.blocks.length:=ZA
  have o:=ho.il b h'
  cases b with
  |zero=>
   simp only[dj,Jap,eQ,J0,Jd];omega
  |succ b=>simp only[dj,hd,Jao]at o⊢;exact o
theorem Qaqv(ho:q.ok)(gm:0<=q.params)(h9:∀y∈q.blocks,y.ins.length<=900/\y.ab.length<=900)
  (hK:∀(d:CodeD) H',d.ok->d.params=q.params->d.ae=q.ae->(∀y∈d.blocks,y.ab.length<=900)->Upd H H' []->K (.ag d.cells) H') :
  Qu prog Q5m [.ag [Ui q.params,Ui q.ae,.sl fl 5 (Qo q.blocks)]] H K:=by
 refine Q0 ?_;refine Qd Co Qaq4 ?_;refine Za ?_;intro x2 aL H1 h1;have kn:=(Kn.an H).al aL h1;refine Za ?_;refine Y7 ho λd z H2 hR k2=>?_;have kn:=kn.comp0 k2;have nV:=hR.ok;have zX:∀y∈d.blocks,y.ins.length<=900/\y.ab.length<=900:=λy hy=>by
  obtain⟨y0,sM,h1,h2⟩:=hR.i y hy;rw[h1,h2];exact h9 y0 sM
 have gm:0<=d.params:=by rw[hR.p];exact gm
 have bI:=nV.r0;have cN:=nV.r1;have eB:=nV.b0;have bm:=nV.b1;simp only[go_sem,Qym];intro x3 aO H3 h3;have kn:=(kn.al aO h3).perm Jn;have aO:=kn.l 0 rfl;simp only[go_sem,Qyl,aO];intro H4 h4;have kn:Kn H H4 [] ([(x3,.st [Ui d.params,Ui d.ae,.ah z 5 0 d.blocks.length]),(x2,.st [Ui 0,Ui 0,.sl true 5 []]),(z,.vec 5 (Qo d.blocks))]):=kn.az 0 rfl h4;have aO:=kn.l 0 rfl;have hz:=kn.l 2 rfl;refine Zj aO ?_;refine MC nV (CodeR.ah hz ZC) λzi zo H5 hu cY=>?_;have kn:=kn.au hu;obtain⟨y,ys,sL⟩:∃y ys,d.blocks=y::ys:=by
  cases hb:d.blocks with
  |nil=>rw[hb]at eB;simp at eB
  |cons y ys=>exact⟨y,ys,rfl⟩
 have iR:0<zi.length:=by rw[cY.1.i];exact eB
 obtain⟨nd,df⟩:∃nd,zi[0].2=nd:=⟨_,rfl⟩;have rH:nd.length=d.ae.toNat:=by rw[<-df];exact cY.1.li _ (Jc iR)
 simp only[go_sem,Qyn,iR,M1,N0 _ _ iR,df];refine⟨Jbl 0,?_⟩;refine Za ?_;have aO:=kn.l 0 rfl;refine Q1 (Qa ?_);simp only[go_sem,aO];refine Qh (Qe (Qy (λm e1 H1=>∃(r:Int) (vs:List Int) (t:C) (Lg:Ul),m=(d.ae-r).toNat/\0<=r/\(r<=d.ae\/r=d.params)/\(vs.length:Int)<=r/\(vs=[]\/r<=d.ae)/\(∀v∈vs,rIn d v)/\Gr Lg 4 (vs.map zRow) t/\
  Kn H H1 [] ([(x3,.st [Ui d.params,Ui d.ae,.ah z 5 0 d.blocks.length]),(x2,.st [Ui 0,Ui 0,.sl true 5 []]),(z,.vec 5 (Qo d.blocks))]++Lg)/\
  lk 2 e1=Up x2/\lk 3 e1=Up x3/\lk 4 e1=.c (.sl false 1 (Qx nd))/\lk 5 e1=.c t/\lk 6 e1=Uv r) (d.ae-d.params).toNat ?_ ?_))
 ·exact⟨d.params,[],_,[],rfl,gm,.inr rfl,gm,.inl rfl,ZC,.nil 4,ZL,Rf0⟩
 ·clear kn aO hz;rintro m e1 H6 ⟨r,vs,t,Lg,hm,hr,xV,bH,vW,tO,ax,kn,l2,l3,l4,l5,l6⟩;have fU:=ax.ai;have aO:=kn.l 0 rfl;refine Q1 (Qa ?_);simp only[go_sem,l2,l3,l4,l5,l6,aO];refine Wt ?_ ?_
  ·intro hc;have af:r<d.ae:=ZD
   obtain⟨rn,jG⟩:∃rn:Nat,r=(rn:Int):=⟨r.toNat,ZA⟩;subst jG;have cF:rn<nd.length:=ZA
   refine Zc ?_
   refine CN (λe2 H2=>∃(vs:List Int) (t:C) (Lg:Ul),(vs.length:Int)<=(rn:Int)+1/\(∀v∈vs,rIn d v)/\Gr Lg 4 (vs.map zRow) t/\
    Kn H H2 [] ([(x3,.st [Ui d.params,Ui d.ae,.ah z 5 0 d.blocks.length]),(x2,.st [Ui 0,Ui 0,.sl true 5 []]),(z,.vec 5 (Qo d.blocks))]++Lg)/\
    lk 2 e2=Up x2/\lk 3 e2=Up x3/\lk 4 e2=.c (.sl false 1 (Qx nd))/\lk 5 e2=.c t/\lk 6 e2=Uv (rn:Int)) ?_ ?_
   ·intro Q bS _ _;refine Qe (Qa ?_);simp only[go_sem,cF,Q4,Q7 _ _ cF];refine Wu ?_ ?_
    ·intro aC;refine Zh ?_;refine kn.bk (new:=[zRow (rn:Int)]) ax (.mk' _ _ _ _) (by intro w hw;simp only[Jb]at hw;rw[hw];rfl) ZaB λt2 Lg2 H7 bY cQ kn=>?_;simp only[go_sem,Qyo];refine bS _ _ ⟨vs++[(rn:Int)],t2,Lg2,by simp only[J0,Jl,Ji];omega,λv hv=>?_,by rw[J1];exact bY,kn,Rf0⟩;rcases J7.1 hv with hv|hv
     ·exact tO v hv
     ·simp only[Jb]at hv;rw[hv];exact⟨ZA,af⟩
    ·intro aC;refine Zc ?_
     exact bS _ _ ⟨vs,t,Lg,ZA,tO,ax,kn,Rf0⟩
   ·rintro e2 H7 ⟨vs,t,Lg,bH,tO,ax,kn,l2,l3,l4,l5,l6⟩;have fU:=ax.ai;refine Qt ?_;simp only[go_sem,l2,l3,l4,l5,l6];refine⟨Qv,?_⟩;show ∃m,_;exact⟨(d.ae-((rn:Int)+1)).toNat,ZA,(rn:Int)+1,vs,t,Lg,rfl,ZA,.inl ZA,bH,.inr ZA,tO,ax,kn,Rf0⟩
  ·intro hc;have xw:vs.length<=300:=by
    rcases vW with rfl|h
    ·simp
    ·omega
   have bp:d.ae<=r:=ZD
   have hz:=kn.l 2 rfl;have h0:0<(Qo d.blocks).length:=by rw[Qn];exact eB
   have v6:(Qo d.blocks).getD 0 []=[.sl false 2 (Q3 y.ab),.sl false 4 (Cu y.ins),Ui y.jump,Ui y.on,.sl false 1 (Qb y.next)]:=by rw[sL];rfl
   have pf:(Qo d.blocks).take d.blocks.length=Qo d.blocks:=Je (by rw[Qn];exact Jm _);have lB:=zX y (by rw[sL];exact J6);refine Zb ?_;refine Cv ?_;simp only[go_sem,aO,hz,Qn,eB,v6,pf,Jp,Jm,Jbl];refine kn.bk (new:=Cu y.ins) ax (.mk' _ _ _ _) (GT _) (by simp only[Jd,CR,LIM];omega) λt2 Lg2 H7 bY cQ kn=>?_;have aO:=kn.l 0 rfl;have hz:=kn.l 2 rfl;simp only[go_sem,Qyp,aO,hz,Qn,eB,v6,Jp,Jm,Jbl];intro H8 h8;have bX:∀R:List C,(Qo d.blocks).set 0 R=R::Qo ys:=λR=>by rw[sL];rfl
   rw[bX]at h8;have kn:Kn H H8 [] ([(x3,.st [Ui d.params,Ui d.ae,.ah z 5 0 d.blocks.length]),(x2,.st [Ui 0,Ui 0,.sl true 5 []]),(z,.vec 5 ([.sl false 2 (Q3 y.ab),t2,Ui y.jump,Ui y.on,.sl false 1 (Qb y.next)]::Qo ys))]++Lg2):=kn.az 2 rfl h8;have aL:=kn.l 1 rfl;have aO:=kn.l 0 rfl;refine Zl aL aO ?_;intro H9 AL;have kn:Kn H H9 [] ([(x3,.st [Ui d.params,Ui d.ae,.ah z 5 0 d.blocks.length]),(x2,.st [Ui d.params,Ui d.ae,.ah z 5 0 d.blocks.length]),(z,.vec 5 ([.sl false 2 (Q3 y.ab),t2,Ui y.jump,Ui y.on,.sl false 1 (Qb y.next)]::Qo ys))]++Lg2):=kn.az 1 rfl AL;have aL:=kn.l 1 rfl;have hz:=kn.l 2 rfl;have hzu:=kn.un 2 rfl;refine Zs aL ?_;have iK:FrzC H9 (un H) t2 (.sl false 4 (Cu (vs.map zIns++y.ins))):=by
    have:Cu (vs.map zIns++y.ins)=Cu (vs.map zIns)++Cu y.ins:=(by simp[Cu]);rw[this];exact bY.frzR kn ((Qa19 vs).app (FrzR.same (GT _)))
   have b9:FrzR H9 (un H) ([.sl false 2 (Q3 y.ab),t2,Ui y.jump,Ui y.on,.sl false 1 (Qb y.next)]::Qo ys) (Qo (⟨y.ab,vs.map zIns++y.ins,y.jump,y.on,y.next⟩::ys)):=
    .cons (.cons (Qg rfl) (.cons iK (.cons (Qg rfl) (.cons (Qg rfl) (.cons (Qg rfl) .nil))))) (FrzR.same (RV _))
   have lp:d.blocks.length=(⟨y.ab,vs.map zIns++y.ins,y.jump,y.on,y.next⟩::ys:List BlkD).length:=by rw[sL];rfl
   refine⟨_,FrzL.ag (.cons (Qg rfl) (.cons (Qg rfl) (.cons (b9.ah hzu hz (by rw[lp,Jl,Jl,Qn])) .nil))),hK (CodeD.mk d.params d.ae (⟨y.ab,vs.map zIns++y.ins,y.jump,y.on,y.next⟩::ys)) _ (V7 nV zX tO xw sL) hR.p hR.r (λw hw=>?_) kn.fin⟩;rcases Ja5.1 hw with rfl|hw
   ·exact lB.2
   ·exact (zX w (by rw[sL];exact Jw _ hw)).2
end Y
namespace Y
open Go.Proofs.Tryz
def Rf:=dY 0x104122f011c122 EK
def Qv5:=dZ 0x1909002315101142f7801805800e4000013160d80079f0113130c310142000bb0002316010440b11500400231500f00570083123003014f00511002014f00411 Oy Rf Ou
theorem Qvr:mFn prog Qgg 2 22 Qv5 Cp=true:=ZE
def PL:=dY 0xf80031
def Qt8:=dY 0x79585e590042
def Qt9:=dY 0xa90061
def Qua:=dY 7122116609
def Qub:=dY 2752657
def Quc:=dY 0x101e72b133b2
def Qabi:=dW 0x800a1011a0cb01e9f1fe9043c2000800a1011a302122f011c98001011348038048038032900040080070110110ff01b0259f1f5a0431200040080070110110ff017f010113a80018812b809802a800040080050001101111f09a07a00a9f01241310275105420426b000400800701101110f01044261150440040080070110110ff00f00568023312008007011011c208f221100800811011b1170232f089f026132320310342021fb000800a1011b010441f11502400800a1011a00f0050158021b41 [] [Qua,Qub,Quc] [eI 34 .mkm,.e none none (.upd 0 (.t 42) (.t 43) (.t 48))]
def Qam1:=dW 0x7210eb0029f3803e2100d1150db0139f1f39043d200900a000118301232d4801836183100b00117217004727532f059f056245310154101420014b000d116010441411500400d11500f00501182210412112108f050118220c4111014f0090121 [Qabi] [PL,Qt8,Qt9] [eI 15 (.mks 1 [.sl true 1 []] (.t 14))]
theorem Qal7:mFn prog Sq 1 63 Qam1 Cq=true:=ZE
def Qul:=dY 0xe9781ec90062
def Qum:=dY 0x201e012342352614f72a52434f1a2214f2b6
def Qam3:=dW 0xa0040ea00d9f1fd8042e2000a06020090da01a9f1fa9042d2000a060200930126fd78170e1f58068001002015348001022070801fc0e0d0c0705030b0a09080706050403020100120fa00a04000200b24132f079f012413101c410342021bb000a060200a010441b11502400a060200900f00501011348018015610602006101232d4800360708010510720050f80049f100f210142000eb00a005010440e1150040a00400f0050102207700861 [] [P3,Qul,Qum]
theorem Qal9:mFn prog Sp 2 47 Qam3 CQ=true:=ZE
def Qabk:=dW 0x7310680039f08f4021044100200f00311 [] [] [fI 6 (.lup 0 (.c (.int .i64 0)) (.t 4) (.t 5))]
theorem Qaa1:mFn prog Ra 2 7 Qabk DY=true:=ZE
def Qia:=dY 0x102253d430364f062 P4
def Q4e:=dZ 0x72110154d2361360330403000201000605a201205700332f090121 .skip Qia
theorem Q38:mFn prog Tc 1 7 Q4e CK=true:=ZE
end Y
namespace Y
attribute [local go_sem] cond_true cond_false Bool.not_true Bool.not_false
open Go.Proofs.Tryz
variable{q:CodeD}{L:Ul}
def mI (l:List (Int×Int)):List (C×V):=l.map λp=>(.int .i64 p.1,.c (.int .i64 p.2))
def lkI (k:Int):List (Int×Int)->Option Int
 |[]=>none
 |p::l=>if k=p.1 then some p.2 else lkI k l
def upI (k v:Int):List (Int×Int)->List (Int×Int)
 |[]=>[(k,v)]
 |p::l=>if k=p.1 then (k,v)::l else p::upI k v l
def deI (k:Int):List (Int×Int)->List (Int×Int)
 |[]=>[]
 |p::l=>if k=p.1 then l else p::deI k l
theorem Fq (l:List (Int×Int)):(mI l).length=l.length:=by simp[mI]
theorem FE (k:Int)(l:List (Int×Int)):DN 0 (Ui k) (mI l)=True:=by
 refine eq_true ?_;simp only[DN,mI,Jk];rintro e ⟨p,_,rfl⟩;exact⟨p.1,rfl⟩
theorem HQ (k:Int):∀(l:List (Int×Int)),DG (Ui k) (mI l)=(lkI k l).map λv=>Uv v
 |[]=>rfl
 |p::l=>by
  have ih:=HQ k l;simp only[mI,J4,DG,CZ,lkI]at ih⊢;by_cases h:k=p.1
  ·simp[h]
  ·simp only[h,decide_false,Jax,if_false];exact ih
theorem OQ (k:Int)(l:List (Int×Int)):(DG (Ui k) (mI l)).getD (Uv 0)=Uv ((lkI k l).getD 0):=by
 rw[HQ];cases lkI k l <;> rfl
theorem MG (k:Int)(l:List (Int×Int)):(DG (Ui k) (mI l)).isSome=(lkI k l).isSome:=by
 rw[HQ];cases lkI k l <;> rfl
theorem Fv (k v:Int):∀(l:List (Int×Int)),updE (Ui k) (Uv v) (mI l)=mI (upI k v l)
 |[]=>rfl
 |p::l=>by
  have ih:=Fv k v l;simp only[mI,J4,updE,CZ,upI]at ih⊢;by_cases h:k=p.1
  ·simp[h]
  ·simp only[h,decide_false,Jax,if_false,J4,ih]
theorem KL (k:Int):∀(l:List (Int×Int)),delE (Ui k) (mI l)=mI (deI k l)
 |[]=>rfl
 |p::l=>by
  have ih:=KL k l;simp only[mI,J4,delE,CZ,deI]at ih⊢;by_cases h:k=p.1
  ·simp[h]
  ·simp only[h,decide_false,Jax,if_false,J4,ih]
theorem Ga (k v:Int):∀(l:List (Int×Int)),(upI k v l).length<=l.length+1
 |[]=>by simp[upI]
 |p::l=>by
  have ih:=Ga k v l;simp only[upI];split
  ·simp
  ·simp only[Jl];omega
theorem KM (k:Int):∀(l:List (Int×Int)),(deI k l).length<=l.length
 |[]=>by simp[deI]
 |p::l=>by
  have ih:=KM k l;simp only[deI];split
  ·simp
  ·simp only[Jl];omega
theorem EI (k v j:Int):∀(l:List (Int×Int)),lkI j (upI k v l)=if j=k then some v else lkI j l
 |[]=>by simp[upI,lkI]
 |p::l=>by
  have ih:=EI k v j l;simp only[upI];by_cases h:k=p.1
  ·simp only[h,if_true,lkI];by_cases hj:j=p.1 <;> simp[hj]
  ·simp only[h,if_false,lkI,ih];by_cases hj:j=p.1
   ·have:¬j=k:=λe=>h (e▸hj);simp[hj];intro e;exact absurd e.symm h
   ·simp[hj]
theorem HZ {k j:Int}(qi:¬j=k):∀(l:List (Int×Int)),lkI j (deI k l)=lkI j l
 |[]=>rfl
 |p::l=>by
  have ih:=HZ qi l;simp only[deI];by_cases h:k=p.1
  ·have:¬j=p.1:=λe=>qi (e.trans h.symm);simp[h,lkI,this]
  ·simp only[h,if_false,lkI,ih]
theorem Kz {k v:Int}:∀{l:List (Int×Int)},(∀p∈l,¬k=p.1)->upI k v l=l++[(k,v)]
 |[],_=>rfl
 |p::l,h=>by
  have ih:=Kz (v:=v) λq hq=>h q (Jw _ hq);simp only[upI,h p J6,if_false,ih,List.cons_append]
theorem OE {w:Int}:∀{l:List Int} {aa:List Int},w∈l->l.length<=aa.length->lkI w (l.zip aa)=some (aa.getD (l.idxOf w) 0)
 |[],_,h,_=>ZH
 |x::l,[],_,h=>ZH
 |x::l,a::aa,h,hl=>by
  simp only[List.zip_cons_cons,lkI];by_cases hx:w=x
  ·subst hx;simp
  ·have hm:w∈l:=by
    rcases Ja5.1 h with h|h
    ·exact absurd h hx
    ·exact h
   have:=OE hm (aa:=aa) Zag;rw[if_neg hx,this,List.idxOf_cons];have hb:(x == w)=false:=by simp;exact λe=>hx e.symm
   rw[hb];simp
theorem Qa2b {l aa:List Int}(h:i<l.length)(h2:i<aa.length)(df:l.Nodup):upI l[i] aa[i] ((l.zip aa).take i)=(l.zip aa).take (i+1):=by
 have hz:i<(l.zip aa).length:=by rw[List.length_zip];omega
 rw[Jg hz,List.getElem_zip,Kz];intro p hp he;obtain⟨j,hj,rfl⟩:=Jq.1 hp;rw[Jy]at hj;rw[List.getElem_take,List.getElem_zip]at he;simp only at he;have:=(Jbj df).1 he;omega
theorem T2 {l:List (Int×Int)}(h:(l.map Prod.fst).Nodup):(mI l).Nodup:=by
 rw[mI,List.nodup_iff_pairwise_ne,Ja3];rw[List.nodup_iff_pairwise_ne,Ja3]at h;refine List.Pairwise.imp (λbe he=>?_) h;simp only[Jar,C.int.injEq,true_and]at he;exact be he.1
structure PMap where
 m:Nat
 ver:Nat
 l:List (Int×Int)
def PMap.lg (p:PMap):List (Nat×Obj):=[(p.m,.map p.ver (mI p.l))]
def CH (ms:List PMap):List (List C):=ms.map λp=>[.mp p.m]
theorem Ey (ms:List PMap):(CH ms).length=ms.length:=by simp[CH]
theorem RH (ms:List PMap)(i:Nat)(h:i<ms.length):(CH ms).getD i []=[.mp ms[i].m]:=by simp[CH,Ja,h]
structure PSl where
 ms:List PMap
 c:C
 g:Ul
def PSl.row (s:PSl):List C:=[s.c]
def PSl.ok (s:PSl):Prop:=Gr s.g 1 (CH s.ms) s.c
def PSl.lg (s:PSl):List (Nat×Obj):=s.ms.flatMap PMap.lg++s.g
def psL (ss:List PSl):List (Nat×Obj):=ss.flatMap PSl.lg
structure PInv (F:Nat->List (List (Int×Int)))(ss:List PSl):Prop where
 f:∀r (h:r<ss.length),ss[r].ms.map PMap.l=F r
 ok:∀s∈ss,s.ok
variable{F F':Nat->List (List (Int×Int))}{ss:List PSl}
theorem PInv.set (h:PInv F ss){x:Nat}{s:PSl}(hs:s.ok)(hF:∀r,r<ss.length->F' r=if r=x then s.ms.map PMap.l else F r):PInv F' (ss.set x s):=by
 refine⟨λr hr=>?_,λw hw=>?_⟩
 ·have bd:r<ss.length:=Zai
  rw[J3,hF r bd];split
  ·rename_i e;rw[if_pos e.symm]
  ·rename_i e;rw[if_neg (λhh=>e hh.symm)];exact h.f r bd
 ·rcases Jab hw with hw|rfl
  ·exact h.ok w hw
  ·exact hs
theorem IV{s:PSl}(hx:x<ss.length)(hs:ss[x]=s):(psL ss).Perm (psL (ss.eraseIdx x)++s.lg):=by
 subst hs;exact (DL (f:=PSl.lg) hx).trans Jn
theorem Hr{s:PSl}(hx:x<ss.length):(psL (ss.set x s)).Perm (psL (ss.eraseIdx x)++s.lg):=by
 have h1:=IV (ss:=ss.set x s) (x:=x) (s:=s) (by rw[Ju];exact hx) ZC;rw[Jau]at h1;exact h1
def zpA (q:CodeD)(b:Nat)(p:PhiD):List (Int×Int):=(Qs (gnx q) (b:Int) q.blocks.length).zip p.args
def phT (q:CodeD)(b r:Nat):List (List (Int×Int)):=if r<b then (Qq q r).ab.map (zpA q r)else []
section
variable{rows:List (List C)}
structure RwR (H:Heap)(q:CodeD)(bc:C)(rows:List (List C)):Prop where
 ow:bc.ai=false
 s:Slc H 5 rows bc
 n:rows.length=q.blocks.length
 x:∀b,b<q.blocks.length->∃a1 a2 fl,rows.getD b []=[a1,a2,Ui (Qq q b).jump,Ui (Qq q b).on,.sl fl 1 (Qb (Qq q b).next)]/\a1.ai=false/\a2.ai=false/\Slc H 2 (Q3 (Qq q b).ab) a1
theorem RwR.keep0 (h:RwR H q bc rows)(kn:Kn H H' [] L):RwR H' q bc rows:=⟨h.ow,h.s.keep0 kn,h.n,λb hb=>by
 obtain⟨a1,a2,fl,e,o1,o2,hs⟩:=h.x b hb;exact⟨a1,a2,fl,e,o1,o2,hs.keep0 kn⟩⟩
theorem RwR.hx (h:RwR H q bc rows):∀i,i<rows.length->∃a1 a2 a3 a4 a5,rows.getD i []=[a1,a2,a3,a4,a5]/\a5.ai=false/\Slc H 1 (Qb (gnx q i)) a5:=λi hi=>by
 rw[h.n]at hi;obtain⟨a1,a2,fl,e,o1,o2,hs⟩:=h.x i hi;rw[DI hi];exact⟨_,_,_,_,_,e,rfl,.mk' _ _ _ _⟩
theorem RwR.no (h:RwR H q bc rows):∀r∈rows,Go.AE.am r=true:=λr hr=>by
 obtain⟨i,hi,rfl⟩:=Jq.1 hr;obtain⟨a1,a2,fl,e,o1,o2,hs⟩:=h.x i (by rw[<-h.n];exact hi);have e2:rows.getD i []=rows[i]:=by simp[Ja,hi]
 rw[<-e2,e];simp only[Go.AE.am,Jav,Jaz,o1,o2];rfl
theorem RwR.frz:RwR H q (.sl fl 5 (Qo q.blocks)) (Qo q.blocks):=⟨rfl,.mk' _ _ _ _,Qn _,λb hb=>⟨_,_,false,by rw[CU _ _ hb,C3 hb];rfl,rfl,rfl,.mk' _ _ _ _⟩⟩
theorem RwR.ph (h:RwR H q bc rows){b:Nat}(hb:b<q.blocks.length){a1 a2 a3 a4 a5:C}(e:rows.getD b []=[a1,a2,a3,a4,a5]):Slc H 2 (Q3 (Qq q b).ab) a1:=by
 obtain⟨b1,b2,fl,e2,_,_,hs⟩:=h.x b hb;rw[e]at e2;rw[(List.cons.inj e2).1];exact hs
end
theorem M7{rows:List (List C)}(ho:q.ok)(h:RwR H q bc rows)(hK:∀o ss H',ss.length=q.blocks.length->PInv (phT q q.blocks.length) ss->Kn H H' [] ([(o,.vec 1 (ss.map PSl.row))]++psL ss)->K (.c (.ah o 1 0 q.blocks.length)) H') :
  Qu prog Sq [.ag [Ui q.params,Ui q.ae,bc]] H K:=by
 have bm:=ho.b1;have bq:=h.ow;have ak:=h.s.len;have br:=h.s.sz;have jG:=h.n;have aq:=eq_true h.s.ok;refine EB ?_;refine Qd Co Qal7 ?_;refine Zj bq ?_;refine Qa ?_;simp only[go_sem,bq,aq,ak,jG];intro _;refine⟨by simp only[LIM];omega,λo lK H1 h1=>?_⟩;obtain⟨ss0,gR⟩:∃ss0:List PSl,ss0=List.replicate q.blocks.length ⟨[],.sl true 1 [],[]⟩:=⟨_,rfl⟩;have ug:ss0.length=q.blocks.length:=by rw[gR];simp
 have nD:PInv (phT q 0) ss0:=by
  rw[gR];refine⟨λr h=>by simp[phT],λs hs=>?_⟩;rw[Jaj hs];exact .nil 1
 have kn:Kn H H1 [] ([(o,.vec 1 (ss0.map PSl.row))]++psL ss0):=by
  have e:psL ss0=[]:=by rw[gR];exact Ja4.2 λs hs=>by rw[Jaj hs];rfl
  have:=(Kn.an H).al lK h1;rw[e,gR];simpa[PSl.row]using this
 clear gR h1 lK;have aq:=eq_true (h.keep0 kn).s.ok;simp only[go_sem,PL];refine Q1 (Qa ?_);simp only[go_sem,bq,aq,ak,jG];try intro _
 refine Qh (Qe (Qy (λm e1 H1=>∃(b:Nat) (ss:List PSl),m=q.blocks.length-b/\b<=q.blocks.length/\ss.length=q.blocks.length/\PInv (phT q b) ss/\Kn H H1 [] ([(o,.vec 1 (ss.map PSl.row))]++psL ss)/\
  lk 1 e1=.c (.pp [Ui q.params,Ui q.ae,bc])/\lk 3 e1=.c (.ah o 1 0 q.blocks.length)/\lk 17 e1=.c (bc)/\lk 18 e1=.c (Ui q.blocks.length)/\lk 19 e1=Uv b) q.blocks.length ?_ ?_))
 ·exact⟨0,ss0,ZA,ZA,ug,nD,kn,Rf0⟩
 ·clear kn nD ug;clear ss0;rintro m e1 H1 ⟨b,ss,hm,hb,dd,hS,kn,l1,l3,l17,l18,l19⟩;refine Qa ?_;simp only[go_sem,l1,l3,l17,l18,l19];refine Wt ?_ ?_
  ·intro hc;have af:b<q.blocks.length:=ZD
   obtain⟨y,hy⟩:∃y,q.blocks[b]=y:=⟨_,rfl⟩;have fX:Qq q b=y:=by rw[C3 af,hy]
   have cp:=ho.bs b af;have cK:=ho.il b af;rw[hy]at cp cK;have hR:=h.keep0 kn;obtain⟨a1,a2,fln,aD,o1,o2,cE⟩:=hR.x b af;rw[fX]at aD cE;have aq:=eq_true hR.s.ok;have de:=hR.s.rows;refine Zc ?_
   refine Wc ?_;simp only[go_sem,bq,aq,ak,br,de,jG,af,aD,o1,o2];intro x5 bt H2 h2;have kn:Kn H H2 [] ([(x5,_)]++([(o,.vec 1 (ss.map PSl.row))]++psL ss)):=(kn.al bt h2).perm Jn;have bt:=kn.l 0 rfl;simp only[go_sem,Qt8,bt];intro H3 h3;have kn:=kn.az 0 rfl h3;have kn:Kn H H3 [] ([(x5,.st [a1,a2,Ui y.jump,Ui y.on,.sl fln 1 (Qb y.next)])]++([(o,.vec 1 (ss.map PSl.row))]++psL ss)):=kn;clear bt;have hR:=h.keep0 kn;refine Zj bq ?_;refine RC (nx:=gnx q) hR.s bq hR.no (λi hi=>by
    obtain⟨c1,c2,c3,c4,c5,e1,_,e3⟩:=hR.hx i hi;exact⟨c1,c2,c3,c4,c5,e1,e3⟩) λfl2 H4 hu=>?_
   have kn:=kn.au hu;have uu:ES (gnx q) (b:Int) q.blocks.length=Qs (gnx q) (b:Int) q.blocks.length:=by rw[ES,if_pos ZaL]
   rw[jG,uu];obtain⟨ps,fH⟩:∃ps,Qs (gnx q) (b:Int) q.blocks.length=ps:=⟨_,rfl⟩;have yp:ps.Nodup:=by rw[<-fH];exact IP _ _ _
   have db:ps.length<=q.blocks.length:=by rw[<-fH];exact E3 _ _ _
   have mP:∀p∈y.ab,p.args.length=ps.length:=λp hp=>by rw[cp.pal p hp,fH]
   rw[fH];simp only[go_sem,Qt9];have bt:=kn.l 0 rfl;have cE:=(h.keep0 kn).ph af aD;rw[fX]at cE;have eK:=eq_true cE.ok;have qc:=cE.len;have xM:=cE.sz;refine Qa ?_;simp only[go_sem,bt,o1,eK,qc,Qz];try intro _
   refine Qe (Qy (λm e1 H1=>∃(k:Nat) (ss:List PSl),m=y.ab.length-k/\k<=y.ab.length/\ss.length=q.blocks.length/\PInv (λr=>if r=b then (y.ab.take k).map (zpA q b)else phT q b r) ss/\Kn H H1 [] ([(x5,.st [a1,a2,Ui y.jump,Ui y.on,.sl fln 1 (Qb y.next)])]++([(o,.vec 1 (ss.map PSl.row))]++psL ss))/\
    lk 1 e1=.c (.pp [Ui q.params,Ui q.ae,bc])/\lk 3 e1=.c (.ah o 1 0 q.blocks.length)/\lk 4 e1=Uv b/\lk 6 e1=.c (.sl fl2 1 (Qb ps))/\lk 17 e1=.c (bc)/\lk 18 e1=.c (Ui q.blocks.length)/\lk 19 e1=Uv b/\lk 28 e1=.c a1/\lk 29 e1=.c (Ui y.ab.length)/\lk 30 e1=Uv k) y.ab.length ?_ ?_)
   ·refine⟨0,ss,ZA,ZA,dd,⟨λr hr=>?_,hS.ok⟩,kn,Rf0⟩;rw[hS.f r hr];by_cases nP:r=b
    ·subst nP;simp[phT]
    ·rw[if_neg nP]
   ·clear kn hS l1 l3 l17 l18 l19 bt dd cE eK;rintro m2 e2 H5 ⟨k,ss,fz,hk,dd,hS,kn,l1,l3,l4,l6,l17,l18,l19,l28,l29,l30⟩;refine Qa ?_;simp only[go_sem,l1,l3,l4,l6,l17,l18,l19,l28,l29,l30];refine Wt ?_ ?_
    ·intro aC;have aP:k<y.ab.length:=ZG;obtain⟨p,hp⟩:∃p,y.ab[k]=p:=⟨_,rfl⟩;have dD:p∈y.ab:=(by rw[<-hp];exact Jc aP);have rx:=mP p dD;refine Zc ?_
     refine Qh (Qe ?_);have cE:=(h.keep0 kn).ph af aD;rw[fX]at cE;have eK:=eq_true cE.ok;have jo:=cE.rows;refine Qa ?_;simp only[go_sem,o1,eK,qc,xM,jo,aP,Qz,D2 _ _ aP,PhiD.cells,hp];intro x8 aV H6 h6;have kn:Kn H H6 [] ([(x8,_)]++([(x5,.st [a1,a2,Ui y.jump,Ui y.on,.sl fln 1 (Qb y.next)])]++([(o,.vec 1 (ss.map PSl.row))]++psL ss))):=(kn.al aV h6).perm Jn;have aV:=kn.l 0 rfl;simp only[go_sem,Qua,aV];intro H7 h7;have kn:=kn.az 0 rfl h7;have kn:Kn H H7 [] ([(x8,.st p.cells)]++([(x5,.st [a1,a2,Ui y.jump,Ui y.on,.sl fln 1 (Qb y.next)])]++([(o,.vec 1 (ss.map PSl.row))]++psL ss))):=kn;clear aV;refine Za ?_;intro M hM H8 h8;have kn:Kn H H8 [] ([(M,.map 0 (mI []))]++([(x8,.st p.cells)]++([(x5,.st [a1,a2,Ui y.jump,Ui y.on,.sl fln 1 (Qb y.next)])]++([(o,.vec 1 (ss.map PSl.row))]++psL ss)))):=(kn.al hM h8).perm Jn;clear hM;simp only[go_sem,Qub];refine Q1 (Qa ?_);simp only[go_sem,Qc];try intro _
     refine Qh (Qe (Qy (λm e1 H1=>∃(i ver:Nat),m=ps.length-i/\i<=ps.length/\Kn H H1 [] ([(M,.map ver (mI ((ps.zip p.args).take i)))]++([(x8,.st p.cells)]++([(x5,.st [a1,a2,Ui y.jump,Ui y.on,.sl fln 1 (Qb y.next)])]++([(o,.vec 1 (ss.map PSl.row))]++psL ss))))/\
      lk 1 e1=.c (.pp [Ui q.params,Ui q.ae,bc])/\lk 3 e1=.c (.ah o 1 0 q.blocks.length)/\lk 4 e1=Uv b/\lk 6 e1=.c (.sl fl2 1 (Qb ps))/\lk 8 e1=Up x8/\lk 9 e1=.c (.mp M)/\lk 17 e1=.c (bc)/\lk 18 e1=.c (Ui q.blocks.length)/\lk 19 e1=Uv b/\lk 28 e1=.c a1/\lk 29 e1=.c (Ui y.ab.length)/\lk 30 e1=Uv k/\
      lk 35 e1=.c (.sl fl2 1 (Qb ps))/\lk 36 e1=.c (Ui ps.length)/\lk 37 e1=Uv i) ps.length ?_ ?_))
     ·exact⟨0,0,ZA,ZA,ZL,Rf0⟩
     ·clear kn l1 l3 l4 l6 l17 l18 l19 l28 l29 l30;rintro m3 e3 H9 ⟨i,ver,uH,hi,kn,l1,l3,l4,l6,l8,l9,l17,l18,l19,l28,l29,l30,l35,l36,l37⟩;have hM:=kn.l 0 rfl;have aV:=kn.l 1 rfl;refine Qa ?_;simp only[go_sem,l1,l3,l4,l6,l8,l9,l17,l18,l19,l28,l29,l30,l35,l36,l37];refine Wt ?_ ?_
      ·intro bv;have bR:i<ps.length:=ZT;have gW:i<p.args.length:=ZA;obtain⟨w,hw⟩:∃w,ps[i]=w:=⟨_,rfl⟩;obtain⟨a,ha⟩:∃a,p.args[i]=a:=⟨_,rfl⟩;have zB:ps.getD i 0=w:=(by simp[Ja,bR,hw]);have ve:p.args.getD i 0=a:=(by simp[Ja,gW,ha]);have tz:=Qa2b bR gW yp;rw[hw,ha]at tz;have iR:((ps.zip p.args).take i).length<=i:=(by rw[Jy];omega);refine Zc ?_
       refine Wc ?_;simp only[go_sem,bR,Qc,Qk _ _ bR,zB];refine Qt ?_;simp only[go_sem,aV,PhiD.cells,hM,gW,Qc,Qk _ _ gW,ve,FE,Fq,Fv,tz];refine⟨by simp only[LIM];omega,λH10 dh=>?_⟩;have kn:=kn.az 0 rfl dh;refine Zh ?_;refine⟨Qv,?_⟩;show ∃m,_;exact⟨ps.length-(i+1),ZA,i+1,ver+1,rfl,ZA,kn,Rf0⟩
      ·intro bv;have bp:ps.length<=i:=ZT;have fk:(ps.zip p.args).take i=zpA q b p:=by
        rw[Je (by rw[List.length_zip];omega),zpA,fH]
       rw[fk]at kn;refine Zb ?_;have bj:b<ss.length:=ZA;obtain⟨s,hs⟩:∃s,ss[b]=s:=⟨_,rfl⟩;have aK:s.ok:=(by rw[<-hs];exact hS.ok _ (Jc bj));have wg:=hS.f b bj;rw[hs]at wg;simp only[if_true]at wg;have gE:=Gr.ai aK;have iu:s.ms.length=k:=(by have:=congrArg List.length wg;simp only[Jd,Jy]at this;omega);have jF:(ss.map PSl.row).getD b []=[s.c]:=(by simp[Ja,bj,hs,PSl.row]);have cF:(ss.map PSl.row).length=q.blocks.length:=(by rw[Jd,dd]);have mz:(ss.map PSl.row).take q.blocks.length=ss.map PSl.row:=Je ZA;have o6:=IV bj hs;have kn:Kn H H9 [] (([(o,.vec 1 (ss.map PSl.row)),(M,.map ver (mI (zpA q b p))),(x8,.st p.cells),(x5,.st [a1,a2,Ui y.jump,Ui y.on,.sl fln 1 (Qb y.next)])]++(psL (ss.eraseIdx b)++s.ms.flatMap PMap.lg))++s.g):=kn.perm (Qi λf hf h0 hc hp=>by
        have e4:∀(a b c d:Nat×Obj),f [a,b,c,d]=f [a]+f [b]+f [c]+f [d]:=λa b c d=>ZM;have:=hp _ _ o6;rw[PSl.lg]at this;simp only[Ui,hf,e4]at this⊢;omega)
       have bf:=kn.l 0 rfl;refine Qt ?_;simp only[go_sem,bf,cF,mz,af,jF,gE,Jp,Jm];refine kn.bk (new:=[[.mp M]]) aK (.mk' _ _ _ _) (by intro r hr;simp only[Jb]at hr;rw[hr];rfl) (by simp only[Ey,LIM,Jl,Ji];omega) λt2 g2 H10 cS cQ kn=>?_;have bf:=kn.l 0 rfl;simp only[go_sem,Quc,bf,cF,af,jF,Jp,Jm];intro H11 eC;obtain⟨s',eD⟩:∃s':PSl,s'=⟨s.ms++[⟨M,ver,zpA q b p⟩],t2,g2⟩:=⟨_,rfl⟩;have hs'ok:s'.ok:=by
        rw[eD];show Gr g2 1 (CH (s.ms++[⟨M,ver,zpA q b p⟩])) t2;have e:CH (s.ms++[⟨M,ver,zpA q b p⟩])=CH s.ms++[[.mp M]]:=(by simp[CH]);rw[e];exact cS
       have bX:(ss.map PSl.row).set b [t2]=(ss.set b s').map PSl.row:=(by rw[Jat,eD];rfl);rw[bX]at eC;have kn:=kn.az 0 rfl eC;have mH:=Hr (s:=s') bj;have kn:Kn H H11 [] (([(x5,.st [a1,a2,Ui y.jump,Ui y.on,.sl fln 1 (Qb y.next)])]++([(o,.vec 1 ((ss.set b s').map PSl.row))]++psL (ss.set b s')))++[(x8,.st p.cells)]):=kn.perm (Qi λf hf h0 hc hp=>by
        have e4:∀(a b c d:Nat×Obj),f [a,b,c,d]=f [a]+f [b]+f [c]+f [d]:=λa b c d=>ZM;have:=hp _ _ mH;have es:s'.lg=(s.ms.flatMap PMap.lg++[(M,.map ver (mI (zpA q b p)))])++g2:=(by rw[eD,PSl.lg,Jaq];simp[PMap.lg]);rw[es]at this;show f ([(o,_),(M,_),(x8,_),(x5,_)]++(psL (ss.eraseIdx b)++s.ms.flatMap PMap.lg)++g2)=_;simp only[Ui,hf,e4]at this⊢;omega)
       have kn:=kn.drop;refine Zh ?_;refine⟨Qv,?_⟩;show ∃m,_;refine⟨y.ab.length-(k+1),ZA,k+1,ss.set b s',rfl,ZA,by rw[Ju];exact dd,hS.set hs'ok λr hr=>?_,kn,Rf0⟩;by_cases nP:r=b
       ·subst nP;rw[if_pos rfl,if_pos rfl,eD,J1,wg,Jg aP,J1,hp];rfl
       ·rw[if_neg nP,if_neg nP,if_neg nP]
    ·intro aC;have jK:k=y.ab.length:=(by have:y.ab.length<=k:=(by simpa using aC);omega);subst jK;rw[Jaa]at hS;refine Zb ?_;have kn:Kn H H5 [] (([(o,.vec 1 (ss.map PSl.row))]++psL ss)++[(x5,.st [a1,a2,.int .i64 y.jump,.int .i64 y.on,.sl fln 1 (Qb y.next)])]):=kn.perm Jn;have kn:=kn.drop;refine Zh ?_;refine⟨Qv,?_⟩;show ∃m,_;refine⟨q.blocks.length-(b+1),ZA,b+1,ss,rfl,ZA,dd,⟨λr hr=>?_,hS.ok⟩,kn,Rf0⟩;rw[hS.f r hr];by_cases nP:r=b
     ·subst nP;rw[if_pos rfl,phT,if_pos ZA,fX]
     ·rw[if_neg nP,phT,phT];by_cases eE:r<b
      ·rw[if_pos eE,if_pos ZA]
      ·rw[if_neg eE,if_neg ZA]
  ·intro hc;have gC:b=q.blocks.length:=by have:q.blocks.length<=b:=ZD;omega
   subst gC;refine Wh ?_;have kn:Kn H H1 [] ([]++([(o,.vec 1 (ss.map PSl.row))]++psL ss)):=kn;exact⟨unx H ([(o,.vec 1 (ss.map PSl.row))]++psL ss),.c (.ah o 1 0 q.blocks.length),H1.frz (unx H ([(o,.vec 1 (ss.map PSl.row))]++psL ss)),.c _ _ (.same _ rfl),E9 _ _,hK o ss _ dd hS kn.finK⟩
theorem Qa0o(ho:q.ok)(hK:∀o ss H',ss.length=q.blocks.length->PInv (phT q q.blocks.length) ss->Kn H H' [] ([(o,.vec 1 (ss.map PSl.row))]++psL ss)->K (.c (.ah o 1 0 q.blocks.length)) H') :
  Qu prog Sq [.ag [Ui q.params,Ui q.ae,.sl fl 5 (Qo q.blocks)]] H K:=M7 ho .frz hK
end Y
variable{ss:List Y.PSl}{ms:List Y.PMap}
namespace Y
attribute [local go_sem] cond_true cond_false Bool.not_true Bool.not_false
open Go.Proofs.Tryz
variable{L:Ul}
theorem Qar4 {w:Int}{x7 M:Nat}{l:List (Int×Int)}(h7:H x7=.st [.mp M])(hM:H M=.map ver (mI l))(hK:K (Uv ((lkI w l).getD 0)) H) :
  Qu prog Ra [Uv w,Up x7] H K:=by
 have jt:DD H (.mp M)=True:=Zbe
 have j4:CI H (.mp M)=mI l:=Zbf
 refine Qd Co Qaa1 ?_;refine Wk ?_;simp only[go_sem,h7,jt,j4,FE,OQ];refine Zf ?_;exact hK
theorem Qa4v {f:Bool}{ps:List Int}{x7 M:Nat}{l:List (Int×Int)}(db:ps.length<=2 ^ 38)(h7:H x7=.st [.mp M])(hM:H M=.map ver (mI l))(be:x7≠M)
  (hK:∀H',Upd H H' []->K (.c (.sl false 1 (Qb (ps.map λw=>(lkI w l).getD 0)))) H') :
  Qu prog Qgg [.c (.sl f 1 (Qb ps)),.c (.fn Ra [.ptr x7 0])] H K:=by
 obtain⟨av,fT⟩:∃av,(ps.map λw=>(lkI w l).getD 0)=av:=⟨_,rfl⟩;have havl:av.length=ps.length:=by rw[<-fT,Jd]
 rw[fT]at hK;refine Q0 ?_;refine Qd Co Qvr ?_;have kn:=Kn.start2 h7 (by nofun) hM (by nofun) be;refine Wd ?_;refine Q1 (Qa ?_);simp only[go_sem,Qc];try intro _
 refine Qh (Qe (Qy (λm e1 H1=>∃(i:Nat) (t:C) (Lg:Ul),m=ps.length-i/\i<=ps.length/\Gr Lg 1 (Qb (av.take i)) t/\Kn H H1 [(x7,.st [.mp M]),(M,.map ver (mI l))] ([]++Lg)/\
  lk 1 e1=.c (.fn Ra [.ptr x7 0])/\lk 5 e1=.c t/\lk 8 e1=.c (.sl f 1 (Qb ps))/\lk 9 e1=.c (Ui ps.length)/\lk 10 e1=Uv i) ps.length ?_ ?_))
 ·exact⟨0,_,[],ZA,ZA,.nil 1,kn,Rf0⟩
 ·clear kn;rintro m e1 H1 ⟨i,t,Lg,hm,hi,ax,kn,l1,l5,l8,l9,l10⟩;have fU:=ax.ai;refine Qa ?_;simp only[go_sem,l1,l5,l8,l9,l10];refine Wt ?_ ?_
  ·intro hc;have af:i<ps.length:=ZD
   obtain⟨w,hw⟩:∃w,ps[i]=w:=⟨_,rfl⟩;have b8:ps.getD i 0=w:=by simp[Ja,af,hw]
   have z8:i<av.length:=ZA
   have nO:av[i]=(lkI w l).getD 0:=by subst fT;rw[Jo,hw]
   have bQ:av.take (i+1)=av.take i++[(lkI w l).getD 0]:=by rw[Jg z8,nO]
   refine Zc ?_
   refine Wc ?_;simp only[go_sem,af,Qc,Qk _ _ af,b8];refine Zh ?_;refine Qar4 (kn.e 0 rfl) (kn.e 1 rfl) ?_;simp only[go_sem,Rf];refine kn.bk (new:=Qb [(lkI w l).getD 0]) ax (.mk' _ _ _ _) (Qr _) (by simp only[Qc,Jy,LIM,Jl,Ji];omega) λt2 Lg2 H5 bY cQ kn=>?_;simp only[go_sem,EK];refine Zh ?_;refine⟨Qv,?_⟩;show ∃m,_;refine⟨ps.length-(i+1),ZA,i+1,t2,Lg2,rfl,ZA,?_,kn,Rf0⟩;rw[bQ,Ec];exact bY
  ·intro hc;have bp:ps.length<=i:=ZD
   rw[Je ZA]at ax;refine Wh ?_;exact⟨_,.c _ _ (ax.frz kn (Qr _)),hK _ ((kn.fin.drop2 hM).drop1 h7)⟩
def stlP (nx:Nat->List Int)(N:Nat)(g:Nat->PhiD->Int->Int)(j:Nat)(p:PhiD):PhiD:=⟨p.to,(Qs nx (j:Int) N).map (g j p)⟩
def stlY (nx:Nat->List Int)(N:Nat)(g:Nat->PhiD->Int->Int)(j:Nat)(y:BlkD):BlkD:=⟨y.ab.map (stlP nx N g j),y.ins,y.jump,y.on,y.next⟩
variable{N:Nat}{Y:Nat->BlkD}
structure StS (nx:Nat->List Int)(N:Nat)(g:Nat->PhiD->Int->Int)(Y:Nat->BlkD)(b:Nat)(ks:List KBlk):Prop where
 n:ks.length=N
 y:∀j (h:j<ks.length),ks[j].y=if j<b then stlY nx N g j (Y j)else Y j
 ok:∀k∈ks,k.ok
theorem StS.step {b:Nat}{ks:List KBlk}(hS:StS nx N g Y b ks)(hb:b<ks.length){ph:List PhiD}{pl:Ul}(h2:ph=(Y b).ab.map (stlP nx N g b))(hg:Gr pl 2 (Q3 ph) ks[b].pc) :
  StS nx N g Y (b+1) (ks.set b ⟨⟨ph,ks[b].y.ins,ks[b].y.jump,ks[b].y.on,ks[b].y.next⟩,ks[b].pc,pl⟩):=by
 refine⟨by rw[Ju];exact hS.n,λj h=>?_,λw hw=>?_⟩
 ·have h':j<ks.length:=ZI
  rw[J3];split
  ·rename_i e;subst e
   have:=hS.y b hb;rw[if_neg (Jbm b)]at this;rw[if_pos (Nat.lt_succ_self b),this,h2];rfl
  ·rename_i e
   rw[hS.y j h'];by_cases hj:j<b
   ·rw[if_pos hj,if_pos ZA]
   ·rw[if_neg hj,if_neg ZA]
 ·rcases Jab hw with h|rfl
  ·exact hS.ok w h
  ·exact hg
structure PTel (nx:Nat->List Int)(N:Nat)(g:Nat->PhiD->Int->Int)(Y:Nat->BlkD)(ss:List PSl):Prop where
 ml:∀r (h:r<ss.length),ss[r].ms.length=(Y r).ab.length
 f:∀r (h:r<ss.length) i (h1:i<ss[r].ms.length) (h2:i<(Y r).ab.length),∀w∈Qs nx (r:Int) N,(lkI w (ss[r].ms[i]).l).getD 0=g r (Y r).ab[i] w
 ok:∀s∈ss,s.ok
theorem Xu {zb o:Nat}{P G:Int}{R:Ul}{RW:List (List C)}(hN:N<=100000)(hk:StS nx N g Y 0 ks0)(bg:RW.length=N)(vH:∀r∈RW,Go.AE.am r=true)
  (BQ:∀j (h:j<ks0.length),∃a2 a3 a4 fl,RW.getD j []=[ks0[j].pc,a2,a3,a4,.sl fl 1 (Qb (nx j))]) (db:∀j,j<N->(Y j).ab.length<=100000)
  (dd:ss.length=N) (hs:PTel nx N g Y ss)
  (kn:Kn H0 H E ([(x,.st [Ui P,Ui G,.ah zb 5 0 N]),(zb,.vec 5 RW),(o,.vec 1 (ss.map PSl.row))]++(ks0.flatMap KBlk.pl++(psL ss++R))))
  (hK:∀ks H',StS nx N g Y N ks->ks.map KBlk.pc=ks0.map KBlk.pc->Kn H0 H' E ([(x,.st [Ui P,Ui G,.ah zb 5 0 N]),(zb,.vec 5 RW),(o,.vec 1 (ss.map PSl.row))]++(ks.flatMap KBlk.pl++(psL ss++R)))->K (.tup []) H') :
  Qu prog Sp [Up x,.c (.ah o 1 0 N)] H K:=by
 obtain⟨X0,tj⟩:∃X0,X0=Obj.st [Ui P,Ui G,.ah zb 5 0 N]:=⟨_,rfl⟩;obtain⟨SW,po⟩:∃SW,ss.map PSl.row=SW:=⟨_,rfl⟩;have bx:RW.take N=RW:=Je ZA;have A4:SW.length=N:=by rw[<-po,Jd,dd]
 have A3:SW.take N=SW:=Je ZA;rw[po,<-tj]at kn;rw[po,<-tj]at hK;have pq:∀j,j<RW.length->∃a1 a2 a3 a4 fl,RW.getD j []=[a1,a2,a3,a4,.sl fl 1 (Qb (nx j))]:=λj hj=>by
  obtain⟨a2,a3,a4,fl,e⟩:=BQ j (by rw[hk.n];omega);exact⟨_,a2,a3,a4,fl,e⟩
 refine Qd Co Qal9 ?_;have hx:=kn.l 0 rfl;rw[tj]at hx;have cn:=kn.l 1 rfl;refine Qa ?_;simp only[go_sem,hx,cn,bg,Jp,Jm];try intro _
 refine Qe (Qy (λm e1 H1=>∃(b:Nat) (ks:List KBlk),m=N-b/\b<=N/\StS nx N g Y b ks/\ks.map KBlk.pc=ks0.map KBlk.pc/\
  Kn H0 H1 E ([(x,X0),(zb,.vec 5 RW),(o,.vec 1 SW)]++(ks.flatMap KBlk.pl++(psL ss++R)))/\
  lk 0 e1=Up x/\lk 1 e1=.c (.ah o 1 0 N)/\lk 12 e1=Uv N/\lk 13 e1=Uv b) N ?_ ?_)
 ·exact⟨0,ks0,ZA,ZA,hk,rfl,kn,Rf0⟩
 ·clear kn hx cn;rintro m e1 H1 ⟨b,ks,hm,hb,hS,zf,kn,l0,l1,l12,l13⟩;refine Qa ?_;simp only[go_sem,l0,l1,l12,l13];refine Wt ?_ ?_
  ·intro hc;have af:b<N:=ZD
   have dy:b<ks.length:=by rw[hS.n];exact af
   obtain⟨kb,fu⟩:∃kb,ks[b]=kb:=⟨_,rfl⟩;have gz:Gr kb.pl 2 (Q3 kb.y.ab) kb.pc:=by rw[<-fu];exact hS.ok _ (Jc dy)
   have oT:kb.y=Y b:=by have:=hS.y b dy;rw[if_neg (Jbm b),fu]at this;exact this
   have fZ:b<ss.length:=ZA
   obtain⟨s,sU⟩:∃s,ss[b]=s:=⟨_,rfl⟩;have iu:s∈ss:=by rw[<-sU];exact Jc fZ
   have aK:=hs.ok s iu;have hsml:s.ms.length=(Y b).ab.length:=by have:=hs.ml b fZ;rw[sU]at this;exact this
   have uf:∀i (h1:i<s.ms.length) (h2:i<(Y b).ab.length),∀w∈Qs nx (b:Int) N,(lkI w (s.ms[i]).l).getD 0=g b (Y b).ab[i] w:=by
    have:=hs.f b fZ;rw[sU]at this;exact this
   obtain⟨w2,w3,w4,wf,ba⟩:=BQ b Za7;have mN:(ks.map KBlk.pc)[b]? = some kb.pc:=by simp[dy,fu]
   rw[zf]at mN;have mN:(ks0[b]'Za7).pc=kb.pc:=by
    rw[Jx,Jj Za7]at mN;exact Jag mN
   rw[mN]at ba;have A5:SW.getD b []=[s.c]:=by
    rw[<-po,Ja];simp only[Jx,Jj fZ,sU,Jaf,Jan];rfl
   have gE:=Gr.ai aK;obtain⟨KR,Cc⟩:∃KR,(ks.eraseIdx b).flatMap KBlk.pl=KR:=⟨_,rfl⟩;have fv:(ks.flatMap KBlk.pl).Perm (kb.pl++KR):=by rw[<-Cc,<-fu];exact DL dy
   refine Zc ?_
   refine We ?_;have hx:=kn.l 0 rfl;rw[tj]at hx;have cn:=kn.l 1 rfl;refine Zj hx ?_;refine Q45 (nx:=nx) ⟨vslc cn bg.symm,rfl,vH,pq⟩ λfl2 H2 hu=>?_;have kn:=kn.au hu;have uu:ES nx (b:Int) RW.length=Qs nx (b:Int) N:=by rw[bg,ES,if_pos ZaL]
   rw[uu];obtain⟨ps,fH⟩:∃ps,Qs nx (b:Int) N=ps:=⟨_,rfl⟩;have ul:ps.length<=N:=by rw[<-fH];exact E3 _ _ _
   rw[fH];simp only[go_sem,P3];have ho:=kn.l 2 rfl;have qn:∀p∈s.g,p∈psL ss:=λp hp=>J8.2 ⟨s,iu,Jf _ hp⟩;have kS:aZ H2 s.c=True/\ay s.c=s.ms.length:=by
    refine⟨eq_true ?_,by have:=Gr.ay aK;rw[Ey]at this;exact this⟩;rcases aK with ⟨h1,_,_⟩|⟨z,h1,h2⟩
    ·rw[h1];trivial
    ·have hz:=(kn.get (z,.vec 1 (CH s.ms)) (Jf _ (Jf _ (Jf _ (J5 _ (qn _ Zad)))))).1;rw[h1];simp only[aZ,hz,Jp,Jm,and_self]
   refine Qa ?_;simp only[go_sem,ho,A4,A3,A5,af,gE,kS.1,kS.2,Jp,Jm];try intro _
   have kn:Kn H0 H2 E (([(x,X0),(zb,.vec 5 RW),(o,.vec 1 SW)]++(KR++(psL ss++R)))++kb.pl):=kn.perm (Qi λf hf h0 hc hp=>by
    have:=hp _ _ fv;simp only[Ui,hf]at this⊢;omega)
   refine Qe (Qy (λm e1 H1=>∃(i:Nat) (ph:List PhiD) (pl:Ul),m=s.ms.length-i/\i<=s.ms.length/\ph=mix (stlP nx N g b) (Y b).ab i/\Gr pl 2 (Q3 ph) kb.pc/\
    Kn H0 H1 E (([(x,X0),(zb,.vec 5 RW),(o,.vec 1 SW)]++(KR++(psL ss++R)))++pl)/\
    lk 0 e1=Up x/\lk 1 e1=.c (.ah o 1 0 N)/\lk 4 e1=Uv b/\lk 5 e1=.c (.sl fl2 1 (Qb ps))/\lk 12 e1=Uv N/\lk 13 e1=Uv b/\lk 24 e1=.c s.c/\lk 25 e1=.c (Ui s.ms.length)/\lk 26 e1=Uv i) s.ms.length ?_ ?_)
   ·exact⟨0,kb.y.ab,kb.pl,ZA,ZA,by rw[IQ,oT],gz,kn,Rf0⟩
   ·clear kn hx cn ho kS l0 l1 l12 l13 fv;rintro m2 e2 H3 ⟨i,ph,pl,fz,hi,eW,ax,kn,l0,l1,l4,l5,l12,l13,l24,l25,l26⟩;have jW:ph.length=(Y b).ab.length:=(by rw[eW,Eg]);refine Qa ?_;simp only[go_sem,l0,l1,l4,l5,l12,l13,l24,l25,l26];refine Wt ?_ ?_
    ·intro aC;have aP:i<s.ms.length:=ZG;have zA:i<(Y b).ab.length:=ZA;have hYl:=db b af;have zx:i<ph.length:=ZA;obtain⟨zs,iq,jF⟩:∃z,s.c=.ah z 1 0 s.ms.length/\s.g=[(z,.vec 1 (CH s.ms))]:=by
      rcases aK with ⟨_,h,_⟩|⟨z,h1,h2⟩
      ·have:=congrArg List.length h;rw[Ey]at this;simp only[Ji]at this;omega
      ·exact⟨z,by rw[h1,Ey],h2⟩
     obtain⟨zp,gS,yr⟩:∃z,kb.pc=.ah z 2 0 ph.length/\pl=[(z,.vec 2 (Q3 ph))]:=by
      rcases ax with ⟨_,h,_⟩|⟨y,h1,h2⟩
      ·have:=congrArg List.length h;rw[Qz]at this;simp only[Ji]at this;omega
      ·exact⟨y,by rw[h1,Qz],h2⟩
     rw[gS]at ba;rw[yr]at kn;obtain⟨pm,dD⟩:∃pm,s.ms[i]=pm:=⟨_,rfl⟩;obtain⟨p,hp⟩:∃p,(Y b).ab[i]=p:=⟨_,rfl⟩;obtain⟨gl,cW⟩:∃gl,pm.l=gl:=⟨_,rfl⟩;have rx:ps.map (λw=>(lkI w gl).getD 0)=ps.map (g b p):=Jal λw hw=>by
      have:=uf i aP zA w (by rw[fH];exact hw);rw[dD,cW,hp]at this;exact this
     have yu:ph[i]=p:=(by rw[<-hp];subst eW;exact EO zA zx);have mW:(CH s.ms).getD i []=[.mp pm.m]:=(by rw[RH _ _ aP,dD]);have rJ:(CH s.ms).take s.ms.length=CH s.ms:=Je (by rw[Ey];omega);have qw:(zs,Obj.vec 1 (CH s.ms))∈psL ss:=qn _ (by rw[jF];simp);have BV:(pm.m,Obj.map pm.ver (mI gl))∈psL ss:=J8.2 ⟨s,iu,J5 _ (J8.2 ⟨pm,by rw[<-dD];exact Jc aP,by rw[PMap.lg,cW];simp⟩)⟩;have wH:=(kn.get (zs,.vec 1 (CH s.ms)) (by simp[qw])).1;have px:=(kn.get (pm.m,.map pm.ver (mI gl)) (by simp[BV])).1;refine Zc ?_
     refine Wc ?_;simp only[go_sem,iq,wH,Ey,rJ,aP,mW,Jp,Jm];intro x7 bz H4 h4;have be:x7≠pm.m:=λe=>(by rw[e,px]at bz;simp at bz);have kn:Kn H0 H4 E ([(x7,.st [.mnil])]++(([(x,X0),(zb,.vec 5 RW),(o,.vec 1 SW)]++(KR++(psL ss++R)))++[(zp,.vec 2 (Q3 ph))])):=(kn.al bz h4).perm Jn;have bz:=kn.l 0 rfl;simp only[go_sem,Qul,bz];intro H5 h5;have kn:Kn H0 H5 E ([(x7,.st [.mp pm.m])]++(([(x,X0),(zb,.vec 5 RW),(o,.vec 1 SW)]++(KR++(psL ss++R)))++[(zp,.vec 2 (Q3 ph))])):=kn.az 0 rfl h5;have bz:=kn.l 0 rfl;have hx:=kn.l 1 rfl;rw[tj]at hx;have cn:=kn.l 2 rfl;have px:=(kn.get (pm.m,.map pm.ver (mI gl)) (by simp[BV])).1;have vT:=(kn.get (zp,.vec 2 (Q3 ph)) ZC).1;have o8:(Q3 ph).take ph.length=Q3 ph:=Je (by rw[Qz];omega);have kU:(Q3 ph).getD i []=[Ui p.to,.sl false 1 (Qb p.args)]:=(by rw[D2 _ _ zx,yu];rfl);refine C7 ?_;simp only[go_sem,hx,cn,bg,bx,ba,af,Jp,Jm];refine Qa4v ZA bz px be λH6 hu=>?_;have kn:=kn.au hu;have hx:=kn.l 1 rfl;rw[tj]at hx;have cn:=kn.l 2 rfl;have vT:=(kn.get (zp,.vec 2 (Q3 ph)) ZC).1;simp only[go_sem,Qum,hx,cn,bg,bx,ba,af,vT,Qz,zx,kU,Jp,Jm];intro H7 h7;have aD:(Q3 ph).set i [Ui p.to,.sl false 1 (Qb (ps.map λw=>(lkI w gl).getD 0))]=Q3 (mix (stlP nx N g b) (Y b).ab (i+1)):=by
      rw[rx,<-OO zA,hp,stlP,fH,<-eW,Q3,Q3,Jat];rfl
     rw[aD]at h7;have kn:Kn H0 H7 E ((([(x,X0),(zb,.vec 5 RW),(o,.vec 1 SW)]++(KR++(psL ss++R)))++[(zp,.vec 2 (Q3 (mix (stlP nx N g b) (Y b).ab (i+1))))])++[(x7,.st [.mp pm.m])]):=
      ((kn.perm (L':=[(zp,.vec 2 (Q3 ph))]++([(x7,.st [.mp pm.m])]++([(x,X0),(zb,.vec 5 RW),(o,.vec 1 SW)]++(KR++(psL ss++R))))) (Qi λf hf h0 hc hp=>by simp only[Ui,hf];omega)).az 0 rfl h7).perm (Qi λf hf h0 hc hp=>by
       show f ([(zp,_)]++([(x7,_)]++([(x,X0),(zb,.vec 5 RW),(o,.vec 1 SW)]++(KR++(psL ss++R)))))=_;simp only[Ui,hf];omega)
     have kn:=kn.drop;refine Zh ?_;refine⟨Qv,?_⟩;show ∃m,_;refine⟨s.ms.length-(i+1),ZA,i+1,_,_,rfl,ZA,rfl,?_,kn,rfl,rfl,rfl,rfl,rfl,rfl,by first|rfl|exact congrArg V.c iq.symm,Rf0⟩;rw[gS];exact .mk _ _ _ (by rw[Qz,Eg,jW])
    ·intro aC;have iZ:s.ms.length<=i:=ZG;rw[OP _ _ ZA]at eW;refine Zb ?_;have lC:ks[b].y=Y b:=(by rw[fu,oT]);obtain⟨ks2,iH⟩:∃ks2,ks2=ks.set b ⟨⟨ph,ks[b].y.ins,ks[b].y.jump,ks[b].y.on,ks[b].y.next⟩,ks[b].pc,pl⟩:=⟨_,rfl⟩;have aI:=hS.step dy eW (pl:=pl) (by rw[fu];exact ax);have de:(ks.set b ⟨⟨ph,ks[b].y.ins,ks[b].y.jump,ks[b].y.on,ks[b].y.next⟩,ks[b].pc,pl⟩).map KBlk.pc=ks.map KBlk.pc:=by
      rw[Jat];have e:ks[b].pc=(ks.map KBlk.pc)[b]'(by simpa using dy):=(by rw[Jo]);rw[e,Jba]
     have h1:((ks.set b ⟨⟨ph,ks[b].y.ins,ks[b].y.jump,ks[b].y.on,ks[b].y.next⟩,ks[b].pc,pl⟩).flatMap KBlk.pl).Perm (pl++KR):=by
      have:=DL (f:=KBlk.pl) (l:=ks.set b ⟨⟨ph,ks[b].y.ins,ks[b].y.jump,ks[b].y.on,ks[b].y.next⟩,ks[b].pc,pl⟩) (i:=b) (by rw[Ju];exact dy);rw[Ja7,Jau,Cc]at this;exact this
     rw[<-iH]at aI de h1;have kn:Kn H0 H3 E ([(x,X0),(zb,.vec 5 RW),(o,.vec 1 SW)]++(ks2.flatMap KBlk.pl++(psL ss++R))):=kn.perm (Qi λf hf h0 hc hp=>by
      have:=hp _ _ h1;simp only[Ui,hf]at this⊢;omega)
     refine Zh ?_;refine⟨Qv,?_⟩;show ∃m,_;exact⟨N-(b+1),ZA,b+1,ks2,rfl,ZA,aI,de.trans zf,kn,Rf0⟩
  ·intro hc;have gC:b=N:=by have:N<=b:=ZD;omega
   subst gC;refine Qw ?_;simp only[go_sem,X.next,Q5,Cn,CQ,Jam];exact⟨λ_=>trivial,hK ks _ hS zf kn⟩
end Y
namespace Y
attribute [local go_sem] cond_true cond_false Bool.not_true Bool.not_false
open Go.Proofs.Tryz
variable{F:Heap}{L pl:Ul}
theorem Qad7(hy:y.cl)(hK:∀pc N ic M nc nl H',Gr N 2 (Q3 y.ab) pc->Gr M 4 (Cu y.ins) ic->Gr nl 1 (Qb y.next) nc->Kn H H' [] ((N++nl)++M)->K (.ag [pc,ic,Ui y.jump,Ui y.on,nc]) H'):Qu prog Qmn [.ag y.cells] H K:=by
 refine EB ?_;refine Qd Co Q37 ?_;refine Qa ?_;simp only[go_sem,BlkD.cells];intro x1 cV H0 h0;have kn:=(Kn.an H).al cV h0;intro x2 aL H1 h1;have kn:=kn.al aL h1;have cV:=kn.l 0 rfl;refine Zj cV ?_;refine Qa0b hy.p hy.pa kn λpc N H2 lO kn=>?_;have fx:=lO.ai;have cV:=kn.l 0 rfl;simp only[go_sem,Qh2,cV];intro H3 h3;have kn:=kn.az 0 rfl h3;have cV:=kn.l 0 rfl;refine Zj cV ?_;refine XE hy.i hy.ia kn λic M H4 iz kn=>?_;have ki:=iz.ai;have cV:=kn.l 0 rfl;simp only[go_sem,Qh3,cV];intro H5 h5;have kn:=kn.az 0 rfl h5;have cV:=kn.l 0 rfl;refine Zj cV ?_;refine Il kn hy.n λt Lg H6 ax bq kn=>?_;have cV:=kn.l 0 rfl;simp only[go_sem,Qh4,cV];intro H7 h7;have kn:=kn.az 0 rfl h7;have cV:=kn.l 0 rfl;have aL:=kn.l 1 rfl;refine Qa ?_;simp only[go_sem,cV,aL,fx,ki,bq];intro H8 h8;have kn:Kn H H8 [] ([(x1,.st [pc,ic,Ui y.jump,Ui y.on,t]),(x2,.st [pc,ic,Ui y.jump,Ui y.on,t])]++((N++Lg)++M)):=
  (kn.az 1 rfl h8).perm (Qi λf hf h0 hc hp=>by
   have e1:=hc (x1,.st [pc,ic,Ui y.jump,Ui y.on,t]) ([(x2,.st [pc,ic,Ui y.jump,Ui y.on,t])]++N++M++Lg);have e2:=hc (x1,.st [pc,ic,Ui y.jump,Ui y.on,t]) [(x2,.st [pc,ic,Ui y.jump,Ui y.on,t])];show f ((x1,_)::([(x2,_)]++N++M++Lg))=_;rw[e1];simp only[Ui,hf,e2];omega)
 have aL:=kn.l 1 rfl;refine Ql ?_;simp only[go_sem,Q5,Cn,Jb,forall_eq,RS.op,fx,ki,bq,aL];exact⟨unx H ((N++Lg)++M),.ag [pc,ic,Ui y.jump,Ui y.on,t],H8.frz (unx H ((N++Lg)++M)),FrzL.ag (.cons (.same _ fx) (.cons (.same _ ki) (.cons (Qg rfl) (.cons (Qg rfl) (.cons (.same _ bq) .nil))))),E9 _ _,hK pc N ic M t Lg _ lO iz ax kn.finK⟩
end Y
namespace Y
structure Fr where
 k:Nat
 b:Nat
 todo:List InsD
 ae:List Int
inductive Cf where
 |go (fs:List Fr) (s c:List Int)
 |dn (e v:Int) (s c:List Int)
def Qp (cs:List CodeD)(k:Nat):CodeD:=cs.getD k ⟨0,0,[]⟩
def rg (R:List Int)(r:Int):Int:=R.getD r.toNat 0
def ar (R:List Int)(x:InsD)(i:Nat):Int:=rg R (x.args.getD i 0)
def trI (b:Prop) [Decidable b]:Int:=if b then 1 else 0
def arR (op a b:Int):Option Int:=
 if op=3 then some ((a+b) % 256)else if op=4 then some ((a-b+256) % 256)else if op=5 then some (a * b % 256)
 else if op=6 then (if b=0 then none else some (a / b))else if op=7 then (if b=0 then none else some (a % b))
 else if op=8 then some (trI (a<b))else if op=9 then some (trI (a=b))else some (trI (a=0))
def Ep (q:CodeD)(l:List Int):List Int:=l++List.replicate (q.ae.toNat-l.length) 0
def fr0 (cs:List CodeD)(k:Nat)(l:List Int):Fr:=⟨k,0,(Qq (Qp cs k) 0).ins,Ep (Qp cs k) l⟩
def wayI (q:CodeD)(b a:Nat):Nat:=(Qs (gnx q) (b:Int) q.blocks.length).idxOf (a:Int)
def CL (R:List Int)(w:Nat)(p:PhiD):Int:=rg R (p.args.getD w 0)
def phiR (R:List Int)(w:Nat)(l:List PhiD):List Int:=l.foldl (λT p=>T.set p.to.toNat (CL R w p)) R
def ixB (y:BlkD)(R:List Int):Nat:=if y.jump=2/\rg R y.on=0 then 1 else 0
def nxB (y:BlkD)(R:List Int):Nat:=(y.next.getD (ixB y R) 0).toNat
def rtn (v:Int):List Fr->List Int->List Int->Cf
 |[],s,c=>.dn 0 v s c
 |f::fs,s,c=>match f.todo with
  |[]=>.go (f::fs) s c
  |x::t=>.go (⟨f.k,f.b,t,f.ae.set x.to.toNat v⟩::fs) s c
def stI (cs:List CodeD)(k b:Nat)(x:InsD)(t:List InsD)(R:List Int)(fs:List Fr)(s c:List Int):Cf:=
 let w:=λv=>Cf.go (⟨k,b,t,R.set x.to.toNat v⟩::fs) s c
 if x.op=1 then w x.n
 else if x.op=11 then (if 16<=ar R x 0 then .dn 2 0 s c else w (rg c (ar R x 0)))
 else if x.op=12 then (if 16<=ar R x 0 then .dn 2 0 s c else .go (⟨k,b,t,R⟩::fs) s (c.set (ar R x 0).toNat (ar R x 1)))
 else if x.op=13 then .go (⟨k,b,t,R⟩::fs) (s++[ar R x 0]) c
 else if x.op=14 then .go (fr0 cs x.n.toNat (x.args.map (rg R))::⟨k,b,x::t,R⟩::fs) s c
 else if x.op=2 then w (ar R x 0)
 else match arR x.op (ar R x 0) (ar R x 1)with
  |none=>.dn 1 0 s c
  |some v=>w v
def frJ (cs:List CodeD)(k b:Nat)(R:List Int)(n:Nat):Fr:=
 ⟨k,n,(Qq (Qp cs k) n).ins,phiR R (wayI (Qp cs k) n b) (Qq (Qp cs k) n).ab⟩
def stJ (cs:List CodeD)(k b:Nat)(R:List Int)(fs:List Fr)(s c:List Int):Cf:=
 let y:=Qq (Qp cs k) b
 if y.jump=3 then rtn (rg R y.on) fs s c else .go (frJ cs k b R (nxB y R)::fs) s c
def step (cs:List CodeD):Cf->Cf
 |.go (⟨k,b,x::t,R⟩::fs) s c=>stI cs k b x t R fs s c
 |.go (⟨k,b,[],R⟩::fs) s c=>stJ cs k b R fs s c
 |.go [] s c=>.go [] s c
 |.dn e v s c=>.dn e v s c
def Da (cs:List CodeD):Nat->Cf->Cf
 |0,x=>x
 |n+1,x=>Da cs n (step cs x)
theorem I0 (cs:List CodeD):∀(n m:Nat) (x:Cf),Da cs (n+m) x=Da cs m (Da cs n x)
 |0,m,x=>by rw[Jp];rfl
 |n+1,m,x=>by rw[Nat.add_right_comm];exact I0 cs n m (step cs x)
theorem Lb (cs:List CodeD)(e v:Int)(s c:List Int):∀n,Da cs n (.dn e v s c)=.dn e v s c
 |0=>rfl
 |n+1=>Lb cs e v s c n
theorem In (cs:List CodeD){n m:Nat}{x:Cf}{e v:Int}{s c:List Int}(h:Da cs n x=.dn e v s c)(hm:n<=m):Da cs m x=.dn e v s c:=by
 obtain⟨d,rfl⟩:=Nat.exists_eq_add_of_le hm;rw[I0,h,Lb]
def Fu:List Int:=List.replicate 16 0
def cf0 (cs:List CodeD)(l:List Int):Cf:=.go [fr0 cs (cs.length-1) l] [] Fu
def outR (cs:List CodeD)(l:List Int)(S:Nat):Int×Int×List Int×List Int:=match Da cs S (cf0 cs l)with
 |.dn e v s c=>(e,v,s,c)
 |.go _ s c=>(3,0,s,c)
def DB (cs cs':List CodeD)(l:List Int)(S:Nat):Prop:=(outR cs l S).1=3\/outR cs l S=outR cs' l 60000
theorem sim {cs cs':List CodeD}{R:Cf->Cf->Prop}{B:Nat}(hs:∀x x',R x x'->∃m,m<=B/\R (step cs x) (Da cs' m x'))
  : ∀(n:Nat) {x x':Cf},R x x'->∃m,m<=n * B/\R (Da cs n x) (Da cs' m x')
 |0,x,x',h=>⟨0,ZA,h⟩
 |n+1,x,x',h=>by
  obtain⟨m,h1,h2⟩:=hs x x' h;obtain⟨m2,h3,h4⟩:=sim hs n h2;refine⟨m+m2,by rw[Nat.add_mul];omega,?_⟩;rw[I0 cs' m m2];exact h4
theorem Qa5l {cs cs':List CodeD}{R:Cf->Cf->Prop}{B S:Nat}{l:List Int}(hs:∀x x',R x x'->∃m,m<=B/\R (step cs x) (Da cs' m x'))
  (hd:∀e v s c x',R (.dn e v s c) x'->x'=.dn e v s c) (hB:S * B<=60000) (h0:R (cf0 cs l) (cf0 cs' l)):DB cs cs' l S:=by
 obtain⟨m,h1,h2⟩:=sim hs S h0;rw[DB]
 cases hx:Da cs S (cf0 cs l)with
 |go fs s c=>exact .inl (by rw[outR,hx])
 |dn e v s c=>
  right;rw[hx]at h2;have:=In cs' (hd _ _ _ _ _ h2) (Jbg h1 hB);rw[outR,outR,hx,this]
structure Fr.ok (cs:List CodeD)(f:Fr):Prop where
 k:f.k<cs.length
 b:f.b<(Qp cs f.k).blocks.length
 t:∃p,(Qq (Qp cs f.k) f.b).ins=p++f.todo
 r:f.ae.length=(Qp cs f.k).ae.toNat
theorem Eh {cs:List CodeD}{k:Nat}(h:k<cs.length):Qp cs k=cs[k]:=by simp[Qp,Ja,h]
theorem Ld {v:PhiD->Int}:∀(l:List PhiD) (T:List Int),(l.foldl (λT p=>T.set p.to.toNat (v p)) T).length=T.length
 |[],T=>rfl
 |p::l,T=>by rw[Ja6,Ld l,Ju]
theorem LJ {R:List Int}{w w':Nat}{g:PhiD->PhiD}:∀{l:List PhiD},(∀p∈l,(g p).to=p.to/\CL R w' (g p)=CL R w p)->phiR R w' (l.map g)=phiR R w l:=by
 intro l h;rw[phiR,phiR,List.foldl_map];have:∀(l:List PhiD) (T:List Int),(∀p∈l,(g p).to=p.to/\CL R w' (g p)=CL R w p)->l.foldl (λT p=>T.set (g p).to.toNat (CL R w' (g p))) T=l.foldl (λT p=>T.set p.to.toNat (CL R w p)) T:=by
  intro l
  induction l with
  |nil=>intro T _;rfl
  |cons p l ih=>
   intro T h;obtain⟨h1,h2⟩:=h p ZC;rw[Ja6,Ja6,h1,h2];exact ih _ λp hp=>h p Zay
 exact this l R h
inductive RelF (RF:Fr->Fr->Prop):List Fr->List Fr->Prop where
 |nil:RelF RF [] []
 |cons {f f':Fr} {fs fs':List Fr}:RF f f'/\f.todo≠[]->RelF RF fs fs'->RelF RF (f::fs) (f'::fs')
inductive RelC (RF:Fr->Fr->Prop):Cf->Cf->Prop where
 |dn (e v:Int) (s c:List Int):RelC RF (.dn e v s c) (.dn e v s c)
 |go {f f':Fr} {fs fs':List Fr} (s c:List Int):RF f f'->RelF RF fs fs'->RelC RF (.go (f::fs) s c) (.go (f'::fs') s c)
structure InsS (cs cs':List CodeD)(RF:Fr->Fr->Prop)(x x':InsD):Prop where
 op:x'.op=x.op
 to:x'.to=x.to
 args:x'.args=x.args
 n:x.op=1->x'.n=x.n
 call:x.op=14->∀l,l.length=x.args.length->RF (fr0 cs x.n.toNat l) (fr0 cs' x'.n.toNat l)
structure SimR (cs cs':List CodeD)(RF:Fr->Fr->Prop)(B:Nat):Prop where
 b:1<=B
 ins:∀k b x t R f',RF ⟨k,b,x::t,R⟩ f'->∃k' b' x' t',f'=⟨k',b',x'::t',R⟩/\InsS cs cs' RF x x'/\∀R',R'.length=R.length->RF ⟨k,b,t,R'⟩ ⟨k',b',t',R'⟩
 jump:∀k b R f' fs fs' s c,RF ⟨k,b,[],R⟩ f'->RelF RF fs fs'->∃m,m<=B/\RelC RF (stJ cs k b R fs s c) (Da cs' m (.go (f'::fs') s c))
theorem SimR.rtnF {RF:Fr->Fr->Prop}{v:Int}{fs fs':List Fr}{s c:List Int}(hf:RelF RF fs fs')
  (h:∀k b x t R f',RF ⟨k,b,x::t,R⟩ f'->∃k' b' x' t',f'=⟨k',b',x'::t',R⟩/\x'.to=x.to/\∀R',R'.length=R.length->RF ⟨k,b,t,R'⟩ ⟨k',b',t',R'⟩):RelC RF (rtn v fs s c) (rtn v fs' s c):=by
 cases hf with
 |nil=>exact .dn ..
 |cons h1 h2=>
  rename_i f f' fs fs'
  obtain⟨h1,h3⟩:=h1;obtain⟨k,b,t,R⟩:=f
  cases t with
  |nil=>exact absurd rfl h3
  |cons x t=>
   obtain⟨k',b',x',t',rfl,hx,hr⟩:=h _ _ _ _ _ _ h1;show RelC RF (.go (⟨k,b,t,R.set x.to.toNat v⟩::fs) s c) (.go (⟨k',b',t',R.set x'.to.toNat v⟩::fs') s c);rw[hx];exact .go s c (hr _ ZC) h2
theorem SimR.one {cs cs':List CodeD}{RF:Fr->Fr->Prop}{B:Nat}(h:SimR cs cs' RF B)(x x':Cf)(hx:RelC RF x x'):∃m,m<=B/\RelC RF (step cs x) (Da cs' m x'):=by
 cases hx with
 |dn e v s c=>exact⟨0,ZA,.dn ..⟩
 |go s c h1 h2=>
  rename_i f f' fs fs'
  obtain⟨k,b,t,R⟩:=f
  cases t with
  |nil=>exact h.jump _ _ _ _ _ _ _ _ h1 h2
  |cons x t=>
   obtain⟨k',b',x',t',rfl,hx,hr⟩:=h.ins _ _ _ _ _ _ h1;refine⟨1,h.b,?_⟩;show RelC RF (stI cs k b x t R fs s c) (stI cs' k' b' x' t' R fs' s c);have ha:∀i,ar R x' i=ar R x i:=λi=>by rw[ar,ar,hx.args]
   rw[stI,stI];simp only[ha,hx.op,hx.to,hx.args];split
   ·rename_i p9
    rw[hx.n p9];exact .go s c (hr _ ZC) h2
   ·split
    ·split
     ·exact .dn ..
     ·exact .go s c (hr _ ZC) h2
    ·split
     ·split
      ·exact .dn ..
      ·exact .go _ _ (hr _ rfl) h2
     ·split
      ·exact .go _ _ (hr _ rfl) h2
      ·split
       ·rename_i iP
        exact .go s c (hx.call iP _ ZC) (.cons ⟨h1,ZC⟩ h2)
       ·split
        ·exact .go s c (hr _ ZC) h2
        ·split
         ·exact .dn ..
         ·exact .go s c (hr _ ZC) h2
theorem SimR.same {cs cs':List CodeD}{RF:Fr->Fr->Prop}{B S:Nat}{l:List Int}(h:SimR cs cs' RF B)(hB:S * B<=60000)(h0:RF (fr0 cs (cs.length-1) l) (fr0 cs' (cs'.length-1) l)):DB cs cs' l S:=
 Qa5l (R:=RelC RF) h.one (λe v s c x' hx=>by cases hx;rfl) hB (.go _ _ h0 .nil)
theorem GE {cs:List CodeD}{k b:Nat}{R:List Int}{fs:List Fr}{s c:List Int}(h:¬(Qq (Qp cs k) b).jump=3):stJ cs k b R fs s c=.go (frJ cs k b R (nxB (Qq (Qp cs k) b) R)::fs) s c:=by rw[stJ];simp only[h,if_false]
theorem Eo {cs:List CodeD}{k b:Nat}{R:List Int}{fs:List Fr}{s c:List Int}(h:(Qq (Qp cs k) b).jump=3):stJ cs k b R fs s c=rtn (rg R (Qq (Qp cs k) b).on) fs s c:=by rw[stJ];simp only[h,if_true]
theorem XY {q:CodeD}{l:List Int}(h:l.length<=q.ae.toNat):(Ep q l).length=q.ae.toNat:=by rw[Ep];simp;omega
structure RunOk (cs:List CodeD):Prop where
 n:0<cs.length
 ok:∀k (h:k<cs.length),(Qp cs k).ok
 jn:∀k b,k<cs.length->b<(Qp cs k).blocks.length->((Qq (Qp cs k) b).next.length:Int)=CM (Qq (Qp cs k) b).jump
 call:∀k b,k<cs.length->∀x∈(Qq (Qp cs k) b).ins,x.op=14->x.n.toNat<k
 op:∀k b,k<cs.length->∀x∈(Qq (Qp cs k) b).ins,1<=x.op/\x.op<=14/\(¬x.op=14->(x.args.length:Int)=Db x.op)
attribute [local instance] Classical.propDecidable in
theorem IJ {cs:List CodeD}(h:C0 cs=true):RunOk cs:=by
 obtain⟨h1,h2,h3⟩:=of_decide_eq_true h;refine⟨ZA,λk hk=>by rw[Eh hk];exact FB h hk,λk b hk hb=>?_,λk b hk x hx iP=>?_,λk b hk x hx=>?_⟩
 ·rw[Eh hk]at hb⊢;have g:=(h2 k hk).2 b hb;simp only[CP,Dp,Js,decide_eq_true_eq]at g;rw[C3 hb];exact g.1.1.1.1
 ·rw[Eh hk]at hx;by_cases hb:b<cs[k].blocks.length
  ·rw[C3 hb]at hx;have g:=(h2 k hk).2 b hb;simp only[CP,Js,Jad]at g;have:=g.1.2 x hx;simp only[CG,insL,iP,if_true,Js,decide_eq_true_eq]at this;omega
  ·simp[Qq,Ja,Jr (Nat.le_of_not_lt hb)]at hx
 ·rw[Eh hk]at hx;by_cases hb:b<cs[k].blocks.length
  ·rw[C3 hb]at hx;have g:=(h2 k hk).2 b hb;simp only[CP,Js,Jad]at g;have:=g.1.2 x hx;simp only[CG,insH,insL,Js,decide_eq_true_eq]at this;refine⟨this.1.1.1.1,this.1.1.1.2,λiP=>?_⟩;have:=this.2;simp only[iP,if_false,Js,decide_eq_true_eq]at this;exact this.1.1
  ·simp[Qq,Ja,Jr (Nat.le_of_not_lt hb)]at hx
theorem Qa6z {cs:List CodeD}(hr:RunOk cs){k b:Nat}(hk:k<cs.length)(hb:b<(Qp cs k).blocks.length)(hj:¬(Qq (Qp cs k) b).jump=3)(R:List Int):ixB (Qq (Qp cs k) b) R<(Qq (Qp cs k) b).next.length:=by
 have h1:=hr.jn k b hk hb;have h2:=((hr.ok k hk).bs b hb).jmp;rw[<-C3 hb]at h2;generalize Qq (Qp cs k) b=y at *;rw[CM]at h1;rcases h2 with h2|h2|h2
 ·simp only[h2,if_true]at h1;rw[ixB,if_neg ZA];omega
 ·rw[h2]at h1;simp at h1;rw[ixB];split <;> omega
 ·exact absurd h2 hj
theorem Gh {cs:List CodeD}(hr:RunOk cs){k b:Nat}(hk:k<cs.length)(hb:b<(Qp cs k).blocks.length)(hj:¬(Qq (Qp cs k) b).jump=3)(R:List Int) :
  ∃v∈(Qq (Qp cs k) b).next,nxB (Qq (Qp cs k) b) R=v.toNat/\(Qq (Qp cs k) b).next[ixB (Qq (Qp cs k) b) R]? = some v:=by
 have h:=Qa6z hr hk hb hj R;refine⟨_,Jc h,?_,Jj h⟩;rw[nxB,Ja,Jj h];rfl
end Y
namespace Y
attribute [local instance] Classical.propDecidable
variable{cs:List CodeD}{q:CodeD}
def EndsR (cs cs':List CodeD)(l:List Int):Prop:=∀S e v s c,Da cs S (cf0 cs l)=.dn e v s c->Da cs' S (cf0 cs' l)=.dn e v s c
theorem EndsR.same {cs':List CodeD}{l:List Int}(h:EndsR cs cs' l){S:Nat}(hS:S<=60000):DB cs cs' l S:=by
 rw[DB]
 cases hx:Da cs S (cf0 cs l)with
 |go fs s c=>exact .inl (by rw[outR,hx])
 |dn e v s c=>exact .inr (by rw[outR,outR,hx,In cs' (h S e v s c hx) hS])
end Y
namespace Y
attribute [local instance] Classical.propDecidable
variable{cs:List CodeD}{q:CodeD}
def skT (q:CodeD)(b:Nat):Int:=(Qq q b).next.getD 0 0
theorem Q0q {p r:Nat->Bool}:∀{l:List Nat} {b:Nat},(∀c∈l,p c=true->r c=true)->b∈l->r b=true->p b=false->(l.filter p).length<(l.filter r).length
 |x::l,b,h,hb,h1,h2=>by
  have aS:(l.filter p).length<=(l.filter r).length:=by
   rw[<-List.countP_eq_length_filter,<-List.countP_eq_length_filter];exact List.countP_mono_left λc hc=>h c (Jw _ hc)
  rcases Ja5.1 hb with rfl|hb
  ·simp[h1,h2];omega
  ·have ih:=Q0q (p:=p) (r:=r) (l:=l) (b:=b) (λc hc=>h c (Jw _ hc)) hb h1 h2;have hx:=h x J6
   cases hp:p x with
   |true=>simp[hp,hx hp];exact ih
   |false=>
    cases hr:r x with
    |true=>simp[hp,hr];omega
    |false=>simp[hp,hr];exact ih
end Y
namespace Y
attribute [local instance] Classical.propDecidable
open Go.Proofs.Tryz
variable{L A:Ul}{q:CodeD}
structure NX where
 y:BlkD
 c:C
 nl:Ul
def NX.row (k:NX):List C:=[.sl false 2 (Q3 k.y.ab),.sl false 4 (Cu k.y.ins),.int .i64 k.y.jump,.int .i64 k.y.on,k.c]
def NX.ok (k:NX):Prop:=Gr k.nl 1 (Qb k.y.next) k.c
theorem NX.am {k:NX}(h:k.ok):Go.AE.am k.row=true:=by
 have h1:k.c.ai=false:=Gr.ai h;simp only[Go.AE.am,NX.row,Jav,Jaz,h1];rfl
theorem NX.frzR{ks:List NX}(ho:∀k∈ks,k.ok)(h:Held H S (ks.flatMap NX.nl)):FrzR H S (ks.map NX.row) (Qo (ks.map NX.y)):=by
 rw[Qo,J2];exact Fc ks λk hk=>.cons (.same _ rfl) (.cons (.same _ rfl) (.cons (Qg rfl) (.cons (Qg rfl) (.cons (Gr.frzM (ho k hk) (h.m hk) (FrzR.same (Qr _))) .nil))))
end Y
namespace Y
attribute [local instance] Classical.propDecidable
variable{cs:List CodeD}{q:CodeD}
structure JnP (q:CodeD)(b n:Nat):Prop where
 bl:b<q.blocks.length
 nl:n<q.blocks.length
 ne:n≠b
 n0:0<n
 j:(Qq q b).jump=1
 nx:(Qq q b).next=[(n:Int)]
 ph:(Qq q n).ab=[]
 pr:∀i,i<q.blocks.length->(n:Int)∈gnx q i->i=b
def jnX (q:CodeD)(b n c:Nat):BlkD:=
 if c=n then ⟨[],[],1,0,[(n:Int)]⟩
 else if c=b then ⟨(Qq q b).ab,(Qq q b).ins++(Qq q n).ins,(Qq q n).jump,(Qq q n).on,(Qq q n).next⟩
 else Qq q c
def jnG (q:CodeD)(b n c:Nat):List Int:=(jnX q b n c).next
def jnA (q:CodeD)(b n to:Nat)(p:PhiD):PhiD:=
 ⟨p.to,(Qs (jnG q b n) (to:Int) q.blocks.length).map λf=>p.args.getD ((Qs (gnx q) (to:Int) q.blocks.length).idxOf (if f=(b:Int)then (n:Int)else f)) 0⟩
def jnB (q:CodeD)(b n c:Nat):BlkD:=
 if (c:Int)∈(Qq q n).next then ⟨(jnX q b n c).ab.map (jnA q b n c),(jnX q b n c).ins,(jnX q b n c).jump,(jnX q b n c).on,(jnX q b n c).next⟩else jnX q b n c
def jnQ (q:CodeD)(b n:Nat):CodeD:=⟨q.params,q.ae,(List.range q.blocks.length).map (jnB q b n)⟩
theorem Gy {b n:Nat}:(jnQ q b n).blocks.length=q.blocks.length:=by simp[jnQ]
theorem GM {b n c:Nat}(hc:c<q.blocks.length):Qq (jnQ q b n) c=jnB q b n c:=by
 rw[C3 (by rw[Gy];exact hc)];simp[jnQ]
theorem Rm (b n c:Nat):(jnB q b n c).next=jnG q b n c:=by rw[jnB];split <;> rfl
theorem KE (b n c:Nat):(jnB q b n c).ins=(jnX q b n c).ins:=by rw[jnB];split <;> rfl
theorem L3 (b n c:Nat):(jnB q b n c).jump=(jnX q b n c).jump:=by rw[jnB];split <;> rfl
theorem OH (b n c:Nat):(jnB q b n c).on=(jnX q b n c).on:=by rw[jnB];split <;> rfl
theorem Hv {b n c:Nat}(hc:c<q.blocks.length):gnx (jnQ q b n) c=jnG q b n c:=by
 rw[DI (by rw[Gy];exact hc),GM hc,Rm]
theorem Q50 {b n:Nat}(v:Int):Qs (gnx (jnQ q b n)) v (jnQ q b n).blocks.length=Qs (jnG q b n) v q.blocks.length:=by
 rw[Qs,Qs,Gy];congr 1;refine List.filter_congr λi hi=>?_;rw[Hv (Jv.1 hi)]
theorem E4 {b n:Nat}:jnX q b n n=⟨[],[],1,0,[(n:Int)]⟩:=by rw[jnX,if_pos rfl]
theorem D8 {b n:Nat}(h:n≠b):jnX q b n b=⟨(Qq q b).ab,(Qq q b).ins++(Qq q n).ins,(Qq q n).jump,(Qq q n).on,(Qq q n).next⟩:=by rw[jnX,if_neg (λe=>h e.symm),if_pos rfl]
theorem Ds {b n c:Nat}(h:c≠n)(h2:c≠b):jnX q b n c=Qq q c:=by rw[jnX,if_neg h,if_neg h2]
theorem mem_preds {g:Nat->List Int}{v:Int}{m:Nat}:(i:Int)∈Qs g v m↔i<m/\v∈g i:=by
 rw[Qs,Jk];constructor
 ·rintro⟨j,hj,e⟩;obtain rfl:j=i:=by
   have:(j:Int)=(i:Int):=e;omega
  obtain⟨h1,h2⟩:=Jac.1 hj;exact⟨Jv.1 h1,Jt.1 h2⟩
 ·rintro⟨h1,h2⟩;exact⟨i,Jac.2 ⟨Jv.2 h1,Jt.2 h2⟩,rfl⟩
theorem Qa69 {b n c m:Nat}(hp:JnP q b n)(hm:(m:Int)∈(Qq q n).next)(hc:c<q.blocks.length)(qa:(m:Int)∈jnG q b n c)(p:PhiD)(R:List Int) :
  CL R (wayI (jnQ q b n) m c) (jnA q b n m p)=CL R (wayI q m (if c=b then n else c)) p:=by
 have bT:(c:Int)∈Qs (jnG q b n) (m:Int) q.blocks.length:=mem_preds.2 ⟨hc,qa⟩;have af:=Jh bT;rw[CL,CL,wayI,wayI,Q50,jnA];congr 1;simp only[Ja,Jx,Jj af,List.getElem_idxOf af,Jaf,Jan];by_cases h:c=b
 ·subst h;simp
 ·rw[if_neg h,if_neg ZA]
theorem Gn {b n m:Nat}(hp:JnP q b n)(hm:¬(m:Int)∈(Qq q n).next)(gV:m≠n):Qs (jnG q b n) (m:Int) q.blocks.length=Qs (gnx q) (m:Int) q.blocks.length:=by
 rw[Qs,Qs];congr 1;refine List.filter_congr λi hi=>?_;have hi:=Jv.1 hi;rw[Bool.eq_iff_iff,Jt,Jt,DI hi,jnG];by_cases h1:i=n
 ·subst h1;rw[E4];simp only[Jb];exact⟨λe=>absurd ZA gV,λe=>absurd e hm⟩
 ·by_cases h2:i=b
  ·subst h2;rw[D8 hp.ne,hp.nx];simp only[Jb];exact⟨λe=>absurd e hm,λe=>absurd ZA gV⟩
  ·rw[Ds h1 h2]
structure JnC (F:CodeD->Option (Nat×Nat)):Prop where
 ok:∀q b n,F q=some (b,n)->JnP q b n
def jnS (F:CodeD->Option (Nat×Nat))(q:CodeD):CodeD:=match F q with
 |some (b,n)=>jnQ q b n
 |none=>q
def jnM (F:CodeD->Option (Nat×Nat))(q:CodeD)(c:Nat)(t:List InsD):Nat×List InsD:=match F q with
 |some (b,n)=>if c=b then (b,t++(Qq q n).ins)else if c=n then (b,t)else (c,t)
 |none=>(c,t)
structure JnFr (F:CodeD->Option (Nat×Nat))(cs:List CodeD)(f f':Fr):Prop where
 k:f.k<cs.length
 b:f.b<(Qp cs f.k).blocks.length
 t:∃p,(Qq (Qp cs f.k) f.b).ins=p++f.todo
 e:f'=⟨f.k,(jnM F (Qp cs f.k) f.b f.todo).1,(jnM F (Qp cs f.k) f.b f.todo).2,f.ae⟩
variable{F:CodeD->Option (Nat×Nat)}
theorem Fs {k:Nat}(hk:k<cs.length):Qp (cs.map (jnS F)) k=jnS F (Qp cs k):=by
 rw[Eh (by simpa using hk),Eh hk];simp
theorem V0 (c:Nat)(x:InsD)(t:List InsD):jnM F q c (x::t)=((jnM F q c t).1,x::(jnM F q c t).2):=by
 rw[jnM,jnM];split
 ·split
  ·rfl
  ·split <;> rfl
 ·rfl
theorem Gm:(jnS F q).ae=q.ae:=by rw[jnS];split <;> rfl
theorem FW:(jnS F q).blocks.length=q.blocks.length:=by rw[jnS];split <;> simp[Gy]
theorem Lz (hF:JnC F){m:Nat}(hm:m<q.blocks.length)(hn:∀b n,F q=some (b,n)->m≠n):jnM F q m (Qq q m).ins=(m,(Qq (jnS F q) m).ins):=by
 rw[jnM,jnS]
 cases h:F q with
 |none=>rfl
 |some p=>
  obtain⟨b,n⟩:=p;have hp:=hF.ok q b n h;have gV:=hn b n h;simp only;rw[GM hm,KE];by_cases h1:m=b
  ·subst h1;rw[if_pos rfl,D8 hp.ne]
  ·rw[if_neg h1,if_neg gV,Ds gV h1]
theorem OF (hF:JnC F)(hr:RunOk cs){k:Nat}(hk:k<cs.length)(l:List Int):JnFr F cs (fr0 cs k l) (fr0 (cs.map (jnS F)) k l):=by
 have hb:=(hr.ok k hk).b0;refine⟨hk,hb,⟨[],rfl⟩,?_⟩;have:=Lz hF hb λb n h=>by have:=(hF.ok _ _ _ h).n0;omega
 show fr0 (cs.map (jnS F)) k l=⟨k,(jnM F (Qp cs k) 0 (Qq (Qp cs k) 0).ins).1,(jnM F (Qp cs k) 0 (Qq (Qp cs k) 0).ins).2,Ep (Qp cs k) l⟩;rw[this,fr0,Fs hk,Ep,Ep,Gm]
theorem Qa4d (hF:JnC F){b0 n0 m c d:Nat}(h:F q=some (b0,n0))(hm:m<q.blocks.length)(gV:m≠n0)(hd:d<q.blocks.length)(R:List Int)
  (h1:(m:Int)∈(Qq q n0).next->(m:Int)∈jnG q b0 n0 d/\(if d=b0 then n0 else d)=c) (h2:¬(m:Int)∈(Qq q n0).next->d=c) :
  phiR R (wayI (jnS F q) m d) (Qq (jnS F q) m).ab=phiR R (wayI q m c) (Qq q m).ab:=by
 have hp:=hF.ok q b0 n0 h;have e:jnS F q=jnQ q b0 n0:=by rw[jnS,h]
 have hx:(jnX q b0 n0 m).ab=(Qq q m).ab:=by
  by_cases hb:m=b0
  ·subst hb;rw[D8 hp.ne]
  ·rw[Ds gV hb]
 rw[e,GM hm,jnB];by_cases bT:(m:Int)∈(Qq q n0).next
 ·obtain⟨g1,g2⟩:=h1 bT;rw[if_pos bT,hx];refine LJ λp _=>⟨rfl,?_⟩;rw[Qa69 hp bT hd g1,g2]
 ·rw[if_neg bT,hx,wayI,wayI,Q50,Gn hp bT gV,h2 bT]
theorem Qa66 (hF:JnC F)(hr:RunOk cs):SimR cs (cs.map (jnS F)) (JnFr F cs) 1:=by
 have iK:∀k b x t R f',JnFr F cs ⟨k,b,x::t,R⟩ f'->∃k' b' x' t',f'=⟨k',b',x'::t',R⟩/\x'=x/\k'=k/\x∈(Qq (Qp cs k) b).ins/\k<cs.length/\∀R',R'.length=R.length->JnFr F cs ⟨k,b,t,R'⟩ ⟨k',b',t',R'⟩:=by
  intro k b x t R f' h;obtain⟨hk,hb,⟨p,hp⟩,rfl⟩:=h;have e:=V0 (F:=F) (q:=Qp cs k) b x t;refine⟨k,(jnM F (Qp cs k) b t).1,x,(jnM F (Qp cs k) b t).2,?_,rfl,rfl,by rw[hp];simp,hk,λR' _=>⟨hk,hb,⟨p++[x],by rw[hp];simp⟩,rfl⟩⟩;show Fr.mk k (jnM F (Qp cs k) b (x::t)).1 (jnM F (Qp cs k) b (x::t)).2 R=_;rw[e]
 refine⟨Jm _,λk b x t R f' h=>?_,λk b R f' fs fs' s c h hf=>?_⟩
 ·obtain⟨k',b',x',t',rfl,rfl,rfl,hx,hk,hR⟩:=iK _ _ _ _ _ _ h;exact⟨_,_,_,_,rfl,⟨rfl,rfl,rfl,λ_=>rfl,λiP l _=>OF hF hr (Nat.lt_trans (hr.call _ b hk _ hx iP) hk) l⟩,hR⟩
 ·obtain⟨hk,hb,⟨p,hp⟩,rfl⟩:=h;change k<cs.length at hk;change b<(Qp cs k).blocks.length at hb;have ho:=hr.ok k hk
  cases h:F (Qp cs k)with
  |none=>
   have eS:jnS F (Qp cs k)=Qp cs k:=by rw[jnS,h]
   have eM:∀c t,jnM F (Qp cs k) c t=(c,t):=λc t=>by rw[jnM,h]
   refine⟨1,Jm _,?_⟩;show RelC _ (stJ cs k b R fs s c) (step (cs.map (jnS F)) (.go (⟨k,(jnM F (Qp cs k) b []).1,(jnM F (Qp cs k) b []).2,R⟩::fs') s c));rw[eM];show RelC _ (stJ cs k b R fs s c) (stJ (cs.map (jnS F)) k b R fs' s c);have bU:Qq (Qp (cs.map (jnS F)) k) b=Qq (Qp cs k) b:=by rw[Fs hk,eS]
   by_cases hj:(Qq (Qp cs k) b).jump=3
   ·rw[Eo hj,Eo (by rw[bU];exact hj),bU];exact SimR.rtnF hf λk b x t R f' h=>by
     obtain⟨k',b',x',t',rfl,rfl,_,_,_,hR⟩:=iK _ _ _ _ _ _ h;exact⟨_,_,_,_,rfl,rfl,hR⟩
   ·obtain⟨v,hv,e,e2⟩:=Gh hr hk hb hj R;have lG:=(ho.bs b hb).nx v (by rw[C3 hb]at hv;exact hv);rw[GE hj,GE (by rw[bU];exact hj),bU,e];refine .go s c ⟨hk,by show v.toNat<(Qp cs k).blocks.length;omega,⟨[],rfl⟩,?_⟩ hf;rw[frJ,frJ,Fs hk,eS,eM]
  |some bn=>
   obtain⟨b0,n0⟩:=bn;have bV:=hF.ok _ _ _ h;have eS:jnS F (Qp cs k)=jnQ (Qp cs k) b0 n0:=by rw[jnS,h]
   have go:∀(d:Nat) (v:Int),d<(Qp cs k).blocks.length->v∈(Qq (Qp cs k) b).next->v.toNat<(Qp cs k).blocks.length->0<=v->v.toNat≠n0->
     ((v.toNat:Int)∈(Qq (Qp cs k) n0).next->(v.toNat:Int)∈jnG (Qp cs k) b0 n0 d/\(if d=b0 then n0 else d)=b)->(¬(v.toNat:Int)∈(Qq (Qp cs k) n0).next->d=b)->
     JnFr F cs (frJ cs k b R v.toNat) (frJ (cs.map (jnS F)) k d R v.toNat):=by
    intro d v hd hv bH ov lG g1 g2;refine⟨hk,bH,⟨[],rfl⟩,?_⟩;have e1:=Lz hF bH λb1 n1 h1=>(by rw[h]at h1;obtain⟨rfl,rfl⟩:=Prod.mk.inj (Jag h1);exact lG);have e2:=Qa4d hF h bH lG hd R g1 g2;show frJ (cs.map (jnS F)) k d R v.toNat=⟨k,(jnM F (Qp cs k) v.toNat (Qq (Qp cs k) v.toNat).ins).1,(jnM F (Qp cs k) v.toNat (Qq (Qp cs k) v.toNat).ins).2,phiR R (wayI (Qp cs k) v.toNat b) (Qq (Qp cs k) v.toNat).ab⟩;rw[e1,<-e2,frJ,Fs hk]
   by_cases eB:b=b0
   ·subst eB;refine⟨0,Nat.zero_le _,?_⟩;have hj:¬(Qq (Qp cs k) b).jump=3:=(by rw[bV.j];decide);have en:nxB (Qq (Qp cs k) b) R=n0:=by
     rw[nxB,ixB,if_neg (λh=>absurd (bV.j.symm.trans h.1) ZN),bV.nx];rfl
    rw[GE hj,en];refine .go s c ⟨hk,bV.nl,⟨[],rfl⟩,?_⟩ hf;have m1:jnM F (Qp cs k) b []=(b,(Qq (Qp cs k) n0).ins):=(by rw[jnM,h];simp);have m2:jnM F (Qp cs k) n0 (Qq (Qp cs k) n0).ins=(b,(Qq (Qp cs k) n0).ins):=(by rw[jnM,h];simp[bV.ne]);show Fr.mk k (jnM F (Qp cs k) b []).1 (jnM F (Qp cs k) b []).2 R=Fr.mk k (jnM F (Qp cs k) n0 (Qq (Qp cs k) n0).ins).1 (jnM F (Qp cs k) n0 (Qq (Qp cs k) n0).ins).2 (phiR R _ (Qq (Qp cs k) n0).ab);rw[m1,m2,bV.ph];rfl
   ·refine⟨1,Jm _,?_⟩;obtain⟨d,hd⟩:∃d,(if b=n0 then b0 else b)=d:=⟨_,rfl⟩;have m1:jnM F (Qp cs k) b []=(d,[]):=by
     rw[jnM,h,<-hd];by_cases hn:b=n0
     ·subst hn;simp[eB]
     ·simp[eB,hn]
    have lp:d<(Qp cs k).blocks.length:=(by rw[<-hd];split;exact bV.bl;exact hb);have hx:jnX (Qp cs k) b0 n0 d=⟨(jnX (Qp cs k) b0 n0 d).ab,(jnX (Qp cs k) b0 n0 d).ins,(Qq (Qp cs k) b).jump,(Qq (Qp cs k) b).on,(Qq (Qp cs k) b).next⟩:=by
     rw[<-hd];by_cases hn:b=n0
     ·subst hn;rw[if_pos rfl,D8 bV.ne]
     ·rw[if_neg hn,Ds hn eB]
    have bU:Qq (Qp (cs.map (jnS F)) k) d=jnB (Qp cs k) b0 n0 d:=(by rw[Fs hk,eS,GM lp]);have Al:(jnB (Qp cs k) b0 n0 d).jump=(Qq (Qp cs k) b).jump:=(by rw[L3,hx]);have ck:(jnB (Qp cs k) b0 n0 d).on=(Qq (Qp cs k) b).on:=(by rw[OH,hx]);have cB:(jnB (Qp cs k) b0 n0 d).next=(Qq (Qp cs k) b).next:=(by rw[Rm,jnG,hx]);show RelC _ (stJ cs k b R fs s c) (step (cs.map (jnS F)) (.go (⟨k,(jnM F (Qp cs k) b []).1,(jnM F (Qp cs k) b []).2,R⟩::fs') s c));rw[m1];show RelC _ (stJ cs k b R fs s c) (stJ (cs.map (jnS F)) k d R fs' s c);by_cases hj:(Qq (Qp cs k) b).jump=3
    ·rw[Eo hj,Eo (by rw[bU,Al];exact hj),bU,ck];exact SimR.rtnF hf λk b x t R f' h=>by
      obtain⟨k',b',x',t',rfl,rfl,_,_,_,hR⟩:=iK _ _ _ _ _ _ h;exact⟨_,_,_,_,rfl,rfl,hR⟩
    ·obtain⟨v,hv,e,e2⟩:=Gh hr hk hb hj R;have lG:=(ho.bs b hb).nx v (by rw[C3 hb]at hv;exact hv);have en:nxB (jnB (Qp cs k) b0 n0 d) R=nxB (Qq (Qp cs k) b) R:=(by rw[nxB,nxB,ixB,ixB,Al,ck,cB]);rw[GE hj,GE (by rw[bU,Al];exact hj),bU,en,e];have jE:((v.toNat:Nat):Int)=v:=ZA;refine .go s c (go d v lp hv ZA ZA (λxu=>eB (bV.pr b hb (by rw[DI hb,<-xu,jE];exact hv))) (λbT=>?_) (λbT=>?_)) hf
     ·refine⟨by rw[jE,jnG,hx];exact hv,?_⟩;rw[<-hd];by_cases hn:b=n0
      ·rw[if_pos hn,if_pos rfl,hn]
      ·rw[if_neg hn,if_neg eB]
     ·rw[<-hd];by_cases hn:b=n0
      ·exact absurd (by rw[jE,<-hn];exact hv) bT
      ·rw[if_neg hn]
end Y
namespace Y
attribute [local instance] Classical.propDecidable
variable{cs:List CodeD}{q:CodeD}{F:CodeD->Option (Nat×Nat)}
theorem Qa4c (hF:JnC F)(hr:RunOk cs)(l:List Int):EndsR cs (cs.map (jnS F)) l:=λS e v s c h=>by
 have h0:RelC (JnFr F cs) (cf0 cs l) (cf0 (cs.map (jnS F)) l):=by
  rw[cf0,cf0,Jd];exact .go _ _ (OF hF hr (by have:=hr.n;omega) l) .nil
 obtain⟨m,h1,h2⟩:=sim (R:=RelC (JnFr F cs)) (Qa66 hF hr).one S h0;rw[h]at h2;have:Da (cs.map (jnS F)) m (cf0 (cs.map (jnS F)) l)=.dn e v s c:=by
  generalize Da (cs.map (jnS F)) m (cf0 (cs.map (jnS F)) l)=y at h2;cases h2;rfl
 exact In _ this ZA
theorem Q51:(jnS F q).params=q.params:=by rw[jnS];split <;> rfl
theorem G0 {b n c:Nat}(hp:JnP q b n)(hc:c≠n):(jnX q b n c).ab=(Qq q c).ab:=by
 by_cases h:c=b
 ·subst h;rw[D8 hp.ne]
 ·rw[Ds hc h]
theorem Hu {b n c m:Nat}(hp:JnP q b n)(hm:(m:Int)∈(Qq q n).next)(hc:c<q.blocks.length)(qa:(m:Int)∈jnG q b n c):(m:Int)∈gnx q (if c=b then n else c)/\(if c=b then n else c)<q.blocks.length:=by
 by_cases h:c=b
 ·rw[if_pos h];exact⟨by rw[DI hp.nl];exact hm,hp.nl⟩
 ·rw[if_neg h];refine⟨?_,hc⟩;by_cases hn:c=n
  ·subst hn;rw[jnG,E4]at qa;have e:m=c:=by have:=Jb.1 qa;omega
   subst e;rw[DI hc];exact hm
  ·rw[jnG,Ds hn h]at qa;rw[DI hc];exact qa
theorem Qa4b {b n m:Nat}(hp:JnP q b n)(hm:(m:Int)∈(Qq q n).next)(hl:p.args.length=(Qs (gnx q) (m:Int) q.blocks.length).length):∀v∈(jnA q b n m p).args,v∈p.args:=λv hv=>by
 obtain⟨f,hf,rfl⟩:=Jk.1 hv;obtain⟨c,hc,rfl⟩:∃c:Nat,c<q.blocks.length/\f=(c:Int):=by
  rw[Qs]at hf;obtain⟨c,hc,rfl⟩:=Jk.1 hf;exact⟨c,Jv.1 (Jac.1 hc).1,rfl⟩
 obtain⟨_,qa⟩:=mem_preds.1 hf;obtain⟨g1,g2⟩:=Hu hp hm hc qa;have bT:=mem_preds.2 ⟨g2,g1⟩;have af:=Jh bT;have e:(if (c:Int)=(b:Int)then (n:Int)else (c:Int))=((if c=b then n else c:Nat):Int):=by
  by_cases h:c=b
  ·rw[if_pos h,if_pos ZA]
  ·rw[if_neg h,if_neg ZA]
 rw[e,Ja,Jj (by rw[hl];exact af)];exact Jc _
theorem O9 {f g:Nat->Nat}{b n:Nat}(cB:n≠b)(h:∀i,i≠b->i≠n->g i=f i)(hb:g b=f b+f n)(hn:g n=0):∀m,((List.range m).map g).sum+(if n<m then f n else 0)=((List.range m).map f).sum+(if b<m then f n else 0)
 |0=>ZC
 |m+1=>by
  have ih:=O9 cB h hb hn m;simp only[List.range_succ,J1,J4,Jas,List.sum_append,Jbe,List.sum_nil,Jbn];by_cases h1:m=b
  ·subst h1;rw[hb];by_cases h2:n<m
   ·rw[if_pos (by omega:n<m+1),if_pos (by omega:m<m+1)];rw[if_pos h2,if_neg ZA]at ih;omega
   ·rw[if_neg (by omega:¬n<m+1),if_pos (by omega:m<m+1)];rw[if_neg h2,if_neg ZA]at ih;omega
  ·by_cases h2:m=n
   ·subst h2;rw[hn];by_cases h3:b<m
    ·rw[if_pos (by omega:m<m+1),if_pos (by omega:b<m+1)];rw[if_neg ZA,if_pos h3]at ih;omega
    ·rw[if_pos (by omega:m<m+1),if_neg (by omega:¬b<m+1)];rw[if_neg ZA,if_neg h3]at ih;omega
   ·rw[h m h1 h2];have e1:(n<m+1)↔n<m:=ZA;have e2:(b<m+1)↔b<m:=ZA;simp only[e1,e2];omega
theorem Qagw (q:CodeD):q.blocks=(List.range q.blocks.length).map (Qq q):=by
 refine Jah ZC λi h1 h2=>?_;rw[Jo,Ja0,C3 h1]
theorem Qa64 {b n:Nat}(hp:JnP q b n):CB (jnQ q b n)=CB q:=by
 have e1:CB q=((List.range q.blocks.length).map λc=>CA (Qq q c)).sum:=by
  rw[CB,C2]
  conv=>lhs;rw[Qagw q]
  rw[J2];rfl
 have e2:CB (jnQ q b n)=((List.range q.blocks.length).map λc=>CA (jnB q b n c)).sum:=by
  rw[CB,C2,jnQ,J2];rfl
 have hc:∀c,CA (jnB q b n c)=CA (jnX q b n c):=λc=>by
  rw[jnB];split
  ·simp[CA]
  ·rfl
 have:=O9 (f:=λc=>CA (Qq q c)) (g:=λc=>CA (jnB q b n c)) hp.ne (λi h1 h2=>by rw[hc,Ds h2 h1])
  (by simp only[hc];rw[D8 hp.ne];simp only[CA,hp.ph,J0,Ji];omega) (by simp only[hc];rw[E4];rfl) q.blocks.length
 rw[if_pos hp.nl,if_pos hp.bl]at this;rw[e1,e2];omega
theorem Qa4e (hF:JnC F)(hg:C0 cs=true):C0 (cs.map (jnS F))=true:=by
 have hr:=IJ hg;obtain⟨h1,h2,h3⟩:=of_decide_eq_true hg;have er:∀m,rgOf (cs.map (jnS F)) m=rgOf cs m:=λm=>by
  rw[rgOf,rgOf,Jx];cases cs[m]? <;> simp[Gm]
 have ep:∀m,pmOf (cs.map (jnS F)) m=pmOf cs m:=λm=>by
  rw[pmOf,pmOf,Jx];cases cs[m]? <;> simp[Q51]
 have ei:∀k x,CG (cs.map (jnS F)) k x=CG cs k x:=λk x=>by simp only[CG,insL,er,ep]
 refine decide_eq_true ⟨by rw[Jd];exact h1,λk hk=>?_,?_⟩
 ·have fD:k<cs.length:=by rw[Jd]at hk;exact hk
  obtain⟨g1,g2⟩:=h2 k fD;have e:(cs.map (jnS F))[k]=jnS F cs[k]:=by rw[Jo]
  have aq:=FB hg fD;generalize cs[k]=q at *;refine⟨?_,λb hb=>?_⟩
  ·rw[e];simp only[Dz,Js,decide_eq_true_eq]at g1⊢;rw[FW,Gm,Q51];exact g1
  ·have aW:b<q.blocks.length:=by rw[e,FW]at hb;exact hb
   have eb:(cs.map (jnS F))[k].blocks[b]=Qq (jnS F q) b:=by rw[C3 (by rw[FW];exact aW)];simp only[e]
   rw[eb,e];have G:∀c,c<q.blocks.length->CP cs k c q (Qq q c)=true:=λc hc=>by rw[C3 hc];exact g2 c hc
   have hG:(λi=>(q.blocks.map BlkD.next).getD i [])=gnx q:=rfl
   cases hf:F q with
   |none=>
    have eS:jnS F q=q:=(by rw[jnS,hf]);rw[eS];have g:=G b aW;have ef:CG (cs.map (jnS F)) k=CG cs k:=funext λx=>ei k x;simp only[CP,ef]at g⊢;exact g
   |some p=>
    obtain⟨b0,n0⟩:=p;have hp:=hF.ok _ _ _ hf;have eS:jnS F q=jnQ q b0 n0:=(by rw[jnS,hf]);have hG':(λi=>((jnQ q b0 n0).blocks.map BlkD.next).getD i [])=gnx (jnQ q b0 n0):=rfl;rw[eS,GM aW];simp only[CP,Js,Jad,Qn,hG]at G;simp only[CP,Js,Jad,Qn,hG',Rm,KE,Gy];have wv:Dp q.ae (jnX q b0 n0 b)=true/\(∀v∈(jnX q b0 n0 b).next,DV q.blocks.length v=true)/\(∀x∈(jnX q b0 n0 b).ins,CG cs k x=true):=by
     by_cases hn:b=n0
     ·subst hn;rw[E4];refine⟨by simp[Dp,CM],λv hv=>?_,λx hx=>absurd hx ZC⟩;have hv:=Jb.1 hv;have:=hp.n0;rw[hv];exact decide_eq_true ⟨ZA,ZA⟩
     ·by_cases eB:b=b0
      ·subst eB;rw[D8 hp.ne];have gn:=G n0 hp.nl;have gb:=G b aW;refine⟨gn.1.1.1,gn.1.1.2,λx hx=>?_⟩;rcases J7.1 hx with hx|hx
       ·exact gb.1.2 x hx
       ·exact gn.1.2 x hx
      ·rw[Ds hn eB];have gb:=G b aW;exact⟨gb.1.1.1,gb.1.1.2,gb.1.2⟩
    obtain⟨j1,j2,j3⟩:=wv;refine⟨⟨⟨?_,j2⟩,λx hx=>by rw[ei];exact j3 x hx⟩,λx hx=>?_⟩
    ·simp only[Dp,Rm,L3,OH]at j1⊢;exact j1
    ·have lH:Qs (gnx (jnQ q b0 n0)) (b:Int) q.blocks.length=Qs (jnG q b0 n0) (b:Int) q.blocks.length:=by
      have:=Q50 (q:=q) (b:=b0) (n:=n0) (b:Int);rw[Gy]at this;exact this
     have cB:b≠n0:=λh=>by
      subst h;rw[jnB]at hx;split at hx
      ·rw[E4]at hx;simp at hx
      ·rw[E4]at hx;simp at hx
     have gp:=(G b aW).2;rw[lH];rw[jnB]at hx;split at hx
     ·rename_i bT
      rw[G0 hp cB]at hx;obtain⟨p,dD,rfl⟩:=Jk.1 hx;have g:=gp p dD;simp only[phiG,Js,decide_eq_true_eq,D3,Jad]at g⊢;obtain⟨⟨⟨ga,gl⟩,gr⟩,gt⟩:=g;refine⟨⟨⟨ga,?_⟩,λv hv=>gr v (Qa4b hp bT ZA v hv)⟩,gt⟩;simp[jnA]
     ·rename_i bT
      rw[G0 hp cB]at hx;rw[Gn hp bT cB];exact gp x hx
 ·have:C2 CB (cs.map (jnS F))=C2 CB cs:=by
   simp only[C2,J2];congr 1;refine Jal λq _=>?_;show CB (jnS F q)=CB q;rw[jnS]
   cases hf:F q with
   |none=>rfl
   |some p=>exact Qa64 (hF.ok _ _ _ hf)
  rw[this];exact h3
noncomputable def jnF (q:CodeD):Option (Nat×Nat):=((List.range q.blocks.length).find? λb=>decide (JnP q b (skT q b).toNat)).map λb=>(b,(skT q b).toNat)
theorem jnF_ok:JnC jnF:=⟨λq b n h=>by
 rw[jnF]at h
 cases hf:(List.range q.blocks.length).find? (λb=>decide (JnP q b (skT q b).toNat))with
 |none=>rw[hf]at h;simp at h
 |some c=>
  rw[hf]at h;obtain⟨rfl,rfl⟩:=Prod.mk.inj (Jag h);have h2:=List.find?_some hf;simpa using h2⟩
noncomputable def jn1 (q:CodeD):CodeD:=jnS jnF q
theorem Is (hg:C0 cs=true):∀n,C0 (cs.map (Nat.repeat jn1 n))=true
 |0=>by
  have:(Nat.repeat jn1 0:CodeD->CodeD)=id:=rfl;rw[this,Jbo];exact hg
 |n+1=>by
  have:=Qa4e jnF_ok (Is hg n);rw[J2]at this;exact this
theorem Ly (hg:C0 cs=true)(l:List Int):∀n,EndsR cs (cs.map (Nat.repeat jn1 n)) l
 |0=>λS e v s c h=>by
  have:cs.map (Nat.repeat jn1 0)=cs:=by
   have:(Nat.repeat jn1 0:CodeD->CodeD)=id:=rfl;rw[this,Jbo]
  rw[this];exact h
 |n+1=>λS e v s c h=>by
  have h1:=Ly hg l n S e v s c h;have:=Qa4c jnF_ok (IJ (Is hg n)) l S e v s c h1;rw[J2]at this;exact this
noncomputable def jnW (q:CodeD):Nat:=((List.range q.blocks.length).filter λc=>decide (gnx q c≠[(c:Int)])).length
theorem Hw:(jn1 q).blocks.length=q.blocks.length:=FW
theorem Ro {b n:Nat}(h:jnF q=some (b,n)):jnW (jn1 q)<jnW q:=by
 have hp:=jnF_ok.ok _ _ _ h;have e:jn1 q=jnQ q b n:=by rw[jn1,jnS,h]
 rw[jnW,jnW,Hw,e];refine Q0q (b:=n) (λc hc hh=>?_) (Jv.2 hp.nl) (decide_eq_true λhh=>?_) (decide_eq_false λhh=>?_)
 ·have hc:=Jv.1 hc;have hh:=of_decide_eq_true hh;rw[Hv hc]at hh;refine decide_eq_true λhs=>?_;by_cases hn:c=n
  ·subst hn;exact hh (by rw[jnG,E4])
  ·by_cases hb:c=b
   ·subst hb;rw[DI hc,hp.nx]at hs;have:=(List.cons.inj hs).1;exact hn ZA
   ·exact hh (by rw[jnG,Ds hn hb,<-DI hc];exact hs)
 ·exact hp.ne (hp.pr n hp.nl (by rw[hh];simp))
 ·exact hh (by rw[Hv hp.nl,jnG,E4])
theorem TV (h:jnF q=none):jn1 q=q:=by rw[jn1,jnS,h]
theorem Gl (i:Nat):∀j,Nat.repeat jn1 (i+j) q=Nat.repeat jn1 j (Nat.repeat jn1 i q)
 |0=>rfl
 |j+1=>by
  show jn1 (Nat.repeat jn1 (i+j) q)=jn1 (Nat.repeat jn1 j (Nat.repeat jn1 i q));rw[Gl i j]
theorem Gk (h:jnF q=none):∀j,Nat.repeat jn1 j q=q
 |0=>rfl
 |j+1=>by
  show jn1 (Nat.repeat jn1 j q)=q;rw[Gk h j,TV h]
theorem Lx:∀(m:Nat) (q:CodeD),jnW q<=m->jnF (Nat.repeat jn1 m q)=none
 |0,q,hm=>by
  show jnF q=none
  cases h:jnF q with
  |none=>rfl
  |some p=>have:jnW (jn1 q)<jnW q:=Ro (b:=p.1) (n:=p.2) h;omega
 |m+1,q,hm=>by
  cases h:jnF q with
  |none=>rw[Gk h];exact h
  |some p=>
   have h1:jnW (jn1 q)<jnW q:=Ro (b:=p.1) (n:=p.2) h;have h2:=Lx m (jn1 q) ZA;rw[Nat.add_comm,Gl];exact h2
noncomputable def jnE (q:CodeD):CodeD:=Nat.repeat jn1 160 q
theorem Qa63 (q:CodeD):jnW q<=q.blocks.length:=by
 rw[jnW];exact Jbg (Ja8 _ _) ZC
theorem V1 (hb:q.blocks.length<=160):jnF (jnE q)=none:=Lx 160 q (Jbg (Qa63 q) hb)
theorem OG (hb:q.blocks.length<=160)(h:jnF (Nat.repeat jn1 i q)=none):Nat.repeat jn1 i q=jnE q:=by
 by_cases hi:i<=160
 ·obtain⟨j,hj⟩:∃j,160=i+j:=⟨160-i,ZA⟩;rw[jnE,hj,Gl,Gk h]
 ·obtain⟨j,hj⟩:∃j,i=160+j:=⟨i-160,ZA⟩;rw[hj,Gl];exact Gk (V1 hb) j
end Y
namespace Y
variable{g g':Nat->List Nat}{xs:List Nat}{S S' S'':List Bool}{o o' o'':List Nat}
theorem Qa3y {l:List Nat}{y:Nat}(hx:x∈l)(hy:y∈l)(h:l.idxOf x=l.idxOf y):x=y:=by
 have h1:=List.getElem_idxOf (Jh hx);have h2:=List.getElem_idxOf (Jh hy);rw[<-h1,<-h2];simp only[h]
theorem Dfs.nodup (h:Dfs g xs S o S' o'):(∀x,x<S.length->∀y∈g x,y<S.length)->(∀x∈xs,x<S.length)->(∀y∈o,S.getD y false=true)->o.Nodup->o'.Nodup:=by
 induction h with
 |nil S o=>exact λ_ _ _ h=>h
 |skip h1 h2 ih=>exact λhg hx ho hn=>ih hg (λy hy=>hx y (Jw _ hy)) ho hn
 |@go x xs S S1 S' o o1 o' h1 h2 h3 ih1 ih2=>
  intro hg hx ho hn;have eZ:=hx x J6;have A6:=h2.len;rw[Ju]at A6;have eY:∀z,z<(S.set x true).length->∀y∈g z,y<(S.set x true).length:=by rw[Ju];exact hg
  have cV:∀y∈g x,y<(S.set x true).length:=by rw[Ju];exact hg x eZ
  have wo:∀y∈o,(S.set x true).getD y false=true:=λy hy=>by
   rw[GO];split
   ·rfl
   ·exact ho y hy
  have dg:=ih1 eY cV wo hn;obtain⟨t,e,a1,a2,a3,a4⟩:=h2.adds eY cV;have wN:x∉o1:=λhm=>by
   rw[e]at hm;rcases J7.1 hm with hm|hm
   ·have:=ho x hm;rw[h1]at this;simp at this
   ·obtain⟨z,_,hr⟩:=a4 x hm;refine hr.snd ?_;rw[GO,if_pos ⟨rfl,eZ⟩]
  refine ih2 (by rw[A6];exact hg) (λy hy=>by rw[A6];exact hx y (Jw _ hy)) (λy hy=>?_) ?_
  ·rcases J7.1 hy with hy|hy
   ·rw[e]at hy;rw[a1];rcases J7.1 hy with hy|hy
    ·exact .inl (wo y hy)
    ·exact .inr hy
   ·rw[Jb]at hy;subst hy;refine h2.mono y ?_;rw[GO,if_pos ⟨rfl,eZ⟩]
  ·rw[Jbf];refine⟨dg,ZC,λa ha b hb he=>?_⟩;rw[Jb]at hb;subst hb;subst he;exact wN ha
theorem K4 {f:Nat->Nat}:∀{l r:List Nat},l.Nodup->(∀x∈l,x∈r)->(l.map f).sum<=(r.map f).sum
 |[],_,_,_=>ZC
 |x::l,r,hn,h=>by
  have hx:=h x J6;have hp:=List.perm_cons_erase hx;have e:=((hp.map f).sum_nat);rw[e,J4,Jbe,J4,Jbe];have fW:=List.nodup_cons.1 hn;have:=K4 (f:=f) fW.2 (r:=r.erase x) λy hy=>by
   have vU:y≠x:=λe=>fW.1 (e▸hy);exact (List.mem_erase_of_ne vU).2 (h y (Jw _ hy))
  omega
end Y
namespace Y
attribute [local instance] Classical.propDecidable
variable{q:CodeD}{P P':List Int}{l:List Nat}
def Dg (n:Nat)(l:List Nat):List Int:=(List.range n).map λx=>((l.idxOf x:Nat):Int)
theorem X5 {n:Nat}(h:x<n):(Dg n l).getD x 0=((l.idxOf x:Nat):Int):=by
 simp[Dg,Ja,h]
theorem GK {n:Nat}(hl:∀x∈l,x<n):Er n l (Dg n l):=⟨by simp[Dg],λx hx=>
 ⟨l.idxOf x,Jh hx,List.getElem_idxOf _,X5 (hl x hx)⟩⟩
def pkE (q:CodeD)(l:List Nat):CodeD:=pkD q (Dg q.blocks.length l) l
theorem Qa5a {n:Nat}(hn:l.Nodup)(hP:Er n l P)(hx:x∈l):P.getD x 0=((l.idxOf x:Nat):Int):=by
 obtain⟨i,hi,h1,h2⟩:=hP.2 x hx;rw[h2,<-h1,List.Nodup.idxOf_getElem hn i hi]
theorem GL (ho:q.ok)(hp:Pk q l)(hn:l.Nodup)(hP:Er q.blocks.length l P){b:Nat}(hb:b∈l):(pkY q P b).next=(Qq q b).next.map λv=>((l.idxOf v.toNat:Nat):Int):=by
 rw[pkY];refine Jal λv hv=>?_;exact Qa5a hn hP (hp.cl b hb v (by rw[DI (hp.lt b hb)];exact hv))
theorem Qa47 (ho:q.ok)(hp:Pk q l)(hn:l.Nodup)(hP:Er q.blocks.length l P)(wB:Er q.blocks.length l P'):pkN q P l=pkN q P' l:=by
 funext i
 by_cases hi:i<l.length
 ·rw[GH hi,GH hi,GL ho hp hn hP (Jc hi),GL ho hp hn wB (Jc hi)]
 ·simp[pkN,Ja,Jr (Nat.le_of_not_lt hi)]
theorem Qa7n (ho:q.ok)(hp:Pk q l)(hn:l.Nodup)(hP:Er q.blocks.length l P):pkD q P l=pkE q l:=by
 have wB:=GK hp.lt;rw[pkE,pkD,pkD];congr 1;refine Jal λi hi=>?_;have hi:=Jv.1 hi;have hm:=Jc hi;rw[pkX,pkX,(hp.get hi).1,GL ho hp hn hP hm,GL ho hp hn wB hm];have:nwP q P l i=nwP q (Dg q.blocks.length l) l i:=by
  funext p
  rw[nwP,nwP,nwA,nwA,Qa47 ho hp hn hP wB]
 rw[this]
theorem F3 (q:CodeD)(l:List Nat):(pkE q l).blocks.length=l.length:=by simp[pkE,pkD]
theorem Fo(h:i<(pkE q l).blocks.length):(pkE q l).blocks[i]=pkX q (Dg q.blocks.length l) l i:=by simp[pkE,pkD]
theorem KJ (hp:Pk q l):gnx (pkE q l)=pkN q (Dg q.blocks.length l) l:=by
 funext i
 by_cases hi:i<l.length
 ·rw[EZ (by rw[F3];exact hi),GH hi,Fo,pkX,(hp.get hi).1]
 ·rw[Qa3v (by rw[F3];omega)];simp[pkN,Ja,Jr (Nat.le_of_not_lt hi)]
theorem Qa49 (hp:Pk q l):0∈l/\l.idxOf 0=0:=by
 have hz:=hp.z
 cases l with
 |nil=>simp at hz
 |cons a l=>simp only[List.getElem?_cons_zero,Jbp]at hz;subst hz;simp
theorem Qa46 (hp:Pk q l)(hn:l.Nodup):CB (pkE q l)<=CB q:=by
 have h1:CB (pkE q l)=(l.map λb=>CA (Qq q b)).sum:=by
  rw[CB,C2];congr 1;refine Jah (by rw[Jd,F3,Jd]) λi h1 h2=>?_;have hi:i<l.length:=Zab
  rw[Jo,Jo,Fo,pkX,(hp.get hi).1];simp only[CA,Jd]
 have h2:CB q=((List.range q.blocks.length).map λb=>CA (Qq q b)).sum:=by
  rw[CB,C2];congr 1;refine Jah ZC λi h1 h2=>?_;have hi:i<q.blocks.length:=ZX
  rw[Jo,Jo,Ja0,C3 hi]
 rw[h1,h2];exact K4 hn λx hx=>Jv.2 (hp.lt x hx)
theorem Qa48 {cs:List CodeD}{lf:CodeD->List Nat}(hg:C0 cs=true)(hl:∀c∈cs,Pk c (lf c)/\(lf c).Nodup):C0 (cs.map λc=>pkE c (lf c))=true:=by
 obtain⟨h1,h2,h3⟩:=of_decide_eq_true hg;obtain⟨ds,gB⟩:∃ds,(cs.map λc=>pkE c (lf c))=ds:=⟨_,rfl⟩;have lp:ds.length=cs.length:=by rw[<-gB,Jd]
 have bu:∀k (h:k<ds.length) (h':k<cs.length),ds[k]=pkE cs[k] (lf cs[k]):=λk h h'=>by subst gB;rw[Jo]
 rw[gB];have hr:∀k,rgOf ds k=rgOf cs k:=λk=>by
  by_cases hk:k<cs.length
  ·rw[Im hk,Im ZA,bu k ZA hk];rfl
  ·simp[rgOf,Jr (show cs.length<=k by omega),Jr (show ds.length<=k by omega)]
 have dD:∀k,pmOf ds k=pmOf cs k:=λk=>by
  by_cases hk:k<cs.length
  ·rw[GJ hk,GJ ZA,bu k ZA hk];rfl
  ·simp[pmOf,Jr (show cs.length<=k by omega),Jr (show ds.length<=k by omega)]
 refine decide_eq_true ⟨ZA,λk hk=>?_,?_⟩
 ·have hc:k<cs.length:=ZA
  have ho:=FB hg hc;obtain⟨g1,g2⟩:=h2 k hc;obtain⟨hp,hn⟩:=hl _ (Jc hc);have e:=bu k hk hc;obtain⟨q,hq⟩:∃q,cs[k]=q:=⟨_,rfl⟩;obtain⟨l,jJ⟩:∃l,lf q=l:=⟨_,rfl⟩;have rp:cs[k].ae=q.ae:=by rw[hq]
  rw[hq]at ho g1 hp hn e;rw[jJ]at hp hn e;have cC:∀(b:Nat) (h:b<q.blocks.length),CP cs k b q q.blocks[b]=true:=λb h=>by subst hq;exact g2 b h
  have hrgk:rgOf cs k=q.ae:=by rw[Im hc,hq]
  have uq:=hp.n;have iX:0<l.length:=by
   have:=hp.z
   cases l with
   |nil=>simp at this
   |cons=>simp
  refine⟨?_,λj hj=>?_⟩
  ·have:(ds[k]).blocks.length=l.length:=by rw[e,F3]
   have Bk:(ds[k]).params=q.params:=by rw[e];rfl
   have xZ:(ds[k]).ae=q.ae:=by rw[e];rfl
   simp only[Dz,Js,decide_eq_true_eq,this,Bk,xZ]at g1⊢;refine⟨g1.1,ZA⟩
  ·have gC:∀(d:CodeD) (he:ds[k]=d) (bE:j<d.blocks.length),CP ds k j ds[k] (ds[k].blocks[j])=CP ds k j d d.blocks[j]:=λd he bE=>by subst he;rfl
   have bE:j<(pkE q l).blocks.length:=by rw[<-e];exact hj
   rw[gC _ e bE,Fo];have dU:j<l.length:=by rw[F3]at bE;exact bE
   obtain⟨e1,e2,e3⟩:=hp.get dU;have hG:=cC _ e3;rw[<-C3 e3]at hG;simp only[CP,Js,Jad]at hG⊢;obtain⟨⟨⟨gj,gn⟩,gi⟩,gp⟩:=hG;have hgx:(λi=>((pkE q l).blocks.map BlkD.next).getD i [])=pkN q (Dg q.blocks.length l) l:=KJ hp;refine⟨⟨⟨?_,λv hv=>?_⟩,λx hx=>?_⟩,λp fy=>?_⟩
   ·have hx:(pkX q (Dg q.blocks.length l) l j).next.length=(Qq q l[j]).next.length:=(by rw[pkX,e1,pkY,Jd]);have aL:(pkX q (Dg q.blocks.length l) l j).jump=(Qq q l[j]).jump:=(by rw[pkX,e1]);have aO:(pkX q (Dg q.blocks.length l) l j).on=(Qq q l[j]).on:=(by rw[pkX,e1]);have bh:(pkE q l).ae=q.ae:=rfl;simpa only[Dp,hx,aL,aO,bh]using gj
   ·rw[pkX,e1]at hv;obtain⟨w,hw,rfl⟩:=Jk.1 hv;obtain⟨_,_,i,hi,_,h6,h7⟩:=hp.to ho (GK hp.lt) e2 hw;simp only[DV,decide_eq_true_eq,Qn,F3];rw[h6];omega
   ·rw[pkX,e1]at hx;have:=gi x hx;simp only[CG,insL,hr,dD]at this⊢;exact this
   ·have hA:=OC ho hp (GK hp.lt) dU (by rw[pkX]at fy;exact fy);rw[pkX,e1]at fy;obtain⟨p0,h0,he⟩:=Jk.1 fy;have Cm:=gp p0 h0;have mr:p.to=p0.to:=(by rw[<-he];rfl);have bh:(pkE q l).ae=q.ae:=rfl;simp only[phiG,Js,Bool.not_eq_true',decide_eq_true_eq,decide_eq_false_iff_not]at Cm⊢;obtain⟨⟨⟨f1,_⟩,_⟩,f4⟩:=Cm;refine⟨⟨⟨λh0=>?_,?_⟩,?_⟩,?_⟩
    ·have hz:=hp.z;subst h0;rw[Jj dU]at hz;exact f1 (Jag hz)
    ·rw[hgx,Qn,F3,hA.1]
    ·rw[bh];have:=hA.2;simp only[D3,Jad,decide_eq_true_eq];intro v hv;have:=this v hv;simp only[rIn]at this;omega
    ·rw[bh,mr];exact f4
 ·have key:∀m,m<=cs.length->C2 CB (ds.take m)<=C2 CB (cs.take m):=λm=>by
   induction m with
   |zero=>intro _;simp[C2]
   |succ m ih=>
    intro hm;have i1:=ih ZA;have hc:m<cs.length:=ZA;have hd:m<ds.length:=ZA;rw[FG hc,FG hd];obtain⟨hp,hn⟩:=hl _ (Jc hc);have:=Qa46 hp hn;rw[bu m hd hc];omega
  have:=key _ (Jm _);have e1:ds.take cs.length=ds:=by rw[<-lp,Jaa]
  rw[e1,Jaa]at this;omega
end Y
namespace Y
open Go.Proofs.Tryz
def Quk:=dW 0x18f0101702a01a9f1f70422200018f01017007f6807805801f400018f00010190e90c90069f012413101c510142001bb00018f01018010441b11 [] [] [.e none none (.upd 0 (.t 31) (.t 32) (.t 33))]
def Qug:=dY 4849793
def Quh:=dY 0x9a983e001
def Qui:=dY 0x9bd85e001
def Quj:=dY 0x117004727532f0d1 Qui
def Qqf:=dW 0xb002df0000020120ff09c03d9f1fdb04492000b002df0000020120ff0101e341308ff80580e8001d842428000b002df0000000201211f01c0fb00e9f012413103f510542043eb000b002df00000201210f010443e11 [] [] [fI 71 (.lup 0 (.c (.int .i64 0)) (.t 69) (.t 70))]
def Qqb:=dY 3997985
def SQ:=dY 46449
def Qqc:=dY 0xad09d0139f11b00b594
def Qqd:=dY 0x101e75e136e2
def Qud:=dZ 0x4df002df10002012e102122f011c290010113b80a80b80a806590 .skip Qqd
def Que:=dW 0x985004df002df41000201210f047f4905902906240613b5004df002df0141000201213f069061115004df002df00141000201213f00e0fd0159f41b30b5f9fed05b9f38f3905805c815004df002df0041000201212f228f58110940857b15004df002df41000201211f118f561150845004df002df41000201210f008f19054212 [Qud] [SQ,Qqc] [eI 85 (.rng (.t 84)),eI 86 (.nxt (.t 85)),eI 88 (.ent (.t 85)),fI 94 (.lup2 0 (.c (.int .i64 0)) (.t 92) (.t 93)),.e none none (.upd 0 (.t 98) (.t 99) (.t 100))]
def Qqg:=dW 0x4df002df10002012e0fe04f9f1ffc046f2009004df002df031000201210f108f5311004df002df3100020120ff02d0119f011313513107420650b0004df002df100020120ff010445011 [Que] [Qqb] [eI 83 .mkm]
def Qqe:=dY 0x101e9822752
def Quf:=dZ 0x74100483e983679214420098245da807720d22
def Qabj:=dW 0x29002df00201290765f02f9f1ffa047620002df0020129402522f015cd8560198227050195064004df002df10002012e00f005010113c808804a61209504400b002df0000020120ff00f00501d8423a412002df000002012c30151d0560153c800128223461002df00002012b03b01b00b9f01241310315103420230b0002df002012a0104430115024002df002012900f0051802d31200201017208f051802a31020101615700332f099f011210257003d1f0128120128022561 [Qqf,Qqg,Quf] [Quh,PK,Quj,Qqe] [eI 44 (.mks 1 [.sl true 1 []] (.t 43))]
def Qam2:=dW 0x1920101520143d283623210950040018f0101700f0051801831201014108f1711101305700332f049f190221 [Quk,Qabj] [P2,Qug] [eI 23 .mkm]
theorem Qal8:mFn prog Q0u 2 122 Qam2 Dj=true:=ZE
end Y
namespace Y
attribute [local go_sem] cond_true cond_false Bool.not_true Bool.not_false
open Go.Proofs.Tryz
variable{L:Ul}{q:CodeD}{l:List Nat}
structure NowOk (l:List Nat)(i:Nat)(nl:List (Int×Int)):Prop where
 len:nl.length<=i
 f:∀v:Int,lkI v nl=if 0<=v/\v.toNat∈l.take i then some ((l.idxOf v.toNat:Nat):Int)else none
theorem NowOk.step {i:Nat}{nl:List (Int×Int)}(h:NowOk l i nl)(hn:l.Nodup)(hi:i<l.length):NowOk l (i+1) (upI ((l[i]:Nat):Int) (i:Int) nl):=by
 refine⟨by have:=Ga ((l[i]:Nat):Int) (i:Int) nl;have:=h.len;omega,λv=>?_⟩;rw[EI,h.f,Jg hi];by_cases hv:v=((l[i]:Nat):Int)
 ·have AZ:v.toNat=l[i]:=ZA
  rw[if_pos hv,if_pos ⟨ZA,Jf _ (by rw[AZ];exact Jb.2 rfl)⟩,AZ,List.Nodup.idxOf_getElem hn i hi]
 ·rw[if_neg hv];by_cases h0:0<=v/\v.toNat∈l.take i
  ·rw[if_pos h0,if_pos ⟨h0.1,J5 _ h0.2⟩]
  ·rw[if_neg h0,if_neg];rintro⟨h1,h2⟩;rcases J7.1 h2 with h2|h2
   ·exact h0 ⟨h1,h2⟩
   ·simp only[Jb]at h2;exact hv ZA
theorem NowOk.at(h:NowOk l l.length nl){v:Int}(hv:0<=v)(hm:v.toNat∈l):lkI v nl=some ((l.idxOf v.toNat:Nat):Int):=by
 rw[h.f,Jaa,if_pos ⟨hv,hm⟩]
theorem NowOk.no(h:NowOk l l.length nl){v:Int}(hm:v.toNat∉l):lkI v nl=none:=by
 rw[h.f,Jaa,if_neg λhh=>hm hh.2]
theorem Qa0s{e:Env}{fl2:Bool}{x4 M:Nat}{X4:Obj}(hn:l.Nodup)(hl:l.length<=1000)
  (kn:Kn H0 H E [(x4,X4),(M,.map 0 (mI []))])
  (l1:lk 1 e=.c (.sl fl2 1 (Cs l))) (l2:lk 2 e=.c (.pp [Ui q.params,Ui q.ae,.sl fl 5 (Qo q.blocks)])) (l4:lk 4 e=Up x4) (l5:lk 5 e=.c (.mp M))
  (l24:lk 24 e=.c (.sl fl2 1 (Cs l))) (l25:lk 25 e=.c (Ui l.length)) (l26:lk 26 e=Uv 0)
  (hQ:∀(e:Env) (H':Heap) (nl:List (Int×Int)) (ver:Nat),NowOk l l.length nl->Kn H0 H' E [(x4,X4),(M,.map ver (mI nl))]->
   lk 1 e=.c (.sl fl2 1 (Cs l))->lk 2 e=.c (.pp [Ui q.params,Ui q.ae,.sl fl 5 (Qo q.blocks)])->lk 4 e=Up x4->lk 5 e=.c (.mp M)->Q .nrm e H') :
  Cr prog (.block 0 (.loop Quk)) Q e H:=by
 refine Qe (Qy (λm e1 H1=>∃(i ver:Nat) (nl:List (Int×Int)),m=l.length-i/\i<=l.length/\NowOk l i nl/\Kn H0 H1 E [(x4,X4),(M,.map ver (mI nl))]/\
  lk 1 e1=.c (.sl fl2 1 (Cs l))/\lk 2 e1=.c (.pp [Ui q.params,Ui q.ae,.sl fl 5 (Qo q.blocks)])/\lk 4 e1=Up x4/\lk 5 e1=.c (.mp M)/\
  lk 24 e1=.c (.sl fl2 1 (Cs l))/\lk 25 e1=.c (Ui l.length)/\lk 26 e1=Uv i) l.length ?_ ?_)
 ·exact⟨0,0,[],ZA,ZA,⟨ZC,λv=>by simp[lkI]⟩,kn,l1,l2,l4,l5,l24,l25,l26⟩
 ·clear kn l1 l2 l4 l5 l24 l25 l26;rintro m e1 H1 ⟨i,ver,nl,hm,hi,hN,kn,l1,l2,l4,l5,l24,l25,l26⟩;refine Qa ?_;simp only[go_sem,l1,l2,l4,l5,l24,l25,l26];refine Wt ?_ ?_
  ·intro hc;have af:i<l.length:=ZD
   have b8:l.getD i 0=l[i]:=Zaj
   have hM:=kn.l 1 rfl;have bF:=hN.len;refine Zc ?_
   refine Wc ?_;simp only[go_sem,af,Q6,D5 _ _ af,b8];refine Qt ?_;simp only[go_sem,hM,FE,Fq,Fv];refine⟨by simp only[LIM];omega,λH2 h2=>?_⟩;have kn:=kn.az 1 rfl h2;refine Zh ?_;refine⟨Qv,?_⟩;show ∃m,_;exact⟨l.length-(i+1),ZA,i+1,ver+1,_,rfl,ZA,hN.step hn af,kn,Rf0⟩
  ·intro hc;have bp:i=l.length:=by have:l.length<=i:=ZD;omega
   subst bp;refine Zb ?_;exact hQ _ _ nl ver hN kn rfl rfl rfl rfl
def plI (l:List Nat)(v:Int):Int:=((l.idxOf v.toNat:Nat):Int)
theorem XA{e:Env}{x13 M b L9:Nat}{pc ic nc a2 a4 a8 a9 a10 a45:C}{jj oo:Int}{Ln R:Ul}
  (hN:NowOk l l.length nl) (dT:∀v∈ns,0<=v/\v.toNat∈l) (bF:ns.length<=1000) (fx:pc.ai=false) (ki:ic.ai=false) (dh:a10.ai=false) (h8:a8.ai=false) (h45:a45.ai=false) (h2:a2.ai=false)
  (hg:Gr Ln 1 (Qb ns) nc)
  (kn:Kn H0 H E (([(M,.map ver (mI nl)),(x13,.st [pc,ic,Ui jj,Ui oo,nc])]++R)++Ln))
  (l2:lk 2 e=.c a2) (l4:lk 4 e=.c a4) (l5:lk 5 e=.c (.mp M)) (l8:lk 8 e=.c a8) (l9:lk 9 e=.c a9) (l10:lk 10 e=.c a10) (l11:lk 11 e=Uv i) (l12:lk 12 e=Uv b) (l13:lk 13 e=Up x13)
  (l45:lk 45 e=.c a45) (l46:lk 46 e=Uv L9) (l47:lk 47 e=Uv i) (l59:lk 59 e=.c nc) (l60:lk 60 e=.c (Ui ns.length)) (l61:lk 61 e=Uv 0)
  (hQ:∀(e:Env) (H':Heap) (Ln:Ul),Gr Ln 1 (Qb (ns.map (plI l))) nc->Kn H0 H' E (([(M,.map ver (mI nl)),(x13,.st [pc,ic,Ui jj,Ui oo,nc])]++R)++Ln)->
   lk 2 e=.c a2->lk 4 e=.c a4->lk 5 e=.c (.mp M)->lk 8 e=.c a8->lk 9 e=.c a9->lk 10 e=.c a10->lk 11 e=Uv i->lk 12 e=Uv b->lk 13 e=Up x13->
   lk 45 e=.c a45->lk 46 e=Uv L9->lk 47 e=Uv i->Q .nrm e H') :
  Cr prog (.block 4 (.loop Qqf)) Q e H:=by
 have hncw:=hg.ai;refine Qe (Qy (λm e1 H1=>∃(k:Nat) (Ln:Ul),m=ns.length-k/\k<=ns.length/\Gr Ln 1 (Qb (mix (plI l) ns k)) nc/\Kn H0 H1 E (([(M,.map ver (mI nl)),(x13,.st [pc,ic,Ui jj,Ui oo,nc])]++R)++Ln)/\
  lk 2 e1=.c a2/\lk 4 e1=.c a4/\lk 5 e1=.c (.mp M)/\lk 8 e1=.c a8/\lk 9 e1=.c a9/\lk 10 e1=.c a10/\lk 11 e1=Uv i/\lk 12 e1=Uv b/\lk 13 e1=Up x13/\
  lk 45 e1=.c a45/\lk 46 e1=Uv L9/\lk 47 e1=Uv i/\lk 59 e1=.c nc/\lk 60 e1=.c (Ui ns.length)/\lk 61 e1=Uv k) ns.length ?_ ?_)
 ·exact⟨0,Ln,ZA,ZA,by rw[IQ];exact hg,kn,l2,l4,l5,l8,l9,l10,l11,l12,l13,l45,l46,l47,l59,l60,l61⟩
 ·clear kn l2 l4 l5 l8 l9 l10 l11 l12 l13 l45 l46 l47 l59 l60 l61 hg;rintro m e1 H1 ⟨k,Ln,hm,hk,hg,kn,l2,l4,l5,l8,l9,l10,l11,l12,l13,l45,l46,l47,l59,l60,l61⟩;refine Qa ?_;simp only[go_sem,l2,l4,l5,l8,l9,l10,l11,l12,l13,l45,l46,l47,l59,l60,l61];refine Wt ?_ ?_
  ·intro hc;have af:k<ns.length:=ZD
   obtain⟨y,sZ,hLn⟩:∃y,nc=.ah y 1 0 ns.length/\Ln=[(y,.vec 1 (Qb (mix (plI l) ns k)))]:=by
    rcases hg with ⟨_,h,_⟩|⟨y,h1,h2⟩
    ·have:=congrArg List.length h;rw[Qc,Eg]at this;simp only[Ji]at this;omega
    ·exact⟨y,by rw[h1,Qc,Eg],h2⟩
   subst sZ hLn;have cU:k<(mix (plI l) ns k).length:=by rw[Eg];exact af
   obtain⟨w,hw⟩:∃w,ns[k]=w:=⟨_,rfl⟩;have b8:(mix (plI l) ns k).getD k 0=w:=by rw[Ja,Jj cU,EO af cU,hw];rfl
   obtain⟨sP,nN⟩:=dT w (by rw[<-hw];exact Jc af);have gG:=hN.at sP nN;have bX:=OO (f:=plI l) af;rw[hw]at bX;have hM:H1 M=.map ver (mI nl):=(kn.get (M,.map ver (mI nl)) ZC).1;have bG:H1 x13=.st [pc,ic,Ui jj,Ui oo,.ah y 1 0 ns.length]:=(kn.get (x13,.st [pc,ic,Ui jj,Ui oo,.ah y 1 0 ns.length]) ZC).1;have hy:H1 y=.vec 1 (Qb (mix (plI l) ns k)):=(kn.get (y,.vec 1 (Qb (mix (plI l) ns k))) ZC).1;have bQ:(Qb (mix (plI l) ns k)).take ns.length=Qb (mix (plI l) ns k):=Je (by rw[Qc,Eg];omega);have jt:DD H1 (.mp M)=True:=Zbe
   have j4:CI H1 (.mp M)=mI nl:=Zbf
   refine Zc ?_
   refine Wc ?_;simp only[go_sem,hy,bQ,af,Qc,Eg,Qk _ _ cU,b8,Jp,Jm];refine Qt ?_;simp only[go_sem,bG,hy,af,Qc,Eg,jt,j4,FE,OQ,gG,Qk _ _ cU,F8,Jp,Jm];intro H2 h2;have e:(mix (plI l) ns k).set k ((l.idxOf w.toNat:Nat):Int)=mix (plI l) ns (k+1):=bX;rw[e]at h2;have kn:Kn H0 H2 E (([(M,.map ver (mI nl)),(x13,.st [pc,ic,Ui jj,Ui oo,.ah y 1 0 ns.length])]++R)++[(y,.vec 1 (Qb (mix (plI l) ns (k+1))))]):=by
    have:=kn.az ([(M,Obj.map ver (mI nl)),(x13,.st [pc,ic,Ui jj,Ui oo,.ah y 1 0 ns.length])]++R).length (x:=y) (o:=.vec 1 (Qb (mix (plI l) ns k))) ZC h2;simpa using this
   refine Zh ?_;refine⟨Qv,?_⟩;show ∃m,_;exact⟨ns.length-(k+1),ZA,k+1,_,rfl,ZA,.mk _ _ _ (by rw[Qc,Eg]),kn,Rf0⟩
  ·intro hc;have bp:ns.length<=k:=ZD
   rw[OP _ _ bp]at hg;refine Zb ?_;exact hQ _ _ Ln hg kn rfl rfl rfl rfl rfl rfl rfl rfl rfl rfl rfl rfl
def FN (q:CodeD)(l:List Nat)(b:Nat)(p:PhiD)(ml:List (Int×Int)):Prop:=
 ∀w a,(w,a)∈zpA q b p->w.toNat∈l->lkI ((l.idxOf w.toNat:Nat):Int) ml=some a
theorem Qa59 {b:Nat}{w a a':Int}(h:(w,a)∈zpA q b p)(h':(w,a')∈zpA q b p):a=a':=by
 obtain⟨i,hi,e⟩:=Jq.1 h;obtain⟨j,hj,e'⟩:=Jq.1 h';simp only[zpA,List.getElem_zip,Jar]at e e';have hl:(zpA q b p).length=min (Qs (gnx q) (b:Int) q.blocks.length).length p.args.length:=by rw[zpA,List.length_zip]
 have hY:i=j:=(Jbj (IP (gnx q) (b:Int) q.blocks.length)).1 (e.1.trans e'.1.symm);subst hY;exact e.2.symm.trans e'.2
theorem KU {b:Nat}{w a:Int}(h:(w,a)∈zpA q b p):w∈Qs (gnx q) (b:Int) q.blocks.length:=(List.of_mem_zip h).1
theorem Oo:∀(l aa:List Int),((l.zip aa).map Prod.fst).Sublist l
 |[],_=>ZC
 |x::l,[]=>ZC
 |x::l,a::aa=>by
  rw[List.zip_cons_cons,J4];exact List.Sublist.cons_cons _ (Oo l aa)
theorem Mr (q:CodeD)(b:Nat)(p:PhiD):(mI (zpA q b p)).Nodup:=by
 exact T2 (Jay (Oo _ _) (IP (gnx q) (b:Int) q.blocks.length))
structure PhM (q:CodeD)(l:List Nat)(b:Nat)(phs:List PhiD)(ms:List PMap):Prop where
 len:ms.length=phs.length
 f:∀k (h1:k<ms.length) (h2:k<phs.length),FN q l b phs[k] (ms[k]).l
theorem PhM.nil (b:Nat):PhM q l b [] []:=⟨rfl,λk h1=>by simp at h1⟩
theorem PhM.snoc {b:Nat}{phs:List PhiD}{m:PMap}(h:PhM q l b phs ms)(hm:FN q l b p m.l):PhM q l b (phs++[p]) (ms++[m]):=by
 have hl:=h.len;refine⟨Za3,λk h1 h2=>?_⟩;by_cases hk:k<ms.length
 ·rw[List.getElem_append_left hk,List.getElem_append_left ZA];exact h.f k hk ZA
 ·have jK:k=ms.length:=by simp at h1;omega
  subst jK;have e1:(ms++[m])[ms.length]=m:=ZC
  have e2:(phs++[p])[ms.length]'h2=p:=by rw[List.getElem_append_right ZA];simp[hl]
  rw[e1,e2];exact hm
structure PkM (q:CodeD)(l:List Nat)(i:Nat)(ss:List PSl):Prop where
 n:ss.length=l.length
 m:∀r (h:r<ss.length),r<i->PhM q l (l.getD r 0) (Qq q (l.getD r 0)).ab (ss[r]).ms
 z:∀r (h:r<ss.length),i<=r->(ss[r]).ms=[]
 ok:∀s∈ss,s.ok
theorem Qa0r{e:Env}{M Mb M2 vb b L9 x13 pz:Nat}{a2 a4 a8 a9 a45 a77:C}{n78 k79:Int}{R:Ul}
  (hN:NowOk l l.length nl) (iR:(zpA q b p).length<=100000)
  (kn:Kn H0 H E ([(M,.map ver (mI nl)),(Mb,.map vb (mI (zpA q b p)))]++(R++[(M2,.map 0 (mI []))])))
  (l2:lk 2 e=.c a2) (l4:lk 4 e=.c a4) (l5:lk 5 e=.c (.mp M)) (l8:lk 8 e=.c a8) (l9:lk 9 e=.c a9) (l10:lk 10 e=.c (.ah pz 1 0 L9)) (l11:lk 11 e=Uv i) (l13:lk 13 e=Up x13)
  (l17:lk 17 e=.c (.mp Mb)) (l18:lk 18 e=.c (.mp M2)) (l45:lk 45 e=.c a45) (l46:lk 46 e=Uv L9) (l47:lk 47 e=Uv i) (l77:lk 77 e=.c a77) (l78:lk 78 e=Uv n78) (l79:lk 79 e=Uv k79)
  (hQ:∀(e:Env) (H':Heap) (ml:List (Int×Int)) (v2:Nat),FN q l b p ml->Kn H0 H' E ([(M,.map ver (mI nl)),(Mb,.map vb (mI (zpA q b p)))]++(R++[(M2,.map v2 (mI ml))]))->
   lk 2 e=.c a2->lk 4 e=.c a4->lk 5 e=.c (.mp M)->lk 8 e=.c a8->lk 9 e=.c a9->lk 10 e=.c (.ah pz 1 0 L9)->lk 11 e=Uv i->lk 13 e=Up x13->lk 18 e=.c (.mp M2)->
   lk 45 e=.c a45->lk 46 e=Uv L9->lk 47 e=Uv i->lk 77 e=.c a77->lk 78 e=Uv n78->lk 79 e=Uv k79->Cr prog Qud Q e H') :
  Cr prog Que Q e H:=by
 have tr:=kn.l 1 rfl;refine Q1 (Qa ?_);simp only[go_sem,l2,l4,l5,l8,l9,l10,l11,l13,l17,l18,l45,l46,l47,l77,l78,l79,tr];refine⟨Mr q b p,λit oU H1 h1=>?_⟩;have kn:=kn.al oU h1;refine Qh (Qe (Qy (λm e1 H1=>∃(left:List (C×V)) (cur:Option (C×V)) (ml:List (Int×Int)) (v2:Nat),m=left.length/\left.Nodup/\(∀y∈left,y∈mI (zpA q b p))/\ml.length+left.length<=(zpA q b p).length/\
  (∀w a,(w,a)∈zpA q b p->(C.int .i64 w,V.c (Ui a))∈left\/(w.toNat∈l->lkI ((l.idxOf w.toNat:Nat):Int) ml=some a))/\
  Kn H0 H1 E (([(M,.map ver (mI nl)),(Mb,.map vb (mI (zpA q b p)))]++(R++[(M2,.map v2 (mI ml))]))++[(it,.iter (some (Mb,vb)) left cur)])/\
  lk 2 e1=.c a2/\lk 4 e1=.c a4/\lk 5 e1=.c (.mp M)/\lk 8 e1=.c a8/\lk 9 e1=.c a9/\lk 10 e1=.c (.ah pz 1 0 L9)/\lk 11 e1=Uv i/\lk 13 e1=Up x13/\lk 18 e1=.c (.mp M2)/\
  lk 45 e1=.c a45/\lk 46 e1=Uv L9/\lk 47 e1=Uv i/\lk 77 e1=.c a77/\lk 78 e1=Uv n78/\lk 79 e1=Uv k79/\lk 85 e1=.c (.itr it)) (mI (zpA q b p)).length ?_ ?_))
 ·refine⟨mI (zpA q b p),none,[],0,rfl,Mr q b p,λy h=>h,by rw[Fq];simp,λw a h=>.inl (Jk.2 ⟨(w,a),h,rfl⟩),kn,Rf0⟩
 ·clear kn l2 l4 l5 l8 l9 l10 l11 l13 l17 l18 l45 l46 l47 l77 l78 l79 tr oU h1;rintro m e1 H2 ⟨left,cur,ml,v2,rfl,hlnd,jU,ak,cd,kn,l2,l4,l5,l8,l9,l10,l11,l13,l18,l45,l46,l47,l77,l78,l79,l85⟩;have tr:=kn.l 1 rfl;have hM:=kn.l 0 rfl;have oU:=(kn.get (it,.iter (some (Mb,vb)) left cur) ZC).1;simp only[]at oU;refine Zp l85 oU tr ?_;refine⟨⟨_,rfl⟩,λmV=>?_,λy left' hy dq uA Br H3 h3=>?_⟩
  ·subst mV;simp only[go_sem,SQ,Jak];refine Qh (Qf rfl (λh=>ZH) λ_=>?_);refine Zb ?_;exact hQ _ _ ml v2 (λw a h hm=>((cd w a h).resolve_left ZC) hm) kn.drop l2 l4 l5 l8 l9 l10 l11 l13 l18 l45 l46 l47 l77 l78 l79
  ·obtain⟨⟨w,a⟩,hz,rfl⟩:=Jk.1 (jU y hy);have sP:0<=w:=by obtain⟨j,_,_,e⟩:=preds_mem.1 (KU hz);omega
   have hLl:(([(M,Obj.map ver (mI nl)),(Mb,Obj.map vb (mI (zpA q b p)))]++(R++[(M2,Obj.map v2 (mI ml))]))++[(it,Obj.iter (some (Mb,vb)) left cur)])[([(M,Obj.map ver (mI nl)),(Mb,Obj.map vb (mI (zpA q b p)))]++(R++[(M2,Obj.map v2 (mI ml))])).length]? = some (it,Obj.iter (some (Mb,vb)) left cur):=ZC
   have kn:=kn.az _ hLl h3;have kn:Kn H0 H3 E (([(M,.map ver (mI nl)),(Mb,.map vb (mI (zpA q b p)))]++(R++[(M2,.map v2 (mI ml))]))++[(it,.iter (some (Mb,vb)) left' (some (C.int .i64 w,V.c (Ui a))))]):=ZL
   have tr:=kn.l 1 rfl;have hM:=kn.l 0 rfl;have oU:=(kn.get (it,.iter (some (Mb,vb)) left' (some (C.int .i64 w,V.c (Ui a)))) ZC).1;have jt:DD H3 (.mp M)=True:=Zbe
   have j4:CI H3 (.mp M)=mI nl:=Zbf
   simp only[go_sem,l2,l4,l5,l8,l9,l10,l11,l13,l18,l45,l46,l47,l77,l78,l79,l85,SQ,Jak];refine Qh (Qf rfl (λ_=>?_) λh=>ZH);refine Zc ?_
   refine Qe (Qa ?_);simp only[go_sem,oU,tr,Qqc,Jak,Jaw];refine⟨⟨_,rfl⟩,?_⟩;by_cases nN:w.toNat∈l
   ·have gG:=hN.at sP nN;refine Qa ?_;simp only[go_sem,jt,j4,FE,OQ,MG,gG,Option.isSome_some,Jak,Jaw];refine Za ?_;refine Qf rfl (λ_=>?_) (λh=>ZH);have wE:=(kn.get (M2,.map v2 (mI ml)) ZC).1;refine Qt ?_;simp only[go_sem,wE,FE,Fq,Fv];refine⟨by simp only[LIM];omega,λH4 h4=>?_⟩;have kn:Kn H0 H3 E ([(M2,.map v2 (mI ml))]++([(M,.map ver (mI nl)),(Mb,.map vb (mI (zpA q b p)))]++(R++[(it,.iter (some (Mb,vb)) left' (some (C.int .i64 w,V.c (Ui a))))]))):=kn.perm (Qi λf hf h0 hc hp=>by simp only[Ui,hf];omega);have kn:=kn.az 0 rfl h4;have kn:Kn H0 H4 E (([(M,.map ver (mI nl)),(Mb,.map vb (mI (zpA q b p)))]++(R++[(M2,.map (v2+1) (mI (upI ((l.idxOf w.toNat:Nat):Int) a ml)))]))++[(it,.iter (some (Mb,vb)) left' (some (C.int .i64 w,V.c (Ui a))))]):=kn.perm (Qi λf hf h0 hc hp=>by
     show f ([(M2,_)]++([(M,_),(Mb,_)]++(R++[(it,_)])))=_;simp only[Ui,hf];omega)
    show ∃m,_;refine⟨left'.length,ZA,left',_,upI ((l.idxOf w.toNat:Nat):Int) a ml,v2+1,rfl,uA,λy h=>jU y ((dq y).1 h).1,by have:=Ga ((l.idxOf w.toNat:Nat):Int) a ml;omega,λw' a' h'=>?_,kn,Rf0⟩;by_cases oq:w'=w
    ·subst oq;have:=Qa59 hz h';subst this;exact .inr λ_=>by rw[EI,if_pos rfl]
    ·rcases cd w' a' h' with h|h
     ·refine .inl ((dq _).2 ⟨h,λe=>oq ?_⟩);simp only[Jar,C.int.injEq,true_and]at e;exact e.1
     ·refine .inr λhm=>?_;have hw'0:0<=w':=(by obtain⟨j,_,_,e⟩:=preds_mem.1 (KU h');omega);rw[EI,if_neg (λe=>oq ?_),h hm];have:=Qa3y hm nN ZA;omega
   ·have gG:=hN.no nN;refine Qa ?_;simp only[go_sem,jt,j4,FE,OQ,MG,gG,Option.isSome_none,Jak,Jaw];refine Za ?_;refine Qf rfl (λh=>ZH) λ_=>?_;refine Zc ?_
    show ∃m,_;refine⟨left'.length,ZA,left',_,ml,v2,rfl,uA,λy h=>jU y ((dq y).1 h).1,ZA,λw' a' h'=>?_,kn,Rf0⟩;by_cases oq:w'=w
    ·subst oq;exact .inr λhm=>absurd hm nN
    ·rcases cd w' a' h' with h|h
     ·refine .inl ((dq _).2 ⟨h,λe=>oq ?_⟩);simp only[Jar,C.int.injEq,true_and]at e;exact e.1
     ·exact .inr h
end Y
namespace Y
attribute [local go_sem] cond_true cond_false Bool.not_true Bool.not_false
open Go.Proofs.Tryz
variable{L:Ul}{q:CodeD}
theorem X3{j:Nat}(hj:j<ms.length):(ms.flatMap PMap.lg).Perm ([(ms[j].m,.map ms[j].ver (mI ms[j].l))]++(ms.eraseIdx j).flatMap PMap.lg):=DL hj
end Y
namespace Y
attribute [local go_sem] cond_true cond_false Bool.not_true Bool.not_false
open Go.Proofs.Tryz
variable{L:Ul}{q:CodeD}{l:List Nat}
structure PkP (q:CodeD)(l:List Nat)(i b k:Nat)(ss:List PSl):Prop where
 n:ss.length=l.length
 m:∀r (h:r<ss.length),r<i->PhM q l (l.getD r 0) (Qq q (l.getD r 0)).ab (ss[r]).ms
 c:∀(h:i<ss.length),PhM q l b ((Qq q b).ab.take k) (ss[i]).ms
 z:∀r (h:r<ss.length),i<r->(ss[r]).ms=[]
 ok:∀s∈ss,s.ok
theorem PkM.start {b:Nat}(h:PkM q l i ss):PkP q l i b 0 ss:=
 ⟨h.n,h.m,λhi=>by rw[h.z i hi (Jm _),List.take_zero];exact .nil b,λr hr hir=>h.z r hr ZA,h.ok⟩
theorem PkP.fin {b:Nat}(h:PkP q l i b (Qq q b).ab.length ss)(hb:l.getD i 0=b):PkM q l (i+1) ss:=
 ⟨h.n,λr hr m9=>by
  by_cases e:r=i
  ·subst e;rw[hb];have:=h.c hr;rw[Jaa]at this;exact this
  ·exact h.m r hr ZA,λr hr m9=>h.z r hr ZA,h.ok⟩
theorem PkP.step {i b k:Nat}{ss:List PSl}(h:PkP q l i b k ss)(hi:i<ss.length)(hk:k<(Qq q b).ab.length){s':PSl}{m':PMap}(hs:s'.ms=(ss[i]).ms++[m'])(iT:s'.ok)(hm:FN q l b (Qq q b).ab[k] m'.l) :
  PkP q l i b (k+1) (ss.set i s'):=by
 refine⟨by rw[Ju];exact h.n,λr hr m9=>?_,λhr=>?_,λr hr m9=>?_,λw hw=>?_⟩
 ·have bd:r<ss.length:=Zai
  rw[J3,if_neg ZA];exact h.m r bd m9
 ·rw[J3,if_pos rfl,hs,Jg hk];exact (h.c hi).snoc hm
 ·have bd:r<ss.length:=Zai
  rw[J3,if_neg ZA];exact h.z r bd m9
 ·rcases Jab hw with hw|rfl
  ·exact h.ok w hw
  ·exact iT
theorem X9{e:Env}{M b x13 pz:Nat}{os:List PSl}{ss:List PSl}{a2 a4 a8 a9 a45:C}{R:Ul}
  (ho:q.ok) (hN:NowOk l l.length nl) (hb:b<q.blocks.length) (hi:i<l.length) (nS:l.length<=1000) (bf:l.getD i 0=b)
  (jH:PInv (phT q q.blocks.length) os) (r9:os.length=q.blocks.length) (hS:PkM q l i ss)
  (kn:Kn H0 H E ([(M,.map ver (mI nl)),(pz,.vec 1 (ss.map PSl.row))]++(psL os++(psL ss++R))))
  (l2:lk 2 e=.c a2) (l4:lk 4 e=.c a4) (l5:lk 5 e=.c (.mp M)) (l8:lk 8 e=.c a8) (l9:lk 9 e=.c a9) (l10:lk 10 e=.c (.ah pz 1 0 l.length)) (l11:lk 11 e=Uv i) (l13:lk 13 e=Up x13)
  (l45:lk 45 e=.c a45) (l46:lk 46 e=.c (Ui l.length)) (l47:lk 47 e=Uv i) (l77:lk 77 e=.c (os[b]'ZA).c) (l78:lk 78 e=.c (Ui (Qq q b).ab.length)) (l79:lk 79 e=Uv 0)
  (hQ:∀(e:Env) (H':Heap) (ss:List PSl),PkM q l (i+1) ss->Kn H0 H' E ([(M,.map ver (mI nl)),(pz,.vec 1 (ss.map PSl.row))]++(psL os++(psL ss++R)))->
   lk 2 e=.c a2->lk 4 e=.c a4->lk 5 e=.c (.mp M)->lk 8 e=.c a8->lk 9 e=.c a9->lk 10 e=.c (.ah pz 1 0 l.length)->lk 11 e=Uv i->lk 13 e=Up x13->
   lk 45 e=.c a45->lk 46 e=.c (Ui l.length)->lk 47 e=Uv i->Q .nrm e H') :
  Cr prog (.block 6 (.loop Qqg)) Q e H:=by
 have cK:=ho.il b hb;have bm:=ho.b1;rw[<-C3 hb]at cK;have ck:b<os.length:=ZA
 obtain⟨so,iT⟩:∃s,os[b]=s:=⟨_,rfl⟩;rw[iT]at l77;have kQ:so.ok:=by rw[<-iT];exact jH.ok _ (Jc ck)
 have kR:=jH.f b ck;rw[iT,phT,if_pos hb]at kR;have ub:so.ms.length=(Qq q b).ab.length:=by have:=congrArg List.length kR;simpa using this
 have hsow:=Gr.ai kQ;refine Qe (Qy (λm e1 H1=>∃(k:Nat) (ss:List PSl),m=(Qq q b).ab.length-k/\k<=(Qq q b).ab.length/\PkP q l i b k ss/\
  Kn H0 H1 E ([(M,.map ver (mI nl)),(pz,.vec 1 (ss.map PSl.row))]++(psL os++(psL ss++R)))/\
  lk 2 e1=.c a2/\lk 4 e1=.c a4/\lk 5 e1=.c (.mp M)/\lk 8 e1=.c a8/\lk 9 e1=.c a9/\lk 10 e1=.c (.ah pz 1 0 l.length)/\lk 11 e1=Uv i/\lk 13 e1=Up x13/\
  lk 45 e1=.c a45/\lk 46 e1=.c (Ui l.length)/\lk 47 e1=Uv i/\lk 77 e1=.c so.c/\lk 78 e1=.c (Ui (Qq q b).ab.length)/\lk 79 e1=Uv k) (Qq q b).ab.length ?_ ?_)
 ·exact⟨0,ss,ZA,ZA,hS.start,kn,l2,l4,l5,l8,l9,l10,l11,l13,l45,l46,l47,l77,l78,l79⟩
 ·clear kn l2 l4 l5 l8 l9 l10 l11 l13 l45 l46 l47 l77 l78 l79 hS;clear ss;rintro m e1 H1 ⟨k,ss,hm,hk,hP,kn,l2,l4,l5,l8,l9,l10,l11,l13,l45,l46,l47,l77,l78,l79⟩;refine Qa ?_;simp only[go_sem,l2,l4,l5,l8,l9,l10,l11,l13,l45,l46,l47,l77,l78,l79];refine Wt ?_ ?_
  ·intro hc;have af:k<(Qq q b).ab.length:=ZD
   obtain⟨p,hp⟩:∃p,(Qq q b).ab[k]=p:=⟨_,rfl⟩;have oR:k<so.ms.length:=ZA
   obtain⟨pm,dD⟩:∃pm,so.ms[k]=pm:=⟨_,rfl⟩;have yq:pm.l=zpA q b p:=by
    have h1:(so.ms.map PMap.l)[k]? = some pm.l:=(by simp[oR,dD]);rw[kR]at h1;simp only[Jx,Jj af,hp,Jaf]at h1;exact (Jag h1).symm
   obtain⟨zs,iq,jF⟩:∃z,so.c=.ah z 1 0 so.ms.length/\so.g=[(z,.vec 1 (CH so.ms))]:=by
    rcases kQ with ⟨_,h,_⟩|⟨z,h1,h2⟩
    ·have:=congrArg List.length h;rw[Ey]at this;simp only[Ji]at this;omega
    ·exact⟨z,by rw[h1,Ey],h2⟩
   have dd:=hP.n;have nU:i<ss.length:=ZA
   obtain⟨s,hs⟩:∃s,ss[i]=s:=⟨_,rfl⟩;have aK:s.ok:=by rw[<-hs];exact hP.ok _ (Jc nU)
   have kS:=hP.c nU;rw[hs]at kS;have iu:s.ms.length=k:=by have:=kS.len;rw[Jy]at this;omega
   have gE:=Gr.ai aK;have mW:(CH so.ms).getD k []=[.mp pm.m]:=by rw[RH _ _ oR,dD]
   have rJ:(CH so.ms).take so.ms.length=CH so.ms:=Je (by rw[Ey];omega);have uz:=IV ck iT;have rI:=X3 oR;rw[dD,yq]at rI;have o6:=IV nU hs;have qw:(zs,Obj.vec 1 (CH so.ms))∈psL os:=J8.2 ⟨so,by rw[<-iT];exact Jc ck,Jf _ (by rw[jF];simp)⟩;have wH:=(kn.get (zs,.vec 1 (CH so.ms)) (by simp[qw])).1;refine Zc ?_
   refine Wc ?_;simp only[go_sem,iq,wH,Ey,rJ,oR,mW,Jp,Jm];refine Za ?_;intro M2 wE H2 h2;have kn:=kn.al wE h2;simp only[go_sem,Qqb];obtain⟨RR,BR⟩:∃RR,[(pz,Obj.vec 1 (ss.map PSl.row))]++((psL (os.eraseIdx b)++((so.ms.eraseIdx k).flatMap PMap.lg++so.g))++(psL ss++R))=RR:=⟨_,rfl⟩;have kn:Kn H0 H2 E ([(M,.map ver (mI nl)),(pm.m,.map pm.ver (mI (zpA q b p)))]++(RR++[(M2,.map 0 (mI []))])):=kn.perm (Qi λf hf h0 hc hp=>by
    have e2:∀(a b:Nat×Obj),f [a,b]=f [a]+f [b]:=λa b=>hc a [b];have h1:=hp _ _ uz;have h2:=hp _ _ rI;rw[PSl.lg]at h1;rw[<-BR];show f ([(M,_),(pz,_)]++(psL os++(psL ss++R))++[(M2,.map 0 [])])=_;simp only[hf,e2]at h1 h2⊢;have:mI []=[]:=rfl;rw[this];omega)
   have iR:(zpA q b p).length<=100000:=by
    rw[zpA,List.length_zip];have:=E3 (gnx q) (b:Int) q.blocks.length;omega
   refine Qa0r hN iR kn rfl rfl rfl rfl rfl rfl rfl rfl rfl rfl rfl rfl rfl rfl rfl rfl λe3 H3 ml v2 fe kn l2 l4 l5 l8 l9 l10 l11 l13 l18 l45 l46 l47 l77 l78 l79=>?_;have kn:Kn H0 H3 E (([(pz,.vec 1 (ss.map PSl.row)),(M,.map ver (mI nl))]++([(M2,.map v2 (mI ml))]++(psL os++((psL (ss.eraseIdx i)++s.ms.flatMap PMap.lg)++R))))++s.g):=kn.perm (Qi λf hf h0 hc hp=>by
    have e2:∀(a b:Nat×Obj),f [a,b]=f [a]+f [b]:=λa b=>hc a [b];have h1:=hp _ _ uz;have h2:=hp _ _ rI;have h3:=hp _ _ o6;rw[PSl.lg]at h1 h3;rw[<-BR];simp only[Ui,hf,e2]at h1 h2 h3⊢;omega)
   have cF:(ss.map PSl.row).length=l.length:=by rw[Jd,dd]
   have mz:(ss.map PSl.row).take l.length=ss.map PSl.row:=Je ZA;have ue:(ss.map PSl.row).getD i []=[s.c]:=by simp[Ja,nU,hs,PSl.row]
   have sX:=kn.l 0 rfl;refine Qt ?_;simp only[go_sem,l10,l11,l18,sX,cF,mz,hi,ue,gE,Jp,Jm];refine kn.bk (new:=[[.mp M2]]) aK (.mk' _ _ _ _) (by intro r hr;simp only[Jb]at hr;rw[hr];rfl) (by simp only[Ey,LIM,Jl,Ji];omega) λt2 g2 H4 cS cQ kn=>?_;have sX:=kn.l 0 rfl;simp only[go_sem,l2,l4,l5,l8,l9,l10,l11,l13,l45,l46,l47,l77,l78,l79,Qqd,sX,cF,hi,ue,Jp,Jm];intro H5 h5;obtain⟨s',eD⟩:∃s':PSl,s'=⟨s.ms++[⟨M2,v2,ml⟩],t2,g2⟩:=⟨_,rfl⟩;have hs'ok:s'.ok:=by
    rw[eD];show Gr g2 1 (CH (s.ms++[⟨M2,v2,ml⟩])) t2;have e:CH (s.ms++[⟨M2,v2,ml⟩])=CH s.ms++[[.mp M2]]:=(by simp[CH]);rw[e];exact cS
   have bX:(ss.map PSl.row).set i [t2]=(ss.set i s').map PSl.row:=by rw[Jat,eD];rfl
   rw[bX]at h5;have kn:=kn.az 0 rfl h5;have mH:=Hr (s:=s') nU;have kn:Kn H0 H5 E ([(M,.map ver (mI nl)),(pz,.vec 1 ((ss.set i s').map PSl.row))]++(psL os++(psL (ss.set i s')++R))):=kn.perm (Qi λf hf h0 hc hp=>by
    have e2:∀(a b:Nat×Obj),f [a,b]=f [a]+f [b]:=λa b=>hc a [b];have:=hp _ _ mH;have es:s'.lg=(s.ms.flatMap PMap.lg++[(M2,.map v2 (mI ml))])++g2:=(by rw[eD,PSl.lg,Jaq];simp[PMap.lg]);rw[es]at this;show f ([(pz,_),(M,_)]++([(M2,_)]++(psL os++((psL (ss.eraseIdx i)++s.ms.flatMap PMap.lg)++R)))++g2)=_;simp only[Ui,hf,e2]at this⊢;omega)
   refine Zh ?_;refine⟨Qv,?_⟩;show ∃m,_;refine⟨(Qq q b).ab.length-(k+1),ZA,k+1,ss.set i s',rfl,ZA,hP.step nU af (m':=⟨M2,v2,ml⟩) (by rw[hs,eD]) hs'ok (by rw[hp];exact fe),kn,rfl,rfl,rfl,rfl,rfl,rfl,rfl,rfl,rfl,rfl,rfl,?_,Rf0⟩
   first|rfl|exact congrArg V.c iq.symm
  ·intro hc;have jK:k=(Qq q b).ab.length:=by have:(Qq q b).ab.length<=k:=ZD;omega
   subst jK;refine Zb ?_;exact hQ _ _ ss (hP.fin bf) kn rfl rfl rfl rfl rfl rfl rfl rfl rfl rfl rfl
end Y
namespace Y
open Go.Proofs.Tryz
variable{L A:Ul}{q:CodeD}
structure JB where
 y:BlkD
 pc:C
 pl:Ul
 ic:C
 il:Ul
 fl:Bool
def JB.row (k:JB):List C:=[k.pc,k.ic,.int .i64 k.y.jump,.int .i64 k.y.on,.sl k.fl 1 (Qb k.y.next)]
def JB.lg (k:JB):List (Nat×Obj):=k.pl++k.il
structure JB.ok (k:JB):Prop where
 p:Gr k.pl 2 (Q3 k.y.ab) k.pc
 i:Gr k.il 4 (Cu k.y.ins) k.ic
theorem JB.am {k:JB}(h:k.ok):Go.AE.am k.row=true:=by
 simp only[Go.AE.am,JB.row,Jav,Jaz,h.p.ai,h.i.ai];rfl
theorem JB.no {ks:List JB}(h:∀k∈ks,k.ok):∀r∈ks.map JB.row,Go.AE.am r=true:=λr hr=>by
 obtain⟨k,hk,rfl⟩:=Jk.1 hr;exact JB.am (h k hk)
theorem JB.frzR{ks:List JB}(ho:∀k∈ks,k.ok)(h:Held H S (ks.flatMap JB.lg)):FrzR H S (ks.map JB.row) (Qo (ks.map JB.y)):=by
 rw[Qo,J2];exact Fc ks λk hk=>.cons (Gr.frzM (ho k hk).p (h.m hk).l (FrzR.same (RM _))) (.cons (Gr.frzM (ho k hk).i (h.m hk).r (FrzR.same (GT _))) (.cons (Qg rfl) (.cons (Qg rfl) (.cons (FrzR.same (Qr _)).sl .nil))))
theorem JB.getD {ks:List JB}{i:Nat}(h:i<ks.length):(ks.map JB.row).getD i []=ks[i].row:=by simp[Ja,h]
def JB.k (k:JB):KBlk:=⟨k.y,k.pc,k.pl⟩
def jbS (js:List JB)(ks:List KBlk):List JB:=List.zipWith (λj k=>⟨k.y,j.pc,k.pl,j.ic,j.il,j.fl⟩) js ks
theorem Qa4a {js:List JB}(h:ks.length=js.length):(jbS js ks).length=js.length:=by rw[jbS,List.length_zipWith];omega
theorem Hg {js:List JB}(h1:i<js.length)(h2:i<ks.length)(h3:i<(jbS js ks).length):(jbS js ks)[i]=⟨ks[i].y,js[i].pc,ks[i].pl,js[i].ic,js[i].il,js[i].fl⟩:=by
 simp only[jbS,List.getElem_zipWith]
theorem OI (f:Ul->Nat)(hf:∀a b,f (a++b)=f a+f b)(h0:f []=0):∀(js:List JB) (ks:List KBlk),ks.length=js.length->
  f ((jbS js ks).flatMap JB.lg)+f ((js.map JB.k).flatMap KBlk.pl)=f (ks.flatMap KBlk.pl)+f (js.flatMap JB.lg)
 |[],[],_=>by simp[jbS,h0]
 |[],_::_,h=>ZH
 |_::_,[],h=>ZH
 |j::js,k::ks,h=>by
  have ih:=OI f hf h0 js ks ZI;simp only[Ui,jbS,List.zipWith_cons_cons,J9,J4,hf,JB.lg,JB.k]at ih⊢;omega
variable{N:Nat}{Y:Nat->BlkD}
theorem Md {js:List JB}{zb o:Nat}{P G:Int}{R:Ul}(hN:N<=100000)(hl:js.length=N)(aq:∀k∈js,k.ok)(hy:∀j (h:j<js.length),js[j].y=Y j)(fd:∀j,j<N->(Y j).next=nx j)
  (db:∀j,j<N->(Y j).ab.length<=100000) (dd:ss.length=N) (hs:PTel nx N g Y ss)
  (kn:Kn H0 H E ([(x,.st [Ui P,Ui G,.ah zb 5 0 N]),(zb,.vec 5 (js.map JB.row)),(o,.vec 1 (ss.map PSl.row))]++(js.flatMap JB.lg++(psL ss++R))))
  (hK:∀(js':List JB) (H':Heap),js'.length=N->(∀j (h:j<js'.length),js'[j].y=stlY nx N g j (Y j))->(∀k∈js',k.ok)->
   Kn H0 H' E ([(x,.st [Ui P,Ui G,.ah zb 5 0 N]),(zb,.vec 5 (js'.map JB.row)),(o,.vec 1 (ss.map PSl.row))]++(js'.flatMap JB.lg++(psL ss++R)))->K (.tup []) H') :
  Qu prog Sp [Up x,.c (.ah o 1 0 N)] H K:=by
 have iI:(js.map JB.k).length=N:=by rw[Jd,hl]
 have aI:StS nx N g Y 0 (js.map JB.k):=⟨iI,λj h=>by
  have h':j<js.length:=ZI
  rw[if_neg (Nat.not_lt_zero j),Jo];exact hy j h',λk hk=>by
  obtain⟨j,hj,rfl⟩:=Jk.1 hk;exact (aq j hj).p⟩
 obtain⟨IL,Cd⟩:∃IL,js.flatMap JB.il=IL:=⟨_,rfl⟩;have tY:∀(f:Ul->Nat) (hf:∀a b,f (a++b)=f a+f b) (h0:f []=0),f (js.flatMap JB.lg)=f ((js.map JB.k).flatMap KBlk.pl)+f IL:=λf hf h0=>by
  rw[<-Cd];clear aI iI Cd kn hK hy aq hl
  induction js with
  |nil=>simp[h0]
  |cons k l ih=>simp only[Ui,J9,J4,hf,JB.lg,JB.k]at ih⊢;omega
 refine Xu (x:=x) (zb:=zb) (o:=o) (P:=P) (G:=G) (RW:=js.map JB.row) (R:=IL++R) hN aI (by rw[Jd,hl]) (JB.no aq) (λj h=>?_) db dd hs (kn.perm (Qi λf hf h0 hc hp=>by
  have:=tY f hf h0;simp only[Ui,hf]at this⊢;omega)) λks H' hS gS kn=>?_
 ·have h':j<js.length:=ZI
  refine⟨js[j].ic,Ui js[j].y.jump,Ui js[j].y.on,js[j].fl,?_⟩;rw[JB.getD h',Jo,JB.row,hy j h',fd j ZA];rfl
 ·have cz:ks.length=js.length:=by rw[hS.n,hl]
  have dU:=Qa4a cz;have qA:∀j (h:j<ks.length),ks[j].y=stlY nx N g j (Y j):=λj h=>by have:=hS.y j h;rwa [if_pos (by rw[<-hS.n];exact h)]at this
  have aD:(jbS js ks).map JB.row=js.map JB.row:=by
   refine Jah (by simp[dU]) λj h1 h2=>?_;have h1:j<(jbS js ks).length:=ZX
   have h2:j<js.length:=Zab
   rw[Jo,Jo,Hg h2 ZA h1,JB.row,JB.row,qA j ZA,hy j h2];rfl
  refine hK (jbS js ks) H' (by rw[dU,hl]) (λj h=>?_) (λk hk=>?_) ?_
  ·rw[Hg ZA ZA h];exact qA j ZA
  ·obtain⟨j,hj,rfl⟩:=Jq.1 hk;have h2:j<js.length:=ZA
   rw[Hg h2 ZA hj];have yy:ks[j].pc=js[j].pc:=by
    have e:(ks.map KBlk.pc)[j]? = some ks[j].pc:=(by simp[cz,h2]);rw[gS,J2,Jx,Jj h2]at e;exact (Jag e).symm
   refine⟨?_,?_⟩
   ·have:=hS.ok ks[j] (Jc _);rw[<-yy];exact this
   ·have:=(aq js[j] (Jc h2)).i;have e:ks[j].y.ins=js[j].y.ins:=(by rw[qA j (by omega),hy j h2];rfl);show Gr js[j].il 4 (Cu ks[j].y.ins) js[j].ic;rw[e];exact this
  ·rw[aD];refine kn.perm (Qi λf hf h0 hc hp=>?_);have e1:=tY f hf h0;have e2:=OI f hf h0 js ks cz;simp only[Ui,hf]at e1 e2⊢;omega
end Y
namespace Y
attribute [local go_sem] cond_true cond_false Bool.not_true Bool.not_false
open Go.Proofs.Tryz
variable{L:Ul}{q:CodeD}{l:List Nat}
def pkG (q:CodeD)(l:List Nat)(j:Nat)(p:PhiD)(w:Int):Int:=p.args.getD ((Qs (gnx q) ((l.getD j 0:Nat):Int) q.blocks.length).idxOf ((l.getD w.toNat 0:Nat):Int)) 0
def pkYj (q:CodeD)(l:List Nat)(j:Nat):BlkD:=pkY q (Dg q.blocks.length l) (l.getD j 0)
theorem X8 (ho:q.ok)(hp:Pk q l){j:Nat}(hj:j<l.length):(pkYj q l j).next=pkN q (Dg q.blocks.length l) l j:=by
 rw[GH hj,pkYj,(hp.get hj).1]
theorem Qa0v (q:CodeD)(l:List Nat)(j:Nat):stlY (pkN q (Dg q.blocks.length l) l) l.length (pkG q l) j (pkYj q l j)=pkX q (Dg q.blocks.length l) l j:=rfl
theorem Qa7q (ho:q.ok)(hp:Pk q l){r j':Nat}(cF:r<l.length)(bE:j'<l.length)(hm:p∈(Qq q (l.getD r 0)).ab)(eF:((l[j']:Nat):Int)∈Qs (gnx q) ((l.getD r 0:Nat):Int) q.blocks.length) :
  (((l[j']:Nat):Int),pkG q l r p (j':Int))∈zpA q (l.getD r 0) p:=by
 obtain⟨e1,_,e3⟩:=hp.get cF;have e3':l.getD r 0<q.blocks.length:=by rw[e1];exact e3
 rw[C3 e3']at hm;have ee:=(ho.bs _ e3').pal p hm;have gH:=Jh eF;have hja:(Qs (gnx q) ((l.getD r 0:Nat):Int) q.blocks.length).idxOf ((l[j']:Nat):Int)<p.args.length:=ZA
 refine Jq.2 ⟨(Qs (gnx q) ((l.getD r 0:Nat):Int) q.blocks.length).idxOf ((l[j']:Nat):Int),by rw[zpA,List.length_zip];omega,?_⟩;simp only[zpA,List.getElem_zip,Jar];refine⟨List.getElem_idxOf gH,?_⟩;have b8:∀(L:List Int) (i:Nat) (h:i<L.length),L[i]=L.getD i 0:=λL i h=>by simp[Ja,h]
 rw[pkG,Jae,(hp.get bE).1];exact b8 _ _ hja
theorem Qa7o (ho:q.ok)(hp:Pk q l)(hn:l.Nodup)(h:PkM q l l.length ss):PTel (pkN q (Dg q.blocks.length l) l) l.length (pkG q l) (pkYj q l) ss:=by
 refine⟨λr hr=>(h.m r hr Za8).len,λr hr i h1 h2 w hw=>?_,h.ok⟩;have cF:r<l.length:=Za8
 have hM:=(h.m r hr cF).f i h1 h2;obtain⟨j',bE,rfl,eF⟩:=hp.preds ho (GK hp.lt) cF hw;rw[<-(hp.get cF).1]at eF;have hz:=Qa7q ho hp cF bE (Jc h2) eF;have:=hM _ _ hz (by rw[Jae];exact Jc bE);rw[Jae,List.Nodup.idxOf_getElem hn j' bE]at this;rw[this];rfl
structure PBk where
 y:BlkD
 pc:C
 pl:Ul
 nc:C
 nl:Ul
 ic:C
 il:Ul
def PBk.row (b:PBk):List C:=[b.pc,b.ic,.int .i64 b.y.jump,.int .i64 b.y.on,b.nc]
def PBk.ok (b:PBk):Prop:=Gr b.pl 2 (Q3 b.y.ab) b.pc/\Gr b.nl 1 (Qb b.y.next) b.nc/\Gr b.il 4 (Cu b.y.ins) b.ic
def PBk.lg (b:PBk):List (Nat×Obj):=(b.pl++b.nl)++b.il
theorem PBk.am {b:PBk}(h:b.ok):Go.AE.am b.row=true:=by
 have h1:=h.1.ai;have h2:=h.2.1.ai;have h3:=h.2.2.ai;simp only[Go.AE.am,PBk.row,Jav,Jaz,h1,h2,h3];rfl
def pJ (k:PBk):JB:=⟨k.y,k.pc,k.pl,k.ic,k.il,false⟩
theorem Qa8x (ks:List PBk):(ks.flatMap PBk.lg).Perm ((ks.map pJ).flatMap JB.lg++ks.flatMap PBk.nl):=Qi λf hf h0 hc hp=>by
 induction ks with
 |nil=>simp[h0]
 |cons k l ih=>simp only[Ui,J9,J4,hf,PBk.lg,JB.lg,pJ]at ih⊢;omega
theorem Qa0q{e:Env}{x4 x9 pz:Nat}{ks:List PBk}{bl:Ul}(ho:q.ok)(hp:Pk q l)(hn:l.Nodup)
  (cz:ks.length=l.length) (oQ:∀j (h:j<ks.length),ks[j].y=pkYj q l j) (kZ:∀k∈ks,k.ok) (hS:PkM q l l.length ss) (km:Gr bl 5 (ks.map PBk.row) bc)
  (kn:Kn H0 H [] ([(x4,.st [Ui 0,Ui 0,.sl true 5 []]),(x9,.st [Ui q.params,Ui q.ae,bc]),(pz,.vec 1 (ss.map PSl.row))]++((psL ss++ks.flatMap PBk.lg)++bl)))
  (l4:lk 4 e=Up x4) (l9:lk 9 e=Up x9) (l10:lk 10 e=.c (.ah pz 1 0 l.length))
  (hQ:∀(e:Env) (H':Heap) (ks:List JB) (z:Nat),ks.length=(pkE q l).blocks.length->ks.map JB.y=(pkE q l).blocks->(∀k∈ks,k.ok)->
   Kn H0 H' [] ([(x4,.st [Ui q.params,Ui q.ae,.ah z 5 0 (pkE q l).blocks.length]),(z,.vec 5 (ks.map JB.row))]++ks.flatMap JB.lg)->lk 4 e=Up x4->Q .ret e H') :
  Cr prog Quf Q e H:=by
 have uq:=hp.n;have iX:0<l.length:=by
  have:=hp.z
  cases l with
  |nil=>simp at this
  |cons=>simp
 have BU:(pkE q l).blocks.length=l.length:=F3 q l;have cF:(ks.map PBk.row).length=l.length:=by rw[Jd,cz]
 have dd:=hS.n;obtain⟨zb,rfl,rfl⟩:∃z,bc=.ah z 5 0 l.length/\bl=[(z,.vec 5 (ks.map PBk.row))]:=by
  rcases km with ⟨_,h,_⟩|⟨z,h1,h2⟩
  ·have:=congrArg List.length h;rw[cF]at this;simp only[Ji]at this;omega
  ·exact⟨z,by rw[h1,cF],h2⟩
 have hkp:=Qa8x ks;have kn:Kn H0 H [] (([(zb,.vec 5 (ks.map PBk.row)),(x9,.st [Ui q.params,Ui q.ae,.ah zb 5 0 l.length]),(pz,.vec 1 (ss.map PSl.row)),(x4,.st [Ui 0,Ui 0,.sl true 5 []])]++((ks.map pJ).flatMap JB.lg++psL ss))++ks.flatMap PBk.nl):=kn.perm (Qi λf hf h0 hc hp=>by
  have e4:∀(a b c d:Nat×Obj),f [a,b,c,d]=f [a]+f [b]+f [c]+f [d]:=λa b c d=>ZM
  have e3:∀(a b c:Nat×Obj),f [a,b,c]=f [a]+f [b]+f [c]:=λa b c=>ZP
  have:=hp _ _ hkp;simp only[Ui,hf,e4,e3]at this⊢;omega)
 obtain⟨S,kq,ly,fh,kn⟩:=kn.bW;have hz:=ly (zb,.vec 5 (ks.map PBk.row)) ZC;have b9:FrzR H S (ks.map PBk.row) ((ks.map pJ).map JB.row):=by
  rw[J2];refine Fc ks λk hk=>?_;have fQ:=kZ k hk;exact .cons (.same _ fQ.1.ai) (.cons (.same _ fQ.2.2.ai) (.cons (Qg rfl) (.cons (Qg rfl) (.cons (Gr.frzM fQ.2.1 (λp hp=>kq p (J8.2 ⟨k,hk,hp⟩)) (FrzR.same (Qr _))) .nil))))
 have b7:∀r∈ks.map PBk.row,Go.AE.am r=true:=λr hr=>by
  obtain⟨k,hk,rfl⟩:=Jk.1 hr;exact PBk.am (kZ k hk)
 have rZ:=fh.set (o:=.vec 5 ((ks.map pJ).map JB.row)) hz.2 (by rw[hz.1];exact .vecR b9 b7);have kn:=kn.setL (o':=.vec 5 ((ks.map pJ).map JB.row)) 0 rfl ZC;generalize sH:(H.frz S).set zb (.vec 5 ((ks.map pJ).map JB.row))=H2 at rZ kn;have kn:Kn H0 H2 [] ([(x9,.st [Ui q.params,Ui q.ae,.ah zb 5 0 l.length]),(zb,.vec 5 ((ks.map pJ).map JB.row)),(pz,.vec 1 (ss.map PSl.row))]++((ks.map pJ).flatMap JB.lg++(psL ss++[(x4,.st [Ui 0,Ui 0,.sl true 5 []])]))):=kn.perm (Qi λf hf h0 hc hp=>by
  have e4:∀(a b c d:Nat×Obj),f [a,b,c,d]=f [a]+f [b]+f [c]+f [d]:=λa b c d=>ZM
  have e3:∀(a b c:Nat×Obj),f [a,b,c]=f [a]+f [b]+f [c]:=λa b c=>ZP
  show f ([(zb,_),(x9,_),(pz,_),(x4,_)]++((ks.map pJ).flatMap JB.lg++psL ss))=_;simp only[Ui,hf,e4,e3];omega)
 refine Q1 (c_gh (Fe S (FC ?_) rZ) (e':=[(4,Up x4),(9,Up x9),(10,.c (.ah pz 1 0 l.length))]) ?_)
 ·simp only[Jz,l4,l9,l10];exact⟨.c _ _ (.same _ rfl),.c _ _ (.same _ rfl),.c _ _ (.same _ rfl),ZC⟩
 clear fh rZ kq ly hz b9 b7 sH;refine Za ?_;refine Md (js:=ks.map pJ) (nx:=pkN q (Dg q.blocks.length l) l) (N:=l.length) (g:=pkG q l) (Y:=pkYj q l) ZA (by rw[Jd,cz]) (λk hk=>by
  obtain⟨k',fD,rfl⟩:=Jk.1 hk;exact⟨(kZ k' fD).1,(kZ k' fD).2.2⟩) (λj hj=>by
  have bE:j<ks.length:=ZS
  rw[Jo];exact oQ j bE) (λj hj=>X8 ho hp hj) (λj hj=>?_) dd (Qa7o ho hp hn hS) kn λks2 H3 fW lC fQ kn=>?_
 ·obtain⟨e1,_,e3⟩:=hp.get hj;have:=(ho.il _ e3).2;rw[pkYj,pkY,e1,C3 e3];show (q.blocks[l[j]]).ab.length<=100000;omega
 have kn:Kn H0 H3 [] ([(x4,.st [Ui 0,Ui 0,.sl true 5 []]),(x9,.st [Ui q.params,Ui q.ae,.ah zb 5 0 l.length])]++([(zb,.vec 5 (ks2.map JB.row))]++(ks2.flatMap JB.lg++([(pz,.vec 1 (ss.map PSl.row))]++psL ss)))):=kn.perm (Qi λf hf h0 hc hp=>by
  have e3:∀(a b c:Nat×Obj),f [a,b,c]=f [a]+f [b]+f [c]:=λa b c=>ZP
  have e2:∀(a b:Nat×Obj),f [a,b]=f [a]+f [b]:=λa b=>hc a [b];simp only[Ui,hf,e3,e2];omega)
 have bh:=kn.l 0 rfl;have dc:=kn.l 1 rfl;refine Zl bh dc ?_;intro H4 h4;have kn:=kn.az 0 rfl h4;refine Ql ?_;rw[BU]at hQ;refine hQ _ H4 ks2 zb fW ?_ fQ ?_ rfl
 ·refine Jah (by rw[Jd,fW,BU]) λj h1 h2=>?_;have hj:j<ks2.length:=ZX
  rw[Jo,lC j hj,Fo];exact Qa0v q l j
 ·have kn:Kn H0 H4 [] (([(x4,.st [Ui q.params,Ui q.ae,.ah zb 5 0 l.length]),(zb,.vec 5 (ks2.map JB.row))]++ks2.flatMap JB.lg)++([(x9,.st [Ui q.params,Ui q.ae,.ah zb 5 0 l.length])]++([(pz,.vec 1 (ss.map PSl.row))]++psL ss))):=kn.perm (Qi λf hf h0 hc hp=>by
   have e2:∀(a b:Nat×Obj),f [a,b]=f [a]+f [b]:=λa b=>hc a [b];show f ([(x4,_),(x9,_)]++([(zb,_)]++(ks2.flatMap JB.lg++([(pz,_)]++psL ss))))=_;simp only[Ui,hf,e2];omega)
  exact kn.drop
def pkOb (x4 x9 M o pz ver:Nat)(nl:List (Int×Int))(os ss:List PSl)(q:CodeD)(bc:C):List (Nat×Obj):=
 [(x4,.st [.int .i64 0,.int .i64 0,.sl true 5 []]),(x9,.st [.int .i64 q.params,.int .i64 q.ae,bc]),(M,.map ver (mI nl)),(o,.vec 1 (os.map PSl.row)),(pz,.vec 1 (ss.map PSl.row))]
theorem Qa0u {fl2:Bool}(ho:q.ok)(hp:Pk q l)(hn:l.Nodup)(hK:∀(ks:List JB) z H',ks.length=(pkE q l).blocks.length->ks.map JB.y=(pkE q l).blocks->(∀k∈ks,k.ok)->Kn H H' [] ([(z,.vec 5 (ks.map JB.row))]++ks.flatMap JB.lg)->K (.ag [Ui q.params,Ui q.ae,.ah z 5 0 (pkE q l).blocks.length]) H') :
  Qu prog Q0u [.ag [Ui q.params,Ui q.ae,.sl fl 5 (Qo q.blocks)],.c (.sl fl2 1 (Cs l))] H K:=by
 have bm:=ho.b1;have uq:=hp.n;refine EB ?_;refine Qd Co Qal8 ?_;refine Za ?_;intro x4 bh H1 h1;have kn:=(Kn.an H).al bh h1;refine Za ?_;intro M hM H2 h2;have kn:Kn H H2 [] [(x4,.st [Ui 0,Ui 0,.sl true 5 []]),(M,.map 0 (mI []))]:=kn.al hM h2;simp only[go_sem,P2];refine Q1 (Qa ?_);simp only[go_sem,Q6];try intro _
 refine Qh ?_;refine Qa0s hn ZA kn rfl rfl rfl rfl rfl rfl rfl λe3 H3 nl ver hN kn l1 l2 l4 l5=>?_;simp only[go_sem];refine Zj l2 ?_;refine Qa0o ho λo os H4 r9 jH k4=>?_;have kn:=kn.comp0 k4;simp only[go_sem,l1,l2,l4,l5,Qug];refine Za ?_;intro x9 dc H5 h5;have kn:Kn H H5 [] ([(x9,.st [Ui 0,Ui 0,.sl true 5 []])]++([(x4,.st [Ui 0,Ui 0,.sl true 5 []]),(M,.map ver (mI nl))]++([(o,.vec 1 (os.map PSl.row))]++psL os))):=(kn.al dc h5).perm Jn;have dc:=kn.l 0 rfl;simp only[go_sem,Quh,dc];intro H6 h6;have kn:Kn H H6 [] ([(x9,.st [Ui q.params,Ui q.ae,.sl true 5 []])]++([(x4,.st [Ui 0,Ui 0,.sl true 5 []]),(M,.map ver (mI nl))]++([(o,.vec 1 (os.map PSl.row))]++psL os))):=kn.az 0 rfl h6;refine Qa ?_;simp only[go_sem,Q6];try intro _
 refine⟨by simp only[LIM];omega,λpz sX H7 h7=>?_⟩;obtain⟨ss0,gR⟩:∃ss0:List PSl,ss0=List.replicate l.length ⟨[],.sl true 1 [],[]⟩:=⟨_,rfl⟩;have nD:PkM q l 0 ss0:=by
  rw[gR];refine⟨ZC,λr _ h=>ZA,λr h _=>ZC,λs hs=>?_⟩;rw[Jaj hs];exact .nil 1
 have e0:psL ss0=[]:=by rw[gR];exact Ja4.2 λs hs=>by rw[Jaj hs];rfl
 have bI:List.replicate l.length [C.sl true 1 []]=ss0.map PSl.row:=by rw[gR,List.map_replicate];rfl
 rw[bI]at h7;have kn:=kn.al sX h7;have kn:Kn H H7 [] ((pkOb x4 x9 M o pz ver nl os ss0 q (.sl true 5 [])++(psL os++(psL ss0++([]:List PBk).flatMap PBk.lg)))++[]):=kn.perm (Qi λf hf h0 hc hp=>by
  have e5:∀(a b c d e:Nat×Obj),f [a,b,c,d,e]=f [a]+f [b]+f [c]+f [d]+f [e]:=λa b c d e=>ZR
  have e2:∀(a b:Nat×Obj),f [a,b]=f [a]+f [b]:=λa b=>hc a [b];rw[e0];show f ([(x9,_)]++([(x4,_),(M,_)]++([(o,_)]++psL os))++[(pz,_)])=f ((pkOb x4 x9 M o pz ver nl os ss0 q (.sl true 5 [])++(psL os++([]++[])))++[]);simp only[Ui,hf,pkOb,e5,e2,h0];omega)
 clear gR bI h7 sX e0;simp only[go_sem,PK];refine Q1 (Qa ?_);simp only[go_sem,Q6];try intro _
 refine Qh (Qe (Qy (λm e1 H1=>∃(ks:List PBk) (ss:List PSl) (bc:C) (bl:Ul),m=l.length-ks.length/\ks.length<=l.length/\(∀j (h:j<ks.length),ks[j].y=pkYj q l j)/\(∀k∈ks,k.ok)/\PkM q l ks.length ss/\Gr bl 5 (ks.map PBk.row) bc/\
  Kn H H1 [] ((pkOb x4 x9 M o pz ver nl os ss q bc++(psL os++(psL ss++ks.flatMap PBk.lg)))++bl)/\
  lk 2 e1=.c (.pp [Ui q.params,Ui q.ae,.sl fl 5 (Qo q.blocks)])/\lk 4 e1=Up x4/\lk 5 e1=.c (.mp M)/\lk 8 e1=.c (.ah o 1 0 q.blocks.length)/\lk 9 e1=Up x9/\lk 10 e1=.c (.ah pz 1 0 l.length)/\
  lk 45 e1=.c (.sl fl2 1 (Cs l))/\lk 46 e1=.c (Ui l.length)/\lk 47 e1=.c (Ui ks.length)) l.length ?_ ?_))
 ·exact⟨[],ss0,_,[],ZC,ZC,ZC,ZC,nD,.nil 5,kn,Rf0⟩
 ·clear kn nD dc;rintro m e1 H8 ⟨ks,ss,bc,bl,hm,cz,oQ,kZ,hS,km,kn,l2,l4,l5,l8,l9,l10,l45,l46,l47⟩;obtain⟨i,hi⟩:∃i,ks.length=i:=⟨_,rfl⟩;rw[hi]at hm cz hS l47;refine Qa ?_;simp only[go_sem,l2,l4,l5,l8,l9,l10,l45,l46,l47];refine Wt ?_ ?_
  ·intro hc;have af:i<l.length:=ZD
   obtain⟨eY,cS,cB⟩:=hp.get af;obtain⟨b,hb⟩:∃b,l[i]=b:=⟨_,rfl⟩;rw[hb]at eY cS cB;have ck:b<os.length:=ZA
   have w8:=C3 cB;refine Zc ?_
   refine Wc ?_;simp only[go_sem,af,Q6,D5 _ _ af,eY];refine Qa ?_;simp only[go_sem,cB,Qn,CU _ _ cB,BlkD.take5,BlkD.b6,BlkD.len5];refine Qad7 (ho.cl _ (Jc cB)) λpc N ic M2 nc Ln H9 lO iz jd k9=>?_;rw[<-w8]at lO jd iz;have ki:=iz.ai;rw[<-w8];have fx:=lO.ai;have jI:=jd.ai;have kn:=kn.comp0 k9;simp only[go_sem,Quj];intro x13 bG H10 dh;have kn:=(kn.al bG dh).perm Jn;have bG:=kn.l 0 rfl;simp only[go_sem,Qui,bG];intro H11 eC;obtain⟨y,hy⟩:∃y,Qq q b=y:=⟨_,rfl⟩;rw[hy]at lO jd iz eC;have kn:Kn H H11 [] ([(x13,.st [pc,ic,Ui y.jump,Ui y.on,nc])]++(((pkOb x4 x9 M o pz ver nl os ss q bc++(psL os++(psL ss++ks.flatMap PBk.lg)))++bl)++((N++Ln)++M2))):=by
    have:=kn.az 0 rfl eC;simpa using this
   obtain⟨R,hR⟩:∃R,[(x4,Obj.st [Ui 0,Ui 0,.sl true 5 []]),(x9,.st [Ui q.params,Ui q.ae,bc]),(o,.vec 1 (os.map PSl.row)),(pz,.vec 1 (ss.map PSl.row))]++(((psL os++(psL ss++ks.flatMap PBk.lg))++bl)++(N++M2))=R:=⟨_,rfl⟩;have kn:Kn H H11 [] (([(M,.map ver (mI nl)),(x13,.st [pc,ic,Ui y.jump,Ui y.on,nc])]++R)++Ln):=kn.perm (Qi λf hf h0 hc hp=>by
    have e5:∀(a b c d e:Nat×Obj),f [a,b,c,d,e]=f [a]+f [b]+f [c]+f [d]+f [e]:=λa b c d e=>ZR;have e4:∀(a b c d:Nat×Obj),f [a,b,c,d]=f [a]+f [b]+f [c]+f [d]:=λa b c d=>ZM;have e2:∀(a b:Nat×Obj),f [a,b]=f [a]+f [b]:=λa b=>hc a [b];rw[<-hR];simp only[Ui,hf,pkOb,e5,e4,e2];omega)
   have lA:∀v∈y.next,0<=v/\v.toNat∈l:=λv hv=>by
    rw[<-hy,w8]at hv;have h1:=(ho.bs b cB).nx v hv;exact⟨ZA,hp.cl b cS v (by rw[EZ cB];exact hv)⟩
   have lB:y.next.length<=1000:=by rw[<-hy,w8];have:=(ho.bs b cB).nxl;omega
   have bG:=kn.l 1 rfl;have pR:=jd.ay;rw[Qc]at pR;have yG:=eq_true (jd.get kn).1;refine Q1 (Qa ?_);simp only[go_sem,bG,jI,pR,yG];try intro _
   refine Qh ?_;refine XA (L9:=l.length) (ic:=ic) hN lA lB fx ki rfl rfl rfl rfl jd kn rfl rfl rfl rfl rfl rfl rfl rfl rfl rfl rfl rfl rfl rfl rfl λe12 H12 Ln2 zE kn l2 l4 l5 l8 l9 l10 l11 l12 l13 l45 l46 l47=>?_;obtain⟨kb,dy⟩:∃kb:PBk,kb=⟨pkYj q l i,pc,N,nc,Ln2,ic,M2⟩:=⟨_,rfl⟩;have BL:pkYj q l i=⟨y.ab,y.ins,y.jump,y.on,y.next.map (plI l)⟩:=by
    have e1:=GL ho hp hn (GK hp.lt) cS;rw[pkYj,eY,<-hy];show BlkD.mk (Qq q b).ab (Qq q b).ins (Qq q b).jump (Qq q b).on (pkY q (Dg q.blocks.length l) b).next=_;rw[e1];rfl
   have gz:kb.ok:=by rw[dy,BL];exact⟨lO,zE,iz⟩
   have rR:kb.row=[pc,ic,Ui y.jump,Ui y.on,nc]:=by rw[dy,BL];rfl
   have zm:kb.lg=(N++Ln2)++M2:=by rw[dy];rfl
   rw[<-rR]at kn;obtain⟨so,iT⟩:∃s,os[b]=s:=⟨_,rfl⟩;have kQ:so.ok:=by rw[<-iT];exact jH.ok _ (Jc ck)
   have kR:=jH.f b ck;rw[iT,phT,if_pos cB]at kR;have ub:so.ms.length=(Qq q b).ab.length:=by have:=congrArg List.length kR;simpa using this
   have gE:=Gr.ai kQ;have mQ:∀p∈so.g,p∈psL os:=λp hp=>J8.2 ⟨so,by rw[<-iT];exact Jc ck,Jf _ hp⟩;have kS:aZ H12 so.c=True/\ay so.c=so.ms.length:=by
    refine⟨eq_true ?_,by have:=Gr.ay kQ;rw[Ey]at this;exact this⟩;rcases kQ with ⟨h1,_,_⟩|⟨z,h1,h2⟩
    ·rw[h1];trivial
    ·have pA:(z,Obj.vec 1 (CH so.ms))∈psL os:=mQ _ Zad;have hz:=(kn.get (z,.vec 1 (CH so.ms)) (by rw[<-hR];simp[pA])).1;rw[h1];simp only[aZ,hz,Jp,Jm,and_self]
   have ux:=(kn.get (o,.vec 1 (os.map PSl.row)) (by rw[<-hR];simp)).1;have y8:(os.map PSl.row).length=q.blocks.length:=by rw[Jd,r9]
   have y7:(os.map PSl.row).take q.blocks.length=os.map PSl.row:=Je ZA;have yA:(os.map PSl.row).getD b []=[so.c]:=by simp[Ja,ck,iT,PSl.row]
   simp only[go_sem];refine Q1 (Qa ?_);simp only[go_sem,l2,l4,l5,l8,l9,l10,l11,l12,l13,l45,l46,l47,ux,y8,y7,yA,cB,gE,kS.1,kS.2,ub,Jp,Jm];try intro _
   refine Qh ?_;obtain⟨R2,pt⟩:∃R2,[(x4,Obj.st [Ui 0,Ui 0,.sl true 5 []]),(x9,.st [Ui q.params,Ui q.ae,bc]),(o,.vec 1 (os.map PSl.row)),(x13,.st kb.row)]++((ks.flatMap PBk.lg++bl)++((N++Ln2)++M2))=R2:=⟨_,rfl⟩;have kn:Kn H H12 [] ([(M,.map ver (mI nl)),(pz,.vec 1 (ss.map PSl.row))]++(psL os++(psL ss++R2))):=kn.perm (Qi λf hf h0 hc hp=>by
    have e4:∀(a b c d:Nat×Obj),f [a,b,c,d]=f [a]+f [b]+f [c]+f [d]:=λa b c d=>ZM;have e2:∀(a b:Nat×Obj),f [a,b]=f [a]+f [b]:=λa b=>hc a [b];rw[<-hR,<-pt];simp only[Ui,hf,e4,e2];omega)
   refine X9 (b:=b) (x13:=x13) ho hN cB af ZA eY jH r9 hS kn rfl rfl rfl rfl rfl rfl rfl rfl rfl rfl rfl (congrArg V.c (congrArg PSl.c iT.symm)) rfl rfl λe13 H13 ss hS kn l2 l4 l5 l8 l9 l10 l11 l13 l45 l46 l47=>?_;have kn:Kn H H13 [] (([(x9,.st [Ui q.params,Ui q.ae,bc]),(x13,.st kb.row)]++([(x4,.st [Ui 0,Ui 0,.sl true 5 []]),(M,.map ver (mI nl)),(o,.vec 1 (os.map PSl.row)),(pz,.vec 1 (ss.map PSl.row))]++(psL os++(psL ss++(ks.flatMap PBk.lg++kb.lg)))))++bl):=kn.perm (Qi λf hf h0 hc hp=>by
    have e4:∀(a b c d:Nat×Obj),f [a,b,c,d]=f [a]+f [b]+f [c]+f [d]:=λa b c d=>ZM;have e2:∀(a b:Nat×Obj),f [a,b]=f [a]+f [b]:=λa b=>hc a [b];rw[<-pt,zm];simp only[Ui,hf,e4,e2];omega)
   have uL:=PBk.am gz;have rP:kb.row.length=5:=rfl;have rO:kb.row.take 5=kb.row:=rfl;have zn:(kb.row.all λc=>!c.ai)=true:=uL;have j5:=km.ai;have dc:=kn.l 0 rfl;have bG:=kn.l 1 rfl;simp only[go_sem];refine Qt ?_;simp only[go_sem,l9,l13,dc,bG,j5,rP,rO,zn];refine kn.bk (new:=[kb.row]) km (.mk' _ _ _ _) (by intro r hr;simp only[Jb]at hr;rw[hr];exact uL) ZaB λbc2 bl2 H14 zK Ae kn=>?_;have dc:=kn.l 0 rfl;simp only[go_sem,l2,l4,l5,l8,l9,l10,l45,l46,l47,Qqe,dc];intro H15 vR;have kn:=kn.az 0 rfl vR;have kn:Kn H H15 [] (((pkOb x4 x9 M o pz ver nl os ss q bc2++(psL os++(psL ss++(ks++[kb]).flatMap PBk.lg)))++bl2)++[(x13,.st kb.row)]):=kn.perm (Qi λf hf h0 hc hp=>by
    have e5:∀(a b c d e:Nat×Obj),f [a,b,c,d,e]=f [a]+f [b]+f [c]+f [d]+f [e]:=λa b c d e=>ZR;have e4:∀(a b c d:Nat×Obj),f [a,b,c,d]=f [a]+f [b]+f [c]+f [d]:=λa b c d=>ZM;have e2:∀(a b:Nat×Obj),f [a,b]=f [a]+f [b]:=λa b=>hc a [b];show f (([(x9,_),(x13,_)]++([(x4,_),(M,_),(o,_),(pz,_)]++(psL os++(psL ss++(ks.flatMap PBk.lg++kb.lg)))))++bl2)=_;simp only[Ui,Jaq,J9,Jbi,Jai,hf,pkOb,e5,e4,e2];omega)
   refine Zh ?_;refine⟨Qv,?_⟩;show ∃m,_;refine⟨l.length-(i+1),ZA,ks++[kb],ss,bc2,bl2,by simp[hi],by simp only[J0,Jl,Ji];omega,λj h=>?_,λw hw=>?_,by simpa[hi]using hS,by rw[J1];exact zK,kn.drop,rfl,rfl,rfl,rfl,rfl,rfl,rfl,rfl,by simp[lk,hi]⟩
   ·by_cases hj:j<ks.length
    ·rw[List.getElem_append_left hj];exact oQ j hj
    ·have nf:j=ks.length:=(by simp only[J0,Jl,Ji]at h;omega);subst nf;have e:(ks++[kb])[ks.length]=kb:=ZC;rw[e,dy,hi]
   ·rcases J7.1 hw with hw|hw
    ·exact kZ w hw
    ·simp only[Jb]at hw;rw[hw];exact gz
  ·intro hc;have iZ:i=l.length:=by have:l.length<=i:=ZD;omega
   have jK:ks.length=l.length:=ZA
   rw[iZ]at hS;refine Zb ?_;have kn:Kn H H8 [] (([(x4,.st [Ui 0,Ui 0,.sl true 5 []]),(x9,.st [Ui q.params,Ui q.ae,bc]),(pz,.vec 1 (ss.map PSl.row))]++((psL ss++ks.flatMap PBk.lg)++bl))++([(M,.map ver (mI nl)),(o,.vec 1 (os.map PSl.row))]++psL os)):=kn.perm (Qi λf hf h0 hc hp=>by
    have e5:∀(a b c d e:Nat×Obj),f [a,b,c,d,e]=f [a]+f [b]+f [c]+f [d]+f [e]:=λa b c d e=>ZR;have e3:∀(a b c:Nat×Obj),f [a,b,c]=f [a]+f [b]+f [c]:=λa b c=>ZP;have e2:∀(a b:Nat×Obj),f [a,b]=f [a]+f [b]:=λa b=>hc a [b];simp only[Ui,hf,pkOb,e5,e3,e2];omega)
   refine Qa0q ho hp hn jK oQ kZ hS km kn.drop rfl rfl rfl λe3 H9 ks2 z zj ze zg kn l4=>?_;have bh:=kn.l 0 rfl;simp only[go_sem,Q5,Cn,Jb,forall_eq,RS.op,l4,bh];have kn:Kn H H9 [] ([(x4,.st [Ui q.params,Ui q.ae,.ah z 5 0 (pkE q l).blocks.length])]++([(z,.vec 5 (ks2.map JB.row))]++ks2.flatMap JB.lg)):=kn;exact⟨unx H ([(z,.vec 5 (ks2.map JB.row))]++ks2.flatMap JB.lg),_,_,FrzL.ag (.cons (Qg rfl) (.cons (Qg rfl) (.cons (.same _ rfl) .nil))),E9 _ _,hK ks2 z _ zj ze zg kn.finK⟩
theorem JB.frz {z n:Nat}{ks:List JB}{bl:List BlkD}(kn:Kn H H' E (B++([(z,.vec 5 (ks.map JB.row))]++ks.flatMap JB.lg)))(hy:ks.map JB.y=bl)(ho:∀k∈ks,k.ok)(hn:n=ks.length):FrzC H' (un H) (.ah z 5 0 n) (.sl false 5 (Qo bl)):=by
 have hm:∀p∈([(z,Obj.vec 5 (ks.map JB.row))]++ks.flatMap JB.lg),H' p.1=p.2/\un H p.1=true:=λp hp=>
  ⟨(kn.get p (Jf _ (Jf _ hp))).1,Ef (kn.loc p (Jf _ hp))⟩
 have hr:=JB.frzR (S:=un H) ho λp hp=>hm p (Jf _ hp);rw[hy]at hr;obtain⟨h1,h2⟩:=hm (z,.vec 5 (ks.map JB.row)) ZC;exact FrzR.ah h2 h1 (by rw[Jd,hn]) hr
end Y
namespace Y
attribute [local instance] Classical.propDecidable
variable{q:CodeD}{l:List Nat}
noncomputable def drpE (q:CodeD):CodeD:=pkE q (rchL q.blocks.length (nxN (gnx q)))
theorem Gf (n:Nat)(g:Nat->List Nat):(rchL n g).Nodup:=Jay Jbc Jbk
theorem Iv {cs:List CodeD}(hg:C0 cs=true):C0 (cs.map drpE)=true:=Qa48 (lf:=λc=>rchL c.blocks.length (nxN (gnx c))) hg λc hc=>by
 obtain⟨i,hi,rfl⟩:=Jq.1 hc;exact⟨(FB hg hi).rchPk,Gf _ _⟩
end Y
namespace Y
variable{q:CodeD}
def OBlk.nxt (o:OBlk)(ns:List Int):OBlk:=⟨o.ab,o.pc,o.pl,o.ins,o.ic,o.il,o.jump,o.on,⟨ns,o.nx.y⟩⟩
end Y
namespace Y
open Go.Proofs.Tryz
def Qnv:=dY 0x3f6a04e80f2d2
def Qnw:=dY 0x3f3ca08680f512
def Qnx:=dY 0xed784e001
def Qny:=dY 0x3e884e001
def Qnz:=dY 0x3f6a0ee80f7d2
def Q0h:=dW 0x202309d0069f1f0046805830874102f004117e37ef2024302264ee03f0ee10f882ee20f0ee10f782ee20f0003f5a023e040f0e010f883e020f0e010f783e020f0003f5a023d240f0d210f881d220f0d210f781d220f0002340188020178026419f1002025201700432f089f04601436800138125f6102024101700432f079f04601436800128125a610342026857357f2024003440501281268053512 [] [Qnx,Qny,Qnz]
def Q4j:=dW 0x19095024202300f006112102305b0059f1f0045803430874102f0041152352f10242062648603f08610f018620f0128630f588600f08610f3808620f08610f018620f0128630f588600f08610f2808620f000634010020123580013802010020123580012802361bf1df1df20142006833333f102400344050128025802f5125004102300f005112874102f004112e32ef0231022644e03f04e10f3844e20f04e10f2844e20f0003f5a0234040f04010f3834020f04010f2834020f0003f5a0233240f03210f3823220f03210f2823220f0003f7a0332040f02050f02010f3812020f02050f02010f2812020f0003340501380205016020924f12 [Q0h,FI] [Qnv,Qnw]
def Qaf5:=dZ 0x902202f019190231 Q4j
theorem Qafa:mFn prog Qs3 2 127 Qaf5 Cp=true:=ZE
def Qrq:=dY 33489
def Qake:=dZ 0x19102301a0059f1f0045802030092df1024105236d0560153580013822056015358001282222bc0cf2014200681f31ff102400344050128225801b5125004102300f005112874102f004111a31af023003f7a0332440f02450f02410f3822420f02450f02410f2822420f0003f5a0231640f01610f3811620f01610f2811620f00023401402013020615f1202202f019190231 Nu Qrq FI
theorem Qaig:mFn prog Qwy 2 46 Qake Cp=true:=ZE
def Nt:=dZ 0x874102f004110a3
def Qa07:=dZ 0x1930030090059f1f0045800f30874102f0041119319f300400434010113580180010113580080119909f2014200680e3830040024405080500b4125004300300f00511209800300234056005500651200202f00411 Nt [] FI
theorem TS:mFn prog Na 2 26 Qa07 Cp=true:=ZE
def Qar1:=dZ 0x190a00409900d9f1fd8041920874102f00411183a0a00500434010113580180010113580080109909f20630050f80059f100f210142000eb00a005010440e1150040a00400f0050800b31209800300234056005500651200202f00411 Nt [] FI
theorem Qaq9:mFn prog Q5u 2 26 Qar1 Cp=true:=ZE
def Qld:=dY 33265
def Qabs:=dZ 0x1910230390059f1f0045801230091ff102410521cd0360133580013802036013358001280214bc0cf201420068113b10240034405012802700d5125004102300f005112874102f004110c3802300334050150205013020671202202f019190231 s_l2Form_3 Qld FI
theorem Qaa7:mFn prog PY 2 32 Qabs Cp=true:=ZE
end Y
namespace Y
attribute [local go_sem] cond_true cond_false Bool.not_true Bool.not_false
attribute [local instance] Classical.propDecidable
open Go.Proofs.Tryz
theorem Qarb {fn:Nat}{l:List CodeD}(hl:l.length<=4)(hf:∀p∈l,∀(H:Heap) (K:V->Heap->Prop) (fl:Bool),(∀H',Upd H H' []->K (.ag (f p).cells) H')->Qu prog fn [.ag [Ui p.params,Ui p.ae,.sl fl 5 (Qo p.blocks)]] H K)
  (hK:∀H',Upd H H' []->K (.c (.sl false 3 (Qm (l.map f)))) H') :
  Qu prog Qef [.c (.sl fl 3 (Qm l)),.c (.fn fn [])] H K:=by
 refine Q0 ?_;refine Qd Co Qpc ?_;refine Wd ?_;refine Q1 (Qa ?_);simp only[go_sem,Q8];intro _;refine Qh (Qe (Qy (λm e1 H1=>∃(ds:List CodeD) (t:C) (Lg:Ul),m=l.length-ds.length/\ds.length<=l.length/\(∀i (h1:i<l.length) (h2:i<ds.length),ds[i]=f l[i])/\Gr Lg 3 (Qm ds) t/\Kn H H1 [] ([]++Lg)/\
  e1=[(1,.c (.fn fn [])),(5,.c t),(8,.c (.sl fl 3 (Qm l))),(9,.c (Ui l.length)),(10,.c (Ui ds.length))]) l.length ?_ ?_))
 ·exact⟨[],_,[],ZC,ZC,ZC,.nil 3,Kn.an H,rfl⟩
 ·rintro m e1 H1 ⟨ds,t,Lg,hm,hi,qp,ax,kn,rfl⟩;have fU:=ax.ai;refine Za ?_;refine Wt ?_ ?_
  ·intro hc;have af:ds.length<l.length:=ZD
   obtain⟨p,hp⟩:∃p,l[ds.length]=p:=⟨_,rfl⟩;have dD:p∈l:=Za2
   refine Zc ?_
   refine Wc ?_;simp only[go_sem,af,Q8,DP _ _ af,CodeD.cells,hp];intro x7 bz H2 h2;have kn:=kn.al bz h2;have bz:H2 x7=.st [Ui 0,Ui 0,.sl true 5 []]:=(kn.get (x7,.st [Ui 0,Ui 0,.sl true 5 []]) ZC).1;simp only[go_sem,PH,bz];intro H3 h3;have kn:Kn H H3 [] ([(x7,.st [Ui p.params,Ui p.ae,.sl false 5 (Qo p.blocks)])]++Lg):=by
    have:=kn.az ([]++Lg).length (x:=x7) (o:=.st [Ui 0,Ui 0,.sl true 5 []]) ZC h3;refine Kn.perm (by simpa using this) ?_;exact Jn
   have bz:=kn.l 0 rfl;refine Qt ?_;simp only[go_sem,bz,Jai,Jas];refine hf p dD _ _ _ λH4 hu=>?_;obtain⟨d,hd⟩:∃d,f p=d:=⟨_,rfl⟩;rw[hd];have kn:=kn.au hu;simp only[go_sem,Qdy,CodeD.cells];refine kn.bk (new:=Qm [d]) ax (.mk' _ _ _ _) (EV _) (by simp only[Q8,LIM,Jl,Ji];omega) λt2 Lg2 H5 bY cQ kn=>?_;simp only[go_sem,EK];refine Zg ?_;refine⟨Qv,l.length-(ds.length+1),ZA,ds++[d],t2,Lg2,ZC,by simp;omega,λi h1 h2=>?_,?_,?_,ZC⟩
   ·by_cases hi:i<ds.length
    ·rw[List.getElem_append_left hi];exact qp i h1 hi
    ·have iZ:i=ds.length:=(by simp only[J0,Jl,Ji]at h2;omega);subst iZ;rw[hp];have:(ds++[d])[ds.length]=d:=ZC;rw[this];exact hd.symm
   ·have:Qm (ds++[d])=Qm ds++Qm [d]:=Zbo;rw[this];exact bY
   ·exact Kn.drop (B:=[(x7,.st [Ui p.params,Ui p.ae,.sl false 5 (Qo p.blocks)])]) (kn.perm Jn)
  ·intro hc;have bp:ds.length=l.length:=by have:l.length<=ds.length:=ZD;omega
   refine Wh ?_;have zW:ds=l.map f:=Jah (by rw[Jd,bp]) λi h1 h2=>by rw[Jo];exact qp i ZA h1
   have eA:=hK _ kn.fin;rw[<-zW]at eA;exact⟨_,.c _ _ (ax.frz kn (EV _)),eA⟩
noncomputable def perL (f:CodeD->CodeD)(cs:List CodeD):List CodeD:=if C0 cs=true then cs.map f else []
theorem Qare {fn:Nat}{cs:List CodeD}(aT:∀c∈cs,c.fits)(hf:C0 cs=true->∀p∈cs,∀(H:Heap) (K:V->Heap->Prop) (fl:Bool),(∀H',Upd H H' []->K (.ag (f p).cells) H')->Qu prog fn [.ag [Ui p.params,Ui p.ae,.sl fl 5 (Qo p.blocks)]] H K)
  (hK:∀H',Upd H H' []->K (.tup [.ag [.sl false 3 (Qm (perL f cs))],.c (.bool (C0 cs))]) H') :
  Qu prog Sx [.ag [.sl fl 3 (Qm cs)],.c (.fn fn [])] H K:=by
 refine Q0 ?_;refine Qd Co Qah5 ?_;refine Za ?_;intro x4 bh H1 h1;have kn:=(Kn.an H).al bh h1;simp only[go_sem,FA];refine Wa ?_;refine PI aT λH2 hu=>?_;have kn:=kn.au hu;simp only[go_sem,Rh];have bh:=kn.l 0 rfl;refine Wt ?_ ?_
 ·intro hc;have hc:=DE hc;refine Zj bh ?_;intro H3 h3;have kn:=kn.az 0 rfl h3;have bh:=kn.l 0 rfl;(try simp only[go_sem,FA]);refine Zr bh ?_;have hK:=hK _ kn.fin;rw[perL,hc]at hK;exact⟨λ_=>trivial,_,Fa (FrzL.ag (.cons FrzR.nil.sl .nil)) (.c _ _ (Qg rfl)),hK⟩
 ·intro hc;have hg:=CS hc;have dz:cs.length<=4:=by have:=(of_decide_eq_true hg).1;omega
  refine Zc ?_
  refine Za ?_;refine Qarb dz (hf hg) λH3 hu=>?_;have kn:=kn.au hu;have bh:=kn.l 0 rfl;simp only[go_sem,Qqa,bh];intro H4 h4;have kn:=kn.az 0 rfl h4;have bh:=kn.l 0 rfl;simp only[go_sem,Ku];refine Zr bh ?_;have hK:=hK _ kn.fin;rw[perL,if_pos hg,hg]at hK;exact⟨λ_=>trivial,_,Fa (ET _) (.c _ _ (Qg rfl)),hK⟩
noncomputable def Dr (cs:List CodeD)(b:Bool):List CodeD:=if (b&&C0 cs)=true then cs else []
theorem Qaqp {cs:List CodeD}{pass:List UInt8}(aT:∀c∈cs,c.fits)(oY:∀c∈perL f cs,c.fits)
  (hf:C0 cs=true->∀p∈cs,∀(H:Heap) (K:V->Heap->Prop),(∀H',Upd H H' []->K (.ag (f p).cells) H')->Qu prog Pl [.ag [Ui p.params,Ui p.ae,.sl false 5 (Qo p.blocks)],.c (.str pass)] H K)
  (hK:∀H',Upd H H' []->K (.tup [.ag [.sl false 3 (Qm (Dr (perL f cs) (C0 cs)))],.c (.bool (C0 cs&&C0 (perL f cs)))]) H') :
  Qu prog Kf [.ag [.sl fl 3 (Qm cs)],.c (.str pass)] H K:=by
 refine Q0 ?_;refine Qd Co MV ?_;refine Za ?_;intro x4 bh H1 h1;have kn:=(Kn.an H).al bh h1;simp only[go_sem,FA];refine Wa ?_;refine Kp aT λH2 hu=>?_;have kn:=kn.au hu;simp only[go_sem,Kx];refine Wt ?_ ?_
 ·intro hc;have hc:C0 cs=false:=DE hc;have bh:=kn.l 0 rfl;refine Zj bh ?_;intro H3 h3;have kn:=kn.az 0 rfl h3;have bh:=kn.l 0 rfl;(try simp only[go_sem,FA]);refine Zr bh ?_;have hK:=hK _ kn.fin;have eo:Dr (perL f cs) false=[]:=by simp[Dr]
  rw[hc,eo]at hK;exact⟨λ_=>trivial,_,Fa (FrzL.ag (.cons (FrzR.nil.sl) .nil)) (.c _ _ (Qg rfl)),hK⟩
 ·intro hc;have hG:C0 cs=true:=CS hc;refine Zc ?_
  refine Za ?_;intro x6 aY H3 h3;have kn:=kn.al aY h3;have aY:=kn.l 1 rfl;simp only[go_sem,Sg,aY];intro H4 h4;have kn:Kn H H4 [] [(x4,.st [.sl true 3 []]),(x6,.st [.sl true 3 []])]:=kn.az 1 rfl h4;refine Wa ?_;have cL:=(Rw aT hG).1;refine Qh (Qe (Qy (λm e1 H1=>∃(ds:List CodeD) (t:C) (Lg:Ul),m=cs.length-ds.length/\ds.length<=cs.length/\ds=(cs.take ds.length).map f/\Gr Lg 3 (Qm ds) t/\Kn H H1 [] ([(x4,.st [.sl true 3 []]),(x6,.st [t])]++Lg)/\
   lk 1 e1=.c (.str pass)/\lk 2 e1=.c (.pp [.sl fl 3 (Qm cs)])/\lk 4 e1=Up x4/\lk 6 e1=Up x6/\lk 7 e1=.c (Ui ds.length)) cs.length ?_ ?_))
  ·exact⟨[],_,[],ZC,ZC,ZC,.nil 3,ZL,Rf0⟩
  ·clear kn aY;rintro m e1 H5 ⟨ds,t,Lg,hm,lp,gB,ax,kn,l1,l2,l4,l6,l7⟩;have fU:=ax.ai;refine Q1 (Qa ?_);simp only[go_sem,l1,l2,l4,l6,l7,Q8];try intro _
   refine Wt ?_ ?_
   ·intro aC;have af:ds.length<cs.length:=ZG;have aY:=kn.l 1 rfl;obtain⟨q,hq⟩:∃q,cs[ds.length]=q:=⟨_,rfl⟩;have hqm:q∈cs:=(by rw[<-hq];exact Jc af);refine Zc ?_
    refine Wq ?_;simp only[go_sem,aY,fU,af,Q8,DP _ _ af,CodeD.cells,hq];refine hf hG q hqm _ _ λH6 hu=>?_;obtain⟨d,hd⟩:∃d,f q=d:=⟨_,rfl⟩;rw[hd];have kn:=kn.au hu;have aY:=kn.l 1 rfl;simp only[go_sem,Sd,CodeD.cells,aY,fU];refine kn.bk (new:=Qm [d]) ax (.mk' _ _ _ _) (EV _) (by simp only[Q8,LIM,Jl,Ji];omega) λt2 Lg2 H7 bY cQ kn=>?_;have aY:=kn.l 1 rfl;simp only[go_sem,Se,aY];intro H8 h8;have kn:=kn.az 1 rfl h8;refine Zh ?_;refine⟨Qv,?_⟩;show ∃m,_;refine⟨cs.length-(ds.length+1),ZA,ds++[d],t2,Lg2,ZC,by simp only[J0,Jl,Ji];omega,?_,?_,kn,rfl,rfl,rfl,rfl,ZB⟩
    ·have e:(ds++[d]).length=ds.length+1:=ZC;rw[e,Jg af,J1,<-gB,hq,J4,Jas,hd]
    ·have:Qm (ds++[d])=Qm ds++Qm [d]:=Zbo;rw[this];exact bY
   ·intro i6;have zU:ds.length=cs.length:=(by have:cs.length<=ds.length:=(by simpa using i6);omega);rw[zU,Jaa]at gB;have kG:perL f cs=ds:=(by rw[perL,if_pos hG,<-gB]);rw[hG,kG]at hK;rw[kG]at oY;refine Zb ?_;have aY:=kn.l 1 rfl;obtain⟨S,kq,ly,fh,kn⟩:=kn.bW;have iC:=ly (x6,.st [t]) ZC;have oV:FrzC H5 S t (.sl false 3 (Qm ds)):=Gr.frzM ax kq (FrzR.same (EV _));have kn:=kn.setL (o':=.st [.sl false 3 (Qm ds)]) 1 rfl ZC;refine c_gh (Fe S (FC ?_) (fh.set (o:=.st [.sl false 3 (Qm ds)]) iC.2 ZaD)) (e':=[(4,Up x4),(6,Up x6)]) ?_
    ·simp only[Jz];exact⟨.c _ _ (.same _ rfl),.c _ _ (.same _ rfl),ZC⟩
    generalize (H5.frz S).set x6 (Obj.st [C.sl false 3 (Qm ds)])=H6 at *;have aY:=kn.l 1 rfl;have bh:=kn.l 0 rfl;clear fh iC oV kq ly;refine Q1 (Qa ?_);simp only[go_sem,aY];refine Kp oY λH7 hu=>?_;have kn:=kn.au hu;have aY:=kn.l 1 rfl;have bh:=kn.l 0 rfl;simp only[go_sem,S0];refine Wt ?_ ?_
    ·intro bv;have fM:C0 ds=false:=DE bv;refine Zj bh ?_;intro H8 h8;have kn:=kn.az 0 rfl h8;have bh:=kn.l 0 rfl;(try simp only[go_sem,FA]);refine Zr bh ?_;have hK:=hK _ kn.fin;have eo:Dr ds true=[]:=(by simp[Dr,fM]);rw[fM,eo]at hK;exact⟨λ_=>trivial,_,Fa (FrzL.ag (.cons (FrzR.nil.sl) .nil)) (.c _ _ (Qg rfl)),hK⟩
    ·intro bv;have fM:C0 ds=true:=CS bv;refine Zc ?_
     refine Zl aY bh ?_;intro H8 h8;have kn:=kn.az 0 rfl h8;have bh:=kn.l 0 rfl;simp only[go_sem,Ku];refine Zr bh ?_;have hK:=hK _ kn.fin;have eo:Dr ds true=ds:=(by simp[Dr,fM]);rw[fM,eo]at hK;exact⟨λ_=>trivial,_,Fa (ET ds) (.c _ _ (Qg rfl)),hK⟩
end Y
namespace Y
attribute [local go_sem] cond_true cond_false Bool.not_true Bool.not_false
attribute [local instance] Classical.propDecidable
open Go.Proofs.Tryz
variable{q:CodeD}{cs:List CodeD}
theorem Xy (ho:q.ok):EL q.blocks.length (gnx q)=rchL q.blocks.length (nxN (gnx q)):=by
 rw[EL,if_pos ho.fitB];rfl
theorem Qxy (ho:q.ok)(hK:∀(ks:List JB) z H',ks.map JB.y=(drpE q).blocks->(∀k∈ks,k.ok)->Kn H H' [] ([(z,.vec 5 (ks.map JB.row))]++ks.flatMap JB.lg)->K (.ag [Ui q.params,Ui q.ae,.ah z 5 0 (drpE q).blocks.length]) H') :
  Qu prog Tc [.ag [Ui q.params,Ui q.ae,.sl fl 5 (Qo q.blocks)]] H K:=by
 have bm:=ho.b1;refine EB ?_;refine Qd Co Q38 ?_;refine Za ?_;intro x2 aL H1 h1;have kn:=(Kn.an H).al aL h1;refine Zu ?_;refine Qald (rows:=Qo q.blocks) (nx:=gnx q) (Fb H1 q fl) (by rw[Qn];omega) λH2 hu=>?_;have kn:=kn.au hu;rw[Qn,Xy ho];simp only[go_sem,Qia];refine Qa0u ho ho.rchPk (Gf _ _) λks z H3 hl hy hk k3=>?_;have kn:=kn.comp0 k3;have aL:=kn.l 0 rfl;simp only[go_sem,P4,aL];intro H4 h4;have kn:Kn H H4 [] ([(x2,.st [Ui q.params,Ui q.ae,.ah z 5 0 (drpE q).blocks.length])]++([(z,.vec 5 (ks.map JB.row))]++ks.flatMap JB.lg)):=kn.az 0 rfl h4;have aL:=kn.l 0 rfl;refine Zs aL ?_;exact⟨unx H ([(z,.vec 5 (ks.map JB.row))]++ks.flatMap JB.lg),_,_,FrzL.ag (.cons (Qg rfl) (.cons (Qg rfl) (.cons (.same _ rfl) .nil))),E9 _ _,hK ks z _ hy hk kn.finK⟩
theorem Qafq (ho:q.ok)(hK:∀H',Upd H H' []->K (.ag (drpE q).cells) H') :
  Qu prog Tc [.ag [Ui q.params,Ui q.ae,.sl fl 5 (Qo q.blocks)]] H K:=
 Q0 (Qxy ho λks z H' hy hk kn=>
  ⟨_,FrzL.ag (.cons (Qg rfl) (.cons (Qg rfl) (.cons (JB.frz (B:=[]) kn hy hk (by rw[<-hy,Jd])) .nil))),hK _ kn.fin⟩)
theorem Qaqo(ho:q.ok)(hK:∀z H',Kn H H' [] [(z,.vec 5 (Qo (drpE q).blocks))]->K (.ag [Ui q.params,Ui q.ae,.ah z 5 0 (drpE q).blocks.length]) H') :
  Qu prog Kg [.ag [Ui q.params,Ui q.ae,.sl fl 5 (Qo q.blocks)]] H K:=
 N6 ho λd z H' hR hP kn=>by
  obtain⟨P,hP,hd⟩:=hP;rw[Qa7n ho ho.rchPk (Gf _ _) hP]at hd;have hd:d=drpE q:=hd;subst hd;exact hK z H' kn
end Y
namespace Y
attribute [local go_sem] cond_true cond_false Bool.not_true Bool.not_false
open Go.Proofs.Tryz
theorem Mc {f g:Bool}(hK:K (.c (.bool true)) H):Qu prog Q5u [.c (.sl f 1 (Qb ns)),.c (.sl g 1 (Qb ns))] H K:=by
 refine Qd Co Qaq9 ?_;refine Wg ?_;simp only[go_sem,Qc,decide_true];intro hl;try intro _
 simp only[LIM]at hl;refine Wt ?_ ?_
 ·intro h;simp at h
 intro _;refine Zc ?_
 refine Q1 (Qa ?_);simp only[go_sem,Qc];try intro _
 refine Qh (Qe (Qy (λm e1 H1=>∃(i:Nat),m=ns.length-i/\i<=ns.length/\H1=H/\lk 0 e1=.c (.sl f 1 (Qb ns))/\lk 1 e1=.c (.sl g 1 (Qb ns))/\lk 12 e1=.c (Ui ns.length)/\lk 13 e1=Uv i) ns.length ?_ ?_))
 ·exact⟨0,ZA,ZA,Rf0⟩
 ·rintro m e1 H1 ⟨i,hm,hi,rfl,l0,l1,l12,l13⟩;refine Qa ?_;simp only[go_sem,l0,l1,l12,l13];refine Wt ?_ ?_
  ·intro hc;have af:i<ns.length:=ZD
   refine Zc ?_
   refine We ?_;refine Cv ?_;simp only[go_sem,af,Qc,Qk _ _ af,decide_true];refine Wu ?_ ?_
   ·intro h;simp at h
   intro _;refine Zc ?_
   refine Zh ?_;refine⟨Qv,?_⟩;show ∃m,_;exact⟨ns.length-(i+1),ZA,i+1,rfl,ZA,Rf0⟩
  ·intro hc;refine Wh ?_;exact hK
theorem HH {f g:Bool}(hK:K (.c (.bool true)) H):Qu prog Na [.c (.sl f 1 (Qb ns)),.c (.sl g 1 (Qb ns))] H K:=by
 refine Qd Co TS ?_;refine Wg ?_;simp only[go_sem,Qc,decide_true];intro hl;try intro _
 simp only[LIM]at hl;refine Wt ?_ ?_
 ·intro h;simp at h
 intro _;refine Zc ?_
 refine Wa ?_;try intro _
 refine Qh (Qe (Qy (λm e1 H1=>∃(i:Nat),m=ns.length-i/\i<=ns.length/\H1=H/\lk 0 e1=.c (.sl f 1 (Qb ns))/\lk 1 e1=.c (.sl g 1 (Qb ns))/\lk 5 e1=Uv i) ns.length ?_ ?_))
 ·exact⟨0,ZA,ZA,Rf0⟩
 ·rintro m e1 H1 ⟨i,hm,hi,rfl,l0,l1,l5⟩;refine Q1 (Qa ?_);simp only[go_sem,l0,l1,l5,Qc];try intro _
  refine Wt ?_ ?_
  ·intro hc;have af:i<ns.length:=ZD
   refine Zc ?_
   refine Qh (Qe ?_);refine Cv ?_;simp only[go_sem,af,Qc,Qk _ _ af,decide_true];refine Wu ?_ ?_
   ·intro h;simp at h
   intro _;refine Zc ?_
   refine Zh ?_;refine⟨Qv,?_⟩;show ∃m,_;exact⟨ns.length-(i+1),ZA,i+1,rfl,ZA,Rf0⟩
  ·intro hc;refine Wh ?_;exact hK
theorem Qaeu {p:BlkD}(hK:∀H',Upd H H' []->K (.c (.bool true)) H'):Qu prog Qs3 [.ag p.cells,.ag p.cells] H K:=by
 refine Q0 ?_;refine Qd Co Qafa ?_;refine Qa ?_;simp only[go_sem,BlkD.cells];refine Q1 (Qa ?_);simp only[go_sem,Qz,CR,decide_true];intro Bq rM;simp only[LIM]at Bq rM;refine HH ?_;simp only[go_sem,Qnv];refine Wt ?_ ?_
 ·intro h;simp at h
 intro _;refine Zc ?_
 refine Wa ?_;refine Qh (Qe (Qy (λm e1 H1=>∃(i:Nat),m=p.ab.length-i/\i<=p.ab.length/\H1=H/\lk 2 e1=.c (.pp p.cells)/\lk 3 e1=.c (.pp p.cells)/\lk 5 e1=Uv i) p.ab.length ?_ ?_))
 ·exact⟨0,ZA,ZA,Rf0⟩
 ·rintro m e1 H1 ⟨i,hm,hi,rfl,l2,l3,l5⟩;simp only[BlkD.cells]at l2 l3;refine Q1 (Qa ?_);simp only[go_sem,l2,l3,l5,Qz];try intro _
  refine Wt ?_ ?_
  ·intro hc;have af:i<p.ab.length:=ZD
   obtain⟨x,hx⟩:∃x,p.ab[i]=x:=⟨_,rfl⟩;refine Zc ?_
   refine Qh (Qe ?_);refine Cv ?_;simp only[go_sem,af,Qz,D2 _ _ af,hx,PhiD.cells,decide_true];refine HH ?_;simp only[go_sem,Qnw];refine Wu ?_ ?_
   ·intro h;simp at h
   intro _;refine Zc ?_
   refine Zh ?_;refine⟨Qv,?_⟩;show ∃m,_;exact⟨p.ab.length-(i+1),ZA,i+1,rfl,ZA,Rf0⟩
  ·intro hc;refine Zb ?_;refine Wa ?_;refine Qh (Qe (Qy (λm e1 H2=>∃(i:Nat),m=p.ins.length-i/\i<=p.ins.length/\Kn H1 H2 [] []/\lk 2 e1=.c (.pp p.cells)/\lk 3 e1=.c (.pp p.cells)/\lk 6 e1=Uv i) p.ins.length ?_ ?_))
   ·exact⟨0,ZA,ZA,.an H1,Rf0⟩
   ·clear l2 l3 l5;rintro m e1 H2 ⟨i,hm,hi,kn,l2,l3,l6⟩;simp only[BlkD.cells]at l2 l3;refine Q1 (Qa ?_);simp only[go_sem,l2,l3,l6,CR];try intro _
    refine Wt ?_ ?_
    ·intro hc;have af:i<p.ins.length:=ZD;obtain⟨x,hx⟩:∃x,p.ins[i]=x:=⟨_,rfl⟩;refine Zc ?_
     refine Qh (Qe ?_);refine Zt af hx ?_;intro x7 bz H3 h3;have kn:=kn.al bz h3;have bz:=kn.l 0 rfl;simp only[go_sem,Qnx,bz];intro H4 h4;have kn:Kn H1 H4 [] [(x7,.st x.cells)]:=kn.az 0 rfl h4;refine Zt af hx ?_;intro x8 aV H5 h5;have kn:=kn.al aV h5;have aV:=kn.l 1 rfl;simp only[go_sem,Qny,aV];intro H6 h6;have kn:Kn H1 H6 [] [(x7,.st x.cells),(x8,.st x.cells)]:=kn.az 1 rfl h6;have bz:H6 x7=.st x.cells:=kn.l 0 rfl;have aV:H6 x8=.st x.cells:=kn.l 1 rfl;refine Qa ?_;simp only[go_sem,bz,aV,InsD.cells,decide_true];refine HH ?_;simp only[go_sem,Qnz];refine Wu ?_ ?_
     ·intro h;simp at h
     intro _;refine Zc ?_
     refine Zh ?_;refine⟨Qv,?_⟩;show ∃m,_;exact⟨p.ins.length-(i+1),ZA,i+1,rfl,ZA,Kn.drop (A:=[]) (B:=[(x7,_),(x8,_)]) kn,Rf0⟩
    ·intro hc;refine Wh ?_;exact⟨_,.c _ _ (Qg rfl),hK _ kn.fin⟩
theorem Qahx {p:CodeD}(hK:∀H',Upd H H' []->K (.c (.bool true)) H'):Qu prog Qwy [.ag p.cells,.ag p.cells] H K:=by
 refine Q0 ?_;refine Qd Co Qaig ?_;refine Qa ?_;simp only[go_sem,CodeD.cells];refine Q1 (Qa ?_);simp only[go_sem,Qn,decide_true];intro hl;try intro _
 simp only[LIM]at hl;refine Wt ?_ ?_
 ·intro h;simp at h
 intro _;refine Zc ?_
 refine Wa ?_;refine Qh (Qe (Qy (λm e1 H1=>∃(i:Nat),m=p.blocks.length-i/\i<=p.blocks.length/\Kn H H1 [] []/\lk 2 e1=.c (.pp [Ui p.params,Ui p.ae,.sl false 5 (Qo p.blocks)])/\lk 3 e1=.c (.pp [Ui p.params,Ui p.ae,.sl false 5 (Qo p.blocks)])/\lk 5 e1=Uv i) p.blocks.length ?_ ?_))
 ·exact⟨0,ZA,ZA,.an H,Rf0⟩
 ·rintro m e1 H1 ⟨i,hm,hi,kn,l2,l3,l5⟩;refine Q1 (Qa ?_);simp only[go_sem,l2,l3,l5,Qn];try intro _
  refine Wt ?_ ?_
  ·intro hc;have af:i<p.blocks.length:=ZD
   obtain⟨x,hx⟩:∃x,p.blocks[i]=x:=⟨_,rfl⟩;refine Zc ?_
   refine Qh (Qe ?_);refine Cv ?_;simp only[go_sem,af,Qn,CU _ _ af,hx,BlkD.cells];refine Qaeu (p:=x) λH2 hu=>?_;have kn:=kn.au hu;simp only[go_sem,Qrq];refine Wu ?_ ?_
   ·intro h;simp at h
   intro _;refine Zc ?_
   refine Zh ?_;refine⟨Qv,?_⟩;show ∃m,_;exact⟨p.blocks.length-(i+1),ZA,i+1,rfl,ZA,kn,Rf0⟩
  ·intro hc;refine Wh ?_;exact⟨_,.c _ _ (Qg rfl),hK _ kn.fin⟩
theorem Sr {f g:Bool}{cs:List CodeD}(hK:∀H',Upd H H' []->K (.c (.bool true)) H'):Qu prog PY [.ag [.sl f 3 (Qm cs)],.ag [.sl g 3 (Qm cs)]] H K:=by
 refine Q0 ?_;refine Qd Co Qaa7 ?_;refine Wg ?_;simp only[go_sem,Q8,decide_true];intro hl;try intro _
 simp only[LIM]at hl;refine Wt ?_ ?_
 ·intro h;simp at h
 intro _;refine Zc ?_
 refine Wa ?_;refine Qh (Qe (Qy (λm e1 H1=>∃(i:Nat),m=cs.length-i/\i<=cs.length/\Kn H H1 [] []/\lk 2 e1=.c (.pp [.sl f 3 (Qm cs)])/\lk 3 e1=.c (.pp [.sl g 3 (Qm cs)])/\lk 5 e1=Uv i) cs.length ?_ ?_))
 ·exact⟨0,ZA,ZA,.an H,Rf0⟩
 ·rintro m e1 H1 ⟨i,hm,hi,kn,l2,l3,l5⟩;refine Q1 (Qa ?_);simp only[go_sem,l2,l3,l5,Q8];try intro _
  refine Wt ?_ ?_
  ·intro hc;have af:i<cs.length:=ZD
   obtain⟨x,hx⟩:∃x,cs[i]=x:=⟨_,rfl⟩;refine Zc ?_
   refine Qh (Qe ?_);refine Cv ?_;simp only[go_sem,af,Q8,DP _ _ af,hx,CodeD.cells];refine Qahx (p:=x) λH2 hu=>?_;have kn:=kn.au hu;simp only[go_sem,Qld];refine Wu ?_ ?_
   ·intro h;simp at h
   intro _;refine Zc ?_
   refine Zh ?_;refine⟨Qv,?_⟩;show ∃m,_;exact⟨cs.length-(i+1),ZA,i+1,rfl,ZA,kn,Rf0⟩
  ·intro hc;refine Wh ?_;exact⟨_,.c _ _ (Qg rfl),hK _ kn.fin⟩
end Y
namespace Y
attribute [local instance] Classical.propDecidable
variable{cs:List CodeD}{L:CodeD->List Nat}
structure PkL (cs:List CodeD)(L:CodeD->List Nat):Prop where
 p:∀k,k<cs.length->Pk (Qp cs k) (L (Qp cs k))
 n:∀k,k<cs.length->(L (Qp cs k)).Nodup
structure PkF (cs:List CodeD)(L:CodeD->List Nat)(f f':Fr):Prop where
 k:f.k<cs.length
 b:f.b∈L (Qp cs f.k)
 t:∃p,(Qq (Qp cs f.k) f.b).ins=p++f.todo
 e:f'=⟨f.k,(L (Qp cs f.k)).idxOf f.b,f.todo,f.ae⟩
theorem Fp {k:Nat}(hk:k<cs.length):Qp (cs.map λq=>pkE q (L q)) k=pkE (Qp cs k) (L (Qp cs k)):=by
 rw[Eh (by simpa using hk),Eh hk];simp
theorem Hs {q:CodeD}{l:List Nat}(hn:l.Nodup){b:Nat}(hb:b∈l):Qq (pkE q l) (l.idxOf b)=pkX q (Dg q.blocks.length l) l (l.idxOf b):=by
 have hi:=Jh hb;rw[C3 (by rw[F3];exact hi),Fo]
theorem pkF0 (hr:RunOk cs)(hL:PkL cs L){k:Nat}(hk:k<cs.length)(l:List Int):PkF cs L (fr0 cs k l) (fr0 (cs.map λq=>pkE q (L q)) k l):=by
 obtain⟨z1,z2⟩:=Qa49 (hL.p k hk);refine⟨hk,z1,⟨[],rfl⟩,?_⟩;rw[fr0,fr0,Fp hk];have:=Hs (q:=Qp cs k) (hL.n k hk) z1;rw[z2]at this;rw[this];simp only[z2,Fr.mk.injEq,true_and];refine⟨?_,rfl⟩;rw[pkX];have hz:=(hL.p k hk).z;rw[show (L (Qp cs k)).getD 0 0=0 by simp[Ja,hz]]
theorem Qa7p {q:CodeD}{l:List Nat}(ho:q.ok)(hp:Pk q l)(hn:l.Nodup){b n:Nat}(hb:b∈l)(hm:n∈l)(hv:(n:Int)∈gnx q b)(R:List Int)(p:PhiD) :
  CL R (wayI (pkE q l) (l.idxOf n) (l.idxOf b)) (nwP q (Dg q.blocks.length l) l (l.idxOf n) p)=CL R (wayI q n b) p:=by
 have hi:=Jh hb;have hj:=Jh hm;have bT:((l.idxOf b:Nat):Int)∈Qs (pkN q (Dg q.blocks.length l) l) ((l.idxOf n:Nat):Int) l.length:=by
  rw[Qs];refine Jk.2 ⟨l.idxOf b,?_,rfl⟩;simp only[Jac,Jv,Jt];refine⟨hi,?_⟩;rw[GH hi,List.getElem_idxOf hi,GL ho hp hn (GK hp.lt) hb];refine Jk.2 ⟨(n:Int),by rw[<-DI (hp.lt b hb)];exact hv,ZC⟩
 rw[CL,CL,nwP,nwA,wayI,wayI,KJ hp,F3];congr 1;have hx:=Jh bT;rw[Ja,Jx,Jj hx,Jaf,Jan,List.getElem_idxOf hx];rw[(hp.get hj).1,List.getElem_idxOf hj,Jae,(hp.get hi).1,List.getElem_idxOf hi]
theorem Qa0t (hr:RunOk cs)(hL:PkL cs L):SimR cs (cs.map λq=>pkE q (L q)) (PkF cs L) 1:=by
 refine⟨Jm _,λk b x t R f' h=>?_,λk b R f' fs fs' s c h hf=>⟨1,Jm _,?_⟩⟩
 ·obtain⟨hk,hb,⟨p,hp⟩,rfl⟩:=h;have hx:x∈(Qq (Qp cs k) b).ins:=by rw[hp];simp
  refine⟨_,_,_,_,rfl,⟨rfl,rfl,rfl,λ_=>rfl,λiP l _=>?_⟩,λR' _=>⟨hk,hb,⟨p++[x],by rw[hp];simp⟩,rfl⟩⟩;have:=hr.call k b hk x hx iP;exact pkF0 hr hL (Nat.lt_trans this hk) l
 ·obtain⟨hk,hb,⟨p,hp⟩,rfl⟩:=h;have hP:=hL.p k hk;have hn:=hL.n k hk;have ho:=hr.ok k hk;have bj:=hP.lt b hb;have hi:=Jh hb;have bU:=Hs (q:=Qp cs k) hn hb;show RelC _ (stJ cs k b R fs s c) (stJ (cs.map λq=>pkE q (L q)) k ((L (Qp cs k)).idxOf b) R fs' s c);have hX:pkX (Qp cs k) (Dg (Qp cs k).blocks.length (L (Qp cs k))) (L (Qp cs k)) ((L (Qp cs k)).idxOf b)
    = ⟨(Qq (Qp cs k) b).ab.map (nwP (Qp cs k) (Dg (Qp cs k).blocks.length (L (Qp cs k))) (L (Qp cs k)) ((L (Qp cs k)).idxOf b)),(Qq (Qp cs k) b).ins,(Qq (Qp cs k) b).jump,(Qq (Qp cs k) b).on,(Qq (Qp cs k) b).next.map λv=>(((L (Qp cs k)).idxOf v.toNat:Nat):Int)⟩:=by
   rw[pkX,(hP.get hi).1,List.getElem_idxOf hi,GL ho hP hn (GK hP.lt) hb]
  have bE:(Qq (Qp (cs.map λq=>pkE q (L q)) k) ((L (Qp cs k)).idxOf b)).jump=(Qq (Qp cs k) b).jump:=by rw[Fp hk,bU,hX]
  by_cases hj:(Qq (Qp cs k) b).jump=3
  ·rw[Eo hj,Eo (by rw[bE,hj]),Fp hk,bU,hX];exact SimR.rtnF hf λk b x t R f' h=>by
    obtain⟨hk,hb,⟨p,hp⟩,rfl⟩:=h;exact⟨_,_,_,_,rfl,rfl,λR' _=>⟨hk,hb,⟨p++[x],by rw[hp];simp⟩,rfl⟩⟩
  ·rw[GE hj,GE (by rw[bE];exact hj)];obtain⟨v,hv,e,e2⟩:=Gh hr hk bj hj R;have iS:v∈gnx (Qp cs k) b:=by rw[DI bj];exact hv
   have bH:=hP.cl b hb v iS;have ou:1<=v:=by
    have:=(ho.bs b bj).nx v (by rw[C3 bj]at hv;exact hv);omega
   have e':nxB (Qq (Qp (cs.map λq=>pkE q (L q)) k) ((L (Qp cs k)).idxOf b)) R=(L (Qp cs k)).idxOf (nxB (Qq (Qp cs k) b) R):=by
    rw[Fp hk,bU,hX,e,nxB,ixB];rw[ixB]at e2;simp only[Ja,Jx,e2,Jaf,Jan,Jae]
   rw[e',e];refine .go s c ⟨hk,bH,⟨[],rfl⟩,?_⟩ hf;rw[frJ,frJ,Fp hk,Hs hn bH];simp only[Fr.mk.injEq,true_and];have wv:=Jh bH;have g0:(L (Qp cs k)).getD ((L (Qp cs k)).idxOf v.toNat) 0=v.toNat:=by rw[(hP.get wv).1,List.getElem_idxOf wv]
   rw[pkX,g0];refine⟨rfl,?_⟩;refine LJ λp hp=>⟨rfl,?_⟩;exact Qa7p ho hP hn hb bH (by rw[show ((v.toNat:Nat):Int)=v by omega];exact iS) R p
end Y
namespace Y
attribute [local instance] Classical.propDecidable
variable{cs:List CodeD}{q:CodeD}
theorem EndsR.trans {cs' cs'':List CodeD}{l:List Int}(h:EndsR cs cs' l)(h2:EndsR cs' cs'' l):EndsR cs cs'' l:=λS e v s c hh=>h2 S e v s c (h S e v s c hh)
theorem SimR.ends {cs':List CodeD}{RF:Fr->Fr->Prop}{l:List Int}(hs:SimR cs cs' RF 1)(h0:RelC RF (cf0 cs l) (cf0 cs' l)):EndsR cs cs' l:=λS e v s c h=>by
 obtain⟨m,h1,h2⟩:=sim (R:=RelC RF) hs.one S h0;rw[h]at h2;have:Da cs' m (cf0 cs' l)=.dn e v s c:=by
  generalize Da cs' m (cf0 cs' l)=y at h2;cases h2;rfl
 exact In _ this ZA
theorem LR (hg:C0 cs=true)(l:List Int):EndsR cs (cs.map drpE) l:=by
 have hr:=IJ hg;have hL:PkL cs (λq=>rchL q.blocks.length (nxN (gnx q))):=⟨λk hk=>(hr.ok k hk).rchPk,λk hk=>Gf _ _⟩;refine (Qa0t hr hL).ends ?_;rw[cf0,cf0,Jd];exact .go _ _ (pkF0 hr hL (by have:=hr.n;omega) l) .nil
noncomputable def jnD (q:CodeD):CodeD:=drpE (jnE (drpE q))
theorem KD:cs.map jnD=((cs.map drpE).map (Nat.repeat jn1 160)).map drpE:=by
 rw[J2,J2];refine Jal λq _=>?_;simp only[Function.comp_apply,jnD,jnE]
theorem HL (hg:C0 cs=true):C0 (cs.map jnD)=true:=by
 rw[KD];exact Iv (Is (Iv hg) 160)
theorem TU (hg:C0 cs=true)(l:List Int):EndsR cs (cs.map jnD) l:=by
 rw[KD];exact ((LR hg l).trans (Ly (Iv hg) l 160)).trans (LR (Is (Iv hg) 160) l)
theorem V2 (hg:C0 cs=true)(l:List Int){S:Nat}(hS:S<=60000):DB cs (cs.map jnD) l S:=(TU hg l).same hS
end Y
namespace Y
open Go.Proofs.Tryz
variable{L A:Ul}{q:CodeD}
theorem OL{H3:Heap}{R:Ul}{rows rows':List (List C)}{c:C}(g:Gr Lg sz rows c)(hf:FrzH H S H3)(hl:∀p∈Lg,H p.1=p.2/\S p.1=false)(hr:FrzR H S rows rows')(hn:rows'.length=rows.length)
  (b7:∀r∈rows,Go.AE.am r=true) (kn:Kn H0 H3 E (Lg++R)):∃(H4:Heap) (Lg':Ul),FrzH H S H4/\Gr Lg' sz rows' c/\Kn H0 H4 E (Lg'++R):=by
 rcases g with ⟨h1,h2,h3⟩|⟨z,h1,h2⟩
 ·rw[h2]at hn;have:rows'=[]:=List.length_eq_zero_iff.1 hn;subst this;subst h1;subst h3;exact⟨H3,[],hf,.nil sz,kn⟩
 ·subst h2;obtain⟨qy,hz2⟩:=hl (z,.vec sz rows) ZC;have kE:=hf.set (o:=.vec sz rows') hz2 (by rw[qy];exact .vecR hr b7);have kn:=kn.setL (o':=.vec sz rows') 0 rfl ZC;refine⟨_,[(z,.vec sz rows')],kE,?_,kn⟩;rw[h1];exact .mk _ _ _ hn.symm
theorem KK {S:Nat->Bool}:∀(bs:List OBlk) {H3:Heap} {R:Ul},FrzH H S H3->(∀b∈bs,b.ok/\Held H S (b.ab.flatMap OPhi.lg++b.ins.flatMap OIns.lg)/\∀p∈b.pl++b.il,H p.1=p.2/\S p.1=false)->Kn H0 H3 E (R++bs.flatMap λb=>b.pl++b.il)->
  ∃(H4:Heap) (ks:List JB),FrzH H S H4/\ks.map JB.y=bs.map OBlk.d/\(ks.map λk=>(k.pc,k.ic,k.fl))=(bs.map λb=>(b.pc,b.ic,false))/\(∀k∈ks,k.ok)/\Kn H0 H4 E (R++ks.flatMap JB.lg)
 |[],H3,R,hf,_,kn=>⟨H3,[],hf,rfl,rfl,ZC,ZL⟩
 |b::bs,H3,R,hf,hb,kn=>by
  obtain⟨aq,sG,db⟩:=hb b J6;rw[J9]at kn;have kn:Kn H0 H3 E (b.pl++(b.il++(R++bs.flatMap λb=>b.pl++b.il))):=kn.perm (Qi λf hf h0 hc hp=>by simp only[Ui,hf];omega);obtain⟨H4,pl,f1,g1,kn⟩:=OL aq.p hf (λp hp=>db p (J5 _ hp)) (M8 aq.a sG.l) (by simp[Qz]) (λr hr=>by
   obtain⟨p,hp,rfl⟩:=Jk.1 hr;exact p.am (aq.a p hp)) kn
  have kn:Kn H0 H4 E (b.il++((R++pl)++bs.flatMap λb=>b.pl++b.il)):=kn.perm (Qi λf hf h0 hc hp=>by simp only[Ui,hf];omega);obtain⟨H5,il,f2,g2,kn⟩:=OL aq.i f1 (λp hp=>db p (Jf _ hp)) (L5 sG.r) (by simp[CR]) (λr hr=>by
   obtain⟨p,hp,rfl⟩:=Jk.1 hr;exact p.am) kn
  have kn:Kn H0 H5 E ((R++(pl++il))++bs.flatMap λb=>b.pl++b.il):=kn.perm (Qi λf hf h0 hc hp=>by simp only[Ui,hf];omega);obtain⟨H6,ks,h1,h2,h3,h4,h5⟩:=KK bs f2 (λx hx=>hb x (Jw _ hx)) kn;refine⟨H6,⟨b.d,b.pc,pl,b.ic,il,false⟩::ks,h1,by simp[h2],by simp[h3],λk hk=>?_,h5.perm (Qi λf hf h0 hc hp=>by
   rw[J9];show _=f (R++((pl++il)++ks.flatMap JB.lg));simp only[Ui,hf];omega)⟩
  rcases Ja5.1 hk with rfl|hk
  ·exact⟨g1,g2⟩
  ·exact h4 k hk
theorem JB.rows_eq:∀{ks:List JB} {bs:List OBlk},ks.map JB.y=bs.map OBlk.d->(ks.map λk=>(k.pc,k.ic,k.fl))=(bs.map λb=>(b.pc,b.ic,false))->ks.map JB.row=bs.map λb=>[b.pc,b.ic,Ui b.jump,Ui b.on,.sl false 1 (Qb b.nx.ns)]
 |[],[],_,_=>rfl
 |[],_::_,h,_=>ZH
 |_::_,[],h,_=>ZH
 |k::ks,b::bs,h1,h2=>by
  simp only[J4,List.cons.injEq,Jar]at h1 h2⊢;obtain⟨⟨e1,e2,e3⟩,h2⟩:=h2;refine⟨?_,JB.rows_eq h1.2 h2⟩;rw[JB.row,h1.1,e1,e2,e3];rfl
theorem T8 (hq:q.sg)(hb:0<q.blocks.length)(hK:∀z (ks:List JB) H',ks.map JB.y=q.blocks->(∀k∈ks,k.ok)->Kn H H' [] ([(z,.vec 5 (ks.map JB.row))]++ks.flatMap JB.lg)->K (.ag [Ui q.params,Ui q.ae,.ah z 5 0 q.blocks.length]) H') :
  Qu prog Pa [.ag q.cells] H K:=by
 refine EB (Rl hq λo H' kn aq hd _=>?_);have bj:o.blocks.length=q.blocks.length:=by rw[<-hd];simp[OCode.d]
 have lH:o.params=q.params:=Zaw
 have jq:o.ae=q.ae:=Zaw
 have sy:o.blocks.map OBlk.d=q.blocks:=Zaw
 rcases aq.b with ⟨h1,h2,h3⟩|⟨z,h1,h2⟩
 ·have:=congrArg List.length h2;simp only[Jd,Ji]at this;omega
 ·have o6:∀(l:List OBlk) (f:Ul->Nat) (hf:∀a b,f (a++b)=f a+f b),f []=0->f (l.flatMap OBlk.lg)=f (l.flatMap λb=>b.pl++b.il)+f (l.flatMap λx=>x.nx.lg++(x.ab.flatMap OPhi.lg++x.ins.flatMap OIns.lg)):=λl f hf h0=>by
   induction l with
   |nil=>simp[h0]
   |cons x l ih=>simp only[Ui,J9,hf,OBlk.lg,ih];omega
  have kn:Kn H H' [] (([(z,.vec 5 (o.blocks.map OBlk.row))]++o.blocks.flatMap λb=>b.pl++b.il)++o.blocks.flatMap λx=>x.nx.lg++(x.ab.flatMap OPhi.lg++x.ins.flatMap OIns.lg)):=kn.perm (Qi λf hf h0 hc hp=>by
   have:=o6 o.blocks f hf h0;rw[OCode.lg,h2];simp only[Ui,hf]at this⊢;omega)
  obtain⟨S,hS,hB,fh,kn2⟩:=kn.bW;have hz:=hB (z,.vec 5 (o.blocks.map OBlk.row)) ZC;obtain⟨H4,ks,g1,g2,g3,g4,kn2⟩:=KK (E:=[]) o.blocks fh (λb hb=>⟨aq.bs b hb,λp hp=>hS p (J8.2 ⟨b,hb,Jf _ hp⟩),λp hp=>hB p (Jf _ (J8.2 ⟨b,hb,hp⟩))⟩) kn2;have de:=JB.rows_eq g2 g3;have ew:FrzR H' S (o.blocks.map OBlk.row) (ks.map JB.row):=by
   rw[de];refine Fc o.blocks λx hx=>?_;have hh:Held H' S (x.nx.lg++(x.ab.flatMap OPhi.lg++x.ins.flatMap OIns.lg)):=λp hp=>hS p (J8.2 ⟨x,hx,hp⟩);exact .cons (.same _ (aq.bs x hx).p.ai) (.cons (.same _ (aq.bs x hx).i.ai) (.cons (Qg rfl) (.cons (Qg rfl) (.cons (x.nx.frz hh.l) .nil))))
  have f1:=g1.set (o:=.vec 5 (ks.map JB.row)) hz.2 (by
   rw[hz.1];exact FrzO.vecR ew (λr hr=>by obtain⟨x,hx,rfl⟩:=Jk.1 hr;exact x.am (aq.bs x hx)))
  have kn2:=kn2.setL (o':=.vec 5 (ks.map JB.row)) 0 rfl ZC;refine⟨S,_,_,?_,f1,hK z ks _ (g2.trans sy) g4 kn2⟩;refine FrzL.ag ?_;rw[OCode.row,lH,jq,h1,Jd,bj];exact .cons (Qg rfl) (.cons (Qg rfl) (.cons (.same _ rfl) .nil))
end Y
namespace Y
open Go.Proofs.Tryz
def P1:=dY 0xb8585e001
def Q7u:=dZ 0x874107f004110e3
def IA:=dY 0x3f5a1f034840f04850f283
def Q7v:=dZ 0x874107f004112a3
def Q7w:=dZ 0x7410ba0049f6802b21
def Xa:=dW 0x29192af622012894803f684800f2834860f0003fa9a0f063440f03450f03410f003420f0153430f683400f03410f2823420f0003f2a0f022c40f682c00f0001241806801315f1230130290069f010f0130158420f51098201401f034016220c3122013117004727532f059f05601537001422076101200f0049f190221 [Q7u,Q7v,Q7w] [P1,IA]
theorem Y2:mFn prog NK 2 44 Xa Cp=true:=ZE
def Q70:=dY 0x15700332f071 P0
def Q71:=dY 0x201e012797233
def Q72:=dY 8257713
def Q73:=dY 0xae00c1
def Q74:=dY 0x965f00e1
def Q75:=dY 0x10855f122f011c01031348f14f6728d34f8a5f8b14f885f875f58934f865f8714f939 Q74
def Qana:=dZ 0x2001b0201e0121223e80d80010020153a8001782297b0d20000000002001d07c5f00f9f1f004f807b300000000002001d10128ed090b80010120123d80010020153a80013822e8085e1211100f0e0a080604020d0c0b0a090807060504030201001813a800000000002001e0845f0109f280842083383f000000000020010ff001241800908131200000000002001e0805f0109f010113f80c807d51054204687a37af0000000002001e0024405c80f807741250440000000002001d00f00f112 .skip Q75
def Q7x:=dW 0x2001b0755f00d9f1f004d80743009000000002001c0765f00e9f01c76210342026873373f00000002001c0074405010020153a80017822d806b912502400000002001b00f00d110000002001a201289da80783668310000020019101289da8038366531 [Qana] [Q72,Q73]
def Q7y:=dZ 0x76100683e7836a1210002001701d0099f1f004980503009801664364f00002001902f0bda062b740f0b710f0f01b730f0b710f04b720f0b770f88b700fa8b700f000f06498059c1200002001808d00a9f01011398001042078805281014200684f34ff00020018005440501042078809804971250040002001700f009112 Q7x
def Q7z:=dZ 0x900200160105e56530141f122113104170047275d1f011c28004c02c28001782240a100200160201e0426701042015328001782288037a100200160201e032670103201532800178228802ea100200160201e0226701022015328001782288025a10020016106422f010120153280017822010120788088017c0ff0ff200200160690089f01531800178221351 Q7y Q71
def Qa0z:=dZ 0x902001510190d383611212001405700332f069f290321 Q7z Q70
theorem T1:mFn prog Nf 3 162 Qa0z Ip=true:=ZE
def Q2o:=dY 0x78383e001
def Q2p:=dY 0x15700332f031 Q2o
def Q2q:=dY 1638481
def Q2r:=dY 0x79383e001
def Qyw:=dY 0x99283e001
def Xb:=dW 0x72140157d3836182100230e80049f1f0044800d308002307f0041002230123a3d58048038361441133d0002500f0745801221000242012a2d48038360f31014200680c37002400344050152230085125004002300f00411202210157d436062101205700332f090121 [] [Q2p,Q2q,Q2r,Qyw]
theorem Y3:mFn prog NL 1 26 Xb CK=true:=ZE
def Qafu:=dW 0x29192af622012324803f684800f2834860f0003fa9a0f063440f03450f03410f003420f0153430f683400f03410f2823420f0003f2a0f022c40f682c00f0001241806801315f1230130290069f010f0130158420f51098201401f034016220c3122013117004727532f059f05601537001422076101200f0049f190221 [Q7u,Q7v,Q7w] [P1,IA]
theorem Qae4:mFn prog Qsy 2 44 Qafu Cp=true:=ZE
def Qt0:=dY 0x5700332f021
def Qt1:=dY 0xd8183e001
def Qt2:=dY 6881345
def Qt3:=dY 0xa90051
def Qt4:=dY 0x201e0123a72d3
def Qt5:=dY 0x601e0421b7423
def Qt6:=dY 0x19b01e0320b7403 Qt5
def Qt7:=dY 0xf0054e2
def Qty:=dW 0x6004df00001b03e0589f1f8d046320006004df00001b027f480b806130006004df500001c017f08f480b80380b805c61006004df500001c0bd00b9f0113135a3107420659b0006004df00001c0104459115064006004df00001b00f0050101139805805361 [] [] [fI 96 (.lup 0 (.c (.int .i64 0)) (.t 94) (.t 95)),.e none none (.upd 0 (.t 92) (.t 93) (.t 96)),.e none none (.del 0 (.t 97) (.t 98))]
def SE:=dZ 0x160120018245d5806521004df00001804e04f9f1ffc04642009004df300001902d0099f011313513105420450b0004df0000190104450115044004df00001810144d010420768049512 Qty Qt7
def Qtz:=dW 0x900000160105e370141f122170047275d1f011c48078044610000001725b01e022fa70104207780010320778001022077806806806802f12f18f18f200000017104422f0101207780010120768068023ad0df20000001702a0e90069f015348001182201533800118221baa0af2 [SE] [Qt4,Qt6]
def Qp8:=dY 0x9e283e001
def Qam0:=dW 0x72150133d18366820d220d01407e0119f1f190467200900001540143d18361921803618360b0001700f044480172120b00016301242d380183614310c00150390039f10132103420212b00d01501044121150240d01400f0050118220e41201450048201220133d18360c21c0121052f0111 [Qtz] [Qt0,Qt1,Qt2,Qt3,Qp8]
theorem Qal6:mFn prog Sk 1 106 Qam0 CK=true:=ZE
def Q7m:=dW 0x7022208f2160421012137132f090121 [] [IG,IF] [eI 5 (.call Sx [.t 4,.k (.c (.fn Sk []))])]
theorem Q57:mFn prog Ta 1 8 Q7m Iw=true:=ZE
def Q99:=dW 0x7022208f2160421012137132f090121 [] [IG,IF] [eI 5 (.call Kf [.t 4,.k (.c (.str [106,111,105,110]))])]
theorem Q6d:mFn prog SX 1 8 Q99 Iw=true:=ZE
def Qes:=dY 0x48281e001
def Qwf:=dZ 0x72110118d200321102037132f0211 .skip Qes
theorem Qvt:mFn prog Tp 1 5 Qwf CV=true:=ZE
end Y
end Go.AE
