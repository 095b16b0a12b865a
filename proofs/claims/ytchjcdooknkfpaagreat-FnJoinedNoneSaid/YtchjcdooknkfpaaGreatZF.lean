/- Part 6 of the proof: the engine, codes, walks and plain laws, each named where it stands. -/
import Derived.Test.YtchjcdooknkfpaaGreatZE
open Nat (reduceEqDiff reduceAdd reduceLeDiff reduceLT)
set_option linter.unusedVariables false
set_option linter.unusedSimpArgs false
set_option maxRecDepth 4000
set_option maxHeartbeats 16000000
open Bool renaming not_eq_false'->Ja8,and_eq_true->Jbc
open Int renaming le_refl->Jaw
open List renaming mem_singleton->Ja,getElem_mem->Jb,length_map->Jc,getD_eq_getElem?_getD->Jd,mem_append_right->Je,take_of_length_le->Jh,getElem?_eq_getElem->Ji,mem_append_left->Jj,mem_map->Jk,length_set->Jl,length_nil->Jm,length_cons->Jn,mem_flatMap->Jo,map_append->Jp,mem_iff_getElem->Jq,take_succ_eq_append_getElem->Jr,mem_append->Js,getElem_map->Jt,nodup_append->Ju,forall_mem_cons->Jv,mem_cons->Jw,getElem?_map->Jx,mem_or_eq_of_mem_set->Jy,map_congr_left->J1,map_set->J2,getD_cons_zero->J3,getElem_set->J5,not_mem_nil->J6,mem_range->J7,eraseIdx_set_eq->J8,getElem?_of_mem->J9,eq_of_mem_replicate->Jaa,flatMap_cons->Jab,getElem_set_self->Jac,nil_append->Jad,map_cons->Jae,cons_append->Jaf,ext_getElem->Jag,getD_cons_succ->Jah,nodup_cons->Jai,getElem_cons_succ->Jaj,length_eq_one_iff->Jak,map_map->Jam,perm_append_comm->Jan,set_getElem_self->Jao,set_set->Jap,mem_cons_of_mem->Jaq,idxOf_lt_length_of_mem->Jar,filter_append->Jas,length_append->Jat,mem_cons_self->Jau,getElem?_eq_some_iff->Jav,length_eq_zero_iff->Jax,length_take->Jaz,take_length->Ja0,getElem_cons_zero->Ja1,length_filter_le->Ja2,range_succ->Ja3,getElem?_set_ne->Ja4,mem_of_getElem?->Ja5,map_eq_nil_iff->Ja7,append_assoc->Ja9,getElem_take->Jba,mem_filter->Jbg,drop_zero->Jbh,take_zero->Jbi,map_id->Jbk
open List.Nodup renaming length_le_of_subset->Jal
open List.cons renaming injEq->Jbf
open Nat renaming zero_add->Jf,le_refl->Jg,add_sub_cancel_left->Jay,mul_le_mul_right->Ja6,le_trans->Jbb,le_add_right->Jbd,zero_lt_succ->Jbe,succ_mul->Jbj
open Option renaming getD_some->Jz,map_some->J0
open Option.some renaming inj->J4
namespace Go.AE.Y
attribute [local go_sem] cond_true cond_false Bool.not_true Bool.not_false
open Go.Proofs.Tryz
variable {H H0:Heap}{K:Uk}
theorem F4 {f g:Bool}{ns:List Int}(hK:K (.c (.bool true)) H):Qv prog Ku [.c (.sl f 1 (Qc ns)),.c (.sl g 1 (Qc ns))] H K:=by
 refine Qd A6 Yy ?_;refine Wg ?_;simp only[go_sem,Qb,decide_true];intro hl;try intro _
 simp only[LIM]at hl;refine Wu ?_ ?_
 ·intro h;simp at h
 intro _;refine Zd ?_
 refine Wa ?_;try intro _
 refine Qh (Qe (Qx (λm e1 H1=>∃(i:Nat),m=ns.length-i/\i<=ns.length/\H1=H/\lk 0 e1=.c (.sl f 1 (Qc ns))/\lk 1 e1=.c (.sl g 1 (Qc ns))/\lk 5 e1=Uv i) ns.length ?_ ?_))
 ·exact⟨0,ZA,ZA,rfl,rfl,rfl,rfl⟩
 ·rintro m e1 H1 ⟨i,hm,hi,rfl,l0,l1,l5⟩;refine Q1 (Qa ?_);simp only[go_sem,l0,l1,l5,Qb];try intro _
  refine Wu ?_ ?_
  ·intro hc;have af:i<ns.length:=ZD
   refine Zd ?_
   refine Qh (Qe ?_);refine AC ?_;simp only[go_sem,af,Qb,Qo _ _ af,decide_true];refine Wv ?_ ?_
   ·intro h;simp at h
   intro _;refine Zd ?_
   refine Zh ?_;refine⟨Qr,?_⟩;show ∃m,_;exact⟨ns.length-(i+1),ZA,i+1,rfl,ZA,rfl,rfl,rfl,rfl⟩
  ·intro hc;refine Wp ?_;exact hK
theorem Qaqy {p:BlkD}(hK:∀H',Upd H H' []->K (.c (.bool true)) H'):Qv prog Qtf [.ag p.cells,.ag p.cells] H K:=by
 refine Qz ?_;refine Qd A6 Qarb ?_;refine Qa ?_;simp only[go_sem,BlkD.cells];refine Q1 (Qa ?_);simp only[go_sem,Qy,Bm,decide_true];intro zC qH;simp only[LIM]at zC qH;refine F4 ?_;simp only[go_sem,Ql7];refine Wu ?_ ?_
 ·intro h;simp at h
 intro _;refine Zd ?_
 refine Wa ?_;refine Qh (Qe (Qx (λm e1 H1=>∃(i:Nat),m=p.ab.length-i/\i<=p.ab.length/\H1=H/\lk 2 e1=.c (.pp p.cells)/\lk 3 e1=.c (.pp p.cells)/\lk 5 e1=Uv i) p.ab.length ?_ ?_))
 ·exact⟨0,ZA,ZA,rfl,rfl,rfl,rfl⟩
 ·rintro m e1 H1 ⟨i,hm,hi,rfl,l2,l3,l5⟩;simp only[BlkD.cells]at l2 l3;refine Q1 (Qa ?_);simp only[go_sem,l2,l3,l5,Qy];try intro _
  refine Wu ?_ ?_
  ·intro hc;have af:i<p.ab.length:=ZD
   obtain⟨x,hx⟩:∃x,p.ab[i]=x:=⟨_,rfl⟩;refine Zd ?_
   refine Qh (Qe ?_);refine AC ?_;simp only[go_sem,af,Qy,BU _ _ af,hx,PhiD.cells,decide_true];refine F4 ?_;simp only[go_sem,Ql8];refine Wv ?_ ?_
   ·intro h;simp at h
   intro _;refine Zd ?_
   refine Zh ?_;refine⟨Qr,?_⟩;show ∃m,_;exact⟨p.ab.length-(i+1),ZA,i+1,rfl,ZA,rfl,rfl,rfl,rfl⟩
  ·intro hc;refine Zb ?_;refine Wa ?_;refine Qh (Qe (Qx (λm e1 H2=>∃(i:Nat),m=p.ins.length-i/\i<=p.ins.length/\Kn H1 H2 [] []/\lk 2 e1=.c (.pp p.cells)/\lk 3 e1=.c (.pp p.cells)/\lk 6 e1=Uv i) p.ins.length ?_ ?_))
   ·exact⟨0,ZA,ZA,.ao H1,rfl,rfl,rfl⟩
   ·clear l2 l3 l5;rintro m e1 H2 ⟨i,hm,hi,kn,l2,l3,l6⟩;simp only[BlkD.cells]at l2 l3;refine Q1 (Qa ?_);simp only[go_sem,l2,l3,l6,Bm];try intro _
    refine Wu ?_ ?_
    ·intro hc;have af:i<p.ins.length:=ZD;obtain⟨x,hx⟩:∃x,p.ins[i]=x:=⟨_,rfl⟩;refine Zd ?_
     refine Wb ?_;simp only[go_sem,af,Bm,DJ _ _ af,hx,InsD.cells];intro x7 b7 H3 h3;have kn:=kn.al b7 h3;have b7:=kn.l 0 rfl;simp only[go_sem,Ql9,b7];intro H4 h4;have kn:Kn H1 H4 [] [(x7,.st x.cells)]:=kn.aA 0 rfl h4;refine Qa ?_;simp only[go_sem,af,Bm,DJ _ _ af,hx,InsD.cells];intro x8 be H5 h5;have kn:=kn.al be h5;have be:=kn.l 1 rfl;simp only[go_sem,Qma,be];intro H6 h6;have kn:Kn H1 H6 [] [(x7,.st x.cells),(x8,.st x.cells)]:=kn.aA 1 rfl h6;have b7:H6 x7=.st x.cells:=kn.l 0 rfl;have be:H6 x8=.st x.cells:=kn.l 1 rfl;refine Qa ?_;simp only[go_sem,b7,be,InsD.cells,decide_true];refine F4 ?_;simp only[go_sem,Qmb];refine Wv ?_ ?_
     ·intro h;simp at h
     intro _;refine Zd ?_
     refine Zh ?_;refine⟨Qr,?_⟩;show ∃m,_;exact⟨p.ins.length-(i+1),ZA,i+1,rfl,ZA,Kn.drop (A:=[]) (B:=[(x7,_),(x8,_)]) kn,rfl,rfl,rfl⟩
    ·intro hc;refine Wp ?_;exact⟨_,.c _ _ (Qg rfl),hK _ kn.fin⟩
theorem Qawk {p:CodeD}(hK:∀H',Upd H H' []->K (.c (.bool true)) H'):Qv prog Qxx [.ag p.cells,.ag p.cells] H K:=by
 refine Qz ?_;refine Qd A6 Qawz ?_;refine Qa ?_;simp only[go_sem,CodeD.cells];refine Q1 (Qa ?_);simp only[go_sem,Ql,decide_true];intro hl;try intro _
 simp only[LIM]at hl;refine Wu ?_ ?_
 ·intro h;simp at h
 intro _;refine Zd ?_
 refine Wa ?_;refine Qh (Qe (Qx (λm e1 H1=>∃(i:Nat),m=p.blocks.length-i/\i<=p.blocks.length/\Kn H H1 [] []/\lk 2 e1=.c (.pp [Ui p.params,Ui p.ae,.sl false 5 (Qm p.blocks)])/\lk 3 e1=.c (.pp [Ui p.params,Ui p.ae,.sl false 5 (Qm p.blocks)])/\lk 5 e1=Uv i) p.blocks.length ?_ ?_))
 ·exact⟨0,ZA,ZA,.ao H,rfl,rfl,rfl⟩
 ·rintro m e1 H1 ⟨i,hm,hi,kn,l2,l3,l5⟩;refine Q1 (Qa ?_);simp only[go_sem,l2,l3,l5,Ql];try intro _
  refine Wu ?_ ?_
  ·intro hc;have af:i<p.blocks.length:=ZD
   obtain⟨x,hx⟩:∃x,p.blocks[i]=x:=⟨_,rfl⟩;refine Zd ?_
   refine Qh (Qe ?_);refine AC ?_;simp only[go_sem,af,Ql,Q9 _ _ af,hx,BlkD.cells];refine Qaqy (p:=x) λH2 hu=>?_;have kn:=kn.au hu;simp only[go_sem,Qq5];refine Wv ?_ ?_
   ·intro h;simp at h
   intro _;refine Zd ?_
   refine Zh ?_;refine⟨Qr,?_⟩;show ∃m,_;exact⟨p.blocks.length-(i+1),ZA,i+1,rfl,ZA,kn,rfl,rfl,rfl⟩
  ·intro hc;refine Wp ?_;exact⟨_,.c _ _ (Qg rfl),hK _ kn.fin⟩
theorem Rg {f g:Bool}{cs:List CodeD}(hK:∀H',Upd H H' []->K (.c (.bool true)) H'):Qv prog Qoc [.ag [.sl f 3 (Qn cs)],.ag [.sl g 3 (Qn cs)]] H K:=by
 refine Qz ?_;refine Qd A6 Qai2 ?_;refine Wg ?_;simp only[go_sem,Q5,decide_true];intro hl;try intro _
 simp only[LIM]at hl;refine Wu ?_ ?_
 ·intro h;simp at h
 intro _;refine Zd ?_
 refine Wa ?_;refine Qh (Qe (Qx (λm e1 H1=>∃(i:Nat),m=cs.length-i/\i<=cs.length/\Kn H H1 [] []/\lk 2 e1=.c (.pp [.sl f 3 (Qn cs)])/\lk 3 e1=.c (.pp [.sl g 3 (Qn cs)])/\lk 5 e1=Uv i) cs.length ?_ ?_))
 ·exact⟨0,ZA,ZA,.ao H,rfl,rfl,rfl⟩
 ·rintro m e1 H1 ⟨i,hm,hi,kn,l2,l3,l5⟩;refine Q1 (Qa ?_);simp only[go_sem,l2,l3,l5,Q5];try intro _
  refine Wu ?_ ?_
  ·intro hc;have af:i<cs.length:=ZD
   obtain⟨x,hx⟩:∃x,cs[i]=x:=⟨_,rfl⟩;refine Zd ?_
   refine Qh (Qe ?_);refine AC ?_;simp only[go_sem,af,Q5,Cg _ _ af,hx,CodeD.cells];refine Qawk (p:=x) λH2 hu=>?_;have kn:=kn.au hu;simp only[go_sem,Qjr];refine Wv ?_ ?_
   ·intro h;simp at h
   intro _;refine Zd ?_
   refine Zh ?_;refine⟨Qr,?_⟩;show ∃m,_;exact⟨cs.length-(i+1),ZA,i+1,rfl,ZA,kn,rfl,rfl,rfl⟩
  ·intro hc;refine Wp ?_;exact⟨_,.c _ _ (Qg rfl),hK _ kn.fin⟩
end Go.AE.Y
namespace Go.AE.Y
attribute [local go_sem] cond_true cond_false Bool.not_true Bool.not_false
attribute [local instance] Classical.propDecidable
open Go.Proofs.Tryz
variable {H H0:Heap}{K:Uk}{fl:Bool}{cs:List CodeD}
theorem Mg {f:CodeD->CodeD}:∀{l:List CodeD},(∀c∈l,AI (f c)<=AI c)->AL AI (l.map f)<=AL AI l
 |[],_=>by simp[AL]
 |c::l,h=>by
  have h1:=h c Jau;have h2:=Mg (f:=f) λx hx=>h x (Jaq _ hx);simp only[AL,Jae,List.sum_cons]at h2⊢;omega
end Go.AE.Y
namespace Go.AE.Y
attribute [local instance] Classical.propDecidable
variable {cs:List CodeD}{q:CodeD}
noncomputable def jnD (q:CodeD):CodeD:=AZ (jnE (AZ q))
theorem VG:cs.map jnD=((cs.map AZ).map (Nat.repeat jn1 160)).map AZ:=by
 rw[Jam,Jam];refine J1 λq _=>?_;simp only[Function.comp_apply,jnD,jnE]
theorem F7 (hg:AN cs=true):AN (cs.map jnD)=true:=by
 rw[VG];exact GR (Pj (GR hg) 160)
end Go.AE.Y
namespace Go.AE.Y
open Go.Proofs.Tryz
variable {H H0 H':Heap}{K:Uk}{E L A:Ul}{q:CodeD}
theorem HM {S:Nat->Bool}{H3:Heap}{Lg R:Ul}{sz:Nat}{rows rows':List (List C)}{c:C}(g:Gr Lg sz rows c)(hf:FrzH H S H3)(hl:∀p∈Lg,H p.1=p.2/\S p.1=false)(hr:FrzR H S rows rows')(hn:rows'.length=rows.length)
  (bx:∀r∈rows,Go.AE.ak r=true) (kn:Kn H0 H3 E (Lg++R)):∃(H4:Heap) (Lg':Ul),FrzH H S H4/\Gr Lg' sz rows' c/\Kn H0 H4 E (Lg'++R):=by
 rcases g with ⟨h1,h2,h3⟩|⟨z,h1,h2⟩
 ·rw[h2]at hn;have:rows'=[]:=Jax.1 hn;subst this;subst h1;subst h3;exact⟨H3,[],hf,.nil sz,kn⟩
 ·subst h2;obtain⟨pB,hz2⟩:=hl (z,.vec sz rows) ZC;have ng:=hf.set (o:=.vec sz rows') hz2 (by rw[pB];exact .vecR hr bx);have kn:=kn.setL (o':=.vec sz rows') 0 rfl ZC;refine⟨_,[(z,.vec sz rows')],ng,?_,kn⟩;rw[h1];exact .mk _ _ _ hn.symm
theorem If {S:Nat->Bool}:∀(bs:List OBlk) {H3:Heap} {R:Ul},FrzH H S H3->(∀b∈bs,b.ok/\Held H S (b.ab.flatMap OPhi.lg++b.ins.flatMap OIns.lg)/\∀p∈b.pl++b.il,H p.1=p.2/\S p.1=false)->Kn H0 H3 E (R++bs.flatMap λb=>b.pl++b.il)->
  ∃(H4:Heap) (ks:List JB),FrzH H S H4/\ks.map JB.y=bs.map OBlk.d/\(ks.map λk=>(k.pc,k.ic,k.fl))=(bs.map λb=>(b.pc,b.ic,false))/\(∀k∈ks,k.ok)/\Kn H0 H4 E (R++ks.flatMap JB.lg)
 |[],H3,R,hf,_,kn=>⟨H3,[],hf,rfl,rfl,ZC,ZL⟩
 |b::bs,H3,R,hf,hb,kn=>by
  obtain⟨aw,rr,cQ⟩:=hb b Jau;rw[Jab]at kn;have kn:Kn H0 H3 E (b.pl++(b.il++(R++bs.flatMap λb=>b.pl++b.il))):=kn.perm (Qj λf hf h0 hc hp=>by simp only[Ui,hf];omega);obtain⟨H4,pl,f1,g1,kn⟩:=HM aw.p hf (λp hp=>cQ p (Jj _ hp)) (Ks aw.a rr.l) (by simp[Qy]) (λr hr=>by
   obtain⟨p,hp,rfl⟩:=Jk.1 hr;exact p.ak (aw.a p hp)) kn
  have kn:Kn H0 H4 E (b.il++((R++pl)++bs.flatMap λb=>b.pl++b.il)):=kn.perm (Qj λf hf h0 hc hp=>by simp only[Ui,hf];omega);obtain⟨H5,il,f2,g2,kn⟩:=HM aw.i f1 (λp hp=>cQ p (Je _ hp)) (I5 rr.r) (by simp[Bm]) (λr hr=>by
   obtain⟨p,hp,rfl⟩:=Jk.1 hr;exact p.ak) kn
  have kn:Kn H0 H5 E ((R++(pl++il))++bs.flatMap λb=>b.pl++b.il):=kn.perm (Qj λf hf h0 hc hp=>by simp only[Ui,hf];omega);obtain⟨H6,ks,h1,h2,h3,h4,h5⟩:=If bs f2 (λx hx=>hb x (Jaq _ hx)) kn;refine⟨H6,⟨b.d,b.pc,pl,b.ic,il,false⟩::ks,h1,by simp[h2],by simp[h3],λk hk=>?_,h5.perm (Qj λf hf h0 hc hp=>by
   rw[Jab];show _=f (R++((pl++il)++ks.flatMap JB.lg));simp only[Ui,hf];omega)⟩
  rcases Jw.1 hk with rfl|hk
  ·exact⟨g1,g2⟩
  ·exact h4 k hk
theorem JB.rows_eq:∀{ks:List JB} {bs:List OBlk},ks.map JB.y=bs.map OBlk.d->(ks.map λk=>(k.pc,k.ic,k.fl))=(bs.map λb=>(b.pc,b.ic,false))->ks.map JB.row=bs.map λb=>[b.pc,b.ic,Ui b.jump,Ui b.on,.sl false 1 (Qc b.nx.ns)]
 |[],[],_,_=>rfl
 |[],_::_,h,_=>ZH
 |_::_,[],h,_=>ZH
 |k::ks,b::bs,h1,h2=>by
  simp only[Jae,Jbf,Prod.mk.injEq]at h1 h2⊢;obtain⟨⟨e1,e2,e3⟩,h2⟩:=h2;refine⟨?_,JB.rows_eq h1.2 h2⟩;rw[JB.row,h1.1,e1,e2,e3];rfl
theorem YD (hq:q.sg)(hb:0<q.blocks.length)(hK:∀z (ks:List JB) H',ks.map JB.y=q.blocks->(∀k∈ks,k.ok)->Kn H H' [] ([(z,.vec 5 (ks.map JB.row))]++ks.flatMap JB.lg)->K (.ag [Ui q.params,Ui q.ae,.ai z 5 0 q.blocks.length]) H') :
  Qv prog Ow [.ag q.cells] H K:=by
 refine CG (Pi hq λo H' kn aw hd _=>?_);have bk:o.blocks.length=q.blocks.length:=by rw[<-hd];simp[OCode.d]
 have mY:o.params=q.params:=Zbi
 have iM:o.ae=q.ae:=Zbi
 have uh:o.blocks.map OBlk.d=q.blocks:=Zbi
 rcases aw.b with ⟨h1,h2,h3⟩|⟨z,h1,h2⟩
 ·have:=congrArg List.length h2;simp only[Jc,Jm]at this;omega
 ·have qg:∀(l:List OBlk) (f:Ul->Nat) (hf:∀a b,f (a++b)=f a+f b),f []=0->f (l.flatMap OBlk.lg)=f (l.flatMap λb=>b.pl++b.il)+f (l.flatMap λx=>x.nx.lg++(x.ab.flatMap OPhi.lg++x.ins.flatMap OIns.lg)):=λl f hf h0=>by
   induction l with
   |nil=>simp[h0]
   |cons x l ih=>simp only[Ui,Jab,hf,OBlk.lg,ih];omega
  have kn:Kn H H' [] (([(z,.vec 5 (o.blocks.map OBlk.row))]++o.blocks.flatMap λb=>b.pl++b.il)++o.blocks.flatMap λx=>x.nx.lg++(x.ab.flatMap OPhi.lg++x.ins.flatMap OIns.lg)):=kn.perm (Qj λf hf h0 hc hp=>by
   have:=qg o.blocks f hf h0;rw[OCode.lg,h2];simp only[Ui,hf]at this⊢;omega)
  obtain⟨S,hS,hB,eK,kn2⟩:=kn.cw;have hz:=hB (z,.vec 5 (o.blocks.map OBlk.row)) ZC;obtain⟨H4,ks,g1,g2,g3,g4,kn2⟩:=If (E:=[]) o.blocks eK (λb hb=>⟨aw.bs b hb,λp hp=>hS p (Jo.2 ⟨b,hb,Je _ hp⟩),λp hp=>hB p (Je _ (Jo.2 ⟨b,hb,hp⟩))⟩) kn2;have cL:=JB.rows_eq g2 g3;have ey:FrzR H' S (o.blocks.map OBlk.row) (ks.map JB.row):=by
   rw[cL];refine Dm o.blocks λx hx=>?_;have hh:Held H' S (x.nx.lg++(x.ab.flatMap OPhi.lg++x.ins.flatMap OIns.lg)):=λp hp=>hS p (Jo.2 ⟨x,hx,hp⟩);exact .cons (.same _ (aw.bs x hx).p.ah) (.cons (.same _ (aw.bs x hx).i.ah) (.cons (Qg rfl) (.cons (Qg rfl) (.cons (x.nx.frz hh.l) .nil))))
  have f1:=g1.set (o:=.vec 5 (ks.map JB.row)) hz.2 (by
   rw[hz.1];exact FrzO.vecR ey (λr hr=>by obtain⟨x,hx,rfl⟩:=Jk.1 hr;exact x.ak (aw.bs x hx)))
  have kn2:=kn2.setL (o':=.vec 5 (ks.map JB.row)) 0 rfl ZC;refine⟨S,_,_,?_,f1,hK z ks _ (g2.trans uh) g4 kn2⟩;refine FrzL.ag ?_;rw[OCode.row,mY,iM,h1,Jc,bk];exact .cons (Qg rfl) (.cons (Qg rfl) (.cons (.same _ rfl) .nil))
end Go.AE.Y
namespace Go.AE.Y
open Go.Proofs.Tryz
def Pt:=dY 0xb8585e001
def NP:=dZ 0x874107f004110e3
def Gt:=dY 0x3f5a1f034840f04850f283
def NO:=dZ 0x874107f004112a3
def NN:=dZ 0x7410ba0049f6802b21
def Qa8k:=dZ 0x19092af6210126f4803f684800f2834860f0003fa9a0f063440f03450f03410f003420f0153430f683400f03410f2823420f0003f2a0f022c40f682c00f0001241806801315f12 NO Gt NN
def Qa8l:=dZ 0x930130290069f010f0130158420f51 Qa8k
def Qa8m:=dZ 0x19098201401f034016220c312 NP [] Qa8l
def Qa8n:=dZ 0x92013117004727532f059f056015370014220761 Qa8m Pt
def Qbm5:=dZ 0x901200f0049f190221 Qa8n
theorem Qblj:mFn prog Lt 2 44 Qbm5 A7=true:=ZE
def Nt:=dY 0x15700332f071 Pr
def Ns:=dY 0x201e012797233
def Nr:=dY 8257713
def Nq:=dY 0xae00c1
def Qbgo:=dZ 0x800000000002001e0845f0109f2808420833
def Np:=dY 0x965f00e1
def No:=dY 0x10855f122f011c01031348f14f6728d34f8a5f8b14f885f875f58934f865f8714f939 Np
def Qbgp:=dZ 0x2001d101274d090b80010120123d80010020153a80013822e8085e1211100f0e0a080604020d0c0b0a090807060504030201001813a .skip No
def Qbgq:=dZ 0x190983f000000000020010ff0012418009081312 Qbgo [] Qbgp
def Qa8o:=dZ 0x2001d07c5f00f9f1f004f807b30
def Qa8p:=dZ 0x190900000000002001e0805f0109f010113f80c807d510542 Qbgq [] Qa8o
def Qa18:=dZ 0x904687a37af0000000002001e0024405c80f8077412 Qa8p
def Qa8q:=dZ 0x2001b0201e0121223e80d80010020153a8001782297b0d2
def Qa8r:=dZ 0x190950440000000002001d00f00f112 Qa18 [] Qa8q
def Qa8s:=dZ 0x2001b0755f00d9f1f004d807430
def Qa8t:=dZ 0x1909000000002001c0765f00e9f01c76210342 Qa8r [] Qa8s
def Qa19:=dZ 0x9026873373f00000002001c0074405010020153a80017822d806b912 Qa8t
def Qa8u:=dZ 0x9502400000002001b00f00d11 Qa19
def Qa8v:=dZ 0x90000002001a10126fda8078366831 Qa8u Nq
def Nw:=dZ 0x9000002001910126fda8038366531 Qa8v Nr
def Qa8w:=dZ 0x9801664364f00002001902f0bda062b740f0b710f0f01b730f0b710f04b720f0b770f88b700fa8b700f000f06498059c12 Nw
def Qa8x:=dZ 0x2001701d0099f1f0049805030
def Qa8y:=dZ 0x190900002001808d00a9f010113980010420788052810142 Qa8w [] Qa8x
def Qa2a:=dZ 0x900684f34ff000200180054405010420788098049712 Qa8y
def Qa8z:=dZ 0x76100683e7836a121
def Nv:=dZ 0x190950040002001700f009112 Qa2a [] Qa8z
def Qa80:=dZ 0x900200160105e56530141f122113104170047275d1f011c28004c02c28001782240a1 Nv
def Qa81:=dZ 0x900200160201e0426701042015328001782288037a1 Qa80
def Qa82:=dZ 0x900200160201e032670103201532800178228802ea1 Qa81
def Qa83:=dZ 0x900200160201e0226701022015328001782288025a1 Qa82
def Qa84:=dZ 0x90020016106422f010120153280017822010120788088017c0ff0ff2 Qa83 Ns
def Nu:=dZ 0x900200160690089f01531800178221351 Qa84
def Qa85:=dZ 0x902001510176d38361121 Nu Nt
def XV:=dZ 0x92001405700332f069f290321 Qa85
theorem Y6:mFn prog K2 3 162 XV Gm=true:=ZE
def Q43:=dY 0x78383e001
def Q44:=dY 0x15700332f031 Q43
def Q45:=dY 1638481
def Q46:=dY 0x79383e001
def Qa8c:=dZ 0x2307f00410
def Qa8d:=dZ 0x8090221012389d58048038361441133 Qa8c Q46
def Qa8e:=dZ 0x9d0002500f0745801221 Qa8d
def Qa8f:=dZ 0x230e80049f1f0044800d30
def Qa8g:=dZ 0x190900024101288d48038360f310142 Qa8e Q45 Qa8f
def Qa17:=dZ 0x900680c3700240034405015223008512 Qa8g
def Qz9:=dY 0x99283e001
def Qa14:=dZ 0x72110145d38361821 .skip Qz9
def Qa15:=dZ 0x19095004002300f004112 Qa17 [] Qa14
def Qa16:=dZ 0x902210145d4360621 Qa15 Q44
def Qbm4:=dZ 0x901205700332f090121 Qa16
theorem Qbli:mFn prog Lu 1 26 Qbm4 Bf=true:=ZE
def Qacn:=dZ 0x19092af621012094803f684800f2834860f0003fa9a0f063440f03450f03410f003420f0153430f683400f03410f2823420f0003f2a0f022c40f682c00f0001241806801315f12 NO Gt NN
def Qaco:=dZ 0x930130290069f010f0130158420f51 Qacn
def Qacp:=dZ 0x19098201401f034016220c312 NP [] Qaco
def Qacq:=dZ 0x92013117004727532f059f056015370014220761 Qacp Pt
def Qar2:=dZ 0x901200f0049f190221 Qacq
theorem Qaq6:mFn prog Qta 2 44 Qar2 A7=true:=ZE
def Qt9:=dY 0x5700332f021
def Qua:=dY 0xd8183e001
def Qub:=dY 6881345
def Quc:=dY 0xa90051
def Qud:=dY 0x201e0123a72d3
def Que:=dY 0x601e0421b7423
def Quf:=dY 0x19b01e0320b7403 Que
def Qug:=dY 0xf0054e2
def Qar3:=dW 0x6004df00001b007f480b806130 [] [] [.e none none (.del 0 (.t 97) (.t 98))]
def Qar4:=dW 0x9006004df500001c017f08f480b80380b805c61 [Qar3] [] [fI 96 (.lup 0 (.c (.int .i64 0)) (.t 94) (.t 95)),.e none none (.upd 0 (.t 92) (.t 93) (.t 96))]
def Qaj1:=dZ 0x6004df00001b03e0589f1f8d046320
def Qaj2:=dZ 0x1909006004df500001c0bd00b9f0113135a310742 Qar4 [] Qaj1
def Qacr:=dZ 0x90659b0006004df00001c010445911 Qaj2
def Qt7:=dZ 0x95064006004df00001b00f0050101139805805361 Qacr
def Qaj3:=dZ 0x4df00001804e04f9f1ffc046420
def Qaj4:=dZ 0x1909004df300001902d0099f01131351310542 Qt7 [] Qaj3
def Qacs:=dZ 0x90450b0004df000019010445011 Qaj4
def Qaj5:=dZ 0x160120018227d5806521
def Rn:=dZ 0x19095044004df00001810126d010420768049512 Qacs Qug Qaj5
def Qaj6:=dZ 0x900000160105e370141f122170047275d1f011c4807804461 Rn
def Qaj7:=dZ 0x90000001715b01e022fa70104207780010320778001022077806806806802f12f18f18f2 Qaj6 Quf
def Qaj8:=dZ 0x900000017104422f0101207780010120768068023ad0df2 Qaj7 Qud
def Qt8:=dZ 0x90000001702a0e90069f015348001182201533800118221baa0af2 Qaj8
def Qaj9:=dZ 0x900001510125d18361921 Qt8 Quc
def Qaka:=dZ 0x9803618360b0001700f04448017212 Qaj9
def Qakb:=dZ 0x90b00016101224d38018361431 Qaka Qub
def Qakc:=dZ 0xd01407e0119f1f19046720
def Qakd:=dZ 0x19090c00150390039f1013210342 Qakb [] Qakc
def Qact:=dZ 0x90212b00d015010441211 Qakd
def Qo4:=dY 0x9e283e001
def Qake:=dZ 0x72110123d18366820d22 .skip Qo4
def Qacu:=dZ 0x190950240d01400f0050118220e412014 Qact [] Qake
def Qakf:=dZ 0x950048201210123d18360c21c Qacu Qua
def Qa6a:=dZ 0x90121052f0111 Qakf Qt9
theorem Qa5g:mFn prog PY 1 106 Qa6a Bf=true:=ZE
def Q1l:=dW 0x7022108f2160421 [] [G0] [eI 5 (.call Rk [.t 4,.k (.c (.fn PY []))])]
def Qab9:=dZ 0x9012137132f090121 Q1l G1
theorem Qaat:mFn prog Qk5 1 8 Qab9 Gu=true:=ZE
def Q19:=dW 0x7022108f2160421 [] [G0] [eI 5 (.call Hh [.t 4,.k (.c (.str [106,111,105,110]))])]
def Qah2:=dZ 0x9012137132f090121 Q19 G1
theorem Qaav:mFn prog Qk7 1 8 Qah2 Gu=true:=ZE
def Qdw:=dY 0x48281e001
def Qrw:=dZ 0x72110110d200321 .skip Qdw
def Qxa:=dZ 0x9102037132f0211 Qrw
theorem Qv6:mFn prog Qe8 1 5 Qxa AG=true:=ZE
end Go.AE.Y
namespace Go.AE.Y
attribute [local go_sem] cond_true cond_false Bool.not_true Bool.not_false
attribute [local instance] Classical.propDecidable
open Go.Proofs.Tryz
variable {H H0 H':Heap}{K:Uk}{q:CodeD}{bc:C}{rows:List (List C)}{L:Ul}
noncomputable def jnV (q:CodeD)(b:Nat):Int:=if JnP q b (skT q b).toNat then skT q b else -1
theorem GZ {g:Nat->List Int}{v:Int}{m b:Nat}(hb:b<m)(hv:v∈g b):(Qp g v m).length=1↔∀i,i<m->v∈g i->i=b:=by
 have hm:=mem_preds.2 ⟨hb,hv⟩;constructor
 ·intro h i hi hvi;obtain⟨x,hx⟩:=Jak.1 h;have h1:=mem_preds.2 ⟨hi,hvi⟩;rw[hx]at hm h1;have h2:=Ja.1 hm;have h3:=Ja.1 h1;omega
 ·intro h;have cM:=GP g v m;refine Nat.le_antisymm ?_ (List.length_pos_of_mem hm);refine Classical.byContradiction λhl=>?_;obtain⟨x,y,l,hx⟩:∃x y l,Qp g v m=x::y::l:=by
   match Qp g v m,hl with
   |[],hl=>simp at hl
   |[x],hl=>simp at hl
   |x::y::l,_=>exact⟨x,y,l,rfl⟩
  have key:∀z∈Qp g v m,z=(b:Int):=λz hz=>by
   have cV:=hz;rw[Qp,Jk]at cV;obtain⟨j,hj,rfl⟩:=cV;have:=mem_preds.1 hz;have:=h j this.1 this.2;show (j:Int)=b;omega
  rw[hx]at cM key;have h1:=key x ZC;have h2:=key y ZC;rw[h1,h2]at cM;simp at cM
theorem Qbkp {b : Nat} (h : RwR H q bc rows) (hb : b < q.blocks.length) (ho : q.ok) (hj : ((Qt q b).next.length : Int) = Bd (Qt q b).jump) (hK : ∀ H', Upd H H' [] -> K (Uv (jnV q b)) H') :
    Qv prog Lt [.ag [Ui q.params, Ui q.ae, bc], Uv b] H K := by
  have hl := ho.b1;obtain ⟨a1, a2, fl, aC, o1, o2, cn⟩ := h.x b hb;have bt := h.ow;have aw := eq_true h.s.ok;have am := h.s.len;have bj := h.s.sz;have cL := h.s.rows;have ce := h.n;refine Qz ?_;refine Qd A6 Qblj ?_;refine Qa ?_;simp only [go_sem];refine Qa ?_;simp only [go_sem, bt, aw, am, bj, cL, ce, hb, aC, o1, o2];intro x5 bm H1 h1;have kn := (Kn.ao H).al bm h1;have bm := kn.l 0 rfl;simp only [go_sem, Pt, bm];intro H2 h2;have kn := kn.aA 0 rfl h2;have bm := kn.l 0 rfl;refine Q1 (Qa ?_);simp only [go_sem, bm];try intro _
  refine Wu ?_ ?_
  · intro hc;have hn : ¬ JnP q b (skT q b).toNat := λh => (by have := h.j; simp [this] at hc);refine Qa ?_;simp only [go_sem];refine Qk ?_;simp only [go_sem, Q7, A5, A7, Ja, forall_eq, RS.op];have := hK _ kn.fin;rw [jnV, if_neg hn] at this;exact ⟨_, .c _ _ (Qg rfl), this⟩
  · intro hc;have kB : (Qt q b).jump = 1 := ZD;have cN : (Qt q b).next.length = 1 := by
      rw [kB] at hj;simp [Bd] at hj; omega
    have pw : 0 < (Qt q b).next.length := ZA;have b6 := Qo (Qt q b).next 0 pw;have sM : (Qt q b).next.getD 0 0 = skT q b := rfl;rw [sM] at b6;have eC := (ho.bs b hb).nx (skT q b) ZaC;obtain ⟨m, hm⟩ : ∃ m : Nat, skT q b = m := ⟨(skT q b).toNat, by omega⟩;have dy : m < q.blocks.length := ZA;have kx : (Qt q b).next = [(m : Int)] := by
      obtain ⟨x, hx⟩ := Jak.1 cN;rw [skT, hx] at hm;rw [hx, <- hm]; rfl
    have ka : (m : Int) ∈ gnx q b := (by rw [Bq hb, kx]; simp);have hV : jnV q b = if (¬ m = b /\ (Qt q m).ab = [] /\ (Qp (gnx q) (m : Int) q.blocks.length).length = 1) then (m : Int) else -1 := by
      have vZ : (skT q b).toNat = m := ZA;rw [jnV, vZ, hm];by_cases hh : ¬ m = b /\ (Qt q m).ab = [] /\ (Qp (gnx q) (m : Int) q.blocks.length).length = 1
      · rw [if_pos hh, if_pos];exact ⟨hb, dy, hh.1, by omega, kB, kx, hh.2.1, (GZ hb ka).1 hh.2.2⟩
      · rw [if_neg hh, if_neg];exact λhp => hh ⟨hp.ne, hp.ph, (GZ hb ka).2 hp.pr⟩
    rw [hm] at b6;rw [hV] at hK;have hR := h.keep0 kn;obtain ⟨b1, b2, fl2, lK, q1, q2, dk⟩ := hR.x m dy;have aw := eq_true hR.s.ok;have cL := hR.s.rows;have fd := eq_true dk.ok;have me := dk.len;refine Qi ?_;try simp only [go_sem]
    refine Qa ?_;simp only [go_sem, bm, cN, Qb, b6];refine ⟨Jaw 0, ?_⟩;refine Q1 (Qa ?_);have jU : decide ((m : Int) = 0) = false := decide_eq_false ZA;simp only [go_sem, bt, bm, aw, am, bj, cL, ce, dy, lK, q1, q2, fd, me, Qy, jU];intro _;refine ⟨λbn => ?_, λbn => ?_⟩
    · have dc : ¬ m = b /\ (Qt q m).ab = [] := by
        by_cases h1 : (m : Int) = (b : Int)
        · rw [h1] at bn; simp at bn
        · rw [decide_eq_false h1] at bn;refine ⟨ZA, List.eq_nil_of_length_eq_zero ?_⟩;have : ((Qt q m).ab.length : Int) = 0 := ZR;omega
      refine LH (nx := gnx q) hR.s bt hR.hx λH3 hu => ?_;have kn := kn.au hu;rw [ce];have d1 : decide ((m : Int) = (b : Int)) = false := decide_eq_false ZA;have d2 : decide (0 < ((Qt q m).ab.length : Int)) = false := decide_eq_false (by rw [dc.2]; simp);simp only [go_sem, Gt, d1, d2, Qb];intro _;refine Wu ?_ ?_
      · intro eU;refine Qa ?_;simp only [go_sem];refine Qk ?_;simp only [go_sem, Q7, A5, A7, Ja, forall_eq, RS.op];have := hK _ kn.fin;rw [if_neg (λhh => by rw [hh.2.2] at eU; simp at eU)] at this;exact ⟨_, .c _ _ (Qg rfl), this⟩
      · intro eU;refine Qi ?_;try simp only [go_sem]
        refine Qa ?_;simp only [go_sem];refine Qk ?_;simp only [go_sem, Q7, A5, A7, Ja, forall_eq, RS.op];have := hK _ kn.fin;rw [if_pos ⟨dc.1, dc.2, by have : ((Qp (gnx q) (m : Int) q.blocks.length).length : Int) = 1 := (by simpa using eU);omega⟩] at this
        exact ⟨_, .c _ _ (Qg rfl), this⟩
    · have hn : ¬ (¬ m = b /\ (Qt q m).ab = [] /\ (Qp (gnx q) (m : Int) q.blocks.length).length = 1) := λhh => by
        rw [decide_eq_false (λh => hh.1 ZA), hh.2.1] at bn;simp at bn
      rw [if_neg hn] at hK;simp only [go_sem, Gt, bn];rw [Ja8] at bn;refine Wu ?_ ?_
      · intro eU;refine Qa ?_;simp only [go_sem];refine Qk ?_;simp only [go_sem, Q7, A5, A7, Ja, forall_eq, RS.op];exact ⟨_, .c _ _ (Qg rfl), hK _ kn.fin⟩
      · intro eU;rw [bn] at eU;simp at eU
theorem Qbff {b : Nat} (h : RwR H q bc rows) (hb : b < q.blocks.length) (ho : q.ok) (hj : ((Qt q b).next.length : Int) = Bd (Qt q b).jump) (hK : ∀ H', Upd H H' [] -> K (Uv (jnV q b)) H') :
    Qv prog Qta [.ag [Ui q.params, Ui q.ae, bc], Uv b] H K := by
  have hl := ho.b1;obtain ⟨a1, a2, fl, aC, o1, o2, cn⟩ := h.x b hb;have bt := h.ow;have aw := eq_true h.s.ok;have am := h.s.len;have bj := h.s.sz;have cL := h.s.rows;have ce := h.n;refine Qz ?_;refine Qd A6 Qaq6 ?_;refine Qa ?_;simp only [go_sem];refine Qa ?_;simp only [go_sem, bt, aw, am, bj, cL, ce, hb, aC, o1, o2];intro x5 bm H1 h1;have kn := (Kn.ao H).al bm h1;have bm := kn.l 0 rfl;simp only [go_sem, Pt, bm];intro H2 h2;have kn := kn.aA 0 rfl h2;have bm := kn.l 0 rfl;refine Q1 (Qa ?_);simp only [go_sem, bm];try intro _
  refine Wu ?_ ?_
  · intro hc;have hn : ¬ JnP q b (skT q b).toNat := λh => (by have := h.j; simp [this] at hc);refine Qa ?_;simp only [go_sem];refine Qk ?_;simp only [go_sem, Q7, A5, A7, Ja, forall_eq, RS.op];have := hK _ kn.fin;rw [jnV, if_neg hn] at this;exact ⟨_, .c _ _ (Qg rfl), this⟩
  · intro hc;have kB : (Qt q b).jump = 1 := ZD;have cN : (Qt q b).next.length = 1 := by
      rw [kB] at hj;simp [Bd] at hj; omega
    have pw : 0 < (Qt q b).next.length := ZA;have b6 := Qo (Qt q b).next 0 pw;have sM : (Qt q b).next.getD 0 0 = skT q b := rfl;rw [sM] at b6;have eC := (ho.bs b hb).nx (skT q b) ZaC;obtain ⟨m, hm⟩ : ∃ m : Nat, skT q b = m := ⟨(skT q b).toNat, by omega⟩;have dy : m < q.blocks.length := ZA;have kx : (Qt q b).next = [(m : Int)] := by
      obtain ⟨x, hx⟩ := Jak.1 cN;rw [skT, hx] at hm;rw [hx, <- hm]; rfl
    have ka : (m : Int) ∈ gnx q b := (by rw [Bq hb, kx]; simp);have hV : jnV q b = if (¬ m = b /\ (Qt q m).ab = [] /\ (Qp (gnx q) (m : Int) q.blocks.length).length = 1) then (m : Int) else -1 := by
      have vZ : (skT q b).toNat = m := ZA;rw [jnV, vZ, hm];by_cases hh : ¬ m = b /\ (Qt q m).ab = [] /\ (Qp (gnx q) (m : Int) q.blocks.length).length = 1
      · rw [if_pos hh, if_pos];exact ⟨hb, dy, hh.1, by omega, kB, kx, hh.2.1, (GZ hb ka).1 hh.2.2⟩
      · rw [if_neg hh, if_neg];exact λhp => hh ⟨hp.ne, hp.ph, (GZ hb ka).2 hp.pr⟩
    rw [hm] at b6;rw [hV] at hK;have hR := h.keep0 kn;obtain ⟨b1, b2, fl2, lK, q1, q2, dk⟩ := hR.x m dy;have aw := eq_true hR.s.ok;have cL := hR.s.rows;have fd := eq_true dk.ok;have me := dk.len;refine Qi ?_;try simp only [go_sem]
    refine Qa ?_;simp only [go_sem, bm, cN, Qb, b6];refine ⟨Jaw 0, ?_⟩;refine Q1 (Qa ?_);have jU : decide ((m : Int) = 0) = false := decide_eq_false ZA;simp only [go_sem, bt, bm, aw, am, bj, cL, ce, dy, lK, q1, q2, fd, me, Qy, jU];intro _;refine ⟨λbn => ?_, λbn => ?_⟩
    · have dc : ¬ m = b /\ (Qt q m).ab = [] := by
        by_cases h1 : (m : Int) = (b : Int)
        · rw [h1] at bn; simp at bn
        · rw [decide_eq_false h1] at bn;refine ⟨ZA, List.eq_nil_of_length_eq_zero ?_⟩;have : ((Qt q m).ab.length : Int) = 0 := ZR;omega
      refine Q0t (nx := gnx q) hR.s bt hR.no (λi hi => by
        obtain ⟨c1, c2, c3, c4, c5, e1, _, e3⟩ := hR.hx i hi;exact ⟨c1, c2, c3, c4, c5, e1, e3⟩) λfl3 H3 hu => ?_
      have kn := kn.au hu;rw [ce, Db, if_pos (by simp only [Jbc, decide_eq_true_eq]; omega)];have d1 : decide ((m : Int) = (b : Int)) = false := decide_eq_false ZA;have d2 : decide (0 < ((Qt q m).ab.length : Int)) = false := decide_eq_false (by rw [dc.2]; simp);simp only [go_sem, Gt, d1, d2, Qb];intro _;refine Wu ?_ ?_
      · intro eU;refine Qa ?_;simp only [go_sem];refine Qk ?_;simp only [go_sem, Q7, A5, A7, Ja, forall_eq, RS.op];have := hK _ kn.fin;rw [if_neg (λhh => by rw [hh.2.2] at eU; simp at eU)] at this;exact ⟨_, .c _ _ (Qg rfl), this⟩
      · intro eU;refine Qi ?_;try simp only [go_sem]
        refine Qa ?_;simp only [go_sem];refine Qk ?_;simp only [go_sem, Q7, A5, A7, Ja, forall_eq, RS.op];have := hK _ kn.fin;rw [if_pos ⟨dc.1, dc.2, by have : ((Qp (gnx q) (m : Int) q.blocks.length).length : Int) = 1 := (by simpa using eU);omega⟩] at this
        exact ⟨_, .c _ _ (Qg rfl), this⟩
    · have hn : ¬ (¬ m = b /\ (Qt q m).ab = [] /\ (Qp (gnx q) (m : Int) q.blocks.length).length = 1) := λhh => by
        rw [decide_eq_false (λh => hh.1 ZA), hh.2.1] at bn;simp at bn
      rw [if_neg hn] at hK;simp only [go_sem, Gt, bn];rw [Ja8] at bn;refine Wu ?_ ?_
      · intro eU;refine Qa ?_;simp only [go_sem];refine Qk ?_;simp only [go_sem, Q7, A5, A7, Ja, forall_eq, RS.op];exact ⟨_, .c _ _ (Qg rfl), hK _ kn.fin⟩
      · intro eU;rw [bn] at eU;simp at eU
end Go.AE.Y
namespace Go.AE.Y
attribute [local go_sem] cond_true cond_false Bool.not_true Bool.not_false
attribute [local instance] Classical.propDecidable
open Go.Proofs.Tryz
variable {H H0 H':Heap}{K:Uk}{q:CodeD}{E L R:Ul}
theorem Ox {α β:Type}{f:α->List β}{l:List α}{i:Nat}(h:i<l.length)(x:α):(l.flatMap f++f x).Perm (f l[i]++(l.set i x).flatMap f):=by
 have h1:=BT (f:=f) h;have h2:=BT (f:=f) (l:=l.set i x) (i:=i) (by rw[Jl];exact h);rw[Jac,J8]at h2;refine Qj λF hF h0 hc hp=>?_;have e1:=hp _ _ h1;have e2:=hp _ _ h2;simp only[hF]at e1 e2⊢;omega
theorem N7 {α:Type}{l:List α}{i:Nat}{x d:α}(h:i<l.length):(l.set i x).getD i d=x:=by simp[Jd,h]
theorem K9 {α:Type}{l:List α}{i j:Nat}{x d:α}(h:i≠j):(l.set i x).getD j d=l.getD j d:=by simp[Jd,Ja4 h]
def jnb (b n:JB)(t:C)(g:List (Nat×Obj)):JB:=⟨⟨b.y.ab,b.y.ins++n.y.ins,n.y.jump,n.y.on,n.y.next⟩,b.pc,b.pl,t,g,n.fl⟩
def jnn (n:Nat):JB:=⟨⟨[],[],1,0,[(n:Int)]⟩,.sl true 2 [],[],.sl true 4 [],[],true⟩
def jnY (q:CodeD)(b n:Nat)(D:List Int)(c:Nat):BlkD:=if (c:Int)∈D then ⟨(jnX q b n c).ab.map (jnA q b n c),(jnX q b n c).ins,(jnX q b n c).jump,(jnX q b n c).on,(jnX q b n c).next⟩else jnX q b n c
structure JnS (q:CodeD)(b n:Nat)(D:List Int)(ks:List JB):Prop where
 len:ks.length=q.blocks.length
 y:∀j (h:j<ks.length),ks[j].y=jnY q b n D j
 ok:∀k∈ks,k.ok
theorem Cz {ks:List JB}(hy:ks.map JB.y=q.blocks){i:Nat}(h:i<ks.length):ks[i].y=Qt q i:=by
 have hl:ks.length=q.blocks.length:=ZaL
 have e:(ks.map JB.y)[i]? = some ks[i].y:=Za9
 rw[hy,Ji ZA,<-AP ZA]at e;exact (J4 e).symm
theorem JnS.start {ks:List JB}{b n:Nat}{t:C}{g:Ul}(hy:ks.map JB.y=q.blocks)(ho:∀k∈ks,k.ok)(hp:JnP q b n)(hb:b<ks.length)(hn:n<ks.length)(hg:Gr g 4 (AD (ks[b].y.ins++ks[n].y.ins)) t) :
  JnS q b n [] ((ks.set b (jnb ks[b] ks[n] t g)).set n (jnn n)):=by
 have hl:ks.length=q.blocks.length:=ZaL
 refine⟨by simp only[Jl];exact hl,λj hj=>?_,λk hk=>?_⟩
 ·have bE:j<ks.length:=ZT
  rw[jnY,if_neg ZC,J5];split
  ·rename_i e;subst e;rw[C1];rfl
  ·rename_i e1
   rw[J5];split
   ·rename_i e2;subst e2
    rw[CM hp.ne,jnb,Cz hy hb,Cz hy hn]
   ·rename_i e2
    rw[BH (λe=>e1 e.symm) (λe=>e2 e.symm),Cz hy bE]
 ·rcases Jy hk with hk|rfl
  ·rcases Jy hk with hk|rfl
   ·exact ho k hk
   ·exact⟨(ho _ (Jb hb)).p,hg⟩
  ·exact⟨.nil 2,.nil 4⟩
theorem Qbp8 {Q:X->Env->Heap->Prop}{e:Env}{x6 x7 z b n:Nat}{cc:C}{ks:List JB}(hp:JnP q b n)(hy:ks.map JB.y=q.blocks)(ho:∀k∈ks,k.ok)(dz:∀i (h:i<ks.length),ks[i].y.ins.length<=100000)
  (kn:Kn H0 H [] ([(x6,.st [Ui 0,Ui 0,.sl true 5 []]),(x7,.st [Ui q.params,Ui q.ae,.ai z 5 0 q.blocks.length])]++([(z,.vec 5 (ks.map JB.row))]++ks.flatMap JB.lg)))
  (l1:lk 1 e=Uv b) (l2:lk 2 e=Uv n) (l3:lk 3 e=.c cc) (l6:lk 6 e=Up x6) (l7:lk 7 e=Up x7)
  (hQ:∀(e:Env) (H':Heap) (ks:List JB),JnS q b n [] ks->Kn H0 H' [] ([(x6,.st [Ui 0,Ui 0,.sl true 5 []]),(x7,.st [Ui q.params,Ui q.ae,.ai z 5 0 q.blocks.length])]++([(z,.vec 5 (ks.map JB.row))]++ks.flatMap JB.lg))->
   lk 1 e=Uv b->lk 2 e=Uv n->lk 3 e=.c cc->lk 6 e=Up x6->lk 7 e=Up x7->lk 8 e=.c (.ep (.ai z 5 0 q.blocks.length) 5 b 0)->A9 prog Nv Q e H') :
  A9 prog Nu Q e H:=by
 have ce:ks.length=q.blocks.length:=ZaL
 have bk:b<ks.length:=by rw[ce];exact hp.bl
 have bC:n<ks.length:=by rw[ce];exact hp.nl
 have ja:=hp.bl;have jT:=hp.nl;have bf:=hp.ne;obtain⟨kb,df⟩:∃k,ks[b]=k:=⟨_,rfl⟩;obtain⟨kk,ex⟩:∃k,ks[n]=k:=⟨_,rfl⟩;have cg:kb.ok:=by rw[<-df];exact ho _ (Jb bk)
 have bx:kk.ok:=by rw[<-ex];exact ho _ (Jb bC)
 have qH:=dz b bk;have xl:=dz n bC;rw[df]at qH;rw[ex]at xl;obtain⟨RW,em⟩:∃RW,ks.map JB.row=RW:=⟨_,rfl⟩;obtain⟨N,hN⟩:∃N,q.blocks.length=N:=⟨_,rfl⟩;have gS:RW.length=N:=Zbc
 have mN:RW.take N=RW:=Jh ZA;have mP:RW.getD b []=[kb.pc,kb.ic,Ui kb.y.jump,Ui kb.y.on,.sl kb.fl 1 (Qc kb.y.next)]:=by rw[<-em,JB.getD bk,df];rfl
 have ut:RW.getD n []=[kk.pc,kk.ic,Ui kk.y.jump,Ui kk.y.on,.sl kk.fl 1 (Qc kk.y.next)]:=by rw[<-em,JB.getD bC,ex];rfl
 have oip:=cg.i.ah;have oin:=bx.i.ah;have opp:=cg.p.ah;have opn:=bx.p.ah;rw[em]at kn;simp only[hN]at kn hQ ja jT;have b7:=kn.l 1 rfl;have hz:=kn.l 2 rfl;refine Qa ?_;simp only[go_sem,l1,l2,l3,l6,l7,b7,hz,gS,ja,Jf,Jg];refine AC ?_;simp only[go_sem,b7,hz,gS,mN,mP,ut,ja,jT,oip,oin,Jf,Jg];have hB:∀(t:C) (g:Ul),(ks.flatMap JB.lg++(kb.pl++g)).Perm ((kb.pl++kb.il)++(ks.set b (jnb kb kk t g)).flatMap JB.lg):=λt g=>by
  have:=Ox (f:=JB.lg) bk (jnb kb kk t g);rw[df]at this;exact this
 have hC:∀(t:C) (g:Ul),((ks.set b (jnb kb kk t g)).flatMap JB.lg++[]).Perm ((kk.pl++kk.il)++((ks.set b (jnb kb kk t g)).set n (jnn n)).flatMap JB.lg):=λt g=>by
  have:=Ox (f:=JB.lg) (l:=ks.set b (jnb kb kk t g)) (i:=n) (by rw[Jl];exact bC) (jnn n);rw[List.getElem_set_ne ZA,ex]at this;exact this
 obtain⟨R,hR⟩:∃R,((ks.set b (jnb kb kk (.sl true 4 []) [])).set n (jnn n)).flatMap JB.lg=R:=⟨_,rfl⟩;obtain⟨X6,mH⟩:∃o,o=Obj.st [Ui 0,Ui 0,.sl true 5 []]:=⟨_,rfl⟩;obtain⟨X7,ll⟩:∃o,o=Obj.st [Ui q.params,Ui q.ae,.ai z 5 0 N]:=⟨_,rfl⟩;rw[<-mH,<-ll]at kn;simp only[<-mH,<-ll]at hQ;have kn:Kn H0 H [] (([(x6,X6),(x7,X7),(z,.vec 5 RW)]++((kk.pl++kk.il)++R))++kb.il):=kn.perm (Qj λf hf h0 hc hp=>by
  have e3:∀(a b c:Nat×Obj),f [a,b,c]=f [a,b]+f [c]:=λa b c=>ZP
  have e1:=hp _ _ (hB (.sl true 4 []) []);have e2:=hp _ _ (hC (.sl true 4 []) []);rw[hR]at e2;simp only[Ui,hf,h0,e3]at e1 e2⊢;omega)
 refine kn.br (new:=AD kk.y.ins) cg.i (bx.i.slcM kn λp hp=>ZaQ) (EV _) (by simp only[Bm,LIM];omega) λt2 Lg2 H2 dA di kn=>?_;have b7:=kn.l 1 rfl;rw[ll]at b7;have hz:=kn.l 2 rfl;simp only[go_sem,Ns,hz,gS,mN,mP,ja,opp,di,Jf,Jg];have jH:∀x,(RW.set b x).getD b []=x:=λx=>N7 ZA;have iC:∀x,(RW.set b x).getD n []=[kk.pc,kk.ic,Ui kk.y.jump,Ui kk.y.on,.sl kk.fl 1 (Qc kk.y.next)]:=λx=>by rw[K9 ZA];exact ut
 have d9:∀x,(RW.set b x).length=N:=λx=>by rw[Jl];exact gS
 have fW:∀x,(RW.set b x).take N=RW.set b x:=λx=>Jh (by rw[d9 x];omega);intro H3 h3;have kn:=kn.aA 2 rfl h3;have b7:=kn.l 1 rfl;rw[ll]at b7;have hz:=kn.l 2 rfl;refine Qa ?_;simp only[go_sem,b7,hz,d9,fW,jH,iC,ja,jT,opp,di,Jf,Jg];intro H4 h4;rw[Jap]at h4;have kn:=kn.aA 2 rfl h4;have b7:=kn.l 1 rfl;rw[ll]at b7;have hz:=kn.l 2 rfl;refine Qa ?_;simp only[go_sem,b7,hz,d9,fW,jH,iC,ja,jT,opp,di,Jf,Jg];intro H5 h5;rw[Jap]at h5;have kn:=kn.aA 2 rfl h5;have b7:=kn.l 1 rfl;rw[ll]at b7;have hz:=kn.l 2 rfl;refine Qa ?_;simp only[go_sem,b7,hz,d9,fW,jH,iC,ja,jT,opp,di,Jf,Jg];intro H6 h6;rw[Jap]at h6;have kn:=kn.aA 2 rfl h6;have b7:=kn.l 1 rfl;rw[ll]at b7;have hz:=kn.l 2 rfl;refine Qa ?_;simp only[go_sem,b7,hz,d9,fW,jH,iC,ja,jT,opp,di,Jf,Jg];intro H7 h7;have kn:=kn.aA 2 rfl h7;have dA:Gr Lg2 4 (AD (ks[b].y.ins++ks[n].y.ins)) t2:=by rw[df,ex,AD,Jp];exact dA
 have hJ:=JnS.start (q:=q) hy ho hp bk bC dA;rw[df,ex]at hJ;obtain⟨ks2,im⟩:∃k,(ks.set b (jnb kb kk t2 Lg2)).set n (jnn n)=k:=⟨_,rfl⟩;rw[im]at hJ;have bA:ks2.map JB.row=(RW.set b [kb.pc,t2,Ui kk.y.jump,Ui kk.y.on,.sl kk.fl 1 (Qc kk.y.next)]).set n [.sl true 2 [],.sl true 4 [],Ui 1,Ui 0,.sl true 1 [[Ui n]]]:=by
  rw[<-im,J2,J2,em];rfl
 refine hQ _ H7 ks2 hJ ?_ rfl rfl rfl rfl rfl rfl;rw[bA];have hD:(R++Lg2).Perm (ks2.flatMap JB.lg):=Qj λf hf h0 hc hp=>by
  have e1:=hp _ _ (hB (.sl true 4 []) []);have e2:=hp _ _ (hC (.sl true 4 []) []);have e3:=hp _ _ (hB t2 Lg2);have e4:=hp _ _ (hC t2 Lg2);rw[hR]at e2;rw[im]at e4;simp only[Ui,hf,h0]at e1 e2 e3 e4⊢;omega
 refine Kn.drop (B:=kk.pl++kk.il) (kn.perm (Qj λf hf h0 hc hp=>?_));have e3:∀(a b c:Nat×Obj),f [a,b,c]=f [a,b]+f [c]:=λa b c=>ZP
 have:=hp _ _ hD;show f ([(x6,X6),(x7,X7),(z,_)]++((kk.pl++kk.il)++R)++Lg2)=_;simp only[Ui,hf,e3]at this⊢;omega
def JB.ph (k:JB)(ph:List PhiD)(pl:List (Nat×Obj)):JB:=⟨⟨ph,k.y.ins,k.y.jump,k.y.on,k.y.next⟩,k.pc,pl,k.ic,k.il,k.fl⟩
theorem JB.ph_rows {ks:List JB}{m:Nat}{ph:List PhiD}{pl:Ul}(hm:m<ks.length):(ks.set m (ks[m].ph ph pl)).map JB.row=ks.map JB.row:=by
 rw[J2];have e:(ks[m].ph ph pl).row=(ks.map JB.row)[m]'ZaV:=by rw[Jt];rfl
 rw[e,Jao]
theorem JnS.step {b n m:Nat}{D:List Int}{ks:List JB}(h:JnS q b n D ks)(hm:m<ks.length)(hD:¬(m:Int)∈D){ph:List PhiD}{pl:Ul}(h1:ph=(jnX q b n m).ab.map (jnA q b n m))(hg:Gr pl 2 (Q3 ph) ks[m].pc) :
  JnS q b n (D++[(m:Int)]) (ks.set m (ks[m].ph ph pl)):=by
 refine⟨by rw[Jl];exact h.len,λj hj=>?_,λk hk=>?_⟩
 ·have bE:j<ks.length:=ZT
  rw[J5];split
  ·rename_i e;subst e
   have:=h.y m hm;rw[jnY,if_neg hD]at this;rw[JB.ph,jnY,if_pos ZC,this,h1]
  ·rename_i e
   rw[h.y j bE,jnY,jnY];have:((j:Int)∈D++[(m:Int)])↔(j:Int)∈D:=by
    simp only[Js,Ja];exact⟨λhh=>hh.resolve_right λe2=>e ZA,.inl⟩
   by_cases pd:(j:Int)∈D
   ·rw[if_pos pd,if_pos (this.2 pd)]
   ·rw[if_neg pd,if_neg (λhh=>pd (this.1 hh))]
 ·rcases Jy hk with hk|rfl
  ·exact h.ok k hk
  ·exact⟨hg,(h.ok _ (Jb hm)).i⟩
theorem F6 (b n c:Nat)(D:List Int):(jnY q b n D c).next=jnG q b n c:=by rw[jnY];split <;> rfl
theorem JnS.rows {b n:Nat}{D:List Int}{ks:List JB}(h:JnS q b n D ks):∀j,j<(ks.map JB.row).length->∃a1 a2 a3 a4 fl,(ks.map JB.row).getD j []=[a1,a2,a3,a4,.sl fl 1 (Qc (jnG q b n j))]:=λj hj=>by
 have bE:j<ks.length:=ZT
 refine⟨ks[j].pc,ks[j].ic,Ui ks[j].y.jump,Ui ks[j].y.on,ks[j].fl,?_⟩;rw[JB.getD bE,JB.row,h.y j bE,F6]
theorem Qbkq {Q:X->Env->Heap->Prop}{e:Env}{x6 x7 z b n m i:Nat}{fl:Bool}{X6:Obj}{ks:List JB}{D:List Int}(ho:q.ok)(hp:JnP q b n)(hS:JnS q b n D ks)(hD:¬(m:Int)∈D)(hm:(m:Int)∈(Qt q n).next)(dy:m<q.blocks.length)(jE:m≠n)
  (kn:Kn H0 H [] ([(x6,X6),(x7,.st [Ui q.params,Ui q.ae,.ai z 5 0 q.blocks.length])]++([(z,.vec 5 (ks.map JB.row))]++ks.flatMap JB.lg)))
  (l1:lk 1 e=Uv b) (l2:lk 2 e=Uv n) (l3:lk 3 e=.c (.pp [Ui q.params,Ui q.ae,.sl fl 5 (Qm q.blocks)])) (l6:lk 6 e=Up x6) (l7:lk 7 e=Up x7)
  (l8:lk 8 e=.c (.ep (.ai z 5 0 q.blocks.length) 5 b 0)) (l9:lk 9 e=Uv i) (l10:lk 10 e=Uv m)
  (hQ:∀(e:Env) (H':Heap) (ks':List JB),JnS q b n (D++[(m:Int)]) ks'->ks'.map JB.row=ks.map JB.row->Kn H0 H' [] ([(x6,X6),(x7,.st [Ui q.params,Ui q.ae,.ai z 5 0 q.blocks.length])]++([(z,.vec 5 (ks'.map JB.row))]++ks'.flatMap JB.lg))->
   lk 1 e=Uv b->lk 2 e=Uv n->lk 3 e=.c (.pp [Ui q.params,Ui q.ae,.sl fl 5 (Qm q.blocks)])->lk 6 e=Up x6->lk 7 e=Up x7->
   lk 8 e=.c (.ep (.ai z 5 0 q.blocks.length) 5 b 0)->lk 9 e=Uv i->Q .nrm e H') :
  A9 prog Nw Q e H:=by
 have bg:=ho.b1;have ce:=hS.len;have cD:m<ks.length:=ZA
 obtain⟨kb,eQ⟩:∃k,ks[m]=k:=⟨_,rfl⟩;have fP:kb.ok:=by rw[<-eQ];exact hS.ok _ (Jb cD)
 have nS:kb.y=jnX q b n m:=by have:=hS.y m cD;rw[jnY,if_neg hD,eQ]at this;exact this
 have qM:kb.y.ab=(Qt q m).ab:=by rw[nS,E9 hp jE]
 have cC:=ho.bs m dy;have cj:=ho.il m dy;have f0:=AP dy;rw[<-f0]at cC cj;obtain⟨R,hR⟩:∃R,kb.il++(ks.eraseIdx m).flatMap JB.lg=R:=⟨_,rfl⟩;have eR:(ks.flatMap JB.lg).Perm (kb.pl++R):=Qj λf hf h0 hc hp=>by
  have:=hp _ _ (BT (f:=JB.lg) cD);rw[eQ,JB.lg]at this;rw[<-hR];simp only[Ui,hf]at this⊢;omega
 have oy:=hS.rows;obtain⟨RW,em⟩:∃RW,ks.map JB.row=RW:=⟨_,rfl⟩;have ba:RW.length=q.blocks.length:=by rw[<-em,Jc,ce]
 have aX:RW.getD m []=[kb.pc,kb.ic,Ui kb.y.jump,Ui kb.y.on,.sl kb.fl 1 (Qc kb.y.next)]:=by rw[<-em,JB.getD cD,eQ];rfl
 have qV:=hQ;rw[em]at kn oy;simp only[em]at hQ;obtain⟨N,hN⟩:∃N,q.blocks.length=N:=⟨_,rfl⟩;obtain⟨X7,ll⟩:∃o,o=Obj.st [Ui q.params,Ui q.ae,.ai z 5 0 N]:=⟨_,rfl⟩;have bu:RW.take N=RW:=Jh ZA;simp only[hN]at kn hQ l8 dy ba;simp only[<-ll]at kn hQ;refine Qa ?_;simp only[go_sem,l1,l2,l3,l6,l7,l8,l9,l10];refine DG (nx:=gnx q) (.mk' _ _ _ _) rfl (Dl H q fl).x λH2 hu=>?_;have kn:=kn.au hu;simp only[go_sem,Nr,Ql,l1,l2,l3,l6,l7,l8,l9,l10];obtain⟨olds,ev⟩:∃o,Qp (gnx q) (m:Int) q.blocks.length=o:=⟨_,rfl⟩;rw[ev];have b7:=kn.l 1 rfl;rw[ll]at b7;have hz:=kn.l 2 rfl;refine Zi b7 ?_;refine DG (nx:=jnG q b n) (vslc hz ba.symm) rfl oy λH3 hu=>?_;have kn:=kn.au hu;rw[ba];obtain⟨news,jk⟩:∃o,Qp (jnG q b n) (m:Int) N=o:=⟨_,rfl⟩;rw[jk];have wR:news.length<=N:=by rw[<-jk];exact CA _ _ _
 simp only[go_sem,Nq];refine Za ?_;have kn:Kn H0 H3 [] (([(x6,X6),(x7,X7),(z,.vec 5 RW)]++R)++kb.pl):=kn.perm (Qj λf hf h0 hc hp=>by
  have:=hp _ _ eR;have e3:∀(a b c:Nat×Obj),f [a,b,c]=f [a,b]+f [c]:=λa b c=>ZP
  simp only[Ui,hf,e3]at this⊢;omega)
 obtain⟨J,hJ⟩:∃J,J=jnA q b n m:=⟨_,rfl⟩;refine Qe (Qx (λt e1 H1=>∃(k:Nat) (ph:List PhiD) (pl:Ul),t=ph.length-k/\k<=ph.length/\ph=mix J (Qt q m).ab k/\Gr pl 2 (Q3 ph) kb.pc/\
  Kn H0 H1 [] (([(x6,X6),(x7,X7),(z,.vec 5 RW)]++R)++pl)/\
  lk 1 e1=Uv b/\lk 2 e1=Uv n/\lk 3 e1=.c (.pp [Ui q.params,Ui q.ae,.sl fl 5 (Qm q.blocks)])/\lk 6 e1=Up x6/\lk 7 e1=Up x7/\
  lk 8 e1=.c (.ep (.ai z 5 0 N) 5 b 0)/\lk 9 e1=Uv i/\lk 10 e1=Uv m/\lk 11 e1=.c (.sl false 1 (Qc olds))/\lk 12 e1=.c (.sl false 1 (Qc news))/\lk 13 e1=Uv k) kb.y.ab.length ?_ ?_)
 ·exact⟨0,kb.y.ab,kb.pl,ZA,ZA,by rw[qM,GQ],fP.p,kn,rfl,rfl,rfl,rfl,rfl,rfl,rfl,rfl,rfl,rfl,rfl⟩
 ·clear kn b7 hz hu l1 l2 l3 l6 l7 l8 l9 l10;rintro t2 e2 H4 ⟨k,ph,pl,di,hk,eF,ay,kn,l1,l2,l3,l6,l7,l8,l9,l10,l11,l12,l13⟩;have j5:ph.length=(Qt q m).ab.length:=by rw[eF,Ct]
  have b7:=kn.l 1 rfl;rw[ll]at b7;have hz:=kn.l 2 rfl;have fK:=ay.ah;have fL:=eq_true (ay.get kn).1;have du:=ay.ax;rw[Qy]at du;refine Q1 (Qa ?_);simp only[go_sem,l1,l2,l3,l6,l7,l8,l9,l10,l11,l12,l13,b7,hz,ba,bu,aX,dy,fK,fL,du,Jf,Jg];try intro _
  refine Wu ?_ ?_
  ·intro a7;have aN:k<ph.length:=ZF
   obtain⟨zp,ik,cQ⟩:∃z,kb.pc=.ai z 2 0 ph.length/\pl=[(z,.vec 2 (Q3 ph))]:=by
    rcases ay with ⟨_,h,_⟩|⟨y,h1,h2⟩
    ·have:=congrArg List.length h;rw[Qy]at this;simp only[Jm]at this;omega
    ·exact⟨y,by rw[h1,Qy],h2⟩
   rw[ik]at aX;rw[cQ]at kn;clear fK fL du;obtain⟨p,sW⟩:∃p,ph[k]=p:=⟨_,rfl⟩;have ip:k<(Qt q m).ab.length:=ZA
   have iN:(Qt q m).ab[k]=p:=by
    rw[<-sW];subst eF;exact (CV ip aN).symm
   have ee:p∈(Qt q m).ab:=by rw[<-iN];exact Jb ip
   obtain⟨NA,rU⟩:∃NA,(J p).args=NA:=⟨_,rfl⟩;have ux:NA=news.map λw=>p.args.getD (olds.idxOf (if w=(b:Int)then (n:Int)else w)) 0:=by rw[<-rU,hJ,jnA,hN,jk,<-hN,ev]
   have hNl:NA.length=news.length:=by rw[ux,Jc]
   have hJp:J p=⟨p.to,NA⟩:=by rw[<-rU,hJ];rfl
   have lU:p.args.length=olds.length:=by rw[<-ev];exact cC.pal p ee
   have nC:(Q3 ph).take ph.length=Q3 ph:=Jh (by rw[Qy];omega);have kq:(Q3 ph).getD k []=[Ui p.to,.sl false 1 (Qc p.args)]:=by rw[BU _ _ aN,sW];rfl
   have uL:m<q.blocks.length:=ZA
   have uf:q.blocks[m].ab=(Qt q m).ab:=by rw[f0]
   have zX:(Q3 q.blocks[m].ab).getD k []=[Ui p.to,.sl false 1 (Qc p.args)]:=by rw[uf,BU _ _ ip,iN];rfl
   have jp:k<q.blocks[m].ab.length:=by rw[uf];exact ip
   refine Zd ?_
   refine Wf ?_;refine Wa ?_;refine Qh (Qe (Qx (λt e1 H1=>∃(j:Nat) (av:List Int) (t':C) (Lg:Ul),t=news.length-j/\j<=news.length/\av=NA.take j/\Gr Lg 1 (Qc av) t'/\
    Kn H0 H1 [] (([(x6,X6),(x7,X7),(z,.vec 5 RW)]++R++[(zp,.vec 2 (Q3 ph))])++Lg)/\
    lk 1 e1=Uv b/\lk 2 e1=Uv n/\lk 3 e1=.c (.pp [Ui q.params,Ui q.ae,.sl fl 5 (Qm q.blocks)])/\lk 6 e1=Up x6/\lk 7 e1=Up x7/\
    lk 8 e1=.c (.ep (.ai z 5 0 N) 5 b 0)/\lk 9 e1=Uv i/\lk 10 e1=Uv m/\lk 11 e1=.c (.sl false 1 (Qc olds))/\lk 12 e1=.c (.sl false 1 (Qc news))/\lk 13 e1=Uv k/\
    lk 14 e1=.c t'/\lk 15 e1=Uv j) news.length ?_ ?_))
   ·exact⟨0,[],_,[],ZA,ZA,ZC,.nil 1,ZL,rfl,rfl,rfl,rfl,rfl,rfl,rfl,rfl,rfl,rfl,rfl,rfl,rfl⟩
   ·clear kn b7 hz l1 l2 l3 l6 l7 l8 l9 l10 l11 l12 l13;rintro t3 e3 H5 ⟨j,av,t',Lg,ht3,hj,jJ,fW,kn,l1,l2,l3,l6,l7,l8,l9,l10,l11,l12,l13,l14,l15⟩;have gk:=fW.ah;have ov:av.length=j:=(by rw[jJ,Jaz];omega);refine Q1 (Qa ?_);simp only[go_sem,l1,l2,l3,l6,l7,l8,l9,l10,l11,l12,l13,l14,l15,Qb];try intro _
    refine Wu ?_ ?_
    ·intro bn;have bF:j<news.length:=ZR;have kx:news[j]∈Qp (jnG q b n) (m:Int) N:=(by rw[jk];exact Jb bF);obtain⟨w,hwN,mU,u7⟩:=preds_mem.1 kx;have qS:news.getD j 0=(w:Int):=(by rw[<-u7];simp[Jd,bF]);obtain⟨og,nG⟩:∃o:Nat,(if w=b then n else w)=o:=⟨_,rfl⟩;have ey:=Gg hp hm (c:=w) ZA mU;rw[nG]at ey;have ej:(og:Int)∈olds:=(by rw[<-ev];exact preds_mem.2 ⟨_,ey.2,ey.1,rfl⟩);have yI:j<NA.length:=ZA;have ve:NA[j]=p.args.getD (olds.idxOf (og:Int)) 0:=by
      subst ux;rw[Jt,u7];by_cases n4:w=b
      ·rw[if_pos n4]at nG;rw[if_pos (by rw[n4]),nG]
      ·rw[if_neg n4]at nG;rw[if_neg ZA,nG]
     refine Zd ?_
     refine Wb ?_;simp only[go_sem,bF,Qb,Qo _ _ bF,qS];refine Wa ?_;refine Bk (λe1 H1=>Kn H0 H1 [] (([(x6,X6),(x7,X7),(z,.vec 5 RW)]++R++[(zp,.vec 2 (Q3 ph))])++Lg)/\
      lk 1 e1=Uv b/\lk 2 e1=Uv n/\lk 3 e1=.c (.pp [Ui q.params,Ui q.ae,.sl fl 5 (Qm q.blocks)])/\lk 6 e1=Up x6/\lk 7 e1=Up x7/\
      lk 8 e1=.c (.ep (.ai z 5 0 N) 5 b 0)/\lk 9 e1=Uv i/\lk 10 e1=Uv m/\lk 11 e1=.c (.sl false 1 (Qc olds))/\lk 12 e1=.c (.sl false 1 (Qc news))/\lk 13 e1=Uv k/\
      lk 14 e1=.c t'/\lk 15 e1=Uv j/\lk 16 e1=Uv og) ?_ ?_
     ·intro Q2 bH _ _;refine Wv ?_ ?_
      ·intro dc;have n4:w=b:=(by have:(w:Int)=b:=(by simpa using dc);omega);rw[if_pos n4]at nG;subst nG;refine Zh ?_;exact bH _ _ ⟨kn,rfl,rfl,rfl,rfl,rfl,rfl,rfl,rfl,rfl,rfl,rfl,rfl,rfl,rfl⟩
      ·intro dc;have n4:¬w=b:=λh=>(by rw[h]at dc;simp at dc);rw[if_neg n4]at nG;subst nG;refine Zd ?_
       exact bH _ _ ⟨kn,rfl,rfl,rfl,rfl,rfl,rfl,rfl,rfl,rfl,rfl,rfl,rfl,rfl,rfl⟩
     ·rintro e4 H6 ⟨kn,l1,l2,l3,l6,l7,l8,l9,l10,l11,l12,l13,l14,l15,l16⟩;refine AY ?_;simp only[go_sem,l3,l10,l11,l13,l14,l16,uL,jp,Ql,Q9 _ _ uL,BlkD.cells,Qy,zX];refine D1 (ns:=olds) (.mk' _ _ _ _) rfl λr hr=>?_;obtain⟨a,ha⟩:∃a,olds.idxOf (og:Int)=a:=⟨_,rfl⟩;have ra:r=(a:Int):=(by rw[<-ha];exact hr.idx ej);have dD:a<olds.length:=(by rw[<-ha];exact Jar ej);rw[ha]at ve;have mB:a<p.args.length:=ZA;simp only[go_sem,No,ra,uL,jp,Ql,Q9 _ _ uL,BlkD.cells,Qy,zX,mB,Qb,Qo _ _ mB];refine kn.br (new:=Qc [p.args.getD a 0]) fW (.mk' _ _ _ _) (Qw _) (by simp only[Qb,LIM,Jn,Jm];omega) λt4 Lg2 H7 mj htt2 kn=>?_;simp only[go_sem,l1,l2,l3,l6,l7,l8,l9,l10,l11,l12,l13,l14,l15,Np];refine Zh ?_;refine⟨Qr,?_⟩;show ∃m,_;refine⟨news.length-(j+1),ZA,j+1,av++[p.args.getD a 0],t4,Lg2,rfl,ZA,by rw[jJ,Jr yI,ve],by rw[De];exact mj,kn,rfl,rfl,rfl,rfl,rfl,rfl,rfl,rfl,rfl,rfl,rfl,rfl,ZB⟩
    ·intro bn;have nU:j=news.length:=(by have:news.length<=j:=(by simpa using bn);omega);have jJ:av=NA:=(by rw[jJ,Jh (by omega)]);subst jJ;have iH:=Dz (f:=J) ip;rw[iN,hJp]at iH;refine Zb ?_;obtain⟨S,jK,kN,eK,kn⟩:=kn.cw;have nY:FrzC H5 S t' (.sl false 1 (Qc av)):=Gr.frzM fW jK (FrzR.same (Qw _));refine Qh (c_gh (DK S (EN ?_) eK) (e':=[(1,Uv b),(2,Uv n),(3,.c (.pp [Ui q.params,Ui q.ae,.sl fl 5 (Qm q.blocks)])),(6,Up x6),(7,Up x7),(8,.c (.ep (.ai z 5 0 N) 5 b 0)),(9,Uv i),(10,Uv m),(11,.c (.sl false 1 (Qc olds))),(12,.c (.sl false 1 (Qc news))),(13,Uv k),(14,.c (.sl false 1 (Qc av)))]) ?_)
     ·simp only[Jv];exact⟨.c _ _ (.same _ rfl),.c _ _ (.same _ rfl),.c _ _ (.same _ rfl),.c _ _ (.same _ rfl),.c _ _ (.same _ rfl),.c _ _ (.same _ rfl),.c _ _ (.same _ rfl),.c _ _ (.same _ rfl),.c _ _ (.same _ rfl),.c _ _ (.same _ rfl),.c _ _ (.same _ rfl),.c _ _ nY,ZC⟩
     generalize H5.frz S=H6 at *;have b7:=kn.l 1 rfl;rw[ll]at b7;have hz:=kn.l 2 rfl;have u5:H6 zp=.vec 2 (Q3 ph):=(kn.get (zp,.vec 2 (Q3 ph)) ZC).1;have bK:(Q3 ph).set k [Ui p.to,.sl false 1 (Qc av)]=Q3 (ph.set k ⟨p.to,av⟩):=KW ph k ⟨p.to,av⟩;refine Qq ?_;simp only[go_sem,b7,hz,u5,ba,bu,aX,dy,aN,kq,bK,Qy,Jf,Jg];intro H7 h7;have kn:Kn H0 H7 [] (([(x6,X6),(x7,X7),(z,.vec 5 RW)]++R)++[(zp,.vec 2 (Q3 (ph.set k ⟨p.to,av⟩)))]):=by
      have:=kn.aA ([(x6,X6),(x7,X7),(z,Obj.vec 5 RW)]++R).length (x:=zp) (o:=.vec 2 (Q3 ph)) ZC h7;simpa using this
     refine Zh ?_;refine⟨Qr,?_⟩;show ∃m,_;refine⟨ph.length-(k+1),ZA,k+1,ph.set k ⟨p.to,av⟩,_,by rw[Jl],by rw[Jl];omega,by rw[eF];exact iH,?_,kn,rfl,rfl,rfl,rfl,rfl,rfl,rfl,rfl,rfl,rfl,ZB⟩;rw[ik];exact .mk _ _ _ (by rw[Qy,Jl])
  ·intro a7;have bp:ph.length<=k:=ZF
   refine Zb ?_;have j6:ph=(jnX q b n m).ab.map (jnA q b n m):=by rw[eF,D0 _ _ ZA,hJ,E9 hp jE]
   have aQ:=hS.step cD hD j6 (pl:=pl) (by rw[eQ];exact ay);have cL:=JB.ph_rows (ks:=ks) (ph:=ph) (pl:=pl) cD;have dk:=BT (f:=JB.lg) (l:=ks.set m (ks[m].ph ph pl)) (i:=m) (by rw[Jl];exact cD);rw[Jac,J8,eQ]at dk;rw[eQ]at aQ cL;have jS:(kb.ph ph pl).lg=pl++kb.il:=rfl;rw[jS]at dk;generalize ks.set m (kb.ph ph pl)=ks' at *;refine hQ _ H4 ks' aQ (cL.trans em) ?_ rfl rfl rfl rfl rfl rfl rfl;rw[cL,em];refine kn.perm (Qj λf hf h0 hc hp=>?_);have:=hp _ _ dk;have e3:∀(a b c:Nat×Obj),f [a,b,c]=f [a,b]+f [c]:=λa b c=>ZP
   rw[<-hR];simp only[Ui,hf,e3]at this⊢;omega
theorem JnS.congr {b n:Nat}{D D':List Int}{ks:List JB}(h:JnS q b n D ks)(hD:∀x,x∈D↔x∈D'):JnS q b n D' ks:=by
 refine⟨h.len,λj hj=>?_,h.ok⟩;rw[h.y j hj,jnY,jnY];by_cases hj:(j:Int)∈D
 ·rw[if_pos hj,if_pos ((hD _).1 hj)]
 ·rw[if_neg hj,if_neg (λhh=>hj ((hD _).2 hh))]
theorem JnS.all {b n:Nat}{ks:List JB}(h:JnS q b n (Qt q n).next ks):ks.map JB.y=(jnQ q b n).blocks:=by
 refine Jag (by rw[Jc,h.len,DL]) λj h1 h2=>?_;have hj:j<ks.length:=ZW
 rw[Jt,h.y j hj,<-AP h2,Eo (by rw[<-h.len];exact hj)];rfl
theorem Fb {b n:Nat}(hp:JnP q b n):jnG q b n b=(Qt q n).next:=by rw[jnG,CM hp.ne]
theorem Xi {ns:List Int}(h2:ns.length<=2){i:Nat}(hi:i<ns.length):(bif decide ((0:Int)<(i:Int))then decide (ns[i]=ns.getD 0 0)else false)=decide (ns[i]∈ns.take i):=by
 match ns,i,h2,hi with
 |[x],0,_,_=>simp
 |[x,y],0,_,_=>simp
 |[x,y],1,_,_=>simp
theorem Qbp9 {b n:Nat}(ho:q.ok)(hj:((Qt q n).next.length:Int)=Bd (Qt q n).jump)(hp:JnP q b n)(hK:∀H',Upd H H' []->K (.ag (jnQ q b n).cells) H') :
  Qv prog K2 [.ag q.cells,Uv b,Uv n] H K:=by
 have bg:=ho.b1;have bk:=hp.bl;have bC:=hp.nl;have gM:(Qt q n).next.length<=2:=by
  unfold Bd at hj;split at hj
  ·omega
  ·split at hj
   ·omega
   ·split at hj <;> omega
 obtain⟨nn,jD⟩:∃l,(Qt q n).next=l:=⟨_,rfl⟩;have hn3:nn.length<=2:=by rw[<-jD];exact gM
 have eC:∀v∈nn,∃m:Nat,v=(m:Int)/\m<q.blocks.length/\m≠n:=λv hv=>by
  rw[<-jD]at hv;have jN:=hv;rw[AP bC]at jN;have:=(ho.bs n bC).nx v jN;refine⟨v.toNat,ZA,ZA,λe=>?_⟩;have e2:v=(n:Int):=ZA
  rw[e2]at hv;exact hp.ne (hp.pr n bC (by rw[Bq bC];exact hv))
 refine Qz ?_;refine Qd A6 Y6 ?_;refine Qa ?_;simp only[go_sem,CodeD.cells];intro x6 aZ H1 h1;have kn:=(Kn.ao H).al aZ h1;refine Za ?_;refine YD ho.sg ZA λz ks H2 hy aw k2=>?_;have kn:=kn.comp0 k2;simp only[go_sem,Nt];intro x7 b7 H3 h3;have kn:Kn H H3 [] ([(x6,.st [Ui 0,Ui 0,.sl true 5 []]),(x7,.st [Ui 0,Ui 0,.sl true 5 []])]++([(z,.vec 5 (ks.map JB.row))]++ks.flatMap JB.lg)):=(kn.al b7 h3).perm (Qj λf hf h0 hc hp=>by
  have e2:∀(a b:Nat×Obj),f [a,b]=f [a]+f [b]:=λa b=>hc a [b];show f (([]++[(x6,_)])++([(z,_)]++ks.flatMap JB.lg)++[(x7,_)])=_;simp only[Ui,hf,e2,h0];omega)
 have b7:=kn.l 1 rfl;simp only[go_sem,Pr,b7];intro H4 h4;have kn:Kn H H4 [] ([(x6,.st [Ui 0,Ui 0,.sl true 5 []]),(x7,.st [Ui q.params,Ui q.ae,.ai z 5 0 q.blocks.length])]++([(z,.vec 5 (ks.map JB.row))]++ks.flatMap JB.lg)):=kn.aA 1 rfl h4;refine Qbp8 hp hy aw (λi hi=>by
  have ce:ks.length=q.blocks.length:=ZaL
  have:=(ho.il i ZA).1;rw[Cz hy hi,AP ZA];omega) kn rfl rfl rfl rfl rfl λe5 H5 ks2 hS kn l1 l2 l3 l6 l7 l8=>?_
 clear hy aw k2 b7 h4 h3;refine Q1 (Qa ?_);simp only[go_sem,l1,l2,l3,l6,l7,l8];obtain⟨N,hN⟩:∃N,q.blocks.length=N:=⟨_,rfl⟩;refine Qh (Qe (Qx (λt e1 H1=>∃(i:Nat) (ks:List JB),t=nn.length-i/\i<=nn.length/\JnS q b n (nn.take i) ks/\
  Kn H H1 [] ([(x6,.st [Ui 0,Ui 0,.sl true 5 []]),(x7,.st [Ui q.params,Ui q.ae,.ai z 5 0 q.blocks.length])]++([(z,.vec 5 (ks.map JB.row))]++ks.flatMap JB.lg))/\
  lk 1 e1=Uv b/\lk 2 e1=Uv n/\lk 3 e1=.c (.pp [Ui q.params,Ui q.ae,.sl false 5 (Qm q.blocks)])/\lk 6 e1=Up x6/\lk 7 e1=Up x7/\
  lk 8 e1=.c (.ep (.ai z 5 0 q.blocks.length) 5 b 0)/\lk 9 e1=Uv i) nn.length ?_ ?_))
 ·exact⟨0,ks2,ZA,ZA,by rw[Jbi];exact hS,kn,rfl,rfl,rfl,rfl,rfl,rfl,rfl⟩
 ·clear kn hS l1 l2 l3 l6 l7 l8;rintro t e1 H6 ⟨i,ks,ht,hi,hS,kn,l1,l2,l3,l6,l7,l8,l9⟩;have ce:=hS.len;have ni:b<ks.length:=ZA
  have hz:=kn.l 2 rfl;have gS:(ks.map JB.row).length=q.blocks.length:=by rw[Jc,ce]
  have mN:(ks.map JB.row).take q.blocks.length=ks.map JB.row:=Jh ZA;have mP:(ks.map JB.row).getD b []=[ks[b].pc,ks[b].ic,Ui ks[b].y.jump,Ui ks[b].y.on,.sl ks[b].fl 1 (Qc nn)]:=by
   rw[JB.getD ni,JB.row,hS.y b ni,F6,Fb hp,jD]
  refine Q1 (Qa ?_);simp only[go_sem,l1,l2,l3,l6,l7,l8,l9,hz,gS,mN,mP,bk,Qb,Jf,Jg];try intro _
  refine Wu ?_ ?_
  ·intro hc;have af:i<nn.length:=ZD
   have A3:0<nn.length:=ZA
   obtain⟨m,hm,dy,jE⟩:=eC nn[i] (Jb af);have b6:nn.getD i 0=(m:Int):=by rw[<-hm];simp[Jd,af]
   have yT:=Xi (ns:=nn) (by rw[<-jD];exact gM) af;rw[hm]at yT;refine Zd ?_
   refine Wb ?_;simp only[go_sem,hz,gS,mN,mP,bk,af,Qb,Qo _ _ af,b6,Jf,Jg];refine Q1 (Qa ?_);simp only[go_sem,hz,gS,mN,mP,bk,A3,Qb,Qo _ _ A3,Jf,Jg];try intro _
   refine⟨λ_=>Jaw 0,?_⟩;refine Wu ?_ ?_
   ·intro a7;have a7:=yT.symm.trans a7;have bZ:(m:Int)∈nn.take i:=of_decide_eq_true a7;refine Zb ?_;refine Zh ?_;refine⟨Qr,?_⟩;show ∃m,_;refine⟨nn.length-(i+1),ZA,i+1,ks,rfl,ZA,hS.congr λx=>?_,kn,rfl,rfl,rfl,rfl,rfl,rfl,ZB⟩;rw[Jr af,hm,Js,Ja];exact⟨.inl,λh=>h.elim id λe=>by rw[e];exact bZ⟩
   ·intro a7;have a7:=yT.symm.trans a7;have bZ:¬(m:Int)∈nn.take i:=of_decide_eq_false a7;refine Zd ?_
    refine Qbkq ho hp hS bZ (by rw[jD,<-hm];exact Jb af) dy jE kn rfl rfl rfl rfl rfl rfl rfl rfl λe7 H7 ks' mM cL kn l1 l2 l3 l6 l7 l8 l9=>?_;simp only[go_sem,X.next];refine Qq ?_;simp only[go_sem,l1,l2,l3,l6,l7,l8,l9];refine⟨Qr,?_⟩;show ∃m,_;refine⟨nn.length-(i+1),ZA,i+1,ks',rfl,ZA,?_,kn,rfl,rfl,rfl,rfl,rfl,rfl,ZB⟩;rw[Jr af,hm];exact mM
  ·intro hc;have iA:i=nn.length:=by have:nn.length<=i:=ZD;omega
   subst iA;rw[Ja0,<-jD]at hS;refine Zb ?_;have b7:=kn.l 1 rfl;have aZ:=kn.l 0 rfl;refine Zn b7 aZ ?_;intro H7 h7;have kn:Kn H H7 [] ([(x6,.st [Ui q.params,Ui q.ae,.ai z 5 0 q.blocks.length]),(x7,.st [Ui q.params,Ui q.ae,.ai z 5 0 q.blocks.length])]++([(z,.vec 5 (ks.map JB.row))]++ks.flatMap JB.lg)):=kn.aA 0 rfl h7;have aZ:=kn.l 0 rfl;have hz:=kn.l 2 rfl;refine Zj aZ ?_;have hH:Held H7 (un H) (ks.flatMap JB.lg):=λp hp=>
    ⟨(kn.get p (Je _ (Je _ (Je _ hp)))).1,C5 (kn.loc p (Je _ (Je _ hp)))⟩
   have bA:=JB.frzR hS.ok hH;rw[hS.all]at bA;have ey:=FrzR.ai (kn.un 2 rfl) hz (by rw[Jc,ce]) bA;exact⟨_,FrzL.ag (.cons (Qg rfl) (.cons (Qg rfl) (.cons ey .nil))),hK _ kn.fin⟩
end Go.AE.Y
namespace Go.AE.Y
attribute [local go_sem] cond_true cond_false Bool.not_true Bool.not_false
attribute [local instance] Classical.propDecidable
open Go.Proofs.Tryz
variable {H H0 H':Heap}{K:Uk}{q p:CodeD}{E L R:Ul}
structure JnOk (q:CodeD):Prop where
 ok:∀i,(Nat.repeat jn1 i q).ok
 jn:∀i b,b<(Nat.repeat jn1 i q).blocks.length->((Qt (Nat.repeat jn1 i q) b).next.length:Int)=Bd (Qt (Nat.repeat jn1 i q) b).jump
theorem Gh {cs:List CodeD}(hg:AN cs=true){k:Nat}(hk:k<cs.length):JnOk cs[k]:=by
 have fg:∀i,k<(cs.map (Nat.repeat jn1 i)).length:=λi=>by simpa using hk
 have e:∀i,(cs.map (Nat.repeat jn1 i))[k]'(fg i)=Nat.repeat jn1 i cs[k]:=λi=>by rw[Jt]
 refine⟨λi=>?_,λi b hb=>?_⟩
 ·have:=CE (Pj hg i) (fg i);rw[e]at this;exact this
 ·have:=(F2 (Pj hg i)).jn k b (fg i) (by rw[EC (fg i),e];exact hb);rw[EC (fg i),e]at this;exact this
theorem Gd:∀i,(Nat.repeat jn1 i q).blocks.length=q.blocks.length
 |0=>rfl
 |i+1=>by
  show (jn1 (Nat.repeat jn1 i q)).blocks.length=_;rw[Gi,Gd i]
theorem F9:(jn1 q).params=q.params/\(jn1 q).ae=q.ae:=⟨FR,Ge⟩
theorem N4 {b:Nat}(hb:JnP q b (skT q b).toNat)(h:∀c,c<b->¬JnP q c (skT q c).toNat):jnF q=some (b,(skT q b).toNat):=by
 have bk:=hb.bl;obtain⟨m,hm⟩:∃m,q.blocks.length=b+(m+1):=⟨q.blocks.length-b-1,ZA⟩;have e:List.range q.blocks.length=List.range b++(List.range (m+1)).map (b+·):=by rw[hm,List.range_add]
 rw[jnF,e,List.find?_append];have h1:(List.range b).find? (λb=>decide (JnP q b (skT q b).toNat))=none:=by
  rw[List.find?_eq_none];intro c hc hh;exact h c (J7.1 hc) (of_decide_eq_true hh)
 rw[h1,List.range_succ_eq_map];simp[hb]
theorem N5 (h:∀c,c<q.blocks.length->¬JnP q c (skT q c).toNat):jnF q=none:=by
 rw[jnF,Option.map_eq_none_iff,List.find?_eq_none];intro c hc hh;exact h c (J7.1 hc) (of_decide_eq_true hh)
theorem LM {fl:Bool}(ho:q.ok)(hK:∀H',Upd H H' []->K (.ag (AZ q).cells) H') :
  Qv prog Hi [.ag [Ui q.params,Ui q.ae,.sl fl 5 (Qm q.blocks)]] H K:=by
 refine Qz (Qbfg ho λz H' kn=>?_);have ey:=FrzR.ai (kn.un 0 rfl) (kn.l 0 rfl) (by rw[Ql]) (FrzR.same (PH _));exact⟨_,FrzL.ag (.cons (Qg rfl) (.cons (Qg rfl) (.cons ey .nil))),hK _ kn.fin⟩
theorem Qbko (ho : q.ok) (hs : JnOk (AZ q)) (hK : ∀ H', Upd H H' [] -> K (.ag (jnD q).cells) H') :
    Qv prog Lu [.ag [Ui q.params, Ui q.ae, .sl false 5 (Qm q.blocks)]] H K := by
  obtain ⟨d, hd⟩ : ∃ d, AZ q = d := ⟨_, rfl⟩;have pd : jnD q = AZ (jnE d) := by rw [<- hd]; rfl
  rw [hd] at hs;have kF : d.ok := hs.ok 0;have cU := kF.b1;refine Qz ?_;refine Qd A6 Qbli ?_;refine Qa ?_;simp only [go_sem];intro x2 aH H1 h1;have kn := (Kn.ao H).al aH h1;refine Qa ?_;simp only [go_sem];refine LM ho λH2 hu => ?_;have kn := kn.au hu;rw [hd];simp only [go_sem, Q44, CodeD.cells];intro x3 aK H3 h3;have kn : Kn H H3 [] [(x2, .st [Ui 0, Ui 0, .sl true 5 []]), (x3, .st [Ui 0, Ui 0, .sl true 5 []])] := kn.al aK h3;have aK := kn.l 1 rfl;simp only [go_sem, Q43, aK];intro H4 h4;have kn : Kn H H4 [] [(x2, .st [Ui 0, Ui 0, .sl true 5 []]), (x3, .st d.cells)] := kn.aA 1 rfl h4;refine Q1 (Qa ?_);simp only [go_sem];refine Qh (Qe (Qx (λmm e1 H1 => ∃ (i b : Nat), mm = jnW (Nat.repeat jn1 i d) * (d.blocks.length + 1) + (d.blocks.length - b) /\ b <= d.blocks.length /\ (∀ c, c < b -> ¬ JnP (Nat.repeat jn1 i d) c (skT (Nat.repeat jn1 i d) c).toNat) /\
    Kn H H1 [] [(x2, .st [Ui 0, Ui 0, .sl true 5 []]), (x3, .st (Nat.repeat jn1 i d).cells)] /\ e1 = [(2, Up x2), (3, Up x3), (4, Uv b)]) (jnW (Nat.repeat jn1 0 d) * (d.blocks.length + 1) + (d.blocks.length - 0)) ?_ ?_))
  · exact ⟨0, 0, rfl, by omega, λc hc => absurd hc (Nat.not_lt_zero c), kn, rfl⟩
  clear kn aK;rintro mm e1 H5 ⟨i, b, dm, bk, bx, kn, rfl⟩;obtain ⟨p, hp⟩ : ∃ p, Nat.repeat jn1 i d = p := ⟨_, rfl⟩;have kV : p.ok := by rw [<- hp]; exact hs.ok i
  have sX : ∀ b, b < p.blocks.length -> ((Qt p b).next.length : Int) = Bd (Qt p b).jump := by rw [<- hp]; exact hs.jn i
  have cQ : p.blocks.length = d.blocks.length := by rw [<- hp]; exact Gd i
  rw [hp] at dm bx kn;have aK := kn.l 1 rfl;have aH := kn.l 0 rfl;rw [<- cQ] at bk;refine Q1 (Qa ?_);simp only [go_sem, aK, CodeD.cells, Ql];try intro _
  refine Wu ?_ ?_
  · intro hc;have af : b < p.blocks.length := by have : (b : Int) < p.blocks.length := of_decide_eq_true hc;omega
    refine Qi ?_;try simp only [go_sem]
    refine Wb ?_;simp only [go_sem, aK, CodeD.cells];refine Qbkp .frz af kV (sX b af) λH6 hu => ?_;have kn := kn.au hu;have aK := kn.l 1 rfl;simp only [go_sem, Q45];refine Qa ?_;simp only [go_sem];by_cases hj : JnP p b (skT p b).toNat
    · have hF := N4 hj bx;have fe := Pl hF;have cd := hj.n0;have hV : jnV p b = (((skT p b).toNat : Nat) : Int) := (by rw [jnV, if_pos hj]; omega);have e1 : jn1 p = jnQ p b (skT p b).toNat := (by rw [jn1, jnS, hF]);rw [hV];refine Qf rfl (λ_ => ?_) (λa7 => by have : ¬ (0 : Int) <= ((skT p b).toNat : Int) := of_decide_eq_false a7;omega)
      refine Qa ?_;simp only [go_sem, aK, CodeD.cells];refine Qbp9 kV (sX _ hj.nl) hj λH7 hu => ?_;have kn := kn.au hu;rw [<- e1];have aK := kn.l 1 rfl;simp only [go_sem, Q46, aK, CodeD.cells];intro H8 h8;have kn : Kn H H8 [] [(x2, .st [Ui 0, Ui 0, .sl true 5 []]), (x3, .st (jn1 p).cells)] := kn.aA 1 rfl h8;refine Qq ?_;simp only [go_sem, X.next];refine Qq ?_;simp only [go_sem, X.next];refine ⟨Qr, ?_⟩;have cn : Nat.repeat jn1 (i + 1) d = jn1 p := by
        show jn1 (Nat.repeat jn1 i d) = _;rw [hp]
      have hm := Ja6 (d.blocks.length + 1) (Nat.succ_le_of_lt fe);rw [Jbj] at hm;show ∃ m, _;refine ⟨jnW (jn1 p) * (d.blocks.length + 1) + (d.blocks.length - 0), by omega, i + 1, 0, by rw [cn], by omega, λc hc => absurd hc (Nat.not_lt_zero c), by rw [cn]; exact kn, rfl⟩
    · have hV : jnV p b = -1 := (by rw [jnV, if_neg hj]);rw [hV];refine Qf rfl (λa7 => absurd a7 ZN) (λ_ => ?_);refine Qi ?_;try simp only [go_sem, X.next]
      refine Qq ?_;simp only [go_sem];refine ⟨Qr, ?_⟩;show ∃ m, _;refine ⟨jnW p * (d.blocks.length + 1) + (d.blocks.length - (b + 1)), by omega, i, b + 1, by rw [hp], by omega, λc hc => ?_, by rw [hp]; exact kn, rfl⟩;rw [hp];by_cases eL : c = b
      · rw [eL]; exact hj
      · exact bx c ZA
  · intro hc;have f0 : b = p.blocks.length := by have : ¬ (b : Int) < p.blocks.length := of_decide_eq_false hc;omega
    subst f0;have dT := N5 bx;have j6 : p = jnE d := ZaR;refine Qu ?_;simp only [go_sem, X.next];refine Qa ?_;simp only [go_sem, aK, CodeD.cells];refine LM kV λH6 hu => ?_;have kn := kn.au hu;have aH := kn.l 0 rfl;simp only [go_sem, Qz9, CodeD.cells, aH];intro H7 h7;have kn := kn.aA 0 rfl h7;have aH := kn.l 0 rfl;refine Qk ?_;simp only [go_sem, Q7, A5, Bf, Ja, forall_eq, RS.op, aH];rw [pd, <- j6] at hK;exact ⟨_, FrzL.ag (.cons (.same _ rfl) (.cons (.same _ rfl) (.cons (.same _ rfl) .nil))), hK _ kn.fin⟩
end Go.AE.Y
namespace Go.AE.Y
attribute [local go_sem] cond_true cond_false Bool.not_true Bool.not_false
open Go.Proofs.Tryz
variable {H H0:Heap}{K:Uk}{E B Lg:Ul}{q:CodeD}
abbrev Plc:=Int×Int
def pRow (p:Plc):List C:=[.sl true 1 [[.int .i64 p.1],[.int .i64 p.2]]]
def B9 (ps:List Plc):List (List C):=ps.map pRow
theorem Ot (ps:List Plc):(B9 ps).length=ps.length:=by simp[B9]
theorem Qbf8 (ps:List Plc)(i:Nat)(h:i<ps.length):(B9 ps).getD i []=pRow ps[i]:=by simp[B9,Jd,h]
theorem Q1d (ps:List Plc):∀r∈B9 ps,ak r=true:=by intro r hr;obtain⟨x,_,rfl⟩:=Jk.1 hr;rfl
def phS (q:CodeD)(b k r:Nat):List Plc:=(((Qt q b).ab.take k).filter λp=>decide (p.to=(r:Int))).map λ_=>((b:Int),(-1:Int))
def CW (q:CodeD)(b i:Nat):Int:=(((Qt q b).ins[i]?).map BN).getD (-1)
def inS (q:CodeD)(b j r:Nat):List Plc:=((List.range j).filter λi=>decide (CW q b i=(r:Int))).map λ(i:Nat)=>((b:Int),(i:Int))
def blS (q:CodeD)(b r:Nat):List Plc:=phS q b (Qt q b).ab.length r++inS q b (Qt q b).ins.length r
def BZ (q:CodeD)(b r:Nat):List Plc:=(List.range b).flatMap λb=>blS q b r
def Cv (q:CodeD)(r:Nat):List Plc:=BZ q q.blocks.length r
def C3 (q:CodeD):List (List C):=(List.range q.ae.toNat).map λr=>[.sl false 1 (B9 (Cv q r))]
theorem Yf {b k r:Nat}(h:k<(Qt q b).ab.length):phS q b (k+1) r=phS q b k r++if (Qt q b).ab[k].to=(r:Int)then [((b:Int),(-1:Int))]else []:=by
 rw[phS,phS,Jr h,Jas,Jp];congr 1;by_cases hc:(Qt q b).ab[k].to=(r:Int)
 ·rw[if_pos hc];simp[hc]
 ·rw[if_neg hc];simp[hc]
theorem Qblw {b i:Nat}(h:i<(Qt q b).ins.length):CW q b i=BN (Qt q b).ins[i]:=by simp[CW,h]
theorem I6 {b j r:Nat}:inS q b (j+1) r=inS q b j r++if CW q b j=(r:Int)then [((b:Int),(j:Int))]else []:=by
 rw[inS,inS,Ja3,Jas,Jp];congr 1;by_cases hc:CW q b j=(r:Int)
 ·rw[if_pos hc];simp[hc]
 ·rw[if_neg hc];simp[hc]
theorem Qbc5 {b r:Nat}:BZ q (b+1) r=BZ q b r++blS q b r:=by simp[BZ,Ja3]
theorem Qa5x (x:InsD):(BR x.op=true/\BN x=x.to)\/(BR x.op=false/\BN x=-1):=by
 cases h:BR x.op with
 |true=>exact .inl ⟨rfl,by simp[BN,h]⟩
 |false=>exact .inr ⟨rfl,by simp[BN,h]⟩
structure SReg where
 ps:List Plc
 c:C
 lg:Ul
def SReg.row (s:SReg):List C:=[s.c]
def SReg.ok (s:SReg):Prop:=Gr s.lg 1 (B9 s.ps) s.c
structure SInv (R N:Nat)(F:Nat->List Plc)(ss:List SReg):Prop where
 n:ss.length=R
 f:∀r (h:r<ss.length),ss[r].ps=F r
 ok:∀s∈ss,s.ok
 l:∀s∈ss,s.ps.length<=N
variable {R N:Nat}{F F':Nat->List Plc}{ss:List SReg}
theorem SInv.get (h:SInv R N F ss){x:Nat}(hx:x<R):∃s∈ss,∃gg:x<ss.length,ss[x]=s/\s.ps=F x/\s.ok/\s.ps.length<=N/\(ss.map SReg.row).getD x []=[s.c]:=
 have gg:x<ss.length:=by rw[h.n];exact hx
 ⟨ss[x],Jb gg,gg,rfl,h.f x gg,h.ok _ (Jb gg),h.l _ (Jb gg),by simp[Jd,gg,SReg.row]⟩
theorem SInv.put (h:SInv R N F ss){x:Nat}(hx:x<R){p:Plc}{t:C}{Lg:Ul}(hg:Gr Lg 1 (B9 (F x++[p])) t)(hF:∀r,F' r=if r=x then F x++[p]else F r) :
  SInv R (N+1) F' (ss.set x ⟨F x++[p],t,Lg⟩):=by
 obtain⟨s,hs,gg,e1,e2,e3,e4,_⟩:=h.get hx;refine⟨by rw[Jl];exact h.n,λr hr=>?_,λw hw=>?_,λw hw=>?_⟩
 ·rw[J5,hF];split
  ·rename_i e;rw[if_pos e.symm]
  ·rename_i e;rw[if_neg (λhh=>e hh.symm)];exact h.f r Zah
 ·rcases Jy hw with hw|rfl
  ·exact h.ok w hw
  ·exact hg
 ·rcases Jy hw with hw|rfl
  ·have:=h.l w hw;omega
  ·rw[e2]at e4;simp only[Jat,Jn,Jm];omega
theorem SInv.same (h:SInv R N F ss)(hF:∀r,r<R->F' r=F r):SInv R N F' ss:=⟨h.n,λr hr=>by rw[h.f r hr,hF r Za5],h.ok,h.l⟩
theorem SInv.up (h:SInv R N F ss){M:Nat}(hM:N<=M):SInv R M F ss:=⟨h.n,h.f,h.ok,λs hs=>by have:=h.l s hs;omega⟩
def ssL (o:Nat)(ss:List SReg):List (Nat×Obj):=[(o,.vec 1 (ss.map SReg.row))]++ss.flatMap SReg.lg
theorem FL {o x:Nat}{s:SReg}(hx:x<ss.length)(hs:ss[x]=s):(ssL o ss).Perm (([(o,.vec 1 (ss.map SReg.row))]++(ss.eraseIdx x).flatMap SReg.lg)++s.lg):=by
 subst hs;have:=BT (f:=SReg.lg) hx;rw[ssL];refine Qj λf hf h0 hc hp=>?_;have:=hp _ _ this;simp only[Ui,hf]at this⊢;omega
theorem Iz {o x:Nat}{s:SReg}(hx:x<ss.length):(([(o,Obj.vec 1 ((ss.set x s).map SReg.row))]++(ss.eraseIdx x).flatMap SReg.lg)++s.lg).Perm (ssL o (ss.set x s)):=by
 have h1:=FL (o:=o) (ss:=ss.set x s) (x:=x) (s:=s) (by rw[Jl];exact hx) ZC;rw[J8]at h1;exact h1.symm
theorem Qbkm {fl:Bool}(ho:q.ok)(hK:∀H',Upd H H' []->K (.c (.sl false 1 (C3 q))) H') :
  Qv prog Lw [.ag [Ui q.params,Ui q.ae,.sl fl 5 (Qm q.blocks)]] H K:=by
 have bR:=ho.r0;have ib:=ho.r1;have bg:=ho.b1;obtain⟨R,hR⟩:∃R:Nat,q.ae.toNat=R:=⟨_,rfl⟩;have ur:q.ae=(R:Int):=ZA
 refine Qz ?_;refine Qd A6 Qblg ?_;refine Za ?_;refine Zi ur ?_;refine⟨by simp only[LIM];omega,λo kW H1 h1=>?_⟩;have kn:Kn H H1 [] (ssL o (List.replicate R ⟨[],.sl true 1 [],[]⟩)):=by
  have e:(List.replicate R (SReg.mk [] (.sl true 1 []) [])).flatMap SReg.lg=[]:=List.flatMap_eq_nil_iff.2 λs hs=>by rw[Jaa hs]
  have:=(Kn.ao H).al kW h1;rw[ssL,e];simpa[SReg.row]using this
 simp only[go_sem,Q4v];have mL:SInv R 0 (BZ q 0) (List.replicate R ⟨[],.sl true 1 [],[]⟩):=⟨ZC,λr h=>by simp[BZ],λs hs=>by rw[Jaa hs];exact .nil 1,λs hs=>by rw[Jaa hs];simp⟩;generalize List.replicate R (SReg.mk [] (.sl true 1 []) [])=ss0 at *;refine Wa ?_;refine Qh (Qe (Qx (λm e1 H1=>∃(b N:Nat) (ss:List SReg),m=q.blocks.length-b/\b<=q.blocks.length/\N<=b * 2400/\SInv R N (BZ q b) ss/\Kn H H1 [] (ssL o ss)/\
  lk 1 e1=.c (.pp [Ui q.params,Ui (R:Int),.sl fl 5 (Qm q.blocks)])/\lk 3 e1=.c (.ai o 1 0 R)/\lk 4 e1=Uv b) q.blocks.length ?_ ?_))
 ·exact⟨0,0,ss0,ZA,ZA,ZA,mL,kn,rfl,rfl,rfl⟩
 ·clear kn mL h1 kW;clear ss0;rintro m e1 H1 ⟨b,N,ss,hm,hb,o0,hS,kn,l1,l3,l4⟩;refine Q1 (Qa ?_);simp only[go_sem,l1,l3,l4,Ql];try intro _
  refine Wu ?_ ?_
  ·intro hc;have af:b<q.blocks.length:=ZD
   obtain⟨y,hy⟩:∃y,q.blocks[b]=y:=⟨_,rfl⟩;have fF:Qt q b=y:=by rw[AP af,hy]
   have cC:=ho.bs b af;have cj:=ho.il b af;rw[hy]at cC cj;refine Zd ?_
   refine Qh (Qe ?_);refine Wa ?_;refine Qh (Qe (Qx (λm e1 H1=>∃(k N:Nat) (ss:List SReg),m=y.ab.length-k/\k<=y.ab.length/\N<=b * 2400+k/\SInv R N (λr=>BZ q b r++phS q b k r) ss/\Kn H H1 [] (ssL o ss)/\
    lk 1 e1=.c (.pp [Ui q.params,Ui (R:Int),.sl fl 5 (Qm q.blocks)])/\lk 3 e1=.c (.ai o 1 0 R)/\lk 4 e1=Uv b/\lk 5 e1=Uv k) y.ab.length ?_ ?_))
   ·exact⟨0,N,ss,ZA,ZA,Jbb o0 (Jbd _ _),hS.same λr _=>by simp[phS],kn,rfl,rfl,rfl,rfl⟩
   ·clear kn hS l1 l3 l4;clear ss o0;clear N;rintro m2 e2 H2 ⟨k,N,ss,eW,hk,o0,hS,kn,l1,l3,l4,l5⟩;refine Q1 (Qa ?_);simp only[go_sem,l1,l3,l4,l5,af,Ql,Q9 _ _ af,BlkD.cells,hy,Qy];try intro _
    refine Wu ?_ ?_
    ·intro a7;have aN:k<y.ab.length:=ZF;obtain⟨p,hp⟩:∃p,y.ab[k]=p:=⟨_,rfl⟩;have ee:p∈y.ab:=ZaZ;obtain⟨hv,bO⟩:=(cC.pto p ee).nat;have sC:∀r,phS q b (k+1) r=phS q b k r++if p.to=(r:Int)then [((b:Int),(-1:Int))]else []:=λr=>by
      have:=Yf (q:=q) (b:=b) (k:=k) (r:=r) (by rw[fF];exact aN);simp only[fF,hp]at this;exact this
     refine Zd ?_
     refine Qh (Qe ?_);rw[hR]at bO;generalize hx:p.to.toNat=x at *;obtain⟨s,gK,eu,qf,sN,aI,cW,jg⟩:=hS.get bO;have fU:=aI.ah;refine Qa ?_;simp only[go_sem,af,Ql,Q9 _ _ af,BlkD.cells,hy,Qy,aN,BU _ _ aN,PhiD.cells,hp];have kn:=kn.perm (FL eu qf);have bh:H2 o=.vec 1 (ss.map SReg.row):=(kn.get (o,.vec 1 (ss.map SReg.row)) ZC).1;have dB:(ss.map SReg.row).length=R:=(by rw[Jc,hS.n]);have lI:(ss.map SReg.row).take R=ss.map SReg.row:=Jh ZA;refine Qq ?_;simp only[go_sem,bh,dB,lI,hv,bO,jg,fU,Jf,Jg];refine kn.br (new:=B9 [((b:Int),(-1:Int))]) aI (.mk' _ _ _ _) (Q1d _) (by simp only[Ot,LIM,Jn,Jm];omega) λt2 Lg2 H3 dA di kn=>?_;have bh:H3 o=.vec 1 (ss.map SReg.row):=(kn.get (o,.vec 1 (ss.map SReg.row)) ZC).1;simp only[go_sem,Q4w,bh,dB,bO,jg,Jf,Jg];intro H4 h4;obtain⟨s',dV⟩:∃s':SReg,s'=⟨(BZ q b x++phS q b k x)++[((b:Int),(-1:Int))],t2,Lg2⟩:=⟨_,rfl⟩;have bK:(ss.map SReg.row).set x [t2]=(ss.set x s').map SReg.row:=(by rw[J2,dV];rfl);rw[bK]at h4;have kn:Kn H H4 [] (([(o,.vec 1 ((ss.set x s').map SReg.row))]++(ss.eraseIdx x).flatMap SReg.lg)++s'.lg):=by
      have e:s'.lg=Lg2:=(by rw[dV]);rw[e];exact kn.aA 0 rfl h4
     have kn:=kn.perm (Iz eu);refine Zh ?_;refine⟨Qr,?_⟩;show ∃m,_;refine⟨y.ab.length-(k+1),ZA,k+1,N+1,ss.set x s',rfl,ZA,ZA,?_,kn,rfl,rfl,rfl,rfl⟩;rw[dV];refine (hS.put bO (p:=((b:Int),(-1:Int))) (t:=t2) (Lg:=Lg2) ?_ λr=>?_)
     ·have:B9 ((BZ q b x++phS q b k x)++[((b:Int),(-1:Int))])=B9 s.ps++B9 [((b:Int),(-1:Int))]:=(by rw[sN];simp[B9]);rw[this];exact dA
     ·show BZ q b r++phS q b (k+1) r=_;rw[sC];by_cases gL:r=x
      ·subst gL;rw[if_pos rfl,if_pos hv];simp
      ·rw[if_neg gL,if_neg ZA];simp
    ·intro a7;have jm:k=y.ab.length:=(by have:y.ab.length<=k:=(by simpa using a7);omega);subst jm;refine Wc ?_;refine Qe (Qx (λm e1 H1=>∃(j N:Nat) (ss:List SReg),m=y.ins.length-j/\j<=y.ins.length/\N<=b * 2400+y.ab.length+j/\SInv R N (λr=>BZ q b r++phS q b y.ab.length r++inS q b j r) ss/\Kn H H1 [] (ssL o ss)/\
      lk 1 e1=.c (.pp [Ui q.params,Ui (R:Int),.sl fl 5 (Qm q.blocks)])/\lk 3 e1=.c (.ai o 1 0 R)/\lk 4 e1=Uv b/\lk 7 e1=Uv j) y.ins.length ?_ ?_)
     ·exact⟨0,N,ss,ZA,ZA,Jbb o0 (Jbd _ _),hS.same λr _=>by simp[inS],kn,rfl,rfl,rfl,rfl⟩
     ·clear kn hS l1 l3 l4 l5;clear ss o0;clear N;rintro m3 e3 H3 ⟨j,N,ss,uN,hj,o0,hS,kn,l1,l3,l4,l7⟩;refine Q1 (Qa ?_);simp only[go_sem,l1,l3,l4,l7,af,Ql,Q9 _ _ af,BlkD.cells,hy,Bm];try intro _
      refine Wu ?_ ?_
      ·intro bn;have bF:j<y.ins.length:=ZR;obtain⟨x,hx⟩:∃x,y.ins[j]=x:=⟨_,rfl⟩;have kR:x∈y.ins:=(by rw[<-hx];exact Jb bF);have zA:CW q b j=BN x:=by
        have:=Qblw (q:=q) (b:=b) (i:=j) (by rw[fF];exact bF);simp only[fF,hx]at this;exact this
       refine Zd ?_
       refine Bk (λe2 H2=>∃(N:Nat) (ss:List SReg),N<=b * 2400+y.ab.length+(j+1)/\SInv R N (λr=>BZ q b r++phS q b y.ab.length r++inS q b (j+1) r) ss/\Kn H H2 [] (ssL o ss)/\
        lk 1 e2=.c (.pp [Ui q.params,Ui (R:Int),.sl fl 5 (Qm q.blocks)])/\lk 3 e2=.c (.ai o 1 0 R)/\lk 4 e2=Uv b/\lk 7 e2=Uv j) ?_ ?_
       ·intro Q bH _ _;refine Qe (Qa ?_);simp only[go_sem,af,Ql,Q9 _ _ af,BlkD.cells,hy,bF,Bm,DJ _ _ bF,InsD.cF,InsD.bv,InsD.len4,hx];refine KZ ?_;simp only[go_sem,E4];refine Za ?_;refine Wv ?_ ?_
        ·intro dc;have bp:0<=BN x:=(by simpa using dc);have cD:BR x.op=true/\BN x=x.to:=by
          rcases Qa5x x with h|⟨_,h⟩
          ·exact h
          ·omega
         obtain⟨hv,bO⟩:=(cC.to x kR cD.1).nat;rw[<-cD.2,hR]at bO;rw[<-cD.2]at hv;clear cD;generalize hx:(BN x).toNat=z at *;obtain⟨s,gK,eu,qf,sN,aI,cW,jg⟩:=hS.get bO;have fU:=aI.ah;have kn:=kn.perm (FL eu qf);have bh:H3 o=.vec 1 (ss.map SReg.row):=(kn.get (o,.vec 1 (ss.map SReg.row)) ZC).1;have dB:(ss.map SReg.row).length=R:=(by rw[Jc,hS.n]);have lI:(ss.map SReg.row).take R=ss.map SReg.row:=Jh ZA;refine Qq ?_;simp only[go_sem,bh,dB,lI,hv,bO,jg,fU,Jf,Jg];refine kn.br (new:=B9 [((b:Int),(j:Int))]) aI (.mk' _ _ _ _) (Q1d _) (by simp only[Ot,LIM,Jn,Jm];omega) λt2 Lg2 H4 dA di kn=>?_;have bh:H4 o=.vec 1 (ss.map SReg.row):=(kn.get (o,.vec 1 (ss.map SReg.row)) ZC).1;simp only[go_sem,Q4y,bh,dB,bO,jg,Jf,Jg];intro H5 h5;obtain⟨s',dV⟩:∃s':SReg,s'=⟨(BZ q b z++phS q b y.ab.length z++inS q b j z)++[((b:Int),(j:Int))],t2,Lg2⟩:=⟨_,rfl⟩;have bK:(ss.map SReg.row).set z [t2]=(ss.set z s').map SReg.row:=(by rw[J2,dV];rfl);rw[bK]at h5;have kn:Kn H H5 [] (([(o,.vec 1 ((ss.set z s').map SReg.row))]++(ss.eraseIdx z).flatMap SReg.lg)++s'.lg):=by
          have e:s'.lg=Lg2:=(by rw[dV]);rw[e];exact kn.aA 0 rfl h5
         have kn:=kn.perm (Iz eu);refine bH _ _ ⟨N+1,ss.set z s',ZA,?_,kn,rfl,rfl,rfl,rfl⟩;rw[dV];refine (hS.put bO (p:=((b:Int),(j:Int))) (t:=t2) (Lg:=Lg2) ?_ λr=>?_)
         ·have:B9 ((BZ q b z++phS q b y.ab.length z++inS q b j z)++[((b:Int),(j:Int))])=B9 s.ps++B9 [((b:Int),(j:Int))]:=(by rw[sN];simp[B9]);rw[this];exact dA
         ·show BZ q b r++phS q b y.ab.length r++inS q b (j+1) r=_;rw[I6,zA];by_cases gL:r=z
          ·subst gL;rw[if_pos rfl,if_pos hv];simp
          ·rw[if_neg gL,if_neg ZA];simp
        ·intro dc;have tk:¬0<=BN x:=(by simpa using dc);refine Zd ?_
         refine bH _ _ ⟨N,ss,ZA,hS.same λr _=>?_,kn,rfl,rfl,rfl,rfl⟩;rw[I6,zA,if_neg ZA];simp
       ·rintro e4 H4 ⟨N,ss,o0,hS,kn,l1,l3,l4,l7⟩;refine Qq ?_;simp only[go_sem,l1,l3,l4,l7];refine⟨Qr,?_⟩;show ∃m,_;exact⟨y.ins.length-(j+1),ZA,j+1,N,ss,rfl,ZA,o0,hS,kn,rfl,rfl,rfl,rfl⟩
      ·intro bn;have nU:j=y.ins.length:=(by have:y.ins.length<=j:=(by simpa using bn);omega);subst nU;refine Zb ?_;refine Zh ?_;refine⟨Qr,?_⟩;show ∃m,_;refine⟨q.blocks.length-(b+1),ZA,b+1,N,ss,rfl,ZA,ZA,hS.same λr _=>?_,kn,rfl,rfl,rfl⟩;rw[Qbc5,blS,fF];simp
  ·intro hc;have f0:b=q.blocks.length:=by have:q.blocks.length<=b:=ZD;omega
   subst f0;refine Wp ?_;have bh:=kn.l 0 rfl;have bZ:∀p∈ssL o ss,H1 p.1=p.2/\un H p.1=true:=λp hp=>⟨(kn.get p (Je _ hp)).1,C5 (kn.loc p hp)⟩;have bA:FrzR H1 (un H) (ss.map SReg.row) (C3 q):=by
    have e:C3 q=ss.map λs=>[C.sl false 1 (B9 s.ps)]:=by
     rw[C3,hR];refine Jag (by simp[hS.n]) λi h1 h2=>?_;have h3:i<ss.length:=Zaf;simp only[Jt,List.getElem_range,hS.f i h3];rfl
    rw[e];exact Dm ss λs hs=>.cons (Gr.frzM (hS.ok s hs) (λp hp=>bZ p (Je _ (Jo.2 ⟨s,hs,hp⟩))) (FrzR.same (Q1d _))) .nil
   exact⟨_,.c _ _ (bA.ai (kn.un 0 rfl) bh (by rw[Jc,hS.n])),hK _ kn.fin⟩
end Go.AE.Y
namespace Go.AE.Y
open Go.Proofs.Tryz
variable {H H0:Heap}{K:Uk}{E B Lg:Ul}
def Gq (Lg:List (Nat×Obj))(W:List Nat)(c:C):Prop:=
 (c=.sl true 1 []/\W=[]/\Lg=[])\/∃z st R,c=.ai z 1 st W.length/\Lg=[(z,.vec 1 R)]/\(R.drop st).take W.length=AA W/\st+W.length<=R.length
theorem Gq.ah {W:List Nat}{c:C}(h:Gq Lg W c):c.ah=false:=by rcases h with ⟨rfl,_⟩|⟨z,st,R,rfl,_⟩ <;> rfl
theorem Gq.aO {W:List Nat}{c:C}(h:Gq Lg W c):c.aO=1:=by rcases h with ⟨rfl,_⟩|⟨z,st,R,rfl,_⟩ <;> rfl
theorem Gq.ax {W:List Nat}{c:C}(h:Gq Lg W c):ax c=W.length:=by rcases h with ⟨rfl,rfl,_⟩|⟨z,st,R,rfl,_⟩ <;> rfl
theorem Gq.get {W:List Nat}{c:C}(h:Gq Lg W c)(kn:Kn H0 H E (B++Lg)):aW H c/\rowsOf H c=AA W:=by
 rcases h with ⟨rfl,rfl,_⟩|⟨z,st,R,rfl,rfl,h1,h2⟩
 ·exact⟨trivial,rfl⟩
 ·have hz:H z=.vec 1 R:=(kn.get (z,.vec 1 R) ZC).1;exact⟨by simp[aW,hz,h2],by simp[rowsOf,hz,h1]⟩
theorem Gr.gq {W:List Nat}{c:C}(h:Gr Lg 1 (AA W) c):Gq Lg W c:=by
 rcases h with ⟨h1,h2,h3⟩|⟨y,h1,h2⟩
 ·refine .inl ⟨h1,?_,h3⟩;have:=congrArg List.length h2;rw[Q4]at this;exact Jax.1 this
 ·exact .inr ⟨y,0,AA W,by rw[h1,Q4],h2,by rw[Jbh,Jh (by rw[Q4];exact Jg _)],by rw[Q4];omega⟩
theorem Kn.growQ {K:Uk}{W new:List Nat}{b c:C}(kn:Kn H0 H E (B++Lg))(hc:Gq Lg W c)(hb:Slc H 1 (AA new) b)(h2:W.length+new.length<=LIM)
  (h:∀t Lg' H',Gq Lg' (W++new) t->t.ah=false->Kn H0 H' E (B++Lg')->K (.c t) H'):appQ H 1 c b K:=by
 rcases hc with ⟨rfl,rfl,rfl⟩|⟨z,st,R,rfl,rfl,h3,h4⟩
 ·refine Kn.br (new:=AA new) kn (.nil 1) hb (Dq _) (by simp only[Q4,Jm]at *;omega) λt Lg' H' hg ht k=>h t Lg' H' (Gr.gq ?_) ht k;simpa using hg
 ·have hz:H z=.vec 1 R:=(kn.get (z,.vec 1 R) ZC).1;refine⟨hb.ok,hb.sz,?_⟩;simp only[hz,hb.rows,hb.len,h3,Q4];refine⟨trivial,trivial,h4,Dq _,h2,λl' de H' dG=>?_⟩;have hg:Gr [(l',.vec 1 (AA (W++new)))] 1 (AA (W++new)) (.ai l' 1 0 (W.length+new.length)):=.mk _ _ _ (by simp[Q4]);refine h _ _ H' (Gr.gq hg) rfl ?_;have:=kn.ap B.length (y:=z) (o:=.vec 1 R) ZC de dG;rw[Q1b];simpa using this
end Go.AE.Y
namespace Go.AE.Y
attribute [local go_sem] cond_true cond_false Bool.not_true Bool.not_false
open Go.Proofs.Tryz
variable {H H0:Heap}{K:Uk}{E B Lg:Ul}{q:CodeD}
theorem Qa52 {nx:Nat->List Int}{f:Int}{n i:Nat}(h:i<(Qp nx f n).length):∃p:Nat,(Qp nx f n).getD i 0=(p:Int)/\p<n:=by
 have h1:(Qp nx f n)[i]∈Qp nx f n:=Jb h;have e:(Qp nx f n).getD i 0=(Qp nx f n)[i]:=by simp[Jd,h]
 rw[e];generalize (Qp nx f n)[i]=v at h1;simp only[Qp,Jk,Jbg,J7]at h1;obtain⟨p,⟨h2,_⟩,rfl⟩:=h1;exact⟨p,rfl,h2⟩
theorem FU {ns:List Int}(h:∀x∈ns,0<=x):Qc ns=AA (ns.map Int.toNat):=by
 have hk:ns=(ns.map Int.toNat).map Int.ofNat:=by
  rw[Jam]
  conv=>lhs;rw[<-Jbk ns]
  refine J1 λx hx=>?_;have:=h x hx;simp;omega
 conv=>lhs;rw[hk]
 rfl
theorem Hd {ns:List Int}(h:∀x∈ns,0<=x)(ha:ns.Pairwise (· < ·)):(ns.map Int.toNat).Pairwise (· < ·):=by
 rw[List.pairwise_map];refine ha.imp_of_mem λ{a b} h1 h2 h3=>?_;have:=h a h1;have:=h b h2;omega
theorem Ok {l:List Nat}{n:Nat}(ha:l.Pairwise (· < ·))(hn:∀x∈l,x<n):l.length<=n:=by
 have h1:l.Nodup:=ha.imp λh=>ZA
 have h2:l ⊆ List.range n:=λx hx=>J7.2 (hn x hx);have:=(List.nodup_iff_count.1 h1);have h3:=Jal h1 h2;simpa using h3
theorem Qaqu {fl flo:Bool}{b:Nat}(ho:q.ok)(hb:b<q.blocks.length)
  (hK:∀(fl':Bool) (fs:List Nat) H',Upd H H' []->fs.Pairwise (· < ·)->(∀x∈fs,x<q.blocks.length)->K (.c (.sl fl' 1 (AA fs))) H') :
  Qv prog Qtb [.ag [Ui q.params,Ui q.ae,.sl fl 5 (Qm q.blocks)],.c (.sl flo 1 (ovOf q.blocks.length (nxN (gnx q)) q.blocks.length)),Uv b] H K:=by
 have bg:=ho.b1;obtain⟨n,hn⟩:∃n,q.blocks.length=n:=⟨_,rfl⟩;obtain⟨g,hg⟩:∃g,nxN (gnx q)=g:=⟨_,rfl⟩;rw[hn]at hb bg hK;rw[hn,hg];refine Qz ?_;refine Qd A6 Qaq7 ?_;refine Wd ?_;refine Wa ?_;refine Qh (Qe (Qx (λm e1 H1=>∃(f:Nat) (fo:Bool) (ns:List Int),m=n-f/\f<=n/\ns.Pairwise (· < ·)/\(∀x∈ns,0<=x/\x<n)/\ns.length<=f * 200/\Kn H H1 [] []/\
  lk 1 e1=.c (.sl flo 1 (ovOf n g n))/\lk 2 e1=Uv b/\lk 3 e1=.c (.pp [Ui q.params,Ui q.ae,.sl fl 5 (Qm q.blocks)])/\lk 7 e1=.c (.sl fo 1 (Qc ns))/\lk 8 e1=Uv f) n ?_ ?_))
 ·exact⟨0,true,[],ZA,ZA,ZC,ZC,ZC,Kn.ao H,rfl,rfl,rfl,rfl,rfl⟩
 ·rintro m e1 H1 ⟨f,fo,ns,hm,hf,ha,dv,bC,kn,l1,l2,l3,l7,l8⟩;refine Q1 (Qa ?_);simp only[go_sem,l1,l2,l3,l7,l8,Gn];try intro _
  refine Wu ?_ ?_
  ·intro hc;have af:f<n:=ZD
   refine Zd ?_
   refine Wf ?_;refine DG (nx:=gnx q) (.mk' _ _ _ _) rfl (Dl H1 q fl).x λH2 hu=>?_;have kn:=kn.au hu;rw[Ql,hn];have cQ:=CA (gnx q) (f:Int) n;have kq:=λ(i:Nat)=>Qa52 (nx:=gnx q) (f:=(f:Int)) (n:=n) (i:=i);generalize Qp (gnx q) (f:Int) n=pr at *;simp only[go_sem,Ch];refine Za ?_;refine Qe (Qx (λm e1 H1=>∃(i:Nat) (fo:Bool) (ns:List Int),m=pr.length-i/\i<=pr.length/\ns.Pairwise (· < ·)/\(∀x∈ns,0<=x/\x<n)/\ns.length<=f * 200+i/\Kn H H1 [] []/\
    lk 1 e1=.c (.sl flo 1 (ovOf n g n))/\lk 2 e1=Uv b/\lk 3 e1=.c (.pp [Ui q.params,Ui q.ae,.sl fl 5 (Qm q.blocks)])/\lk 7 e1=.c (.sl fo 1 (Qc ns))/\lk 8 e1=Uv f/\lk 9 e1=.c (.sl false 1 (Qc pr))/\lk 10 e1=Uv i) pr.length ?_ ?_)
   ·exact⟨0,fo,ns,ZA,ZA,ha,dv,ZA,kn,rfl,rfl,rfl,rfl,rfl,rfl,rfl⟩
   ·clear kn ha dv bC l1 l2 l3 l7 l8;clear ns fo;rintro m2 e2 H3 ⟨i,fo,ns,eW,hi,ha,dv,bC,kn,l1,l2,l3,l7,l8,l9,l10⟩;refine Q1 (Qa ?_);simp only[go_sem,l1,l2,l3,l7,l8,l9,l10,Qb];try intro _
    refine Wu ?_ ?_
    ·intro a7;have aN:i<pr.length:=ZF;obtain⟨p,qu,eV⟩:=kq i aN;have hpd:p<(Cs n g b).length:=(by rw[EU];exact eV);have uR:f<(Cs n g b).length:=(by rw[EU];exact af);refine Zd ?_
     refine Bk (λe2 H2=>∃(fo:Bool) (ns:List Int),ns.Pairwise (· < ·)/\(∀x∈ns,0<=x/\x<n)/\ns.length<=f * 200+(i+1)/\Kn H H2 [] []/\
      lk 1 e2=.c (.sl flo 1 (ovOf n g n))/\lk 2 e2=Uv b/\lk 3 e2=.c (.pp [Ui q.params,Ui q.ae,.sl fl 5 (Qm q.blocks)])/\lk 7 e2=.c (.sl fo 1 (Qc ns))/\lk 8 e2=Uv f/\lk 9 e2=.c (.sl false 1 (Qc pr))/\lk 10 e2=Uv i) ?_ ?_
     ·intro Q bH _ _;refine Qe (AC ?_);simp only[go_sem,hb,Gn,FT hb,aN,Qb,Qo _ _ aN,qu,eV,af,EU,Q0,Q6 _ _ hpd,Q6 _ _ uR];refine Wv ?_ ?_
      ·intro _;refine Zh ?_;refine O6 ha ZA λfl2 ns2 H4 hu mD fO mg=>?_;have kn:=kn.au hu;simp only[go_sem,Qll];refine bH _ _ ⟨fl2,ns2,mD,λx hx=>?_,ZA,kn,rfl,rfl,rfl,rfl,rfl,rfl,rfl⟩;rcases (fO x).1 hx with rfl|hx
       ·omega
       ·exact dv x hx
      ·intro _;refine Zd ?_
       exact bH _ _ ⟨fo,ns,ha,dv,ZA,kn,rfl,rfl,rfl,rfl,rfl,rfl,rfl⟩
     ·rintro e3 H4 ⟨fo,ns,ha,dv,bC,kn,l1,l2,l3,l7,l8,l9,l10⟩;refine Qq ?_;simp only[go_sem,l1,l2,l3,l7,l8,l9,l10];refine⟨Qr,?_⟩;show ∃m,_;exact⟨pr.length-(i+1),ZA,i+1,fo,ns,rfl,ZA,ha,dv,bC,kn,rfl,rfl,rfl,rfl,rfl,rfl,rfl⟩
    ·intro a7;refine Zb ?_;refine Zh ?_;refine⟨Qr,?_⟩;show ∃m,_;exact⟨n-(f+1),ZA,f+1,fo,ns,rfl,ZA,ha,dv,ZA,kn,rfl,rfl,rfl,rfl,rfl⟩
  ·intro hc;refine Wp ?_;have h0:∀x∈ns,0<=x:=λx hx=>(dv x hx).1;rw[FU h0];refine⟨_,.c _ _ (FrzR.same (Dq _)).sl,hK false _ _ kn.fin (Hd h0 ha) λx hx=>?_⟩;obtain⟨v,hv,rfl⟩:=Jk.1 hx;have:=dv v hv;omega
theorem Qaim {fl flo fll:Bool}{ls:List Nat}(ho:q.ok)(hls:ls.length<=1000000)
  (hK:∀(fs:List Nat) H',Upd H H' []->fs.Pairwise (· < ·)->(∀x∈fs,x<q.blocks.length)->K (.c (.sl false 1 (AA fs))) H') :
  Qv prog Qn8 [.ag [Ui q.params,Ui q.ae,.sl fl 5 (Qm q.blocks)],.c (.sl flo 1 (ovOf q.blocks.length (nxN (gnx q)) q.blocks.length)),.c (.sl fll 1 (AA ls))] H K:=by
 have bg:=ho.b1;obtain⟨n,hn⟩:∃n,q.blocks.length=n:=⟨_,rfl⟩;obtain⟨OV,vd⟩:∃OV,ovOf q.blocks.length (nxN (gnx q)) q.blocks.length=OV:=⟨_,rfl⟩;have yG:OV.length=n:=by rw[<-vd,Gn,hn]
 rw[hn]at bg hK;rw[vd];refine Qz ?_;refine Qd A6 Qaiy ?_;refine Wd ?_;refine Za ?_;refine⟨.inl trivial,Dq _,by rw[Q4];simp only[LIM];omega,λy0 rA H1 h1=>?_⟩;have kn:Kn H H1 [] ([]++[(y0,.vec 1 (AA ls))]):=(Kn.ao H).al rA h1;obtain⟨wc0,vM⟩:∃wc0,C.ai y0 1 0 (0+(AA ls).length)=wc0:=⟨_,rfl⟩;have wx:Gq [(y0,.vec 1 (AA ls))] ls wc0:=by rw[<-vM];exact Gr.gq (.mk _ _ _ ZA)
 have rD:=wx.ah;rw[vM];simp only[go_sem,Qjh];refine Qh (Qe (Qx (λm e1 H1=>∃(O:List Int) (W:List Nat) (fo:Bool) (wc:C) (Lg:Ul),m=W.length+2 * (n-O.length)/\W.length+2 * (n-O.length)<=ls.length+2 * n/\O.Pairwise (· < ·)/\(∀x∈O,0<=x/\x<n)/\Gq Lg W wc/\Kn H H1 [] ([]++Lg)/\
  lk 1 e1=.c (.sl flo 1 OV)/\lk 3 e1=.c (.pp [Ui q.params,Ui q.ae,.sl fl 5 (Qm q.blocks)])/\lk 7 e1=.c (.sl fo 1 (Qc O))/\lk 8 e1=.c wc) (ls.length+2 * n) ?_ ?_))
 ·exact⟨[],ls,true,wc0,[(y0,.vec 1 (AA ls))],ZC,ZC,ZC,ZC,wx,kn,rfl,rfl,rfl,rfl⟩
 ·clear kn wx rD vM h1 rA;rintro m e1 H2 ⟨O,W,fo,wc,Lg,hm,rp,ha,hO,hq,kn,l1,l3,l7,l8⟩;have wv:=hq.ah;obtain⟨ie,zu⟩:=hq.get kn;have ie:=eq_true ie;have qo:=hq.ax;have sP:=hq.aO;refine Q1 (Qa ?_);simp only[go_sem,l1,l3,l7,l8,ie,qo];try intro _
  refine Wu ?_ ?_
  ·intro a7;obtain⟨b,W,rfl⟩:∃b W',W=b::W':=by
    cases W with
    |nil=>simp at a7
    |cons b W=>exact⟨b,W,rfl⟩
   have bR:(AA (b::W)).getD 0 []=[Ui (b:Int)]:=rfl;obtain⟨wc2,sI,lO⟩:∃wc2,sliC (some 1) none wc=wc2/\Gq Lg W wc2:=by
    refine⟨_,rfl,?_⟩;rcases hq with ⟨_,h,_⟩|⟨z,st,R,rfl,rfl,h3,h4⟩
    ·simp at h
    ·refine .inr ⟨z,st+1,R,?_,rfl,?_,by simp at h4;omega⟩
     ·simp[sliC]
     ·have:=congrArg (List.drop 1) h3;rw[<-List.drop_drop,List.drop_take]at *;simp only[Jn,Nat.add_sub_cancel]at this;rw[this];rfl
   refine Zd ?_
   refine Qe (Qa ?_);simp only[go_sem,ie,zu,sP,qo,bR,Nat.succ_pos,Jn]
   first|refine⟨ZA,?_⟩|skip
   refine Qa ?_;simp only[go_sem,ie,sP,qo,sI,Jn];refine⟨⟨ZA,ZA,ZA⟩,?_⟩;have wu:=lO.ah;simp only[Jn]at rp hm;refine Q1 (Qa ?_);simp only[go_sem,yG];try intro _
   refine⟨Qr,?_⟩;refine B1 ?_;simp only[go_sem,Qji];refine Wu ?_ ?_
   ·intro _;refine Qu ?_;show ∃m,_;exact⟨W.length+2 * (n-O.length),ZA,O,W,fo,wc2,Lg,rfl,ZA,ha,hO,lO,kn,rfl,rfl,rfl,rfl⟩
   ·intro bn;have cr:b<n:=by
     have:=Bi bn;have:=of_decide_eq_true this;omega
    refine Zd ?_
    refine Za ?_;rw[<-vd];refine Qaqu ho (by rw[hn];exact cr) λflf fs H3 hu lc ir=>?_;rw[vd];rw[hn]at ir;have kn:=kn.au hu;have iD:=Ok lc ir;simp only[go_sem,Qjj];refine Za ?_;refine Qe (Qx (λm2 e1 H1=>∃(i:Nat) (O2:List Int) (W:List Nat) (fo:Bool) (wc:C) (Lg:Ul),m2=fs.length-i/\i<=fs.length/\W.length+2 * (n-O2.length)<m/\O2.Pairwise (· < ·)/\(∀x∈O2,0<=x/\x<n)/\Gq Lg W wc/\Kn H H1 [] ([]++Lg)/\
     lk 1 e1=.c (.sl flo 1 OV)/\lk 3 e1=.c (.pp [Ui q.params,Ui q.ae,.sl fl 5 (Qm q.blocks)])/\lk 7 e1=.c (.sl fo 1 (Qc O2))/\lk 8 e1=.c wc/\lk 10 e1=.c (.sl flf 1 (AA fs))/\lk 11 e1=Uv i) fs.length ?_ ?_)
    ·exact⟨0,O,W,fo,wc2,Lg,ZA,ZA,ZA,ha,hO,lO,kn,rfl,rfl,rfl,rfl,rfl,rfl⟩
    ·clear kn lO wu ie zu qo sP wv hq sI ha hO l1 l3 l7 l8;have fC:m<=ls.length+2 * n:=ZA;clear hm rp;rintro m2 e2 H4 ⟨i,O,W,fo,wc,Lg,eW,hi,rp,ha,hO,hq,kn,l1,l3,l7,l8,l10,l11⟩;have wv:=hq.ah;refine Q1 (Qa ?_);simp only[go_sem,l1,l3,l7,l8,l10,l11,Q4];try intro _
     refine Wu ?_ ?_
     ·intro dc;have af:i<fs.length:=(by simpa using dc);obtain⟨f,hf⟩:∃f,fs[i]=f:=⟨_,rfl⟩;have od:fs.getD i 0=f:=(by simp[Jd,af,hf]);have hfn2:f<n:=(by rw[<-hf];exact ir _ (Jb af));have hO0:∀x∈O,0<=x:=λx hx=>(hO x hx).1;have hOl:O.length<=n:=by
       have:=Ok (n:=n) (Hd hO0 ha) λx hx=>by
        obtain⟨v,hv,rfl⟩:=Jk.1 hx;have:=hO v hv;omega
       simpa using this
      refine Zd ?_
      refine Bk (λe1 H1=>∃(O:List Int) (W:List Nat) (fo:Bool) (wc:C) (Lg:Ul),W.length+2 * (n-O.length)<m/\O.Pairwise (· < ·)/\(∀x∈O,0<=x/\x<n)/\Gq Lg W wc/\Kn H H1 [] ([]++Lg)/\
       lk 1 e1=.c (.sl flo 1 OV)/\lk 3 e1=.c (.pp [Ui q.params,Ui q.ae,.sl fl 5 (Qm q.blocks)])/\lk 7 e1=.c (.sl fo 1 (Qc O))/\lk 8 e1=.c wc/\lk 10 e1=.c (.sl flf 1 (AA fs))/\lk 11 e1=Uv i) ?_ ?_
      ·intro Q bH _ _;refine Qe (Qa ?_);simp only[go_sem,af,Q4,BJ _ _ af,od];refine D1 (ns:=O) (.mk' _ _ _ _) rfl λr hr=>?_;simp only[go_sem,Qjk];refine Wv ?_ ?_
       ·intro eU;have tk:r<0:=(by simpa using eU);have qA:(f:Int)∉O:=by
         rcases hr with ⟨_,h⟩|⟨i,rfl,_⟩
         ·exact h
         ·omega
        refine Qa ?_;simp only[go_sem,af,Q4,BJ _ _ af,od];refine O6 ha ZA λfl2 O2 H5 hu mD fO mg=>?_;have kn:=kn.au hu;have hO2l:O2.length=O.length+1:=by
         have h1:((f:Int)::O).Nodup:=Jai.2 ⟨qA,ha.imp λh=>ZA⟩;have h2:((f:Int)::O) ⊆ O2:=λx hx=>by
          rw[fO];rcases Jw.1 hx with h|h
          ·exact .inl h
          ·exact .inr h
         have:=Jal h1 h2;simp only[Jn]at this;omega
        have yH:∀x∈O2,0<=x/\x<n:=λx hx=>by
         rcases (fO x).1 hx with rfl|hx
         ·omega
         ·exact hO x hx
        have hO2n:O2.length<=n:=by
         have:=Ok (n:=n) (Hd (λx hx=>(yH x hx).1) mD) λx hx=>by
          obtain⟨v,hv,rfl⟩:=Jk.1 hx;have:=yH v hv;omega
         simpa using this
        simp only[go_sem,Qjl];refine Qq ?_;simp only[go_sem,af,Q4,BJ _ _ af,od];refine Kn.growQ kn (new:=[f]) hq (.mk' _ _ _ _) (by simp only[LIM,Jn,Jm];omega) λwc2 Lg2 H6 lO n5 kn=>?_;simp only[go_sem,Qjm];refine bH _ _ ⟨O2,W++[f],fl2,wc2,Lg2,by simp only[Jat,Jn,Jm];omega,mD,yH,lO,kn,rfl,rfl,rfl,rfl,rfl,rfl⟩
       ·intro _;refine Zd ?_
        exact bH _ _ ⟨O,W,fo,wc,Lg,rp,ha,hO,hq,kn,rfl,rfl,rfl,rfl,rfl,rfl⟩
      ·rintro e3 H5 ⟨O,W,fo,wc,Lg,rp,ha,hO,hq,kn,l1,l3,l7,l8,l10,l11⟩;have wv:=hq.ah;refine Qq ?_;simp only[go_sem,l1,l3,l7,l8,l10,l11];refine⟨Qr,?_⟩;show ∃m,_;exact⟨fs.length-(i+1),ZA,i+1,O,W,fo,wc,Lg,rfl,ZA,rp,ha,hO,hq,kn,rfl,rfl,rfl,rfl,rfl,rfl⟩
     ·intro _;refine Qu ?_;show ∃m,_;exact⟨_,rp,O,W,fo,wc,Lg,rfl,ZA,ha,hO,hq,kn,rfl,rfl,rfl,rfl⟩
  ·intro _;refine Wp ?_;have h0:∀x∈O,0<=x:=λx hx=>(hO x hx).1;rw[FU h0];refine⟨_,.c _ _ (FrzR.same (Dq _)).sl,hK _ _ kn.fin (Hd h0 ha) λx hx=>?_⟩;obtain⟨v,hv,rfl⟩:=Jk.1 hx;have:=hO v hv;omega
end Go.AE.Y
namespace Go.AE.Y
attribute [local go_sem] cond_true cond_false Bool.not_true Bool.not_false
open Go.Proofs.Tryz
variable {H H0:Heap}{K:Uk}{E B Lg:Ul}{q:CodeD}{S:Nat->Bool}
theorem OBlks.frzD {os:List OBlk}(aw:∀b∈os,b.ok)(h:Held H S (os.flatMap OBlk.lg)):FrzR H S (os.map OBlk.row) (Qm (os.map OBlk.d)):=by
 rw[Qm,Jam];exact Dm os λx hx=>x.frzD (aw x hx) (h.m hx)
theorem Qbob {r:Nat}{p:Plc}(h:p∈Cv q r):∃b:Nat,p.1=(b:Int)/\b<q.blocks.length:=by
 simp only[Cv,BZ,Jo,J7]at h;obtain⟨b,hb,h⟩:=h;refine⟨b,?_,hb⟩;simp only[blS,phS,inS,Js,Jk]at h;rcases h with ⟨_,_,rfl⟩|⟨_,_,rfl⟩ <;> rfl
theorem La:(C3 q).length=q.ae.toNat:=by simp[C3]
theorem Qbc4 {r:Nat}(h:r<q.ae.toNat):(C3 q).getD r []=[.sl false 1 (B9 (Cv q r))]:=by simp[C3,Jd,h]
structure PhS (q:CodeD)(k:Nat->Nat)(os:List OBlk):Prop where
 n:os.length=q.blocks.length
 ok:∀b∈os,b.ok
 d:∀j (h:j<os.length) (h':j<q.blocks.length),os[j].d.ins=q.blocks[j].ins/\os[j].jump=q.blocks[j].jump/\os[j].on=q.blocks[j].on/\os[j].nx.ns=q.blocks[j].next
 p:∀j (h:j<os.length),∀p∈os[j].ab,rIn q p.to/\(∀v∈p.ns,rIn q v)/\p.ns.length=(Qp (gnx q) (j:Int) q.blocks.length).length
 l:∀j (h:j<os.length) (h':j<q.blocks.length),os[j].ab.length<=q.blocks[j].ab.length+k j
variable {k k':Nat->Nat}{os:List OBlk}
theorem PhS.up (h:PhS q k os)(hk:∀j,k j<=k' j):PhS q k' os:=⟨h.n,h.ok,h.d,h.p,λj h1 h2=>by have:=h.l j h1 h2;have:=hk j;omega⟩
theorem Yg (ho:q.ok){o:OCode}(aw:o.ok)(hd:o.d=q):PhS q (λ_=>0) o.blocks:=by
 have hb:o.blocks.map OBlk.d=q.blocks:=Zbi
 have hl:o.blocks.length=q.blocks.length:=by rw[<-hb,Jc]
 have hg:∀j (h:j<o.blocks.length) (h':j<q.blocks.length),o.blocks[j].d=q.blocks[j]:=λj h h'=>by
  have h1:(o.blocks.map OBlk.d)[j]? = some o.blocks[j].d:=Za9
  rw[hb,Ji h']at h1;exact (J4 h1).symm
 refine⟨hl,aw.bs,λj h h'=>by rw[<-hg j h h'];exact⟨rfl,rfl,rfl,rfl⟩,λj h p hp=>?_,λj h h'=>?_⟩
 ·have h':j<q.blocks.length:=ZA
  have o1:=ho.bs j h';rw[<-hg j h h']at o1;have hm:p.d∈o.blocks[j].d.ab:=Jk.2 ⟨p,hp,rfl⟩;exact⟨o1.pto _ hm,o1.pargs _ hm,o1.pal _ hm⟩
 ·rw[<-hg j h h'];simp[OBlk.d]
theorem PhS.step {b:Nat}(h:PhS q k os)(hb:b<os.length){o:OBlk}(bh:os[b]=o){p:OPhi}{pc:C}{pl:Ul}(hp:p.ok)(hg:Gr pl 2 ((p::o.ab).map OPhi.row) pc)
  (h1:rIn q p.to) (h2:∀v∈p.ns,rIn q v) (h3:p.ns.length=(Qp (gnx q) (b:Int) q.blocks.length).length) (hk:∀j,k' j=if j=b then k j+1 else k j) :
  PhS q k' (os.set b ⟨p::o.ab,pc,pl,o.ins,o.ic,o.il,o.jump,o.on,o.nx⟩):=by
 subst bh;have aw:=h.ok _ (Jb hb);refine⟨by rw[Jl];exact h.n,λw hw=>?_,λj hj bE=>?_,λj hj x hx=>?_,λj hj bE=>?_⟩
 ·rcases Jy hw with hw|rfl
  ·exact h.ok w hw
  ·refine⟨hg,aw.i,λx hx=>?_⟩;rcases Jw.1 hx with rfl|hx
   ·exact hp
   ·exact aw.a x hx
 ·have dq:j<os.length:=ZT
  have hd:=h.d j dq bE;rw[J5];split
  ·rename_i e;subst e;exact hd
  ·exact hd
 ·have dq:j<os.length:=ZT
  rw[J5]at hx;split at hx
  ·rename_i e;subst e
   rcases Jw.1 hx with rfl|hx
   ·exact⟨h1,h2,h3⟩
   ·exact h.p _ dq x hx
  ·exact h.p j dq x hx
 ·have dq:j<os.length:=ZT
  have hl:=h.l j dq bE;rw[J5,hk];split
  ·rename_i e;subst e;rw[if_pos rfl];show (p::os[b].ab).length<=_;simp only[Jn];omega
  ·rename_i e;rw[if_neg (λh=>e h.symm)];exact hl
theorem PhS.fin (ho:q.ok)(h:PhS q k os)(hk:∀j (hj:j<q.blocks.length),q.blocks[j].ab.length+k j<=1200):(CodeD.mk q.params q.ae (os.map OBlk.d)).ok:=by
 obtain⟨d,hd⟩:∃d:CodeD,d=⟨q.params,q.ae,os.map OBlk.d⟩:=⟨_,rfl⟩;rw[<-hd];have hl:d.blocks.length=q.blocks.length:=by rw[hd];simpa using h.n
 have b8:∀j (h1:j<d.blocks.length) (h2:j<os.length),d.blocks[j]=os[j].d:=λj h1 h2=>by subst hd;simp
 have fN:d.blocks.map BlkD.next=q.blocks.map BlkD.next:=Jag Za0 λj h1 h2=>by
  simp only[Jc]at h1 h2;have h3:j<os.length:=Zbd
  simp only[Jt,b8 j h1 h3];exact (h.d j h3 h2).2.2.2
 have hg:gnx d=gnx q:=by funext i;rw[gnx,gnx,fN]
 have hr:∀v,rIn q v->rIn d v:=λv hv=>by simp only[rIn,hd]at hv⊢;exact hv
 have iM:d.ae=q.ae:=by rw[hd]
 refine⟨by rw[iM];exact ho.r0,by rw[iM];exact ho.r1,by rw[hl];exact ho.b0,by rw[hl];exact ho.b1,λb hb=>?_,λb hb=>?_⟩
 ·have h2:b<q.blocks.length:=ZA
  have h3:b<os.length:=Zbd
  have o:=ho.bs b h2;obtain⟨e1,e2,e3,e4⟩:=h.d b h3 h2;have hp:=h.p b h3;rw[b8 b hb h3];have eJ:∀p∈os[b].d.ab,rIn q p.to/\(∀v∈p.args,rIn q v)/\p.args.length=(Qp (gnx q) (b:Int) q.blocks.length).length:=λp cp=>by
   obtain⟨x,hx,rfl⟩:=Jk.1 cp;exact hp x hx
  refine⟨by show os[b].nx.ns.length<=2;rw[e4];exact o.nxl,λv hv=>by rw[hl];exact o.nx v (by rw[<-e4];exact hv),by show os[b].jump=1\/os[b].jump=2\/os[b].jump=3;rw[e2];exact o.jmp,λhj=>?_,
   λx hx v hv=>hr _ (o.args x Zbe v hv),λx hx hm=>hr _ (o.to x Zbe hm),λp hp=>hr _ (eJ p hp).1,λp hp v hv=>hr _ ((eJ p hp).2.1 v hv),λp hp=>by rw[hg,hl];exact (eJ p hp).2.2,
   λx hx=>o.al x Zbe⟩
  show rIn d os[b].on;rw[e3];exact hr _ (o.on (by rw[<-e2];exact hj))
 ·have h2:b<q.blocks.length:=ZA
  have h3:b<os.length:=Zbd
  have o:=ho.il b h2;have e1:=(h.d b h3 h2).1;have:=h.l b h3 h2;have:=hk b h2;rw[b8 b hb h3,e1];refine⟨o.1,?_⟩;simp only[OBlk.d,Jc];omega
theorem IS {l:List Nat}(h:l.Nodup){i:Nat}(hi:i<l.length):l[i]∉l.take i:=λhh=>by
 obtain⟨j,hj,he⟩:=Jq.1 hh;rw[Jaz]at hj;rw[Jba]at he;have gB:j<l.length:=ZA
 have:=(List.getElem?_inj gB h (j:=i)).1 (by rw[Ji gB,Ji hi,he]);omega
def OBlk.rst (o:OBlk):List (Nat×Obj):=o.nx.lg++(o.ab.flatMap OPhi.lg++(o.ins.flatMap OIns.lg++o.il))
theorem OBlk.lg_perm (o:OBlk):o.lg.Perm (o.rst++o.pl):=Qj λf hf h0 hc hp=>by simp only[Ui,hf,OBlk.lg,OBlk.rst];omega
theorem Qbkl (ho:q.ok)(eJ:∀y∈q.blocks,y.ab.length<=900)(hK:∀(d:CodeD) H',d.ok->d.params=q.params->d.ae=q.ae->Upd H H' []->K (.ag d.cells) H') :
  Qv prog Lx [.ag [Ui q.params,Ui q.ae,.sl false 5 (Qm q.blocks)]] H K:=by
 have bR:=ho.r0;have ib:=ho.r1;have fE:=ho.b0;have bg:=ho.b1;obtain⟨n,hn⟩:∃n,q.blocks.length=n:=⟨_,rfl⟩;obtain⟨R,hR⟩:∃R:Nat,q.ae.toNat=R:=⟨_,rfl⟩;have ur:q.ae=(R:Int):=ZA
 have hgf:=FY ho.gd;refine Qz ?_;refine Qd A6 Qblf ?_;refine Za ?_;intro x2 aH H1 h1;have kn:=(Kn.ao H).al aH h1;refine Za ?_;refine Pi ho.sg λo H2 k2 aw gy _=>?_;have kn:=kn.comp0 k2;have fM:o.params=q.params:=Zbh
 have qn:o.ae=q.ae:=Zbh
 have ev:o.blocks.length=n:=by rw[<-hn,<-gy];simp[OCode.d]
 obtain⟨zb,dw,bk⟩:∃z,o.bc=.ai z 5 0 n/\o.bl=[(z,.vec 5 (o.blocks.map OBlk.row))]:=by
  rcases aw.b with ⟨_,h,_⟩|⟨y,h1,h2⟩
  ·have:=congrArg List.length h;simp only[Jc,Jm]at this;omega
  ·exact⟨y,by rw[h1,Jc,ev],h2⟩
 have aC:o.row=[Ui q.params,Ui q.ae,.ai zb 5 0 n]:=by rw[OCode.row,fM,qn,dw]
 have hP:=Yg ho aw gy;have uO:o.lg=o.blocks.flatMap OBlk.lg++[(zb,.vec 5 (o.blocks.map OBlk.row))]:=by rw[OCode.lg,bk]
 rw[uO]at kn;rw[aC];generalize o.blocks=os0 at *;clear aw gy fM qn aC uO dw bk k2;simp only[go_sem,Q4p];intro x3 aK H3 h3;have kn:=(kn.al aK h3).perm Jan;have aK:=kn.l 0 rfl;simp only[go_sem,Q4o,aK];intro H4 h4;have kn:Kn H H4 [] ([(x3,.st [Ui q.params,Ui q.ae,.ai zb 5 0 n])]++([(x2,.st [Ui 0,Ui 0,.sl true 5 []])]++(os0.flatMap OBlk.lg++[(zb,.vec 5 (os0.map OBlk.row))]))):=kn.aA 0 rfl h4;refine Za ?_;refine Kl (rows:=Qm q.blocks) (nx:=gnx q) hgf (by rw[Ql];exact ho.fitB) λH5 hu=>?_;have kn:=kn.au hu;rw[Ql];simp only[go_sem,Ez];refine Za ?_;refine Kk ho (.sl _ _ _ _) λzi zo H6 hu cH=>?_;have kn:=kn.au hu;simp only[go_sem,Q4s];intro x5 bm H7 h7;have kn:=(kn.al bm h7).perm Jan;have bm:=kn.l 0 rfl;simp only[go_sem,Q4r,bm];intro H8 h8;have kn:Kn H H8 [] (([(x3,.st [Ui q.params,Ui q.ae,.ai zb 5 0 n]),(x2,.st [Ui 0,Ui 0,.sl true 5 []]),(x5,.st [.sl false 1 (CY zi),.sl false 1 (CY zo)])]++[(zb,.vec 5 (os0.map OBlk.row))])++os0.flatMap OBlk.lg):=
  (kn.aA 0 rfl h8).perm (Qj λf hf h0 hc hp=>by
   have e3:∀(a b c:Nat×Obj),f [a,b,c]=f [a]+f [b]+f [c]:=λa b c=>ZS
   show f ([(x5,_)]++_)=_;simp only[Ui,hf,e3];omega)
 obtain⟨XL,hX⟩:∃XL,[(x3,Obj.st [Ui q.params,Ui q.ae,.ai zb 5 0 n]),(x2,.st [Ui 0,Ui 0,.sl true 5 []]),(x5,.st [.sl false 1 (CY zi),.sl false 1 (CY zo)])]=XL:=⟨_,rfl⟩;rw[hX]at kn;have gX:∀{H1:Heap} {A:Ul},Kn H H1 [] (XL++A)->H1 x3=.st [Ui q.params,Ui q.ae,.ai zb 5 0 n]/\H1 x5=.st [.sl false 1 (CY zi),.sl false 1 (CY zo)]:=λ{H1 A} k=>by
  rw[<-hX]at k;exact⟨k.l 0 rfl,k.l 2 rfl⟩
 clear aK bm h8 h4 h1 aH;refine Za ?_;refine Qbkm ho λH9 hu=>?_;have kn:=kn.au hu;simp only[go_sem,Q4t];refine Wa ?_;refine⟨Qr,?_⟩;have mL:PhS q (λ_=>0) os0:=hP;refine Qh (Qe (Qx (λm e1 H1=>∃(r:Nat) (os:List OBlk),m=r/\r<=R/\PhS q (λ_=>R-r) os/\Kn H H1 [] ((XL++[(zb,.vec 5 (os.map OBlk.row))])++os.flatMap OBlk.lg)/\
  lk 1 e1=.c (.pp [Ui q.params,Ui q.ae,.sl false 5 (Qm q.blocks)])/\lk 2 e1=Up x2/\lk 3 e1=Up x3/\lk 4 e1=.c (.sl false 1 (ovOf q.blocks.length (nxN (gnx q)) q.blocks.length))/\lk 5 e1=Up x5/\lk 6 e1=.c (.sl false 1 (C3 q))/\lk 7 e1=Uv ((r:Int)-1)) R ?_ ?_))
 ·exact⟨R,os0,rfl,ZA,mL.up λj=>ZC,kn,rfl,rfl,rfl,rfl,rfl,rfl,by simp only[lk,ur];rfl⟩
 ·clear kn mL hP;rintro m e1 H10 ⟨r,os,rfl,zt,hS,kn,l1,l2,l3,l4,l5,l6,l7⟩;refine Q1 (Qa ?_);simp only[go_sem,l1,l2,l3,l4,l5,l6,l7];refine Wu ?_ ?_
  ·intro hc;have bp:(0:Int)<=(m:Int)-1:=ZD
   obtain⟨r,rfl⟩:∃r,m=r+1:=⟨m-1,ZA⟩;have er:((r+1:Nat):Int)-1=(r:Int):=ZA
   rw[er];have hrlt:r<R:=ZA
   have nA:r<q.ae.toNat:=ZA
   refine Zd ?_
   refine Wf ?_;refine Wa ?_;refine Bk (λe2 H2=>∃(fo:Bool) (ns:List Int),H2=H10/\ns.Pairwise (· < ·)/\(∀x∈ns,0<=x/\x<n)/\
    lk 1 e2=.c (.pp [Ui q.params,Ui q.ae,.sl false 5 (Qm q.blocks)])/\lk 2 e2=Up x2/\lk 3 e2=Up x3/\lk 4 e2=.c (.sl false 1 (ovOf q.blocks.length (nxN (gnx q)) q.blocks.length))/\lk 5 e2=Up x5/\lk 6 e2=.c (.sl false 1 (C3 q))/\lk 7 e2=Uv r/\lk 8 e2=.c (.sl fo 1 (Qc ns))) ?_ ?_
   ·intro Q bH _ _;refine Wv ?_ ?_
    ·intro _;refine Zh ?_;refine bH _ _ ⟨true,[0],rfl,ZC,?_,rfl,rfl,rfl,rfl,rfl,rfl,rfl,rfl⟩;intro x hx;simp only[Ja]at hx;subst hx;omega
    ·intro _;refine Zd ?_
     exact bH _ _ ⟨true,[],rfl,ZC,ZC,rfl,rfl,rfl,rfl,rfl,rfl,rfl,rfl⟩
   rintro e2 H2 ⟨fo,ns,rfl,ha,dv,l1,l2,l3,l4,l5,l6,l7,l8⟩;refine Q1 (Qa ?_);simp only[go_sem,l1,l2,l3,l4,l5,l6,l7,l8];have gK:∀i (h:i<(Cv q r).length),∃b:Nat,(Cv q r)[i].1=(b:Int)/\b<n:=λi h=>by rw[<-hn];exact Qbob (Jb h)
   obtain⟨sl,cW⟩:∃sl,Cv q r=sl:=⟨_,rfl⟩;have jg:=Qbc4 nA;rw[cW]at jg gK;refine Qh (Qe (Qx (λm2 e1 H1=>∃(i:Nat) (fo:Bool) (ns:List Int),m2=sl.length-i/\i<=sl.length/\ns.Pairwise (· < ·)/\(∀x∈ns,0<=x/\x<n)/\Kn H H1 [] ((XL++[(zb,.vec 5 (os.map OBlk.row))])++os.flatMap OBlk.lg)/\
    lk 1 e1=.c (.pp [Ui q.params,Ui q.ae,.sl false 5 (Qm q.blocks)])/\lk 2 e1=Up x2/\lk 3 e1=Up x3/\lk 4 e1=.c (.sl false 1 (ovOf q.blocks.length (nxN (gnx q)) q.blocks.length))/\lk 5 e1=Up x5/\lk 6 e1=.c (.sl false 1 (C3 q))/\lk 7 e1=Uv r/\lk 8 e1=.c (.sl fo 1 (Qc ns))/\lk 9 e1=Uv i) sl.length ?_ ?_))
   ·exact⟨0,fo,ns,ZA,ZA,ha,dv,kn,rfl,rfl,rfl,rfl,rfl,rfl,rfl,rfl,rfl⟩
   ·clear kn ha dv l1 l2 l3 l4 l5 l6 l7 l8;rintro m2 e3 H11 ⟨i,fo,ns,eW,hi,ha,dv,kn,l1,l2,l3,l4,l5,l6,l7,l8,l9⟩;have qy:∀x∈ns,0<=x:=λx hx=>(dv x hx).1;have nL:ns.length<=n:=by
     have:=Ok (n:=n) (Hd qy ha) λx hx=>by
      obtain⟨v,hv,rfl⟩:=Jk.1 hx;have:=dv v hv;omega
     simpa using this
    refine Q1 (Qa ?_);simp only[go_sem,l1,l2,l3,l4,l5,l6,l7,l8,l9,nA,La,jg,Ot];intro dz;simp only[LIM]at dz;refine Wu ?_ ?_
    ·intro a7;have af:i<sl.length:=ZF;obtain⟨b,hb,cr⟩:=gK i af;refine Zd ?_
     refine Wr ?_;simp only[go_sem,nA,La,jg,Ot,af,Qbf8 _ _ af,pRow,hb,J3,Jbe];try simp only[go_sem,J3,Jbe,Jn,Jm]
     refine⟨Jaw 0,?_⟩;refine O6 ha ZA λfl2 ns2 H12 hu mD fO mg=>?_;have kn:=kn.au hu;simp only[go_sem,Om];refine Zh ?_;refine⟨Qr,?_⟩;show ∃m,_;refine⟨sl.length-(i+1),ZA,i+1,fl2,ns2,rfl,ZA,mD,λx hx=>?_,kn,rfl,rfl,rfl,rfl,rfl,rfl,rfl,rfl,ZB⟩;rcases (fO x).1 hx with rfl|hx
     ·omega
     ·exact dv x hx
    ·intro _;refine Wc ?_;rw[FU qy];refine Qaim ho (by rw[Jc];omega) λfs H12 hu lc ir=>?_;have kn:=kn.au hu;have iD:=Ok lc ir;rw[hn]at iD ir;simp only[go_sem,Qz3];refine Za ?_;refine Qe (Qx (λm2 e1 H1=>∃(i:Nat) (os:List OBlk),m2=fs.length-i/\i<=fs.length/\PhS q (λj=>R-(r+1)+if j∈fs.take i then 1 else 0) os/\Kn H H1 [] ((XL++[(zb,.vec 5 (os.map OBlk.row))])++os.flatMap OBlk.lg)/\
      lk 1 e1=.c (.pp [Ui q.params,Ui q.ae,.sl false 5 (Qm q.blocks)])/\lk 2 e1=Up x2/\lk 3 e1=Up x3/\lk 4 e1=.c (.sl false 1 (ovOf q.blocks.length (nxN (gnx q)) q.blocks.length))/\lk 5 e1=Up x5/\lk 6 e1=.c (.sl false 1 (C3 q))/\lk 7 e1=Uv r/\
      lk 10 e1=.c (.sl false 1 (AA fs))/\lk 11 e1=Uv i) fs.length ?_ ?_)
     ·exact⟨0,os,ZA,ZA,hS.up λj=>ZC,kn,rfl,rfl,rfl,rfl,rfl,rfl,rfl,rfl,rfl⟩
     ·have xU:fs.Nodup:=lc.imp λh=>ZA;clear kn hS lc ha dv qy nL l1 l2 l3 l4 l5 l6 l7 l8 l9;rintro m3 e4 H13 ⟨i,os,uN,hi,hS,kn,l1,l2,l3,l4,l5,l6,l7,l10,l11⟩;refine Q1 (Qa ?_);simp only[go_sem,l1,l2,l3,l4,l5,l6,l7,l10,l11,Q4];try intro _
      refine Wu ?_ ?_
      ·intro a7;have af:i<fs.length:=ZF;obtain⟨b,hb⟩:∃b,fs[i]=b:=⟨_,rfl⟩;have od:fs.getD i 0=b:=(by simp[Jd,af,hb]);have cr:b<n:=(by rw[<-hb];exact ir _ (Jb af));have q9:b∉fs.take i:=(by rw[<-hb];exact IS xU af);have bP:∀j,j∈fs.take (i+1)↔j∈fs.take i\/j=b:=λj=>by
        rw[Jr af,hb];simp
       have oi:b<zi.length:=(by rw[cH.1.i,hn];exact cr);obtain⟨nd,cM⟩:∃nd,zi[b].2=nd:=⟨_,rfl⟩;have qC:r<nd.length:=(by rw[<-cM,cH.1.li _ (Jb oi)];exact nA);have bm:=(gX (by rw[Ja9]at kn;exact kn)).2;refine Zd ?_
       refine Bk (λe2 H2=>∃(os:List OBlk),PhS q (λj=>R-(r+1)+if j∈fs.take (i+1)then 1 else 0) os/\Kn H H2 [] ((XL++[(zb,.vec 5 (os.map OBlk.row))])++os.flatMap OBlk.lg)/\
        lk 1 e2=.c (.pp [Ui q.params,Ui q.ae,.sl false 5 (Qm q.blocks)])/\lk 2 e2=Up x2/\lk 3 e2=Up x3/\lk 4 e2=.c (.sl false 1 (ovOf q.blocks.length (nxN (gnx q)) q.blocks.length))/\lk 5 e2=Up x5/\lk 6 e2=.c (.sl false 1 (C3 q))/\lk 7 e2=Uv r/\
        lk 10 e2=.c (.sl false 1 (AA fs))/\lk 11 e2=Uv i) ?_ ?_
       ·intro Q bH _ _;refine Qe (Q1 ?_);refine AC ?_;simp only[go_sem,bm,af,Q4,BJ _ _ af,od,oi,Ke,KU _ _ oi,cM,qC,Q0,Q6 _ _ qC];refine Wu ?_ ?_
        ·intro _;refine Qu ?_;simp only[go_sem];refine bH _ _ ⟨os,hS.up λj=>?_,kn,rfl,rfl,rfl,rfl,rfl,rfl,rfl,rfl,rfl⟩;show _+_<=_+_;by_cases hj:j∈fs.take i
         ·rw[if_pos hj,if_pos ((bP j).2 (.inl hj))];exact Jg _
         ·rw[if_neg hj];omega
        ·intro _;refine Zd ?_
         refine Za ?_;intro x12 fG H14 lp;have kn:=kn.al fG lp;have fG:H14 x12=.st [Ui 0,.sl true 1 []]:=(kn.get (x12,.st [Ui 0,.sl true 1 []]) ZC).1;simp only[go_sem,Qz4,fG];intro H15 ru;have kn:Kn H H15 [] (([(x12,.st [Ui r,.sl true 1 []])]++((XL++[(zb,.vec 5 (os.map OBlk.row))])++os.flatMap OBlk.lg))++[]):=by
          rw[List.append_nil];exact (kn.perm Jan).aA 0 rfl ru
         refine Q1 (AC ?_);simp only[go_sem,af,Q4,BJ _ _ af,od];refine DG (nx:=gnx q) (.mk' _ _ _ _) rfl (Dl H15 q false).x λH16 hu=>?_;have kn:=kn.au hu;rw[Ql];have cQ:=CA (gnx q) (b:Int) q.blocks.length;obtain⟨np,lZ⟩:∃np,(Qp (gnx q) (b:Int) q.blocks.length).length=np:=⟨_,rfl⟩;rw[lZ]at cQ;simp only[go_sem,Qz5,Qb,lZ];try intro _
         refine Qh (Qe (Qx (λm4 e1 H1=>∃(j:Nat) (t:C) (Lg:Ul),m4=np-j/\j<=np/\Gr Lg 1 (Qc (List.replicate j (r:Int))) t/\Kn H H1 [] (([(x12,.st [Ui r,t])]++((XL++[(zb,.vec 5 (os.map OBlk.row))])++os.flatMap OBlk.lg))++Lg)/\
          lk 1 e1=.c (.pp [Ui q.params,Ui q.ae,.sl false 5 (Qm q.blocks)])/\lk 2 e1=Up x2/\lk 3 e1=Up x3/\lk 4 e1=.c (.sl false 1 (ovOf q.blocks.length (nxN (gnx q)) q.blocks.length))/\lk 5 e1=Up x5/\lk 6 e1=.c (.sl false 1 (C3 q))/\lk 7 e1=Uv r/\
          lk 10 e1=.c (.sl false 1 (AA fs))/\lk 11 e1=Uv i/\lk 12 e1=Up x12/\lk 85 e1=Uv np/\lk 86 e1=Uv j) np ?_ ?_))
         ·exact⟨0,_,[],ZA,ZA,.nil 1,kn,rfl,rfl,rfl,rfl,rfl,rfl,rfl,rfl,rfl,rfl,rfl,rfl⟩
         ·clear kn fG bm l1 l2 l3 l4 l5 l6 l7 l10 l11;rintro m4 e5 H17 ⟨j,t,Lg,hm4,hj,fW,kn,l1,l2,l3,l4,l5,l6,l7,l10,l11,l12,l85,l86⟩;have gk:=fW.ah;have fG:=kn.l 0 rfl;refine Qa ?_;simp only[go_sem,l1,l2,l3,l4,l5,l6,l7,l10,l11,l12,l85,l86];refine Wu ?_ ?_
          ·intro bn;have bF:j<np:=ZR;refine Zd ?_
           refine Wr ?_;simp only[go_sem,fG,gk];refine kn.br (new:=Qc [(r:Int)]) fW (.mk' _ _ _ _) (Qw _) (by simp only[Qb,LIM,Jn,Jm,List.length_replicate];omega) λt2 Lg2 H18 mj di kn=>?_;have fG:=kn.l 0 rfl;simp only[go_sem,Qz6,fG];intro H19 yV;have kn:=kn.aA 0 rfl yV;refine Zh ?_;refine⟨Qr,?_⟩;show ∃m,_;refine⟨np-(j+1),ZA,j+1,t2,Lg2,rfl,ZA,?_,kn,rfl,rfl,rfl,rfl,rfl,rfl,rfl,rfl,rfl,rfl,rfl,ZB⟩;rw[List.replicate_succ',De];exact mj
          ·intro bn;have nU:j=np:=(by have:np<=j:=(by simpa using bn);omega);subst nU;refine Zb ?_;have cg:b<os.length:=(by rw[hS.n,hn];exact cr);obtain⟨o,bh⟩:∃o,os[b]=o:=⟨_,rfl⟩;have iO:o.ok:=(by rw[<-bh];exact hS.ok _ (Jb cg));obtain⟨Z,hZ⟩:∃Z,(os.eraseIdx b).flatMap OBlk.lg=Z:=⟨_,rfl⟩;have eR:(os.flatMap OBlk.lg).Perm (o.lg++Z):=(by rw[<-hZ,<-bh];exact BT cg);obtain⟨RW,em⟩:∃RW,os.map OBlk.row=RW:=⟨_,rfl⟩;have ba:RW.length=n:=(by rw[<-em,Jc,hS.n,hn]);have aX:RW.getD b []=[o.pc,o.ic,Ui o.jump,Ui o.on,.ai o.nx.y 1 0 o.nx.ns.length]:=by
            rw[<-em,Jd];simp only[Jx,Ji cg,bh,J0,Jz];exact o.row_eq
           have bu:RW.take n=RW:=Jh ZA;have fK:=iO.p.ah;have jG:=iO.i.ah;rw[em]at kn;obtain⟨p,hp⟩:∃p:OPhi,p=⟨r,List.replicate j (r:Int),t,Lg⟩:=⟨_,rfl⟩;have fL:p.ok:=by
            rw[hp];rcases fW with ⟨h1,h2,h3⟩|⟨y,h1,h2⟩
            ·right;refine⟨true,?_,h3⟩;show t=_;rw[h1,h2]
            ·left;refine⟨y,?_,h2⟩;show t=_;rw[h1,Qb]
           have mY:p.row=[Ui r,t]:=(by rw[hp];rfl);have kn:Kn H H17 [] (([(zb,.vec 5 RW)]++([(x12,.st p.row)]++(XL++(Z++(o.rst++Lg)))))++o.pl):=kn.perm (Qj λf hf h0 hc cp=>by
            have h1:=cp _ _ eR;have h2:=cp _ _ o.lg_perm;rw[mY];simp only[Ui,hf]at h1 h2⊢;omega)
           have aK:H17 x3=.st [Ui q.params,Ui q.ae,.ai zb 5 0 n]:=(kn.get (x3,.st [Ui q.params,Ui q.ae,.ai zb 5 0 n]) Za8).1;have fG:=kn.l 1 rfl;rw[mY]at fG;have bY:=kn.l 0 rfl;refine AY ?_;simp only[go_sem,aK,fG,bY,ba,bu,aX,af,Q4,BJ _ _ af,od,cr,fK,gk,Jf,Jg];intro y hy H18 u4;have kn:=kn.al hy u4;have kp:=kn.perm (L':=(([(zb,.vec 5 RW)]++([(x12,.st p.row)]++(XL++(Z++(o.rst++Lg)))))++[(y,.vec 2 [[Ui r,t]])])++o.pl) CT;have b8:=iO.p.get kp;have cW:Slc H18 2 (o.ab.map OPhi.row) o.pc:=⟨b8.1,iO.p.aO,b8.2,iO.p.ax⟩;have w5:∀w∈o.ab.map OPhi.row,Go.AE.ak w=true:=λw hw=>by
            obtain⟨x,hx,rfl⟩:=Jk.1 hw;exact x.ak (iO.a x hx)
           have kq:Gr [(y,.vec 2 [[Ui r,t]])] 2 [[Ui r,t]] (.ai y 2 0 1):=.mk _ _ _ rfl;generalize bQ:C.ai y 2 0 1=yc at kq⊢;have hycw:=kq.ah;have gE:b<q.blocks.length:=(by rw[hn];exact cr);have du:o.ab.length<=3000:=by
            have h1:=hS.l b cg gE;have h2:=ho.il b gE;rw[bh]at h1;have h3:(R-(r+1)+if b∈fs.take i then 1 else 0)<=R+1:=(by split <;> omega);have h1:o.ab.length<=q.blocks[b].ab.length+(R-(r+1)+if b∈fs.take i then 1 else 0):=h1;omega
           have aK:H18 x3=.st [Ui q.params,Ui q.ae,.ai zb 5 0 n]:=(kn.get (x3,.st [Ui q.params,Ui q.ae,.ai zb 5 0 n]) Za8).1;have bY:H18 zb=.vec 5 RW:=(kn.get (zb,.vec 5 RW) ZC).1;simp only[go_sem,Qz8,aK,bY,ba,bu,aX,af,Q4,BJ _ _ af,od,cr,fK,Jf,Jg];refine kn.br (new:=o.ab.map OPhi.row) kq cW w5 (by simp only[Jc,Jn,Jm,LIM];omega) λt2 Lg2 H19 dA di kn=>?_;have aK:H19 x3=.st [Ui q.params,Ui q.ae,.ai zb 5 0 n]:=(kn.get (x3,.st [Ui q.params,Ui q.ae,.ai zb 5 0 n]) Za8).1;have bY:H19 zb=.vec 5 RW:=(kn.get (zb,.vec 5 RW) ZC).1;simp only[go_sem,Qz7,aK,bY,ba,aX,af,Q4,BJ _ _ af,od,cr,Jf,Jg];intro H20 rY;obtain⟨o',fA⟩:∃o':OBlk,o'=⟨p::o.ab,t2,Lg2,o.ins,o.ic,o.il,o.jump,o.on,o.nx⟩:=⟨_,rfl⟩;have bK:RW.set b [t2,o.ic,Ui o.jump,Ui o.on,.ai o.nx.y 1 0 o.nx.ns.length]=(os.set b o').map OBlk.row:=(by rw[<-em,J2,fA];rfl);rw[bK]at rY;have kn:=kn.aA 0 rfl rY;have aQ:=hS.step cg bh (k':=λj=>R-(r+1)+if j∈fs.take (i+1)then 1 else 0) fL (pc:=t2) (pl:=Lg2) (by rw[Jae,mY];exact dA) (by rw[hp];exact (⟨ZA,ZA⟩:(0:Int)<=(r:Int)/\(r:Int)<q.ae)) (λv hv=>by
            rw[hp]at hv;rw[Jaa hv];exact⟨ZA,ZA⟩) (by rw[hp,lZ];simp) (λj'=>by
            by_cases bE:j'=b
            ·subst bE;rw[if_pos rfl,if_pos ((bP j').2 (.inr rfl)),if_neg q9]
            ·rw[if_neg bE];by_cases gB:j'∈fs.take i
             ·rw[if_pos gB,if_pos ((bP j').2 (.inl gB))]
             ·rw[if_neg gB,if_neg (λh=>by rcases (bP j').1 h with h|h;exact gB h;exact bE h)])
           rw[<-fA]at aQ;refine bH _ _ ⟨os.set b o',aQ,?_,rfl,rfl,rfl,rfl,rfl,rfl,rfl,rfl,rfl⟩;have dk:=BT (f:=OBlk.lg) (l:=os.set b o') (i:=b) (by rw[Jl];exact cg);rw[Jac,J8,hZ]at dk;have wn:∀f:Ul->Nat,(∀a b,f (a++b)=f a+f b)->f o'.rst=f o.rst+f Lg:=λf hf=>by
            rw[fA];simp only[OBlk.rst,Jab,hf];have:p.lg=Lg:=(by rw[hp]);rw[this];omega
           have w9:o'.pl=Lg2:=(by rw[fA]);refine Kn.drop (B:=[(x12,.st p.row)]++o.pl) (kn.perm (Qj λf hf h0 hc cp=>?_));have h1:=cp _ _ dk;have h2:=cp _ _ o'.lg_perm;have h3:=wn f hf;rw[w9]at h2;show f (([(zb,_)]++([(x12,_)]++(XL++(Z++(o.rst++Lg)))))++o.pl++Lg2)=_;simp only[Ui,hf]at h1 h2 h3⊢;omega
       ·rintro e5 H14 ⟨os,hS,kn,l1,l2,l3,l4,l5,l6,l7,l10,l11⟩;refine Qq ?_;simp only[go_sem,l1,l2,l3,l4,l5,l6,l7,l10,l11];refine⟨Qr,?_⟩;show ∃m,_;exact⟨fs.length-(i+1),ZA,i+1,os,rfl,ZA,hS,kn,rfl,rfl,rfl,rfl,rfl,rfl,rfl,rfl,ZB⟩
      ·intro a7;refine Zb ?_;refine Zh ?_;refine⟨Qr,?_⟩;show ∃m,_;refine⟨r,ZA,r,os,rfl,ZA,hS.up λj=>?_,kn,rfl,rfl,rfl,rfl,rfl,rfl,rfl⟩;show _+_<=_;split <;> omega
  ·intro hc;have wr:m=0:=by have:¬(0:Int)<=(m:Int)-1:=ZD;omega
   subst wr;refine Zb ?_;have aK:H10 x3=.st [Ui q.params,Ui q.ae,.ai zb 5 0 n]:=(kn.get (x3,.st [Ui q.params,Ui q.ae,.ai zb 5 0 n]) Za8).1;rw[<-hX]at kn;have aH:=kn.l 1 rfl;refine Zn aK aH ?_;intro H11 eB;have kn:=kn.aA 1 rfl eB;have aH:=kn.l 1 rfl;refine Zj aH ?_;have iS:Held H11 (un H) (os.flatMap OBlk.lg):=λp hp=>⟨(kn.get p (by simp only[List.set,Jaf,Jad,Jw];exact .inr (.inr (.inr (.inr hp))))).1,C5 (kn.loc p (by simp only[List.set,Jaf,Jad,Jw];exact .inr (.inr (.inr (.inr hp)))))⟩;have hz:=kn.l 3 rfl;have bA:=OBlks.frzD (H:=H11) (S:=un H) hS.ok iS;exact⟨_,FrzL.ag (.cons (Qg rfl) (.cons (Qg rfl) (.cons (bA.ai (kn.un 3 rfl) hz (by rw[Jc,hS.n,hn])) .nil))),hK ⟨q.params,q.ae,os.map OBlk.d⟩ _ (hS.fin ho λj hj=>by
    have:=eJ _ (Jb hj);have:=ho.il j hj;show _+(R-0)<=_;omega) rfl rfl kn.fin⟩
end Go.AE.Y
namespace Go.AE
def SimC (c c':C):Prop:=c'=c\/∃a b:Int,c=.int .i64 a/\c'=.int .i64 b
inductive SimR:List C->List C->Prop
 |nil:SimR [] []
 |cons {c c':C} {l l':List C} (h:SimC c c') (t:SimR l l'):SimR (c::l) (c'::l')
theorem SimR.same:∀l,SimR l l
 |[]=>.nil
 |c::l=>.cons (.inl rfl) (SimR.same l)
theorem SimC.trans {a b c:C}(h:SimC a b)(k:SimC b c):SimC a c:=by
 rcases h with rfl|⟨x,y,rfl,rfl⟩
 ·exact k
 ·rcases k with rfl|⟨u,v,hu,rfl⟩
  ·exact .inr ⟨x,y,rfl,rfl⟩
  ·exact .inr ⟨x,v,rfl,rfl⟩
theorem SimR.trans {a b c:List C}(h:SimR a b):SimR b c->SimR a c:=by
 induction h generalizing c with
 |nil=>exact id
 |cons h t ih=>
  intro k
  cases k with
  |cons h2 t2=>exact .cons (h.trans h2) (ih t2)
theorem SimC.int {a:Int}{c:C}(h:SimC (Ui a) c):∃b:Int,c=Ui b:=by
 rcases h with rfl|⟨x,y,_,rfl⟩
 ·exact⟨a,rfl⟩
 ·exact⟨y,rfl⟩
theorem SimC.sl {fl:Bool}{sz:Nat}{rows:List (List C)}{c:C}(h:SimC (.sl fl sz rows) c):c=.sl fl sz rows:=by
 rcases h with rfl|⟨x,y,h,_⟩
 ·rfl
 ·simp at h
theorem SimC.ai {l sz st n:Nat}{c:C}(h:SimC (.ai l sz st n) c):c=.ai l sz st n:=by
 rcases h with rfl|⟨x,y,h,_⟩
 ·rfl
 ·simp at h
def SimO (X:Nat->Prop)(o o':Obj):Prop:=∃sz rows rows',o=.vec sz rows/\o'=.vec sz rows'/\rows'.length=rows.length/\∀r,r<rows.length->SimR (rows.getD r []) (rows'.getD r [])/\(X r->rows'.getD r []=rows.getD r [])
variable {X X':Nat->Prop}{o o':Obj}
theorem SimO.same (sz:Nat)(rows:List (List C)):SimO X (.vec sz rows) (.vec sz rows):=⟨sz,rows,rows,rfl,rfl,rfl,λr _=>⟨.same _,λ_=>rfl⟩⟩
theorem SimO.mono (h:SimO X o o')(hX:∀r,X' r->X r):SimO X' o o':=by
 obtain⟨sz,rows,rows',h1,h2,h3,h4⟩:=h;exact⟨sz,rows,rows',h1,h2,h3,λr hr=>⟨(h4 r hr).1,λhx=>(h4 r hr).2 (hX r hx)⟩⟩
theorem SimO.get {sz:Nat}{rows:List (List C)}(h:SimO X (.vec sz rows) o'):∃rows',o'=.vec sz rows'/\rows'.length=rows.length/\∀r,r<rows.length->SimR (rows.getD r []) (rows'.getD r [])/\(X r->rows'.getD r []=rows.getD r []):=by
 obtain⟨sz,rows,rows',h1,h2,h3,h4⟩:=h;cases h1;exact⟨rows',h2,h3,h4⟩
theorem SimO.set {sz:Nat}{rows rows':List (List C)}(h:SimO X (.vec sz rows) (.vec sz rows')){r:Nat}{new:List C}(hr:r<rows.length)(hs:SimR (rows.getD r []) new)(hX:∀r',r'≠r->X' r'->X r')(hn:¬X' r) :
  SimO X' (.vec sz rows) (.vec sz (rows'.set r new)):=by
 obtain⟨rows2,h2,h3,h4⟩:=h.get;cases h2;refine⟨sz,rows,_,rfl,rfl,by rw[Jl];exact h3,λr' bd=>?_⟩;by_cases e:r'=r
 ·subst e;have:(rows'.set r' new).getD r' []=new:=by rw[Jd,List.getElem?_set_self ZA];rfl
  rw[this];exact⟨hs,λhx=>absurd hx hn⟩
 ·have:(rows'.set r new).getD r' []=rows'.getD r' []:=by rw[Jd,Ja4 (λh=>e h.symm),<-Jd]
  rw[this];exact⟨(h4 r' bd).1,λhx=>(h4 r' bd).2 (hX r' e hx)⟩
def Ty (LG:List (Nat×Obj))(F:Heap)(E0:List (Nat×Obj))(X:Nat->Nat->Prop)(H:Heap)(L:List (Nat×Obj)):Prop:=
 ∃E1:List (Nat×Obj),E1.map Prod.fst=LG.map Prod.fst/\(∀p∈LG,∀ob,(p.1,ob)∈E1->SimO (X p.1) p.2 ob)/\Kn F H (E0++E1) L
namespace Ty
variable {LG E0 L A N:List (Nat×Obj)}{F H H':Heap}{X X':Nat->Nat->Prop}{m:Nat}{o ob:Obj}
theorem nodup (t:Ty LG F E0 X H L):(LG.map Prod.fst).Nodup:=by
 obtain⟨E1,h1,h2,kn⟩:=t;have:=kn.dE;rw[Jp]at this;rw[<-h1];exact (Ju.1 this).2.1
theorem get (t:Ty LG F E0 X H L)(hm:(m,o)∈LG):SimO (X m) o (H m):=by
 obtain⟨E1,h1,h2,kn⟩:=t;have h3:m∈E1.map Prod.fst:=by rw[h1];exact AV hm
 obtain⟨p,hp,he⟩:=Jk.1 h3;have h4:=(kn.get p (Jj _ (Je _ hp))).1;obtain⟨a,b⟩:=p;simp only at he h4;subst he;rw[h4];exact h2 _ hm _ hp
theorem e (t:Ty LG F E0 X H L)(i:Nat){x:Nat}{oo:Obj}(h:E0[i]? = some (x,oo)):H x=oo:=by
 obtain⟨E1,h1,h2,kn⟩:=t;exact (kn.get (x,oo) (Jj _ (Jj _ (Ja5 h)))).1
theorem weak (t:Ty LG F E0 X H L)(hX:∀m r,X' m r->X m r):Ty LG F E0 X' H L:=by
 obtain⟨E1,h1,h2,kn⟩:=t;exact⟨E1,h1,λp hp ob bh=>(h2 p hp ob bh).mono (hX p.1),kn⟩
theorem st (t:Ty LG F E0 X H L)(hm:(m,o)∈LG)(h:H'=H.set m ob)(hs:SimO (X' m) o ob)(hX:∀m',m'≠m->∀r,X' m' r->X m' r):Ty LG F E0 X' H' L:=by
 have cM:=t.nodup;obtain⟨E1,h1,h2,kn⟩:=t;have h3:m∈E1.map Prod.fst:=by rw[h1];exact AV hm
 obtain⟨p,hp,he⟩:=Jk.1 h3;obtain⟨i,hi⟩:=J9 hp;obtain⟨a,b⟩:=p;simp only at he;subst he;have bh:ob≠.none:=by
  obtain⟨_,_,_,_,h,_⟩:=hs;rw[h];simp
 have cU:(E1.map Prod.fst).Nodup:=by rw[h1];exact cM
 have bN:(E0++E1)[E0.length+i]? = some (a,b):=by rw[List.getElem?_append_right (by omega),Jay];exact hi
 have k2:=kn.stE (E0.length+i) bN h bh;rw[List.set_append_right _ _ (by omega),Jay]at k2;refine⟨E1.set i (a,ob),(DH hi).trans h1,λp hp ob' nK=>?_,k2⟩;rcases C8 nK with e|⟨j,hj,gB⟩
 ·have e1:p.1=a:=congrArg Prod.fst e;have e2:ob'=ob:=congrArg Prod.snd e;have e3:p.2=o:=by
   obtain⟨i1,g1⟩:=J9 hp;obtain⟨i2,g2⟩:=J9 hm;have:=C9 cM g1 g2 e1;subst this;rw[g1]at g2;rw[J4 g2]
  rw[e1,e2,e3];exact hs
 ·have bf:p.1≠a:=λhh=>hj (C9 cU gB hi hh);exact (h2 p hp ob' (Ja5 gB)).mono (hX p.1 bf)
theorem stE (t:Ty LG F E0 X H L)(i:Nat){x:Nat}{a b:Obj}(h:E0[i]? = some (x,a))(h1:H'=H.set x b)(hb:b≠.none:=by nofun):Ty LG F (E0.set i (x,b)) X H' L:=by
 obtain⟨E1,g1,g2,kn⟩:=t;have af:=(Jav.1 h).1;have k2:=kn.stE (o:=a) i (by rw[List.getElem?_append_left af];exact h) h1 hb;rw[List.set_append_left _ _ af]at k2;exact⟨E1,g1,g2,k2⟩
theorem au (t:Ty LG F E0 X H L)(hu:Upd H H' []):Ty LG F E0 X H' L:=by
 obtain⟨E1,g1,g2,kn⟩:=t;exact⟨E1,g1,g2,kn.au hu⟩
theorem al (t:Ty LG F E0 X H L){x:Nat}{b:Obj}(hx:H x=.none)(h1:H'=H.set x b)(hb:b≠.none:=by nofun):Ty LG F E0 X H' (L++[(x,b)]):=by
 obtain⟨E1,g1,g2,kn⟩:=t;exact⟨E1,g1,g2,kn.al hx h1 hb⟩
theorem drop (t:Ty LG F E0 X H (A++N)):Ty LG F E0 X H A:=by
 obtain⟨E1,g1,g2,kn⟩:=t;exact⟨E1,g1,g2,kn.drop⟩
theorem sub {wl cy c0:Nat}{a b c:Obj}(t:Ty LG F [(wl,a),(c0,b)] X H (L++[(cy,c)])):Ty LG H [(wl,a),(cy,c)] X H []:=by
 obtain⟨E1,g1,g2,kn⟩:=t;refine⟨E1,g1,g2,Kn.startE (λp hp=>kn.get p ?_) ?_⟩
 ·rcases Js.1 hp with hp|hp
  ·rcases Jw.1 hp with rfl|hp
   ·simp
   ·rcases Jw.1 hp with rfl|hp
    ·simp
    ·simp at hp
  ·simp[hp]
 ·have hd:=kn.dE;simp only[Jaf,Jad,Jae,Jai,Jw,not_or]at hd⊢;have gD:∀p∈[(wl,a),(c0,b)]++E1,p.1≠cy:=λp hp hh=>kn.ext p hp (hh▸kn.loc (cy,c) (by simp));refine⟨⟨gD (wl,a) (by simp),hd.1.2⟩,λhh=>?_,hd.2.2⟩;obtain⟨p,hp,he⟩:=Jk.1 hh;exact gD p (Je _ hp) he
theorem ret {wl cy c0:Nat}{a b c a' c':Obj}(t:Ty LG F [(wl,a),(c0,b)] X H (L++[(cy,c)]))(t2:Ty LG H [(wl,a'),(cy,c')] X' H' []):Ty LG F [(wl,a'),(c0,b)] X' H' L:=by
 obtain⟨E1,g1,g2,kn⟩:=t;obtain⟨E2,k1,k2,kn2⟩:=t2;have hu:=kn2.upd;have bf:∀p∈[(wl,a'),(cy,c')]++E2,p.2≠.none:=λp hp=>(kn2.get p (Jj _ hp)).2;have nZ:E2.map Prod.fst=E1.map Prod.fst:=k1.trans g1.symm;have hd:=kn.dE;have zT:=kn.dL;rw[Jp]at zT;have gD:∀p∈[(wl,a),(c0,b)]++E1,p.1≠cy:=λp hp hh=>kn.ext p hp (hh▸kn.loc (cy,c) (by simp));have hk:Kn F H' ([(wl,a'),(c0,b)]++E2) (L++[(cy,c')]):=by
  refine kn.callg hu (by simp[nZ]) (by simp) (λp hp=>?_) (λu iF=>?_)
  ·rcases Js.1 hp with hp|hp
   ·rcases Js.1 hp with hp|hp
    ·rcases Jw.1 hp with rfl|hp
     ·exact⟨bf _ (by simp),.inl (by simp)⟩
     ·simp only[Ja]at hp;subst hp;have h0:(c0,b)∈([(wl,a),(c0,b)]++E1)++(L++[(cy,c)]):=(by simp);refine⟨(kn.get _ h0).2,.inr ⟨h0,?_⟩⟩;simp only[Jaf,Jad,Jae,Jai,Jw,not_or]at hd⊢;refine⟨λh=>hd.1.1 h.symm,gD (c0,b) (by simp),?_⟩;rw[nZ];exact hd.2.1
    ·exact⟨bf p (Je _ hp),.inl (Je _ hp)⟩
   ·rcases Js.1 hp with hp|hp
    ·have h0:p∈([(wl,a),(c0,b)]++E1)++(L++[(cy,c)]):=(by simp[hp]);refine⟨(kn.get _ h0).2,.inr ⟨h0,λhh=>?_⟩⟩;have zw:F p.1=.none:=kn.loc p (Jj _ hp);simp only[Jaf,Jad,Jae,Jw]at hh;rcases hh with hh|hh|hh
     ·exact kn.ext (wl,a) (by simp) (hh▸zw)
     ·exact (Ju.1 zT).2.2 _ (AV hp) cy (by simp) hh
     ·rw[nZ]at hh;obtain⟨p',cp,he⟩:=Jk.1 hh;exact kn.ext p' (Je _ cp) (he▸zw)
    ·simp only[Ja]at hp;subst hp;exact⟨bf _ (by simp),.inl (by simp)⟩
  ·rcases Js.1 iF with h|h
   ·rcases Jw.1 h with rfl|h
    ·left;simp
    ·simp only[Ja]at h;subst h;right;simp
   ·left;rw[Jp,Js,<-nZ];exact .inr (AV h)
 exact⟨E2,k1,k2,hk.drop⟩
end Ty
end Go.AE
namespace Go.AE.Y
variable {H H' F:Heap}{q:CodeD}{os:List OBlk}{zb wl cy R n:Nat}{ids:List Int}{U:Nat->Prop}{X X':Nat->Nat->Prop}{nx:Int}{cs:List Int}{o:OBlk}{b x:Nat}
def LGo (os:List OBlk)(zb:Nat):List (Nat×Obj):=os.flatMap OBlk.lg++[(zb,.vec 5 (os.map OBlk.row))]
def OBlk.inN (o:OBlk):List (Nat×Obj):=o.ins.flatMap OIns.lg++o.il
def OBlk.phN (o:OBlk):List (Nat×Obj):=o.ab.flatMap OPhi.lg++o.pl
def XU (os:List OBlk)(zb:Nat)(U:Nat->Prop)(m r:Nat):Prop:=(∃x,∃h:x<os.length,m=os[x].nx.y)\/∃x,∃h:x<os.length,U x/\((m=zb/\r=x)\/∃p∈os[x].inN,m=p.1)
def XP (o:OBlk)(zb b:Nat)(j:Bool)(i k m r:Nat):Prop:=(j=true/\m=zb/\r=b)\/(∃p∈o.il,m=p.1/\i<=r)\/∃i',∃h:i'<o.ins.length,m=o.ins[i'].a.y/\(i<i'\/(i=i'/\k<=r))
theorem Q97 {α:Type}{f:α->Ul}:∀{l:List α},((l.flatMap f).map Prod.fst).Nodup->∀{i j:Nat} (hi:i<l.length) (hj:j<l.length),i≠j->∀p∈f l[i],∀p'∈f l[j],p.1≠p'.1
 |[],_,i,j,hi,_,_=>by simp at hi
 |x::l,hd,i,j,hi,hj,gC=>by
  rw[Jab,Jp]at hd;obtain⟨d1,d2,d3⟩:=Ju.1 hd;intro p hp p' cp
  cases i with
  |zero=>
   cases j with
   |zero=>exact absurd rfl gC
   |succ j=>
    simp only[Ja1,Jaj]at hp cp;exact d3 _ (AV hp) _ (AV (Jo.2 ⟨_,Jb _,cp⟩))
  |succ i=>
   cases j with
   |zero=>
    simp only[Ja1,Jaj]at hp cp;exact λh=>d3 _ (AV cp) _ (AV (Jo.2 ⟨_,Jb _,hp⟩)) h.symm
   |succ j=>
    simp only[Jaj]at hp cp;exact Q97 d2 ZU ZT ZA p hp p' cp
theorem ID {α:Type}{f:α->Ul}:∀{l:List α},((l.flatMap f).map Prod.fst).Nodup->∀x∈l,((f x).map Prod.fst).Nodup
 |[],_,x,h=>ZH
 |y::l,hd,x,h=>by
  rw[Jab,Jp]at hd;obtain⟨d1,d2,d3⟩:=Ju.1 hd;rcases Jw.1 h with rfl|h
  ·exact d1
  ·exact ID d2 x h
structure BlkN (o:OBlk):Prop where
 pn:∀p∈o.phN,p.1≠o.nx.y
 inn:∀p∈o.inN,p.1≠o.nx.y
 pi:∀p∈o.phN,∀p'∈o.inN,p.1≠p'.1
 ii:∀p∈o.ins.flatMap OIns.lg,∀p'∈o.il,p.1≠p'.1
 ij:∀i j (hi:i<o.ins.length) (hj:j<o.ins.length),i≠j->o.ins[i].a.y≠o.ins[j].a.y
theorem VP (h:(o.lg.map Prod.fst).Nodup):BlkN o:=by
 have e:o.lg=o.nx.lg++(o.phN++o.inN):=by simp only[OBlk.lg,OBlk.phN,OBlk.inN,Ja9]
 rw[e,Jp,Jp]at h;obtain⟨_,d2,d3⟩:=Ju.1 h;obtain⟨_,e2,e3⟩:=Ju.1 d2;rw[OBlk.inN,Jp]at e2;obtain⟨g1,_,g3⟩:=Ju.1 e2;have hy:o.nx.y∈o.nx.lg.map Prod.fst:=by simp[OInts.lg]
 refine⟨λp hp hh=>d3 _ hy _ (Jj _ (AV hp)) hh.symm,λp hp hh=>d3 _ hy _ (Je _ (AV hp)) hh.symm,λp hp p' cp=>e3 _ (AV hp) _ (AV cp),
  λp hp p' cp=>g3 _ (AV hp) _ (AV cp),λi j hi hj gC=>?_⟩
 exact Q97 g1 hi hj gC (o.ins[i].a.y,.vec 1 (Qc o.ins[i].a.ns)) ZaM (o.ins[j].a.y,.vec 1 (Qc o.ins[j].a.ns)) ZaM
def Apart (os:List OBlk)(zb:Nat):Prop:=((LGo os zb).map Prod.fst).Nodup
theorem Apart.zbn (h:Apart os zb)(hx:x<os.length){p:Nat×Obj}(hp:p∈os[x].lg):p.1≠zb:=by
 rw[Apart,LGo,Jp]at h;exact (Ju.1 h).2.2 _ (AV (Jo.2 ⟨_,Jb hx,hp⟩)) zb ZC
theorem Apart.same (h:Apart os zb){x y:Nat}(hx:x<os.length)(hy:y<os.length){p p':Nat×Obj}(hp:p∈os[x].lg)(cp:p'∈os[y].lg)(he:p.1=p'.1):x=y:=by
 rw[Apart,LGo,Jp]at h;by_cases nu:x=y
 ·exact nu
 ·exact absurd he (Q97 (Ju.1 h).1 hx hy nu p hp p' cp)
theorem Apart.blk (h:Apart os zb)(hx:x<os.length):BlkN os[x]:=by
 rw[Apart,LGo,Jp]at h;exact VP (ID (Ju.1 h).1 _ (Jb hx))
theorem OBlk.nxM (o:OBlk):(o.nx.y,Obj.vec 1 (Qc o.nx.ns))∈o.lg:=by simp[OBlk.lg,OInts.lg]
theorem OBlk.phM {p:Nat×Obj}(h:p∈o.phN):p∈o.lg:=by
 simp only[OBlk.phN,OBlk.lg,Js]at h⊢;rcases h with h|h
 ·exact .inr (.inl h)
 ·exact .inr (.inr (.inl h))
theorem OBlk.inM {p:Nat×Obj}(h:p∈o.inN):p∈o.lg:=by
 simp only[OBlk.inN,OBlk.lg,Js]at h⊢;exact .inr (.inr (.inr h))
theorem OBlk.aM (o:OBlk){i:Nat}(h:i<o.ins.length):(o.ins[i].a.y,Obj.vec 1 (Qc o.ins[i].a.ns))∈o.ins.flatMap OIns.lg:=Jo.2 ⟨_,Jb h,ZaM⟩
theorem LGo.of {p:Nat×Obj}(hx:x<os.length)(hp:p∈os[x].lg):p∈LGo os zb:=Jj _ (Jo.2 ⟨_,Jb hx,hp⟩)
theorem LGo.zbm:(zb,Obj.vec 5 (os.map OBlk.row))∈LGo os zb:=Je _ ZC
theorem Apart.ph (h:Apart os zb)(hx:x<os.length){p:Nat×Obj}(hp:p∈os[x].phN)(r:Nat):¬XU os zb U p.1 r:=by
 rintro (⟨y,hy,he⟩|⟨y,hy,_,he⟩)
 ·have:=h.same hx hy (OBlk.phM hp) os[y].nxM he;subst this;exact (h.blk hx).pn p hp he
 ·rcases he with ⟨he,_⟩|⟨p',cp,he⟩
  ·exact h.zbn hx (OBlk.phM hp) he
  ·have:=h.same hx hy (OBlk.phM hp) (OBlk.inM cp) he;subst this;exact (h.blk hx).pi p hp p' cp he
theorem Apart.phP (h:Apart os zb)(hx:x<os.length)(hb:b<os.length){p:Nat×Obj}(hp:p∈os[x].phN)(j:Bool)(i k r:Nat):¬XP os[b] zb b j i k p.1 r:=by
 rintro (⟨_,he,_⟩|⟨p',cp,he,_⟩|⟨i',bN,he,_⟩)
 ·exact h.zbn hx (OBlk.phM hp) he
 ·have eV:p'∈os[b].inN:=Je _ cp;have:=h.same hx hb (OBlk.phM hp) (OBlk.inM eV) he;subst this;exact (h.blk hx).pi p hp p' eV he
 ·have eV:(os[b].ins[i'].a.y,Obj.vec 1 (Qc os[b].ins[i'].a.ns))∈os[b].inN:=Jj _ (os[b].aM bN);have:=h.same hx hb (OBlk.phM hp) (OBlk.inM eV) he;subst this;exact (h.blk hx).pi p hp _ eV he
theorem Apart.inU (h:Apart os zb)(hb:b<os.length){p:Nat×Obj}(hp:p∈os[b].inN)(hU:¬U b)(r:Nat):¬XU os zb U p.1 r:=by
 rintro (⟨y,hy,he⟩|⟨y,hy,y8,he⟩)
 ·have:=h.same hb hy (OBlk.inM hp) os[y].nxM he;subst this;exact (h.blk hb).inn p hp he
 ·rcases he with ⟨he,_⟩|⟨p',cp,he⟩
  ·exact h.zbn hb (OBlk.inM hp) he
  ·have:=h.same hb hy (OBlk.inM hp) (OBlk.inM cp) he;subst this;exact hU y8
theorem Apart.zbU (h:Apart os zb)(hU:¬U b):¬XU os zb U zb b:=by
 rintro (⟨y,hy,he⟩|⟨y,hy,y8,he⟩)
 ·exact h.zbn hy os[y].nxM he.symm
 ·rcases he with ⟨_,he⟩|⟨p',cp,he⟩
  ·subst he;exact hU y8
  ·exact h.zbn hy (OBlk.inM cp) he.symm
theorem Apart.zbP (h:Apart os zb)(hb:b<os.length)(i k r:Nat):¬XP os[b] zb b false i k zb r:=by
 rintro (⟨h0,_⟩|⟨p',cp,he,_⟩|⟨i',bN,he,_⟩)
 ·simp at h0
 ·exact h.zbn hb (OBlk.inM (Je _ cp)) he.symm
 ·exact h.zbn hb (OBlk.inM (Jj _ (os[b].aM bN))) he.symm
structure NC (q:CodeD)(os:List OBlk)(zb R n:Nat)(ids:List Int):Prop where
 ok:q.ok
 hn:q.blocks.length=n
 hR:q.ae.toNat=R
 l:os.length=n
 d:∀x (h:x<os.length) (h':x<q.blocks.length),os[x].d=q.blocks[x]
 bo:∀b∈os,b.ok
 ow:∀b∈os,∀p∈b.ab,p.own
 t:Tree n ids (depL n (nxN (gnx q)))
def wO (q:CodeD)(ids:List Int)(zb n:Nat)(nx:Int):Obj:=.st [.int .i64 q.params,.int .i64 q.ae,.sl false 5 (Qm q.blocks),.int .i64 q.params,.int .i64 q.ae,.ai zb 5 0 n,.sl false 1 (Qc ids),.int .i64 nx]
abbrev TT (q:CodeD)(os:List OBlk)(zb n wl cy:Nat)(ids:List Int)(F:Heap)(nx:Int)(cs:List Int)(X:Nat->Nat->Prop)(H:Heap):Prop:=Ty (LGo os zb) F [(wl,wO q ids zb n nx),(cy,.vec 1 (Qc cs))] X H []
theorem HV (hs:SimO (X zb) (.vec 5 (os.map OBlk.row)) (H zb))(c:NC q os zb R n ids)(hx:x<n)(eu:x<os.length)(ho:os[x]=o) :
  ∃RW j on,H zb=.vec 5 RW/\RW.length=n/\RW.take n=RW/\RW.getD x []=[o.pc,o.ic,Ui j,Ui on,.ai o.nx.y 1 0 o.nx.ns.length]/\(X zb x->j=o.jump/\on=o.on)/\SimO (X zb) (.vec 5 (os.map OBlk.row)) (.vec 5 RW):=by
 subst ho;obtain⟨RW,h1,h2,h3⟩:=hs.get;rw[h1]at hs;rw[Jc,c.l]at h2;have hg:(os.map OBlk.row).getD x []=os[x].row:=by simp[Jd,eu]
 obtain⟨h4,h5⟩:=h3 x (by rw[Jc];exact eu);rw[hg]at h4 h5;have aw:=c.bo _ (Jb eu);have ik:∀c',SimC os[x].pc c'->c'=os[x].pc:=λc' h=>by
  rcases aw.p with ⟨e,_⟩|⟨y,e,_⟩
  ·rw[e]at h⊢;exact h.sl
  ·rw[e]at h⊢;exact h.ai
 have iB:∀c',SimC os[x].ic c'->c'=os[x].ic:=λc' h=>by
  rcases aw.i with ⟨e,_⟩|⟨y,e,_⟩
  ·rw[e]at h⊢;exact h.sl
  ·rw[e]at h⊢;exact h.ai
 generalize hR:RW.getD x []=row at h4 h5;rw[OBlk.row_eq]at h4 h5
 cases h4 with
 |cons a1 t1=>cases t1 with
  |cons a2 t2=>cases t2 with
   |cons a3 t3=>cases t3 with
    |cons a4 t4=>cases t4 with
     |cons a5 t5=>cases t5 with
      |nil=>
       have e1:=ik _ a1;have e2:=iB _ a2;obtain⟨j,e3⟩:=a3.int;obtain⟨on,e4⟩:=a4.int;have e5:=a5.ai;subst e1;subst e2;subst e3;subst e4;subst e5;refine⟨RW,j,on,h1,h2,Jh ZA,hR,λhX=>?_,hs⟩;have:=h5 hX;simp only[Jbf,C.int.injEq,true_and]at this;exact⟨this.1,this.2.1⟩
theorem Bw (t:TT q os zb n wl cy ids F nx cs X H)(c:NC q os zb R n ids)(hx:x<n)(eu:x<os.length)(ho:os[x]=o) :
  ∃RW j on,H zb=.vec 5 RW/\RW.length=n/\RW.take n=RW/\RW.getD x []=[o.pc,o.ic,Ui j,Ui on,.ai o.nx.y 1 0 o.nx.ns.length]/\(X zb x->j=o.jump/\on=o.on)/\SimO (X zb) (.vec 5 (os.map OBlk.row)) (.vec 5 RW):=HV (t.get LGo.zbm) c hx eu ho
theorem DZ {m:Nat}{ns:List Int}(hs:SimO (X m) (.vec 1 (Qc ns)) (H m)):∃ns':List Int,H m=.vec 1 (Qc ns')/\ns'.length=ns.length/\(∀r,r<ns.length->X m r->ns'.getD r 0=ns.getD r 0)/\SimO (X m) (.vec 1 (Qc ns)) (.vec 1 (Qc ns')):=by
 obtain⟨rows',h1,h2,h3⟩:=hs.get;rw[Qb]at h2 h3;have hg:∀r,r<ns.length->∃v:Int,rows'.getD r []=[Ui v]/\(X m r->v=ns.getD r 0):=λr hr=>by
  obtain⟨h4,h5⟩:=h3 r hr;rw[Qo _ _ hr]at h4 h5;generalize hR:rows'.getD r []=row at h4 h5
  cases h4 with
  |cons a1 t1=>cases t1 with
   |nil=>
    obtain⟨v,e⟩:=a1.int;subst e;refine⟨v,rfl,λhX=>?_⟩;have:=h5 hX;simpa using this
 obtain⟨f,hf⟩:∃f:Nat->Int,∀r,r<ns.length->rows'.getD r []=[Ui (f r)]/\(X m r->f r=ns.getD r 0):=by
  classical
  exact⟨λr=>if h:r<ns.length then (hg r h).choose else 0,λr hr=>by simp only[hr,dite_true];exact (hg r hr).choose_spec⟩
 have bA:rows'=Qc ((List.range ns.length).map f):=by
  refine Jag (by simp[Qc,h2]) λi h4 h5=>?_;have hi:i<ns.length:=ZA
  have:=(hf i hi).1;rw[Jd,Ji h4]at this;simp only[Jz]at this;rw[this];simp[Qc]
 subst bA;rw[h1]at hs;refine⟨_,h1,ZC,λr hr hX=>?_,hs⟩;rw[Jd];simp only[Jx,List.getElem?_range hr,J0,Jz];exact (hf r hr).2 hX
theorem HD (t:TT q os zb n wl cy ids F nx cs X H){m:Nat}{ns ns':List Int}(hm:(m,Obj.vec 1 (Qc ns))∈LGo os zb)(hs:SimO (X m) (.vec 1 (Qc ns)) (.vec 1 (Qc ns'))){r:Nat}(hr:r<ns.length)(v:Int)
  (h:H'=H.set m (.vec 1 (Qc (ns'.set r v)))) (hX:∀m' r',¬(m'=m/\r'=r)->X' m' r'->X m' r') (hn:¬X' m r):TT q os zb n wl cy ids F nx cs X' H':=by
 refine Ty.st t hm h ?_ λm' eP r'=>hX m' r' λe=>eP e.1;rw[<-DI];refine hs.set (by rw[Qb];exact hr) ?_ (λr' bd=>hX m r' λe=>bd e.2) hn;rw[Qo _ _ hr];exact .cons (.inr ⟨_,_,rfl,rfl⟩) .nil
theorem CJ (t:TT q os zb n wl cy ids F nx cs X H)(c:NC q os zb R n ids)(eu:x<os.length)(ho:os[x]=o):aW H o.pc=True/\ax o.pc=o.ab.length/\o.pc.ah=false/\o.ic.ah=false:=by
 subst ho;have aw:=c.bo _ (Jb eu);refine⟨?_,by rw[aw.p.ax,Jc],aw.p.ah,aw.i.ah⟩;rcases aw.p with ⟨e,_⟩|⟨z,e,e2⟩
 ·rw[e];rfl
 ·have hm:(z,Obj.vec 2 (os[x].ab.map OPhi.row))∈LGo os zb:=LGo.of eu (OBlk.phM (Je _ (by rw[e2];simp)));obtain⟨rows',h1,h2,_⟩:=(t.get hm).get;rw[e];simp only[aW,h1,h2,Jf,Jg,and_self]
theorem OBlk.phZ (aw:o.ok){k:Nat}(hk:k<o.ab.length):∃z,o.pc=.ai z 2 0 o.ab.length/\o.pl=[(z,.vec 2 (o.ab.map OPhi.row))]:=by
 rcases aw.p with ⟨_,h,_⟩|⟨y,h1,h2⟩
 ·have:=congrArg List.length h;simp only[Jc,Jm]at this;omega
 ·exact⟨y,by rw[h1,Jc],h2⟩
theorem OBlk.inZ (aw:o.ok){k:Nat}(hk:k<o.ins.length):∃z,o.ic=.ai z 4 0 o.ins.length/\o.il=[(z,.vec 4 (o.ins.map OIns.row))]:=by
 rcases aw.i with ⟨_,h,_⟩|⟨y,h1,h2⟩
 ·have:=congrArg List.length h;simp only[Jc,Jm]at this;omega
 ·exact⟨y,by rw[h1,Jc],h2⟩
theorem rdPh (t:TT q os zb n wl cy ids F nx cs X H)(c:NC q os zb R n ids)(eu:x<os.length)(ho:os[x]=o){z k:Nat}(hz:o.pl=[(z,.vec 2 (o.ab.map OPhi.row))])(hk:k<o.ab.length) :
  ∃PR to ya,H z=.vec 2 PR/\PR.length=o.ab.length/\PR.take o.ab.length=PR/\PR.getD k []=[Ui to,.ai ya 1 0 o.ab[k].ns.length]/\(ya,Obj.vec 1 (Qc o.ab[k].ns))∈o.phN/\o.ab[k].ac=.ai ya 1 0 o.ab[k].ns.length/\SimO (X z) (.vec 2 (o.ab.map OPhi.row)) (.vec 2 PR):=by
 subst ho;have hm:(z,Obj.vec 2 (os[x].ab.map OPhi.row))∈LGo os zb:=LGo.of eu (OBlk.phM (Je _ Zbg));have hs:=t.get hm;obtain⟨PR,h1,h2,h3⟩:=hs.get;rw[h1]at hs;rw[Jc]at h2 h3;obtain⟨h4,_⟩:=h3 k hk;obtain⟨ya,e1,e2⟩:=c.ow _ (Jb eu) _ (Jb hk);have hg:(os[x].ab.map OPhi.row).getD k []=[Ui os[x].ab[k].to,.ai ya 1 0 os[x].ab[k].ns.length]:=by
  simp only[Jd,Jx,Ji hk,J0,Jz,OPhi.row,e1]
 rw[hg]at h4;generalize hR:PR.getD k []=row at h4
 cases h4 with
 |cons a1 t1=>cases t1 with
  |cons a2 t2=>cases t2 with
   |nil=>
    obtain⟨v,e⟩:=a1.int;have e3:=a2.ai;subst e;subst e3;refine⟨PR,v,ya,h1,h2,Jh ZA,hR,?_,e1,hs⟩;exact Jj _ (Jo.2 ⟨_,Jb hk,by rw[e2];simp⟩)
theorem rdIn (t:TT q os zb n wl cy ids F nx cs X H)(eu:x<os.length)(ho:os[x]=o){z k:Nat}(hz:o.il=[(z,.vec 4 (o.ins.map OIns.row))])(hk:k<o.ins.length)(hX:X z k) :
  ∃IR,H z=.vec 4 IR/\IR.length=o.ins.length/\IR.take o.ins.length=IR/\IR.getD k []=[Ui o.ins[k].op,Ui o.ins[k].to,.ai o.ins[k].a.y 1 0 o.ins[k].a.ns.length,Ui o.ins[k].n]/\SimO (X z) (.vec 4 (o.ins.map OIns.row)) (.vec 4 IR):=by
 subst ho;have hm:(z,Obj.vec 4 (os[x].ins.map OIns.row))∈LGo os zb:=LGo.of eu (OBlk.inM (Je _ Zbg));have hs:=t.get hm;obtain⟨IR,h1,h2,h3⟩:=hs.get;rw[h1]at hs;rw[Jc]at h2 h3;have h4:=(h3 k hk).2 hX;refine⟨IR,h1,h2,Jh ZA,?_,hs⟩;rw[h4];simp only[Jd,Jx,Ji hk,J0,Jz];rfl
theorem SD (t:TT q os zb n wl cy ids F nx cs X H)(c:NC q os zb R n ids)(eu:x<os.length)(ho:os[x]=o):aW H o.ic=True/\ax o.ic=o.ins.length:=by
 subst ho;have aw:=c.bo _ (Jb eu);refine⟨?_,by rw[aw.i.ax,Jc]⟩;rcases aw.i with ⟨e,_⟩|⟨z,e,e2⟩
 ·rw[e];rfl
 ·have hm:(z,Obj.vec 4 (os[x].ins.map OIns.row))∈LGo os zb:=LGo.of eu (OBlk.inM (Je _ (by rw[e2];simp)));obtain⟨rows',h1,h2,_⟩:=(t.get hm).get;rw[e];simp only[aW,h1,h2,Jf,Jg,and_self]
theorem NC.get (c:NC q os zb R n ids)(hb:b<n):∃hl:b<os.length,∃hq:b<q.blocks.length,os[b].d=q.blocks[b]/\os[b].ok/\q.blocks[b].ok q b/\os[b].ab.length<=1200/\os[b].ins.length<=1200:=by
 have hl:b<os.length:=by rw[c.l];exact hb
 have hq:b<q.blocks.length:=by rw[c.hn];exact hb
 have hd:=c.d b hl hq;have cj:=c.ok.il b hq;rw[<-hd]at cj;simp only[OBlk.d,Jc]at cj;exact⟨hl,hq,hd,c.bo _ (Jb hl),c.ok.bs b hq,cj.2,cj.1⟩
end Go.AE.Y
namespace Go.AE.Y
attribute [local go_sem] cond_true cond_false Bool.not_true Bool.not_false
open Go.Proofs.Tryz
variable {H H' F:Heap}{K:Uk}{q:CodeD}{os:List OBlk}{zb wl cy R n b:Nat}{ids:List Int}{U:Nat->Prop}{Z Z':Nat->Nat->Prop}{nx:Int}{cs:List Int}{o:OBlk}{y:BlkD}{e:Env}{Q:X->Env->Heap->Prop}
theorem IT (hw:H wl=wO q ids zb n nx)(h1:0<=nx)(h2:nx<=2 ^ 40)(hK:∀H',H'=H.set wl (wO q ids zb n (nx+1))->K (Uv nx) H'):Qv prog Qin [Up wl] H K:=by
 refine Qd A6 Q6p ?_;rw[wO]at hw;refine Za ?_;refine Zi hw ?_;refine⟨Qr,λH' h'=>?_⟩;have n5:H' wl=wO q ids zb n (nx+1):=by rw[h',Heap.aE];rfl
 have hK:=hK H' h';rw[wO]at n5;refine Zi n5 ?_;try refine⟨Qr,?_⟩
 refine Zf ?_
 first|exact hK|(have e:nx+1-1=nx:=ZA;rw[e];exact hK)
def LK (wl b cy R n zb:Nat)(e:Env):Prop:=lk 0 e=.c (.ptr wl 0)/\lk 1 e=.c (.int .i64 b)/\lk 2 e=.c (.ai cy 1 0 R)/\lk 6 e=.c (.ep (.ai zb 5 0 n) 5 b 0)
structure NSt (q:CodeD)(os:List OBlk)(zb n R wl cy:Nat)(ids:List Int)(F:Heap)(nx:Int)(cs:List Int)(Z:Nat->Nat->Prop)(H:Heap):Prop where
 t:TT q os zb n wl cy ids F nx cs Z H
 c:cs.length=R
theorem NSt.w (s:NSt q os zb n R wl cy ids F nx cs Z H):H wl=wO q ids zb n nx:=s.t.e 0 rfl
theorem NSt.cu (s:NSt q os zb n R wl cy ids F nx cs Z H):H cy=.vec 1 (Qc cs):=s.t.e 1 rfl
theorem NSt.ct (s:NSt q os zb n R wl cy ids F nx cs Z H):(Qc cs).take R=Qc cs:=Jh (by rw[Qb];exact Nat.le_of_eq s.c)
theorem NSt.cl (s:NSt q os zb n R wl cy ids F nx cs Z H):(Qc cs).length=R:=by rw[Qb];exact s.c
theorem NSt.setW (s:NSt q os zb n R wl cy ids F nx cs Z H){nx':Int}(h:H'=H.set wl (wO q ids zb n nx')):NSt q os zb n R wl cy ids F nx' cs Z H':=⟨s.t.stE 0 rfl h (by simp[wO]),s.c⟩
theorem NSt.setC (s:NSt q os zb n R wl cy ids F nx cs Z H){i:Nat}{v:Int}(h:H'=H.set cy (.vec 1 (Qc (cs.set i v)))):NSt q os zb n R wl cy ids F nx (cs.set i v) Z H':=⟨s.t.stE 1 rfl h,by rw[Jl];exact s.c⟩
theorem NSt.weak (s:NSt q os zb n R wl cy ids F nx cs Z H)(hX:∀m r,Z' m r->Z m r):NSt q os zb n R wl cy ids F nx cs Z' H:=⟨s.t.weak hX,s.c⟩
theorem phA (c:NC q os zb R n ids)(hb:b<n)(hl:b<os.length)(ho:os[b]=o)(hX:∀p∈o.phN,∀r,¬Z p.1 r)(s:NSt q os zb n R wl cy ids F nx cs Z H)(hk:LK wl b cy R n zb e)(h0:0<=nx)(h1:nx+o.ab.length<=2 ^ 40)(hN:o.ab.length<=100000)
  (h:∀e' H',NSt q os zb n R wl cy ids F (nx+o.ab.length) cs Z H'->LK wl b cy R n zb e'->A9 prog RK Q e' H'):A9 prog Qgv Q e H:=by
 obtain⟨l0,l1,l2,l6⟩:=hk;have aw:=c.bo _ (Jb hl);rw[ho]at aw;refine Q1 (Qa ?_);simp only[go_sem,l0,l1,l2,l6];refine Qh (Qe (Qx (λm e1 H1=>∃i:Nat,m=o.ab.length-i/\i<=o.ab.length/\NSt q os zb n R wl cy ids F (nx+i) cs Z H1/\lk 0 e1=Up wl/\lk 1 e1=Uv b/\lk 2 e1=.c (.ai cy 1 0 R)/\lk 6 e1=.c (.ep (.ai zb 5 0 n) 5 b 0)/\lk 7 e1=Uv i) o.ab.length ?_ ?_))
 ·exact⟨0,ZA,ZA,by simpa using s,rfl,rfl,rfl,rfl,rfl⟩
 ·clear s l0 l1 l2 l6;rintro m e1 H1 ⟨i,hm,hi,s,l0,l1,l2,l6,l7⟩;obtain⟨RW,j,on,bY,ba,bu,aX,_,_⟩:=Bw s.t c hb hl ho;obtain⟨fL,du,fK,jG⟩:=CJ s.t c hl ho;refine Q1 (Qa ?_);simp only[go_sem,l0,l1,l2,l6,l7,bY,ba,bu,aX,hb,fL,du,fK,Jf,Jg];try intro _
  refine Wu ?_ ?_
  ·intro hc;have af:i<o.ab.length:=ZD
   obtain⟨z,ik,cQ⟩:=OBlk.phZ aw af;rw[ik]at aX;refine Zd ?_
   refine Wq ?_;simp only[go_sem,bY,ba,bu,aX,hb,Jf,Jg];refine IT s.w ZA ZA λH2 h2=>?_;have s:=s.setW h2;obtain⟨RW,j,on,bY,ba,bu,aX,_,_⟩:=Bw s.t c hb hl ho;rw[ik]at aX;obtain⟨PR,to,ya,hz,uw,uY,rT,fF,y4,hY⟩:=rdPh s.t c hl ho cQ af;simp only[go_sem,Qgw,bY,ba,bu,aX,hb,hz,uw,rT,af,Jf,Jg];intro H3 h3;have o9:(z,Obj.vec 2 (o.ab.map OPhi.row))∈o.phN:=Je _ (by rw[cQ];simp);have s:NSt q os zb n R wl cy ids F (nx+i+1) cs Z H3:=⟨Ty.st s.t (LGo.of hl (by rw[ho];exact OBlk.phM o9)) h3 (hY.set Zbj (by
    have hg:(o.ab.map OPhi.row).getD i []=[Ui o.ab[i].to,.ai ya 1 0 o.ab[i].ns.length]:=by
     simp only[Jd,Jx,Ji af,J0,Jz,OPhi.row,y4]
    rw[hg];exact .cons (.inr ⟨_,_,rfl,rfl⟩) (.cons (.inl rfl) .nil)) (λr' _ h=>h) (hX _ o9 _)) (λm' _ r h=>h),s.c⟩
   refine Zh ?_;refine⟨Qr,?_⟩;show ∃m,_;exact⟨o.ab.length-(i+1),ZA,i+1,rfl,ZA,by have e:nx+((i+1:Nat):Int)=nx+i+1:=ZA;rw[e];exact s,rfl,rfl,rfl,rfl,rfl⟩
  ·intro hc;have iA:i=o.ab.length:=by have:o.ab.length<=i:=ZD;omega
   subst iA;refine Zb ?_;exact h _ _ s ⟨rfl,rfl,rfl,rfl⟩
theorem phB (c:NC q os zb R n ids)(hb:b<n)(hl:b<os.length)(ho:os[b]=o)(hy:o.d=y)(hq:b<q.blocks.length)(nq:q.blocks[b]=y)(s:NSt q os zb n R wl cy ids F nx cs Z H)(hk:LK wl b cy R n zb e)(hN:o.ab.length<=100000)
  (h:∀e' H' cs',NSt q os zb n R wl cy ids F nx cs' Z H'->LK wl b cy R n zb e'->A9 prog RL Q e' H'):A9 prog RK Q e H:=by
 obtain⟨l0,l1,l2,l6⟩:=hk;have aw:=c.bo _ (Jb hl);rw[ho]at aw;have cC:=c.ok.bs b hq;rw[nq]at cC;have fT:y.ab.length=o.ab.length:=by rw[<-hy];simp[OBlk.d]
 refine Q1 (Qa ?_);simp only[go_sem,l0,l1,l2,l6];refine Qh (Qe (Qx (λm e1 H1=>∃(i:Nat) (cs:List Int),m=o.ab.length-i/\i<=o.ab.length/\NSt q os zb n R wl cy ids F nx cs Z H1/\lk 0 e1=Up wl/\lk 1 e1=Uv b/\lk 2 e1=.c (.ai cy 1 0 R)/\lk 6 e1=.c (.ep (.ai zb 5 0 n) 5 b 0)/\lk 8 e1=Uv i) o.ab.length ?_ ?_))
 ·exact⟨0,cs,ZA,ZA,s,rfl,rfl,rfl,rfl,rfl⟩
 ·clear s l0 l1 l2 l6;rintro m e1 H1 ⟨i,cs,hm,hi,s,l0,l1,l2,l6,l8⟩;obtain⟨RW,j,on,bY,ba,bu,aX,_,_⟩:=Bw s.t c hb hl ho;obtain⟨fL,du,fK,jG⟩:=CJ s.t c hl ho;refine Q1 (Qa ?_);simp only[go_sem,l0,l1,l2,l6,l8,bY,ba,bu,aX,hb,fL,du,fK,Jf,Jg];try intro _
  refine Wu ?_ ?_
  ·intro hc;have af:i<o.ab.length:=ZD
   have aN:i<y.ab.length:=ZA
   obtain⟨z,ik,cQ⟩:=OBlk.phZ aw af;rw[ik]at aX;obtain⟨PR,to,ya,hz,uw,uY,rT,fF,y4,hY⟩:=rdPh s.t c hl ho cQ af;have hw:=s.w;rw[wO]at hw;have kG:=s.cu;have po:=s.ct;have cA:=s.cl;obtain⟨hv,bO⟩:=(cC.pto _ (Jb aN)).nat;rw[c.hR]at bO;refine Zd ?_
   refine Wq ?_;generalize hr:y.ab[i].to.toNat=r at *;have dM:r<cs.length:=ZaN
   simp only[go_sem,hw,bY,ba,bu,aX,hb,hz,uw,uY,rT,af,hq,Ql,Q9 _ _ hq,BlkD.cells,nq,Qy,aN,BU _ _ aN,PhiD.cells,hv,bO,kG,cA,Qo _ _ dM,DI,Jf,Jg];intro H2 h2;have s:=s.setC h2;refine Zh ?_;refine⟨Qr,?_⟩;show ∃m,_;exact⟨o.ab.length-(i+1),ZA,i+1,_,rfl,ZA,s,rfl,rfl,rfl,rfl,rfl⟩
  ·intro hc;refine Zb ?_;exact h _ _ _ s ⟨rfl,rfl,rfl,rfl⟩
def XC (os:List OBlk)(zb:Nat)(U:Nat->Prop)(o:OBlk)(b:Nat)(j:Bool)(i k m r:Nat):Prop:=XU os zb U m r\/XP o zb b j i k m r
theorem XC.stepA {i k m r:Nat}(h:XC os zb U o b true i (k+1) m r):XC os zb U o b true i k m r:=by
 rcases h with h|h|h|⟨i',bN,h1,h2⟩
 ·exact .inl h
 ·exact .inr (.inl h)
 ·exact .inr (.inr (.inl h))
 ·exact .inr (.inr (.inr ⟨i',bN,h1,ZA⟩))
theorem XC.stepI {i k m r:Nat}(h:XC os zb U o b true (i+1) 0 m r):XC os zb U o b true i k m r:=by
 rcases h with h|h|⟨p,hp,h1,h2⟩|⟨i',bN,h1,h2⟩
 ·exact .inl h
 ·exact .inr (.inl h)
 ·exact .inr (.inr (.inl ⟨p,hp,h1,ZA⟩))
 ·exact .inr (.inr (.inr ⟨i',bN,h1,ZA⟩))
theorem XC.notA (ap:Apart os zb)(hl:b<os.length)(ho:os[b]=o)(hU:¬U b){i k:Nat}(hi:i<o.ins.length):¬XC os zb U o b true i (k+1) o.ins[i].a.y k:=by
 subst ho;have hm:(os[b].ins[i].a.y,Obj.vec 1 (Qc os[b].ins[i].a.ns))∈os[b].inN:=Jj _ (os[b].aM hi);rintro (h|⟨_,h,_⟩|⟨p,hp,h1,h2⟩|⟨i',bN,h1,h2⟩)
 ·exact ap.inU hl hm hU _ h
 ·exact ap.zbn hl (OBlk.inM hm) h
 ·exact (ap.blk hl).ii _ (os[b].aM hi) p hp h1
 ·by_cases pg:i=i'
  ·subst pg;omega
  ·exact (ap.blk hl).ij i i' hi bN pg h1
theorem XC.notI (ap:Apart os zb)(hl:b<os.length)(ho:os[b]=o)(hU:¬U b){i z:Nat}{ob:Obj}(hz:(z,ob)∈o.il):¬XC os zb U o b true (i+1) 0 z i:=by
 subst ho;have hm:(z,ob)∈os[b].inN:=Je _ hz;rintro (h|⟨_,h,_⟩|⟨p,hp,h1,h2⟩|⟨i',bN,h1,h2⟩)
 ·exact ap.inU hl hm hU _ h
 ·exact ap.zbn hl (OBlk.inM hm) h
 ·omega
 ·exact (ap.blk hl).ii _ (os[b].aM bN) (z,ob) hz h1.symm
theorem phC (c:NC q os zb R n ids)(hb:b<n)(hl:b<os.length)(ho:os[b]=o)(hy:o.d=y)(hq:b<q.blocks.length)(nq:q.blocks[b]=y)(hU:¬U b)(s:NSt q os zb n R wl cy ids F nx cs (XC os zb U o b true 0 0) H)(hk:LK wl b cy R n zb e)
  (h0:0<=nx) (h1:nx+o.ins.length<=2 ^ 40) (hN:o.ins.length<=100000)
  (h:∀e' H' nx' cs',nx<=nx'->nx'<=nx+o.ins.length->NSt q os zb n R wl cy ids F nx' cs' (XC os zb U o b true o.ins.length 0) H'->LK wl b cy R n zb e'->A9 prog RE Q e' H'):A9 prog RL Q e H:=by
 obtain⟨l0,l1,l2,l6⟩:=hk;have aw:=c.bo _ (Jb hl);rw[ho]at aw;have cC:=c.ok.bs b hq;rw[nq]at cC;have ap:Apart os zb:=s.t.nodup;refine Q1 (Qa ?_);simp only[go_sem,l0,l1,l2,l6];refine Qh (Qe (Qx (λm e1 H1=>∃(i:Nat) (nx':Int) (cs:List Int),m=o.ins.length-i/\i<=o.ins.length/\nx<=nx'/\nx'<=nx+i/\NSt q os zb n R wl cy ids F nx' cs (XC os zb U o b true i 0) H1/\lk 0 e1=Up wl/\lk 1 e1=Uv b/\lk 2 e1=.c (.ai cy 1 0 R)/\lk 6 e1=.c (.ep (.ai zb 5 0 n) 5 b 0)/\lk 9 e1=Uv i) o.ins.length ?_ ?_))
 ·exact⟨0,nx,cs,ZA,ZA,ZA,ZA,s,rfl,rfl,rfl,rfl,rfl⟩
 ·clear s l0 l1 l2 l6;rintro m e1 H1 ⟨i,nx',cs,hm,hi,eC,wP,s,l0,l1,l2,l6,l9⟩;obtain⟨RW,j,on,bY,ba,bu,aX,_,_⟩:=Bw s.t c hb hl ho;obtain⟨_,_,fK,jG⟩:=CJ s.t c hl ho;obtain⟨kC,gO⟩:=SD s.t c hl ho;refine Q1 (Qa ?_);simp only[go_sem,l0,l1,l2,l6,l9,bY,ba,bu,aX,hb,kC,gO,jG,Jf,Jg];try intro _
  refine Wu ?_ ?_
  ·intro hc;have af:i<o.ins.length:=ZD
   clear bY ba bu aX kC gO;obtain⟨z,iB,cj⟩:=OBlk.inZ aw af;have o9:(z,Obj.vec 4 (o.ins.map OIns.row))∈o.il:=by rw[cj];simp
   obtain⟨x,hx⟩:∃x,o.ins[i]=x:=⟨_,rfl⟩;have kR:x.d∈y.ins:=by rw[<-hy,<-hx];exact Jk.2 ⟨_,Jb af,rfl⟩
   have hal3:x.a.ns.length<=3:=cC.al _ kR;have y5:∀k,XC os zb U o b true i k z i:=λk=>.inr (.inr (.inl ⟨_,o9,rfl,Jg _⟩));refine Zd ?_
   refine Bk (λe2 H2=>∃(nx2:Int) (cs:List Int),nx'<=nx2/\nx2<=nx'+1/\NSt q os zb n R wl cy ids F nx2 cs (XC os zb U o b true (i+1) 0) H2/\lk 0 e2=Up wl/\lk 1 e2=Uv b/\lk 2 e2=.c (.ai cy 1 0 R)/\lk 6 e2=.c (.ep (.ai zb 5 0 n) 5 b 0)/\lk 9 e2=Uv i) ?_ ?_
   ·intro Q2 bH _ _;refine Qe (Q1 ?_);refine Za ?_;refine Qh (Qe (Qx (λm e1 H1=>∃(k:Nat),m=x.a.ns.length-k/\k<=x.a.ns.length/\NSt q os zb n R wl cy ids F nx' cs (XC os zb U o b true i k) H1/\lk 0 e1=Up wl/\lk 1 e1=Uv b/\lk 2 e1=.c (.ai cy 1 0 R)/\lk 6 e1=.c (.ep (.ai zb 5 0 n) 5 b 0)/\lk 9 e1=Uv i/\lk 10 e1=Uv k) x.a.ns.length ?_ ?_))
    ·exact⟨0,ZA,ZA,s,rfl,rfl,rfl,rfl,rfl,rfl⟩
    ·clear s l0 l1 l2 l6 l9;rintro m2 e3 H3 ⟨k,eW,fx,s,l0,l1,l2,l6,l9,l10⟩;obtain⟨RW,j,on,bY,ba,bu,aX,_,_⟩:=Bw s.t c hb hl ho;rw[iB]at aX;obtain⟨IR,hz,rq,rW,nj,_⟩:=rdIn s.t hl ho cj af (y5 k);have hsa:SimO (XC os zb U o b true i k o.ins[i].a.y) (.vec 1 (Qc o.ins[i].a.ns)) (H3 o.ins[i].a.y):=s.t.get (LGo.of hl ZaG);obtain⟨ns',ou,bC,jX,hY⟩:=DZ hsa;have th:=λk=>XC.notA (k:=k) ap hl ho hU af;have bZ:(o.ins[i].a.y,Obj.vec 1 (Qc o.ins[i].a.ns))∈LGo os zb:=LGo.of hl ZaG;rw[hx]at nj ou bC jX hY th bZ;refine Q1 (Qa ?_);simp only[go_sem,l0,l1,l2,l6,l9,l10,bY,ba,bu,aX,hb,hz,rq,rW,nj,af,ou,Qb,bC,Jf,Jg];try intro _
     refine Wu ?_ ?_
     ·intro a7;have aN:k<x.a.ns.length:=ZF;have bF:k<ns'.length:=ZA;have hXk:XC os zb U o b true i k x.a.y k:=.inr (.inr (.inr ⟨i,af,by rw[hx],.inr ⟨rfl,Jg _⟩⟩));have oC:=jX k aN hXk;have rF:x.a.ns.getD k 0∈x.d.args:=Gz aN;obtain⟨hv,bO⟩:=(cC.args _ kR _ rF).nat;rw[c.hR]at bO;rw[<-oC]at hv bO;have bq:(Qc ns').take x.a.ns.length=Qc ns':=Jh Zab;have kG:=s.cu;have po:=s.ct;have cA:=s.cl;refine Zd ?_
      refine Wq ?_;generalize hr:(ns'.getD k 0).toNat=r at *;have dM:r<cs.length:=ZaN;simp only[go_sem,bY,ba,bu,aX,hb,hz,rq,rW,nj,af,ou,bq,Qb,bC,aN,Qo _ _ bF,hv,bO,kG,po,s.c,Qo _ _ dM,DI,Jf,Jg];intro H4 h4;have s:NSt q os zb n R wl cy ids F nx' cs (XC os zb U o b true i (k+1)) H4:=⟨HD s.t bZ hY aN _ h4 (λm' r' _ hh=>hh.stepA) (th k),s.c⟩;refine Zh ?_;refine⟨Qr,?_⟩;show ∃m,_;exact⟨x.a.ns.length-(k+1),ZA,k+1,rfl,ZA,s,rfl,rfl,rfl,rfl,rfl,rfl⟩
     ·intro a7;refine Zb ?_;refine Qa ?_;simp only[go_sem,bY,ba,bu,aX,hb,hz,rq,rW,nj,af,Jf,Jg];refine Hb ?_;try simp only[go_sem]
      refine Wv ?_ ?_
      ·intro bn;obtain⟨hv,bO⟩:=(cC.to _ kR bn).nat;rw[c.hR]at bO;have vo:x.d.to=x.to:=rfl;rw[vo]at hv bO;refine Za ?_;refine IT s.w ZA ZA λH4 h4=>?_;have s:=s.setW h4;obtain⟨RW,j,on,bY,ba,bu,aX,_,_⟩:=Bw s.t c hb hl ho;rw[iB]at aX;obtain⟨IR,hz,rq,rW,nj,_⟩:=rdIn s.t hl ho cj af (y5 k);rw[hx]at nj;have kG:=s.cu;have po:=s.ct;have cA:=s.cl;simp only[go_sem,Qfa];generalize hr:x.to.toNat=r at *;have dM:r<cs.length:=ZaN;refine Qa ?_;simp only[go_sem,bY,ba,bu,aX,hb,hz,rq,rW,nj,af,hv,bO,kG,Qb,s.c,Qo _ _ dM,DI,Jf,Jg];intro H5 h5;have s:=s.setC h5;obtain⟨RW,j,on,bY,ba,bu,aX,_,_⟩:=Bw s.t c hb hl ho;rw[iB]at aX;obtain⟨IR,hz,rq,rW,nj,sK⟩:=rdIn s.t hl ho cj af (y5 k);rw[hx]at nj;refine Qq ?_;simp only[go_sem,bY,ba,bu,aX,hb,hz,rq,nj,af,Jf,Jg];intro H6 h6;have s:NSt q os zb n R wl cy ids F (nx'+1) (cs.set r nx') (XC os zb U o b true (i+1) 0) H6:=⟨Ty.st s.t (LGo.of hl (by rw[ho];exact OBlk.inM (Je _ o9))) h6 (sK.set Zbj (by
        have hg:(o.ins.map OIns.row).getD i []=[Ui x.op,Ui x.to,.ai x.a.y 1 0 x.a.ns.length,Ui x.n]:=by
         simp only[Jd,Jx,Ji af,J0,Jz,hx];rfl
        rw[hg];exact .cons (.inl rfl) (.cons (.inr ⟨_,_,rfl,rfl⟩) (.cons (.inl rfl) (.cons (.inl rfl) .nil)))) (λr' _ hh=>hh.stepI) (XC.notI ap hl ho hU o9)) (λm' _ r' hh=>hh.stepI),s.c⟩
       exact bH _ _ ⟨nx'+1,_,ZA,ZA,s,rfl,rfl,rfl,rfl,rfl⟩
      ·intro bn;refine Zd ?_
       exact bH _ _ ⟨nx',cs,ZA,ZA,s.weak λm r hh=>hh.stepI,rfl,rfl,rfl,rfl,rfl⟩
   ·rintro e2 H2 ⟨nx2,cs,cN,gM,s,l0,l1,l2,l6,l9⟩;refine Qq ?_;simp only[go_sem,l0,l1,l2,l6,l9];refine⟨Qr,?_⟩;show ∃m,_;exact⟨o.ins.length-(i+1),ZA,i+1,nx2,cs,rfl,ZA,ZA,ZA,s,rfl,rfl,rfl,rfl,rfl⟩
  ·intro hc;have iA:i=o.ins.length:=by have:o.ins.length<=i:=ZD;omega
   subst iA;refine Zb ?_;exact h _ _ _ _ eC wP s ⟨rfl,rfl,rfl,rfl⟩
theorem phD (c:NC q os zb R n ids)(hb:b<n)(hl:b<os.length)(ho:os[b]=o)(hy:o.d=y)(hq:b<q.blocks.length)(nq:q.blocks[b]=y)(hU:¬U b){i0:Nat}(s:NSt q os zb n R wl cy ids F nx cs (XC os zb U o b true i0 0) H)(hk:LK wl b cy R n zb e)
  (h:∀e' H',NSt q os zb n R wl cy ids F nx cs (XU os zb U) H'->LK wl b cy R n zb e'->A9 prog RG Q e' H'):A9 prog RE Q e H:=by
 obtain⟨l0,l1,l2,l6⟩:=hk;have cC:=c.ok.bs b hq;rw[nq]at cC;have ap:Apart os zb:=s.t.nodup;obtain⟨RW,j,on,bY,ba,bu,aX,jX,hY⟩:=Bw s.t c hb hl ho;obtain⟨_,_,fK,jG⟩:=CJ s.t c hl ho;obtain⟨rfl,rfl⟩:=jX (.inr (.inl ⟨rfl,rfl,rfl⟩));have yX:y.jump=o.jump/\y.on=o.on:=by rw[<-hy];exact⟨rfl,rfl⟩
 refine Q1 (Qa ?_);simp only[go_sem,l0,l1,l2,l6,bY,ba,bu,aX,hb,Jf,Jg];refine Bk (λe2 H2=>NSt q os zb n R wl cy ids F nx cs (XU os zb U) H2/\LK wl b cy R n zb e2) ?_ ?_
 ·intro Q2 bH _ _;refine Wv ?_ ?_
  ·intro hc;have hj:¬y.jump=1:=by rw[yX.1];simpa using hc
   obtain⟨hv,bO⟩:=(cC.on hj).nat;rw[c.hR]at bO;rw[yX.2]at hv bO;have kG:=s.cu;have po:=s.ct;generalize hr:o.on.toNat=r at *;have dM:r<cs.length:=ZaN
   refine Qq ?_;simp only[go_sem,bY,ba,bu,aX,hb,hv,bO,kG,po,Qb,s.c,Qo _ _ dM,Jf,Jg];intro H2 h2;have bf:=λr'=>ap.zbP hl i0 0 r';have hX:∀m' r',XU os zb U m' r'->XC os zb U o b true i0 0 m' r':=λm' r' hh=>.inl hh;refine bH _ _ ⟨⟨Ty.st s.t LGo.zbm h2 (hY.set (by rw[Jc];exact hl) (by
    have hg:(os.map OBlk.row).getD b []=o.row:=by
     simp only[Jd,Jx,Ji hl,J0,Jz,ho]
    rw[hg,OBlk.row_eq];exact .cons (.inl rfl) (.cons (.inl rfl) (.cons (.inl rfl) (.cons (.inr ⟨_,_,rfl,rfl⟩) (.cons (.inl rfl) .nil))))) (λr' _ hh=>hX _ _ hh) (ap.zbU hU)) (λm' _ r' hh=>hX _ _ hh),s.c⟩,rfl,rfl,rfl,rfl⟩
  ·intro _;refine Zd ?_
   exact bH _ _ ⟨s.weak λm r hh=>.inl hh,rfl,rfl,rfl,rfl⟩
 ·rintro e2 H2 ⟨s,hk⟩;exact h _ _ s hk
theorem phE (c:NC q os zb R n ids)(hb:b<n)(hl:b<os.length)(ho:os[b]=o)(hy:o.d=y)(hq:b<q.blocks.length)(nq:q.blocks[b]=y)(s:NSt q os zb n R wl cy ids F nx cs (XU os zb U) H)(hk:LK wl b cy R n zb e)
  (h:∀e' H',NSt q os zb n R wl cy ids F nx cs (XU os zb U) H'->LK wl b cy R n zb e'->A9 prog Qgu Q e' H'):A9 prog RG Q e H:=by
 obtain⟨l0,l1,l2,l6⟩:=hk;have cC:=c.ok.bs b hq;rw[nq]at cC;have ap:Apart os zb:=s.t.nodup;have nM:o.nx.ns.length<=2:=by have:=cC.nxl;rw[<-hy]at this;exact this
 have rL:y.next=o.nx.ns:=by rw[<-hy];rfl
 refine Q1 (Qa ?_);simp only[go_sem,l0,l1,l2,l6];refine Qh (Qe (Qx (λm e1 H1=>∃(i:Nat),m=o.nx.ns.length-i/\i<=o.nx.ns.length/\NSt q os zb n R wl cy ids F nx cs (XU os zb U) H1/\lk 0 e1=Up wl/\lk 1 e1=Uv b/\lk 2 e1=.c (.ai cy 1 0 R)/\lk 6 e1=.c (.ep (.ai zb 5 0 n) 5 b 0)/\lk 12 e1=Uv i) o.nx.ns.length ?_ ?_))
 ·exact⟨0,ZA,ZA,s,rfl,rfl,rfl,rfl,rfl⟩
 ·clear s l0 l1 l2 l6;rintro m e1 H1 ⟨i,hm,hi,s,l0,l1,l2,l6,l12⟩;obtain⟨RW,j,on,bY,ba,bu,aX,_,_⟩:=Bw s.t c hb hl ho;obtain⟨_,_,fK,jG⟩:=CJ s.t c hl ho;have wg:SimO (XU os zb U o.nx.y) (.vec 1 (Qc o.nx.ns)) (H1 o.nx.y):=s.t.get (LGo.of hl (by rw[ho];exact o.nxM));obtain⟨ns',ou,bC,jX,_⟩:=DZ wg;refine Q1 (Qa ?_);simp only[go_sem,l0,l1,l2,l6,l12,bY,ba,bu,aX,hb,ou,Qb,bC,Jf,Jg];try intro _
  refine Wu ?_ ?_
  ·intro hc;have af:i<o.nx.ns.length:=ZD
   have aN:i<ns'.length:=ZA
   have bq:(Qc ns').take o.nx.ns.length=Qc ns':=Jh Zab;have oC:=jX i af (.inl ⟨b,hl,by rw[ho]⟩);have rF:o.nx.ns.getD i 0∈y.next:=by rw[rL];exact Gz af
   have hvr:=cC.nx _ rF;obtain⟨v,hv⟩:∃v:Nat,o.nx.ns.getD i 0=(v:Int):=⟨(o.nx.ns.getD i 0).toNat,ZA⟩;rw[hv]at oC hvr;have sx:v<q.blocks.length:=ZA
   have vP:v<n:=by rw[<-c.hn];exact sx
   refine Zd ?_
   refine Wb ?_;simp only[go_sem,bY,ba,bu,aX,hb,ou,bq,Qb,bC,af,Qo _ _ aN,oC,Jf,Jg];have hw:=s.w;rw[wO]at hw;refine Zi hw ?_;refine DG (nx:=gnx q) (.mk' _ _ _ _) rfl (Dl H1 q false).x λH2 hu=>?_;have s:NSt q os zb n R wl cy ids F nx cs (XU os zb U) H2:=⟨s.t.au hu,s.c⟩;rw[Ql];simp only[go_sem,Qfc];refine D1 (ns:=Qp (gnx q) (v:Int) q.blocks.length) (.mk' _ _ _ _) rfl λr hr=>?_;have ka:(b:Int)∈Qp (gnx q) (v:Int) q.blocks.length:=by
    simp only[Qp,Jk,Jbg,J7];refine⟨b,⟨hq,List.contains_iff_mem.2 ?_⟩,rfl⟩;rw[CD hq,nq,<-hv];exact rF
   obtain⟨a,ra,dD⟩:∃a:Nat,r=(a:Int)/\a<(Qp (gnx q) (v:Int) q.blocks.length).length:=by
    rcases hr with ⟨_,hn⟩|⟨a,h1,h2,_⟩
    ·exact absurd ka hn
    ·exact⟨a,h1,h2⟩
   subst ra;clear hr;simp only[go_sem,Qfb];obtain⟨bO,_,rG,sy,pV,hvp,_⟩:=c.get vP;obtain⟨o',fA⟩:∃o',os[v]=o':=⟨_,rfl⟩;obtain⟨y',dU⟩:∃y',q.blocks[v]=y':=⟨_,rfl⟩;rw[fA,dU]at rG;rw[fA]at sy hvp;rw[dU]at pV;have hyl':y'.ab.length=o'.ab.length:=by rw[<-rG];simp[OBlk.d]
   refine Za ?_;refine Qe (Qx (λm e1 H1=>∃(k:Nat),m=o'.ab.length-k/\k<=o'.ab.length/\NSt q os zb n R wl cy ids F nx cs (XU os zb U) H1/\lk 0 e1=Up wl/\lk 1 e1=Uv b/\lk 2 e1=.c (.ai cy 1 0 R)/\lk 6 e1=.c (.ep (.ai zb 5 0 n) 5 b 0)/\lk 12 e1=Uv i/\
    lk 13 e1=Uv v/\lk 14 e1=Uv a/\lk 15 e1=Uv k) o'.ab.length ?_ ?_)
   ·exact⟨0,ZA,ZA,s,rfl,rfl,rfl,rfl,rfl,rfl,rfl,rfl⟩
   ·clear s hw bY ba bu aX ou bq bC jX aN wg l0 l1 l2 l6 l12;rintro m2 e2 H3 ⟨k,eW,fx,s,l0,l1,l2,l6,l12,l13,l14,l15⟩;have hw:=s.w;rw[wO]at hw;refine Q1 (Qa ?_);simp only[go_sem,l0,l1,l2,l6,l12,l13,l14,l15,hw,sx,Ql,Q9 _ _ sx,BlkD.cells,dU,Qy];try intro _
    refine Wu ?_ ?_
    ·intro a7;have aN:k<y'.ab.length:=ZF;have bF:k<o'.ab.length:=ZA;obtain⟨z,ik,cQ⟩:=OBlk.phZ sy bF;obtain⟨RW,j,on,bY,ba,bu,aX,_,_⟩:=Bw s.t c vP bO fA;obtain⟨_,_,hpw',hiw'⟩:=CJ s.t c bO fA;rw[ik]at aX;obtain⟨PR,to,ya,hz,uw,uY,rT,fF,y4,_⟩:=rdPh s.t c bO fA cQ bF;obtain⟨p,hp⟩:∃p,y'.ab[k]=p:=⟨_,rfl⟩;have ee:p∈y'.ab:=ZaZ;have wz:p.args=o'.ab[k].ns:=by
      have h1:(o'.ab.map OPhi.d)[k]? = some o'.ab[k].d:=(by simp[bF]);have h2:o'.ab.map OPhi.d=y'.ab:=(by rw[<-rG];rfl);rw[h2,Ji aN,hp]at h1;rw[J4 h1];rfl
     have lU:=pV.pal p ee;have kM:a<p.args.length:=ZA;have nL:o'.ab[k].ns.length=p.args.length:=(by rw[wz]);have sf:(ya,Obj.vec 1 (Qc o'.ab[k].ns))∈LGo os zb:=LGo.of bO (by rw[fA];exact OBlk.phM fF);obtain⟨ns',ou,bC,_,hY⟩:=DZ (s.t.get sf);rw[nL]at rT bC;have tg:∀r,¬XU os zb U ya r:=λr=>ap.ph bO (p:=(ya,Obj.vec 1 (Qc o'.ab[k].ns))) (by rw[fA];exact fF) r;have bq:(Qc ns').take p.args.length=Qc ns':=Jh Zab;have han:a<ns'.length:=ZA;obtain⟨hu,oD⟩:=(pV.pargs p ee _ (Gz kM)).nat;rw[c.hR]at oD;have kG:=s.cu;have po:=s.ct;generalize hr:(p.args.getD a 0).toNat=r at *;have dM:r<cs.length:=(by rw[s.c];exact oD);refine Zd ?_
     refine Wq ?_;simp only[go_sem,hw,sx,vP,Ql,Q9 _ _ sx,BlkD.cells,dU,Qy,aN,BU _ _ aN,PhiD.cells,hp,bY,ba,bu,aX,hz,uw,uY,rT,bF,ou,Qb,bC,kM,Qo _ _ kM,Qo _ _ han,hu,oD,kG,po,s.c,Qo _ _ dM,DI,Jf,Jg];intro H4 h4;have s:NSt q os zb n R wl cy ids F nx cs (XU os zb U) H4:=⟨HD s.t sf hY (by rw[nL];exact kM) _ h4 (λm' r' _ hh=>hh) (tg a),s.c⟩;refine Zh ?_;refine⟨Qr,?_⟩;show ∃m,_;exact⟨o'.ab.length-(k+1),ZA,k+1,rfl,ZA,s,rfl,rfl,rfl,rfl,rfl,rfl,rfl,rfl⟩
    ·intro _;refine Zb ?_;refine Zh ?_;refine⟨Qr,?_⟩;show ∃m,_;exact⟨o.nx.ns.length-(i+1),ZA,i+1,rfl,ZA,s,rfl,rfl,rfl,rfl,rfl⟩
  ·intro _;refine Zb ?_;exact h _ _ s ⟨rfl,rfl,rfl,rfl⟩
end Go.AE.Y
namespace Go.AE.Y
attribute [local go_sem] cond_true cond_false Bool.not_true Bool.not_false
attribute [local instance] Classical.propDecidable
open Go.Proofs.Tryz
variable {H H' F:Heap}{K:Uk}{q:CodeD}{os:List OBlk}{zb wl cy R n b:Nat}{ids:List Int}{nx:Int}{cs:List Int}
def wgt (os:List OBlk)(x:Nat):Nat:=match os[x]? with
 |some o=>o.ab.length+o.ins.length
 |none=>0
theorem Ss {x:Nat}{o:OBlk}(h:x<os.length)(ho:os[x]=o):wgt os x=o.ab.length+o.ins.length:=by simp[wgt,h,ho]
theorem VZ {n:Nat}{g:Nat->List Nat}{b:Nat}:depL n g b<=n:=by
 have:=Ja2 (λa=>Br g a b) (List.range n);simpa[depL]using this
theorem Qa47 (ids:List Int)(b:Nat):(Ck ids b).Nodup:=List.Nodup.sublist List.filter_sublist List.nodup_range
theorem Qbf7 {N B:Nat}{w:Nat->Nat}(hw:∀x,w x<=B)(U:Nat->Prop):potW N w U<=N * B:=by
 have key:∀m,(((List.range m).filter λx=>decide (U x)).map w).sum<=m * B:=λm=>by
  induction m with
  |zero=>simp
  |succ m ih=>
   rw[Ja3,Jas,Jp,List.sum_append,Jbj];have h1:(((List.filter (λx=>decide (U x)) [m]).map w)).sum<=B:=by
    by_cases h:U m
    ·simp[h];exact hw m
    ·simp[h]
   omega
 exact key N
noncomputable def pW (n:Nat)(w:Nat->Nat)(U:Nat->Prop):Nat:=@potW n w U λ_=>Classical.propDecidable _
theorem SH {w:Nat->Nat}{U V:Nat->Prop}{b:Nat}(hb:b<n)(hU:U b)(hV:∀x,V x↔U x/\x≠b):pW n w V+w b=pW n w U:=by
 unfold pW;exact XX hb hU hV
theorem Hu {w:Nat->Nat}{U V:Nat->Prop}(h:∀x,V x->U x):pW n w V<=pW n w U:=by
 unfold pW;exact Vl h
theorem Yi {N B:Nat}{w:Nat->Nat}(hw:∀x,w x<=B)(U:Nat->Prop):pW N w U<=N * B:=by
 unfold pW;exact Qbf7 hw U
theorem TP (c:NC q os zb R n ids)(M:Int)(hM:M<=2 ^ 40):∀(N b:Nat) (U:Nat->Prop) (nx:Int) (cs:List Int) (cy:Nat) (H:Heap) (K:V->Heap->Prop),n<N+depL n (nxN (gnx q)) b->b<n->(∀x,Sub ids b x->U x)->NSt q os zb n R wl cy ids H nx cs (XU os zb U) H->0<=nx->nx+pW n (wgt os) U<=M->
  (∀nx' cs' H',NSt q os zb n R wl cy ids H nx' cs' (XU os zb λx=>U x/\¬Sub ids b x) H'->0<=nx'->nx'+pW n (wgt os) (λx=>U x/\¬Sub ids b x)<=M->K (.tup []) H')->
  Qv prog RC [Up wl,Uv b,.c (.ai cy 1 0 R)] H K:=by
 intro N
 induction N with
 |zero=>intro b U nx cs cy H K h1;have:=VZ (n:=n) (g:=nxN (gnx q)) (b:=b);omega
 |succ N ih=>
  intro b U nx cs cy H K hN hb Ak s h0 wy hK;obtain⟨hl,hq,hd,aw,cC,cQ,cj⟩:=c.get hb;obtain⟨o,ho⟩:∃o,os[b]=o:=⟨_,rfl⟩;obtain⟨y,hy⟩:∃y,q.blocks[b]=y:=⟨_,rfl⟩;rw[ho]at hd aw cQ cj;rw[hy]at hd cC;have ap:Apart os zb:=s.t.nodup;have uW:U b:=Ak b .refl;obtain⟨U1,uq⟩:∃U1:Nat->Prop,U1=λx=>U x/\x≠b:=⟨_,rfl⟩;have uo:¬U1 b:=by rw[uq];exact λh=>h.2 rfl
  have kV:=SH (n:=n) (w:=wgt os) (U:=U) (V:=U1) hb uW (λx=>by rw[uq]);rw[Ss hl ho]at kV;have s1:NSt q os zb n R wl cy ids H nx cs (XC os zb U1 o b true 0 0) H:=by
   refine⟨?_,s.c⟩;refine s.t.weak λm r hh=>?_;rcases hh with (h|⟨x,hx,rR,he⟩)|⟨_,h1,h2⟩|⟨p,hp,h1,_⟩|⟨i',bN,h1,_⟩
   ·exact .inl h
   ·rw[uq]at rR;exact .inr ⟨x,hx,rR.1,he⟩
   ·exact .inr ⟨b,hl,uW,.inl ⟨h1,h2⟩⟩
   ·exact .inr ⟨b,hl,uW,.inr ⟨p,by rw[ho];exact Je _ hp,h1⟩⟩
   ·exact .inr ⟨b,hl,uW,.inr ⟨_,by rw[ho];exact Jj _ (o.aM bN),h1⟩⟩
  have y6:∀p∈o.phN,∀r,¬XC os zb U1 o b true 0 0 p.1 r:=λp hp r hh=>by
   have cp:p∈os[b].phN:=by rw[ho];exact hp
   rcases hh with h|h
   ·exact ap.ph hl cp r h
   ·exact ap.phP hl hl cp true 0 0 r (by rw[ho];exact h)
  clear s;refine Qd A6 Q6o ?_;have hw:=s1.w;rw[wO]at hw;obtain⟨RW,j,on,bY,ba,bu,aX,_,_⟩:=Bw s1.t c hb hl ho;refine Qa ?_;simp only[go_sem,hw,bY,ba,hb,Jf,Jg];refine phA c hb hl ho y6 s1 ⟨rfl,rfl,rfl,rfl⟩ h0 ZA ZA λe2 H2 s2 k2=>?_;refine phB c hb hl ho hd hq hy s2 k2 ZA λe3 H3 cs3 s3 k3=>?_;refine phC c hb hl ho hd hq hy uo s3 k3 ZA ZA ZA λe4 H4 nx4 cs4 cN gM s4 k4=>?_;refine phD c hb hl ho hd hq hy uo s4 k4 λe5 H5 s5 k5=>?_;refine phE c hb hl ho hd hq hy s5 k5 λe6 H6 s6 k6=>?_;obtain⟨l0,l1,l2,l6⟩:=k6;have hw:=s6.w;rw[wO]at hw;refine Zp l0 l1 hw ?_;refine Qbkh (by rw[c.t.1];have:=c.ok.b1;rw[c.hn]at this;omega) λH7 hu=>?_;have s7:NSt q os zb n R wl cy ids H nx4 cs4 (XU os zb U1) H7:=⟨s6.t.au hu,s6.c⟩;simp only[go_sem,Qfd,l0,l2];obtain⟨kl,ce⟩:∃kl,Ck ids b=kl:=⟨_,rfl⟩;rw[ce];have hkll:kl.length<=160:=by
   have h1:=Ja2 (λi=>decide (ids.getD i 0=(b:Int))) (List.range ids.length);rw[List.length_range,c.t.1]at h1;have h2:=c.ok.b1;rw[c.hn]at h2;rw[<-ce,Ck,c.t.1];omega
  have tE:∀k∈kl,k∈Ck ids b:=λk hk=>by rw[ce];exact hk
  have xr:kl.Nodup:=by rw[<-ce];exact Qa47 ids b
  refine Za ?_;refine Qe (Qx (λm e1 H1=>∃(i:Nat) (nx':Int) (cs:List Int),m=kl.length-i/\i<=kl.length/\NSt q os zb n R wl cy ids H nx' cs (XU os zb λx=>U1 x/\∀k∈kl.take i,¬Sub ids k x) H1/\0<=nx'/\nx'+pW n (wgt os) (λx=>U1 x/\∀k∈kl.take i,¬Sub ids k x)<=M/\
   lk 0 e1=Up wl/\lk 2 e1=.c (.ai cy 1 0 R)/\lk 16 e1=.c (.sl false 1 (AA kl))/\lk 17 e1=Uv i) kl.length ?_ ?_)
  ·refine⟨0,nx4,cs4,ZA,ZA,⟨s7.t.weak λm r hh=>?_,s7.c⟩,ZA,?_,rfl,rfl,rfl,rfl⟩
   ·rcases hh with h|⟨x,hx,rR,he⟩
    ·exact .inl h
    ·exact .inr ⟨x,hx,rR.1,he⟩
   ·have:=Hu (n:=n) (w:=wgt os) (U:=U1) (V:=λx=>U1 x/\∀k∈kl.take 0,¬Sub ids k x) λx hx=>hx.1;omega
  ·clear hw bY ba bu aX s1 s6 s7 hu l0 l1 l2 l6;rintro m e7 H8 ⟨i,nx',cs,hm,hi,s,cd,oI,l0,l2,l16,l17⟩;refine Q1 (Qa ?_);simp only[go_sem,l0,l2,l16,l17,Q4];try intro _
   refine Wu ?_ ?_
   ·intro hc;have af:i<kl.length:=ZD;obtain⟨k,hk⟩:∃k,kl[i]=k:=⟨_,rfl⟩;have jV:k∈Ck ids b:=tE k (by rw[<-hk];exact Jb af);have b6:kl.getD i 0=k:=(by simp[Jd,af,hk]);have qK:=kidsL_mem.1 jV;have tD:k<n:=(by rw[<-c.t.1];exact qK.1);have hdep:=(c.t.up qK.1 qK.2).2;have kG:=s.cu;refine Zd ?_
    refine Wq ?_;simp only[go_sem,af,Q4,BJ _ _ af,b6,kG,s.ct,s.cl,Jad,Jm,Jbh,Jf,Jg];refine⟨.inl trivial,Qw _,by have h1:=c.ok.r1;have h2:=c.ok.r0;have:=c.hR;simp only[LIM];omega,λz hz H9 h9=>?_⟩;have t9:=s.t.al hz h9;simp only[go_sem,Qfe,af,Q4,BJ _ _ af,b6];have j4:Ty (LGo os zb) H9 [(wl,wO q ids zb n nx'),(z,.vec 1 (Qc cs))] (XU os zb λx=>U1 x/\∀k∈kl.take i,¬Sub ids k x) H9 []:=Ty.sub (L:=[]) t9;refine ih k (λx=>U1 x/\∀k∈kl.take i,¬Sub ids k x) nx' cs z H9 _ ZA tD (λx hx=>?_) ⟨j4,s.c⟩ cd oI λnx2 cs2 H10 s10 wX sU=>?_
    ·refine⟨?_,λk' fg dV=>?_⟩
     ·rw[uq];refine⟨Ak x (Sub.kid jV hx),λsj=>?_⟩;subst sj;exact Sub.kid_ne c.t jV hx
     ·have hk'm:k'∈kl:=List.mem_of_mem_take fg;have:=Sub.kids_apart c.t (tE k' hk'm) jV dV hx;subst this;rw[<-hk]at fg;exact IS xr af fg
    have y7:∀x,(U1 x/\∀k∈kl.take (i+1),¬Sub ids k x)↔((U1 x/\∀k∈kl.take i,¬Sub ids k x)/\¬Sub ids k x):=λx=>by
     rw[Jr af,hk];constructor
     ·rintro⟨g1,g2⟩;exact⟨⟨g1,λk' fg=>g2 k' (Jj _ fg)⟩,g2 k (Je _ ZC)⟩
     ·rintro⟨⟨g1,g2⟩,g3⟩;refine⟨g1,λk' fg=>?_⟩;rcases Js.1 fg with h|h
      ·exact g2 k' h
      ·simp only[Ja]at h;rw[h];exact g3
    have zN:(λx=>U1 x/\∀k∈kl.take (i+1),¬Sub ids k x)=λx=>(U1 x/\∀k∈kl.take i,¬Sub ids k x)/\¬Sub ids k x:=funext λx=>propext (y7 x);have t11:=Ty.ret (L:=[]) t9 s10.t;refine Zh ?_;refine⟨Qr,?_⟩;show ∃m,_;refine⟨kl.length-(i+1),ZA,i+1,nx2,cs,rfl,ZA,?_,wX,?_,rfl,rfl,rfl,rfl⟩
    ·rw[zN];exact⟨t11,s.c⟩
    ·rw[zN];exact sU
   ·intro hc;have iA:i=kl.length:=(by have:kl.length<=i:=(by simpa using hc);omega);subst iA;rw[Ja0]at s oI;refine Qu ?_;simp only[go_sem,X.next,Q7,A5,By,J6,false_imp_iff,implies_true,List.map_nil];have jP:∀x,(U x/\¬Sub ids b x)->(U1 x/\∀k∈kl,¬Sub ids k x):=λx hx=>by
     refine⟨by rw[uq];exact⟨hx.1,λsj=>hx.2 (by rw[sj];exact .refl)⟩,λk hk hs=>hx.2 (Sub.kid (tE k hk) hs)⟩
    refine hK nx' cs H8 ⟨s.t.weak λm r hh=>?_,s.c⟩ cd ?_
    ·rcases hh with h|⟨x,hx,rR,he⟩
     ·exact .inl h
     ·exact .inr ⟨x,hx,jP x rR,he⟩
    ·have:=Hu (n:=n) (w:=wgt os) jP;omega
theorem LGo.vec {zb:Nat}(aw:∀b∈os,b.ok)(bt:∀b∈os,∀p∈b.ab,p.own):∀p∈LGo os zb,∃sz rows,p.2=.vec sz rows:=λp hp=>by
 rcases Js.1 hp with hp|hp
 ·obtain⟨o,ho,hp⟩:=Jo.1 hp;have h1:=aw o ho;simp only[OBlk.lg,Js]at hp;rcases hp with hp|hp|hp|hp|hp
  ·simp only[OInts.lg,Ja]at hp;rw[hp];exact⟨_,_,rfl⟩
  ·obtain⟨x,hx,hp⟩:=Jo.1 hp;obtain⟨y,_,e⟩:=bt o ho x hx;rw[e]at hp;simp only[Ja]at hp;rw[hp];exact⟨_,_,rfl⟩
  ·rcases h1.p with ⟨_,_,e⟩|⟨y,_,e⟩
   ·rw[e]at hp;simp at hp
   ·rw[e]at hp;simp only[Ja]at hp;rw[hp];exact⟨_,_,rfl⟩
  ·obtain⟨x,hx,hp⟩:=Jo.1 hp;simp only[OIns.lg,OInts.lg,Ja]at hp;rw[hp];exact⟨_,_,rfl⟩
  ·rcases h1.i with ⟨_,_,e⟩|⟨y,_,e⟩
   ·rw[e]at hp;simp at hp
   ·rw[e]at hp;simp only[Ja]at hp;rw[hp];exact⟨_,_,rfl⟩
 ·simp only[Ja]at hp;rw[hp];exact⟨_,_,rfl⟩
theorem Xh {LG E0:Ul}{Z:Nat->Nat->Prop}(hv:∀p∈LG,∃sz rows,p.2=.vec sz rows)(kn:Kn H H (E0++LG) []):Ty LG H E0 Z H []:=by
 refine⟨LG,rfl,λp hp ob bh=>?_,kn⟩;have hd:=kn.dE;rw[Jp]at hd;have cM:=(Ju.1 hd).2.1;obtain⟨i1,g1⟩:=J9 hp;obtain⟨i2,g2⟩:=J9 bh;have:=C9 cM g1 g2 rfl;subst this;rw[g1]at g2;have e:p.2=ob:=by rw[J4 g2]
 obtain⟨sz,rows,h⟩:=hv p hp;rw[<-e,h];exact .same _ _
theorem FF {S:Nat->Bool}{Z:Nat->Prop}{m k:Nat}{ns:List Int}(hs:SimO Z (.vec 1 (Qc ns)) (H m))(hS:S m=true)(hk:k=ns.length):∃ns':List Int,ns'.length=ns.length/\FrzC H S (.ai m 1 0 k) (.sl false 1 (Qc ns')):=by
 obtain⟨ns',h1,h2,_⟩:=DZ (X:=λ_=>Z) (m:=m) hs;exact⟨ns',h2,(FrzR.same (Qw _)).ai hS h1 Zab⟩
theorem Pm {β:Type}{S:Nat->Bool}{g:β->List C}{P:β->Prop}:∀(l:List (List C)),(∀r∈l,∃y,FrzL H S r (g y)/\P y)->∃l':List β,FrzR H S l (l'.map g)/\l'.length=l.length/\∀y∈l',P y
 |[],_=>⟨[],.nil,rfl,ZC⟩
 |x::l,h=>by
  obtain⟨y,hy,hp⟩:=h x Jau;obtain⟨l',de,hn,fj⟩:=Pm l λz hz=>h z (Jaq _ hz);refine⟨y::l',.cons hy de,ZaO,λz hz=>?_⟩;rcases Jw.1 hz with rfl|hz
  ·exact hp
  ·exact fj z hz
theorem Fm {l:List (List C)}{r:List C}(h:r∈l):∃i,i<l.length/\l.getD i []=r:=by
 obtain⟨i,hi,rfl⟩:=Jq.1 h;exact⟨i,hi,by simp[Jd,hi]⟩
theorem Qbou {S:Nat->Bool}{Z:Nat->Nat->Prop}{o:OBlk}(aw:o.ok)(bt:∀p∈o.ab,p.own)(hs:∀p∈o.phN,SimO (Z p.1) p.2 (H p.1)/\S p.1=true):∃ps:List PhiD,FrzC H S o.pc (.sl false 2 (Q3 ps))/\ps.length=o.ab.length:=by
 rcases aw.p with ⟨h1,h2,_⟩|⟨z,h1,h2⟩
 ·have h0:o.ab=[]:=Ja7.1 h2;exact⟨[],by rw[h1];exact FrzR.nil.sl,by simp[h0]⟩
 ·obtain⟨hz,yA⟩:=hs (z,.vec 2 (o.ab.map OPhi.row)) (Je _ Zai);obtain⟨PR,g1,g2,g3⟩:=hz.get;rw[Jc]at g2 g3;obtain⟨ps,e1,e2,_⟩:=Pm (H:=H) (S:=S) (g:=PhiD.cells) (P:=λ_=>True) PR λr hr=>by
   obtain⟨i,hi,he⟩:=Fm hr;have bN:i<o.ab.length:=ZA
   obtain⟨h4,_⟩:=g3 i bN;obtain⟨ya,e3,e4⟩:=bt _ (Jb bN);have hg:(o.ab.map OPhi.row).getD i []=[Ui o.ab[i].to,.ai ya 1 0 o.ab[i].ns.length]:=by
    simp only[Jd,Jx,Ji bN,J0,Jz,OPhi.row,e3]
   rw[hg,he]at h4;have fF:=hs (ya,.vec 1 (Qc o.ab[i].ns)) (Jj _ (Jo.2 ⟨_,Jb bN,by rw[e4];simp⟩));obtain⟨ns',_,ey⟩:=FF fF.1 fF.2 rfl
   cases h4 with
   |cons a1 t1=>cases t1 with
    |cons a2 t2=>cases t2 with
     |nil=>
      obtain⟨v,e⟩:=a1.int;have e5:=a2.ai;subst e;subst e5;exact⟨⟨v,ns'⟩,.cons (Qg rfl) (.cons ey .nil),trivial⟩
  exact⟨ps,by rw[h1];exact e1.ai yA g1 (by rw[Jc,g2]),ZA⟩
theorem VS {S:Nat->Bool}{Z:Nat->Nat->Prop}{o:OBlk}(aw:o.ok)(hs:∀p∈o.inN,SimO (Z p.1) p.2 (H p.1)/\S p.1=true):∃is:List InsD,FrzC H S o.ic (.sl false 4 (AD is))/\is.length=o.ins.length:=by
 rcases aw.i with ⟨h1,h2,_⟩|⟨z,h1,h2⟩
 ·have h0:o.ins=[]:=Ja7.1 h2;exact⟨[],by rw[h1];exact FrzR.nil.sl,by simp[h0]⟩
 ·obtain⟨hz,yA⟩:=hs (z,.vec 4 (o.ins.map OIns.row)) (Je _ Zai);obtain⟨PR,g1,g2,g3⟩:=hz.get;rw[Jc]at g2 g3;obtain⟨ps,e1,e2,_⟩:=Pm (H:=H) (S:=S) (g:=InsD.cells) (P:=λ_=>True) PR λr hr=>by
   obtain⟨i,hi,he⟩:=Fm hr;have bN:i<o.ins.length:=ZA
   obtain⟨h4,_⟩:=g3 i bN;have hg:(o.ins.map OIns.row).getD i []=[Ui o.ins[i].op,Ui o.ins[i].to,.ai o.ins[i].a.y 1 0 o.ins[i].a.ns.length,Ui o.ins[i].n]:=by
    simp only[Jd,Jx,Ji bN,J0,Jz];rfl
   rw[hg,he]at h4;have fF:=hs (o.ins[i].a.y,.vec 1 (Qc o.ins[i].a.ns)) (Jj _ (o.aM bN));obtain⟨ns',_,ey⟩:=FF fF.1 fF.2 rfl
   cases h4 with
   |cons a1 t1=>cases t1 with
    |cons a2 t2=>cases t2 with
     |cons a3 t3=>cases t3 with
      |cons a4 t4=>cases t4 with
       |nil=>
        obtain⟨v1,f1⟩:=a1.int;obtain⟨v2,f2⟩:=a2.int;have f3:=a3.ai;obtain⟨v4,f4⟩:=a4.int;subst f1;subst f2;subst f3;subst f4;exact⟨⟨v1,v2,ns',v4⟩,.cons (Qg rfl) (.cons (Qg rfl) (.cons ey (.cons (Qg rfl) .nil))),trivial⟩
  exact⟨ps,by rw[h1];exact e1.ai yA g1 (by rw[Jc,g2]),ZA⟩
theorem Qbot {S:Nat->Bool}{Z:Nat->Nat->Prop}(c:NC q os zb R n ids)(t:∀p∈LGo os zb,SimO (Z p.1) p.2 (H p.1))(hS:∀p∈LGo os zb,S p.1=true) :
  ∃bs:List BlkD,FrzC H S (.ai zb 5 0 n) (.sl false 5 (Qm bs))/\bs.length=n/\∀y∈bs,y.ins.length<=1200/\y.ab.length<=1200:=by
 have hs:=t _ LGo.zbm;obtain⟨RW,h1,h2,h3⟩:=hs.get;rw[Jc,c.l]at h2;obtain⟨bs,e1,e2,e3⟩:=Pm (H:=H) (S:=S) (g:=BlkD.cells) (P:=λy=>y.ins.length<=1200/\y.ab.length<=1200) RW λr hr=>by
  obtain⟨x,hx,he⟩:=Fm hr;have rC:x<n:=ZA
  obtain⟨hl,hq,hd,aw,cC,cQ,cj⟩:=c.get rC;obtain⟨RW',j,on,g1,g2,_,g4,_,_⟩:=HV hs c rC hl rfl;rw[h1]at g1;cases g1;rw[g4]at he;subst he;have qf:∀p∈os[x].lg,SimO (Z p.1) p.2 (H p.1)/\S p.1=true:=λp hp=>⟨t p (LGo.of hl hp),hS p (LGo.of hl hp)⟩;obtain⟨ps,p1,p2⟩:=Qbou (H:=H) (S:=S) (Z:=Z) aw (c.ow _ (Jb hl)) λp hp=>qf p (OBlk.phM hp);obtain⟨is,i1,i2⟩:=VS (H:=H) (S:=S) (Z:=Z) aw λp hp=>qf p (OBlk.inM hp);have eC:=qf _ os[x].nxM;obtain⟨ns',_,n2⟩:=FF eC.1 eC.2 rfl;exact⟨⟨ps,is,j,on,ns'⟩,.cons p1 (.cons i1 (.cons (Qg rfl) (.cons (Qg rfl) (.cons n2 .nil)))),by show is.length<=_;omega,by show ps.length<=_;omega⟩
 exact⟨bs,e1.ai (hS _ LGo.zbm) h1 ZA,ZA,e3⟩
theorem Qa5b {q:CodeD}(ho:q.ok)(fM:0<=q.params)(mY:q.params<=q.ae)(h9:∀y∈q.blocks,y.ins.length<=900/\y.ab.length<=900)(hK:∀(d:CodeD) H',d.fits->Upd H H' []->K (.ag d.cells) H') :
  Qv prog Q2z [.ag [Ui q.params,Ui q.ae,.sl false 5 (Qm q.blocks)]] H K:=by
 refine Qz ?_;refine Qd A6 Qa5p ?_;refine Za ?_;intro x2 aH H1 h1;have kn:=(Kn.ao H).al aH h1;refine Za ?_;refine Qbfn ho fM h9 λd1 H2 cU qu ib h9d hu=>?_;have kn:=kn.au hu;simp only[go_sem,Qu8,CodeD.cells];refine Qbkl cU h9d λd2 H3 eT eV f9 hu=>?_;have kn:=kn.au hu;have hp:d2.params=q.params:=eV.trans qu;have hr:d2.ae=q.ae:=f9.trans ib;simp only[go_sem,Qu7,CodeD.cells];intro x3 aK H4 h4;have kn:=kn.al aK h4;have aK:=kn.l 1 rfl;simp only[go_sem,Ew,aK];intro H5 h5;have kn:Kn H H5 [] [(x2,.st [Ui 0,Ui 0,.sl true 5 []]),(x3,.st [Ui d2.params,Ui d2.ae,.sl false 5 (Qm d2.blocks)])]:=kn.aA 1 rfl h5;have aK:=kn.l 1 rfl;have fE:=eT.b0;have bg:=eT.b1;have hrr0:=eT.r0;have hrr1:=eT.r1;refine AC ?_;simp only[go_sem,aK];refine Pi eT.sg λo H6 k2 aw gy bt=>?_;have kn:=kn.comp0 k2;obtain⟨n,hn⟩:∃n,d2.blocks.length=n:=⟨_,rfl⟩;have ev:o.blocks.length=n:=by rw[<-hn,<-gy];simp[OCode.d]
 obtain⟨zb,dw,bk⟩:∃z,o.bc=.ai z 5 0 n/\o.bl=[(z,.vec 5 (o.blocks.map OBlk.row))]:=by
  rcases aw.b with ⟨_,h,_⟩|⟨y,h1,h2⟩
  ·have:=congrArg List.length h;simp only[Jc,Jm]at this;omega
  ·exact⟨y,by rw[h1,Jc,ev],h2⟩
 have aC:o.row=[Ui d2.params,Ui d2.ae,.ai zb 5 0 n]:=by
  rw[OCode.row,dw,<-gy];rfl
 have uO:o.lg=LGo o.blocks zb:=by rw[OCode.lg,bk];rfl
 have ji:o.blocks.map OBlk.d=d2.blocks:=Zbh
 have nI:=aw.bs;rw[uO]at kn;have aK:=kn.l 1 rfl;simp only[go_sem,Qvc,aK];refine Kl (rows:=Qm d2.blocks) (nx:=gnx d2) (FY eT.gd) (by rw[Ql];exact eT.fitB) λH7 hu=>?_;have kn:=kn.au hu;have aK:=kn.l 1 rfl;rw[Ql,hn];simp only[go_sem,Qvb,aK];refine Qbfm ZA ZA λids H8 sB hu=>?_;have kn:=kn.au hu;have aK:=kn.l 1 rfl;rw[aC];simp only[go_sem,Qva,aK];intro x4 aY H9 yS;have kn:=kn.al aY yS;have aK:=kn.l 1 rfl;simp only[go_sem,Qu9];obtain⟨R,hR⟩:∃R:Nat,d2.ae.toNat=R:=⟨_,rfl⟩;have ur:d2.ae=(R:Int):=ZA
 refine Zi aK ?_;refine⟨ZA,by simp only[LIM];omega,λcy gD H10 dh=>?_⟩;rw[Qx7,hR]at dh;have kn:=kn.al gD dh;simp only[go_sem,Qvd,hR];refine Wa ?_;generalize hos0:o.blocks=os at *;have kn:Kn H H10 [] ([(cy,.vec 1 (Qc (List.replicate R 0)))]++([(x2,.st [Ui 0,Ui 0,.sl true 5 []]),(x3,.st [Ui d2.params,Ui d2.ae,.sl false 5 (Qm d2.blocks)])]++([(x4,wO d2 ids zb n q.params)]++LGo os zb))):=kn.perm (Qj λf hf h0 hc hp=>by
  have e2:∀(a b:Nat×Obj),f [a,b]=f [a]+f [b]:=λa b=>hc a [b];simp only[Ui,hf,e2,wO];omega)
 refine Qh (Qe (Qx (λm e1 H1=>∃(r:Nat) (cs:List Int),m=q.params.toNat-r/\(r:Int)<=q.params/\cs.length=R/\
  Kn H H1 [] ([(cy,.vec 1 (Qc cs))]++([(x2,.st [Ui 0,Ui 0,.sl true 5 []]),(x3,.st [Ui d2.params,Ui d2.ae,.sl false 5 (Qm d2.blocks)])]++([(x4,wO d2 ids zb n q.params)]++LGo os zb)))/\
  lk 1 e1=.c (.pp [Ui q.params,Ui q.ae,.sl false 5 (Qm q.blocks)])/\lk 2 e1=Up x2/\lk 4 e1=Up x4/\lk 5 e1=.c (.ai cy 1 0 R)/\lk 6 e1=Uv r) q.params.toNat ?_ ?_))
 ·exact⟨0,List.replicate R 0,ZA,fM,ZC,kn,rfl,rfl,rfl,rfl,rfl⟩
 ·clear kn dh;rintro m e1 H11 ⟨r,cs,hm,hrp,cA,kn,l1,l2,l4,l5,l6⟩;refine Q1 (Qa ?_);simp only[go_sem,l1,l2,l4,l5,l6];refine Wu ?_ ?_
  ·intro hc;have af:(r:Int)<q.params:=ZD
   have zt:r<R:=ZA
   have dM:r<cs.length:=ZA
   have kG:=kn.l 0 rfl;have po:(Qc cs).take R=Qc cs:=Jh Zab;refine Zd ?_
   refine Wr ?_;simp only[go_sem,kG,Qb,cA,zt,Qo _ _ dM,DI,Jf,Jg];intro H12 jq;have kn:=kn.aA 0 rfl jq;refine Zh ?_;refine⟨Qr,?_⟩;show ∃m,_;exact⟨q.params.toNat-(r+1),ZA,r+1,_,rfl,ZA,by rw[Jl];exact cA,kn,rfl,rfl,rfl,rfl,ZB⟩
  ·intro hc;refine Zb ?_;have hC:NC d2 os zb R n ids:=⟨eT,hn,hR,ev,λx h h'=>by
    have h1:(os.map OBlk.d)[x]? = some os[x].d:=Za9;rw[ji,Ji h']at h1;exact (J4 h1).symm,nI,bt,sB⟩
   have kn:Kn H H11 [] ((([(x4,wO d2 ids zb n q.params),(cy,.vec 1 (Qc cs))])++LGo os zb)++[(x2,.st [Ui 0,Ui 0,.sl true 5 []]),(x3,.st [Ui d2.params,Ui d2.ae,.sl false 5 (Qm d2.blocks)])]):=kn.perm (Qj λf hf h0 hc hp=>by
    have e2:∀(a b:Nat×Obj),f [a,b]=f [a]+f [b]:=λa b=>hc a [b];simp only[Ui,hf,e2];omega)
   have rD:wgt os=wgt os:=rfl;have n4:∀x,wgt os x<=2400:=λx=>by
    rw[wgt]
    cases hx:os[x]? with
    |none=>simp
    |some o'=>
     obtain⟨eu,vp⟩:=Jav.1 hx;have rC:x<n:=ZA;obtain⟨_,_,_,_,_,a1,a2⟩:=hC.get rC;rw[vp]at a1 a2;show o'.ab.length+o'.ins.length<=2400;omega
   have hpb:=Yi (N:=n) n4 (λ_=>True);have aQ:NSt d2 os zb n R x4 cy ids H11 q.params cs (XU os zb λ_=>True) H11:=⟨Xh (LGo.vec nI bt) kn.mid,cA⟩;refine Za ?_;refine TP hC (2 ^ 40) (Jaw _) (n+1) 0 (λ_=>True) q.params cs cy H11 _ ZA ZA (λ_ _=>trivial) aQ ZA (by
    have:n * 2400<=160 * 2400:=Ja6 _ ZA;omega) λnx' cs' H12 s2 cd wy=>?_
   obtain⟨t2,hcl2⟩:=s2;have zc:=Ty.e t2 0 rfl;have di:=t2;obtain⟨E1,g1,g2,k3⟩:=t2;have kn:=kn.comp k3 (by simp[g1]);have kn:Kn H H12 [] ([(x4,wO d2 ids zb n nx'),(x2,.st [Ui 0,Ui 0,.sl true 5 []])]++([(x3,.st [Ui d2.params,Ui d2.ae,.sl false 5 (Qm d2.blocks)])]++([(cy,.vec 1 (Qc cs'))]++E1))):=kn.perm (Qj λf hf h0 hc hp=>by
    have e2:∀(a b:Nat×Obj),f [a,b]=f [a]+f [b]:=λa b=>hc a [b];simp only[Ui,hf,h0,e2];omega)
   rw[wO]at zc;try simp only[go_sem]
   refine Zi zc ?_;intro H13 rx;have kn:=kn.aA 0 rfl rx;have aY:=kn.l 0 rfl;have aH:=kn.l 1 rfl;refine Zn aY aH ?_;intro H14 lp;have kn:=kn.aA 1 rfl lp;have aH:=kn.l 1 rfl;refine Zj aH ?_;have hE:∀p∈E1,H14 p.1=p.2/\un H p.1=true:=λp hp=>by
    have hm:p∈([(x4,Obj.st [Ui d2.params,Ui d2.ae,.sl false 5 (Qm d2.blocks),Ui d2.params,Ui nx',.ai zb 5 0 n,.sl false 1 (Qc ids),Ui nx']),(x2,.st [Ui d2.params,Ui nx',.ai zb 5 0 n])]++([(x3,.st [Ui d2.params,Ui d2.ae,.sl false 5 (Qm d2.blocks)])]++([(cy,.vec 1 (Qc cs'))]++E1)):Ul):=by
     simp[hp]
    exact⟨(kn.get p (Je _ hm)).1,C5 (kn.loc p hm)⟩
   have hty:TT d2 os zb n x4 cy ids H11 nx' cs' (XU os zb λx=>True/\¬Sub ids 0 x) H12:=di;have hH:∀p∈LGo os zb,H14 p.1=H12 p.1:=λp hp=>by
    have h1:p.1∈E1.map Prod.fst:=(by rw[g1];exact AV hp);obtain⟨p',cp,he⟩:=Jk.1 h1;rw[<-he,(hE p' cp).1,(k3.get p' (Jj _ (Je _ cp))).1]
   have hS:∀p∈LGo os zb,un H p.1=true:=λp hp=>by
    have h1:p.1∈E1.map Prod.fst:=(by rw[g1];exact AV hp);obtain⟨p',cp,he⟩:=Jk.1 h1;rw[<-he];exact (hE p' cp).2
   have vY:∀p∈LGo os zb,SimO (XU os zb (λx=>True/\¬Sub ids 0 x) p.1) p.2 (H14 p.1):=λp hp=>by
    rw[hH p hp];exact Ty.get hty hp
   obtain⟨bs,b1,b2,b3⟩:=Qbot (S:=un H) hC vY hS;exact⟨_,FrzL.ag (.cons (Qg rfl) (.cons (Qg rfl) (.cons b1 .nil))),hK ⟨d2.params,nx',bs⟩ _ (λy hy=>by have:=b3 y hy;exact⟨ZA,ZA⟩) kn.fin⟩
end Go.AE.Y
namespace Go.AE.Y
attribute [local go_sem] cond_true cond_false Bool.not_true Bool.not_false
attribute [local instance] Classical.propDecidable
open Go.Proofs.Tryz
variable {H H0:Heap}{K:Uk}{E B Lg:Ul}{q:CodeD}
theorem Qboz {S:Nat->Bool}(q:CodeD):FrzV H S (.ag q.cells) (.ag q.cells):=FrzL.ag (.cons (.same _ rfl) (.cons (.same _ rfl) (.cons (.same _ rfl) .nil)))
structure CodeD.sgl (q:CodeD):Prop where
 ok:q.ok
 p0:0<=q.params
 pr:q.params<=q.ae
 h9:∀y∈q.blocks,y.ins.length<=900/\y.ab.length<=900
theorem XK {cs:List CodeD}(h:AN cs=true){c:CodeD}(hc:c∈cs):c.sgl:=by
 obtain⟨k,hk,rfl⟩:=Jq.1 hc;have ho:=CE h hk;obtain⟨_,h2,h3⟩:=of_decide_eq_true h;obtain⟨g1,g2⟩:=h2 k hk;simp only[BD,Jbc,decide_eq_true_eq]at g1;refine⟨ho,ZA,ZA,λy hy=>?_⟩;have a1:=Ph (f:=AI) (Jb hk);have a2:=Ph (f:=AT) hy;simp only[AI,AT]at *;omega
theorem Qbkg (hq:q.sgl)(hK:∀(d:CodeD) H',d.fits->Upd H H' []->K (.ag d.cells) H') :
  Qv prog O7 [.ag [Ui q.params,Ui q.ae,.sl false 5 (Qm q.blocks)],.c (.str [115,105,110,103,108,101])] H K:=by
 refine Qz ?_;refine Qd A6 Kh ?_;refine Za ?_;intro x4 aY H1 h1;have kn:=(Kn.ao H).al aY h1;refine Wa ?_;refine Wf ?_;refine Qf rfl (λhc=>absurd hc ZN) (λ_=>?_);refine Za ?_;refine Qf rfl (λhc=>absurd hc ZN) (λ_=>?_);refine Za ?_;refine Qf rfl (λhc=>absurd hc ZN) (λ_=>?_);refine Za ?_;refine Qf rfl (λhc=>absurd hc ZN) (λ_=>?_);refine Za ?_;refine Qf rfl (λ_=>?_) (λhc=>absurd hc ZN);refine Za ?_;refine Qa5b hq.ok hq.p0 hq.pr hq.h9 λd H2 hd hu=>?_;have kn:=kn.au hu;have aY:=kn.l 0 rfl;simp only[go_sem,Q3x,CodeD.cells,aY];intro H3 h3;have kn:=kn.aA 0 rfl h3;have aY:=kn.l 0 rfl;refine Zj aY ?_;exact⟨_,Qboz d,hK d _ hd kn.fin⟩
theorem Qbke {cs:List CodeD}{fl:Bool}(aU:∀c∈cs,c.fits)(hK:∀(ds:List CodeD) (b:Bool) H',(b=true->UnitOk ds)->Upd H H' []->K (.tup [.ag [.sl false 3 (Qn ds)],.c (.bool b)]) H') :
  Qv prog Hh [.ag [.sl fl 3 (Qn cs)],.c (.str [115,105,110,103,108,101])] H K:=by
 refine Qz ?_;refine Qd A6 Ki ?_;refine Za ?_;intro x4 aY H1 h1;have kn:=(Kn.ao H).al aY h1;simp only[go_sem,CB];refine Wa ?_;refine Ho aU λH2 hu=>?_;have kn:=kn.au hu;simp only[go_sem,Hk];refine Wu ?_ ?_
 ·intro _;have aY:=kn.l 0 rfl;refine Zi aY ?_;intro H3 h3;have kn:=kn.aA 0 rfl h3;have aY:=kn.l 0 rfl;simp only[go_sem,CB];refine Zr aY ?_;refine⟨λ_=>trivial,_,Dk (FrzL.ag (.cons (FrzR.nil.sl) .nil)) (.c _ _ (Qg rfl)),hK [] false _ (λh=>ZH) kn.fin⟩
 ·intro hc;have hG:AN cs=true:=Bi hc;refine Zd ?_
  refine Za ?_;intro x6 aZ H3 h3;have kn:=kn.al aZ h3;have aZ:=kn.l 1 rfl;simp only[go_sem,PQ,aZ];intro H4 h4;have kn:Kn H H4 [] [(x4,.st [.sl true 3 []]),(x6,.st [.sl true 3 []])]:=kn.aA 1 rfl h4;refine Wa ?_;have cA:=(Pg aU hG).1;refine Qh (Qe (Qx (λm e1 H1=>∃(ds:List CodeD) (t:C) (Lg:Ul),m=cs.length-ds.length/\ds.length<=cs.length/\(∀d∈ds,d.fits)/\Gr Lg 3 (Qn ds) t/\Kn H H1 [] ([(x4,.st [.sl true 3 []]),(x6,.st [t])]++Lg)/\
   lk 1 e1=.c (.str [115,105,110,103,108,101])/\lk 2 e1=.c (.pp [.sl fl 3 (Qn cs)])/\lk 4 e1=Up x4/\lk 6 e1=Up x6/\lk 7 e1=.c (Ui ds.length)) cs.length ?_ ?_))
  ·exact⟨[],_,[],ZC,ZC,ZC,.nil 3,ZL,rfl,rfl,rfl,rfl,rfl⟩
  ·clear kn aZ;rintro m e1 H5 ⟨ds,t,Lg,hm,mr,fD,ay,kn,l1,l2,l4,l6,l7⟩;have gk:=ay.ah;refine Q1 (Qa ?_);simp only[go_sem,l1,l2,l4,l6,l7,Q5];try intro _
   refine Wu ?_ ?_
   ·intro a7;have af:ds.length<cs.length:=ZF;have aZ:=kn.l 1 rfl;obtain⟨q,hq⟩:∃q,cs[ds.length]=q:=⟨_,rfl⟩;have sP:q.sgl:=XK hG (by rw[<-hq];exact Jb af);refine Zd ?_
    refine Wq ?_;simp only[go_sem,aZ,gk,af,Q5,Cg _ _ af,CodeD.cells,hq];refine Qbkg sP λd H6 hd hu=>?_;have kn:=kn.au hu;have aZ:=kn.l 1 rfl;simp only[go_sem,PO,CodeD.cells,aZ,gk];refine kn.br (new:=Qn [d]) ay (.mk' _ _ _ _) (Di _) (by simp only[Q5,LIM,Jn,Jm];omega) λt2 Lg2 H7 bW di kn=>?_;have aZ:=kn.l 1 rfl;simp only[go_sem,PP,aZ];intro H8 h8;have kn:=kn.aA 1 rfl h8;refine Zh ?_;refine⟨Qr,?_⟩;show ∃m,_;refine⟨cs.length-(ds.length+1),ZA,ds++[d],t2,Lg2,ZC,by simp only[Jat,Jn,Jm];omega,λw hw=>?_,?_,kn,rfl,rfl,rfl,rfl,ZB⟩
    ·rcases Js.1 hw with hw|hw
     ·exact fD w hw
     ·simp only[Ja]at hw;rw[hw];exact hd
    ·have:Qn (ds++[d])=Qn ds++Qn [d]:=Zbl;rw[this];exact bW
   ·intro _;refine Zb ?_;have aZ:=kn.l 1 rfl;obtain⟨S,jK,kN,eK,kn⟩:=kn.cw;have gY:=kN (x6,.st [t]) ZC;have nY:FrzC H5 S t (.sl false 3 (Qn ds)):=Gr.frzM ay jK (FrzR.same (Di _));have kn:=kn.setL (o':=.st [.sl false 3 (Qn ds)]) 1 rfl ZC;refine c_gh (DK S (EN ?_) (eK.set (o:=.st [.sl false 3 (Qn ds)]) gY.2 ZaB)) (e':=[(4,Up x4),(6,Up x6)]) ?_
    ·simp only[Jv];exact⟨.c _ _ (.same _ rfl),.c _ _ (.same _ rfl),ZC⟩
    generalize (H5.frz S).set x6 (Obj.st [C.sl false 3 (Qn ds)])=H6 at *;have aZ:=kn.l 1 rfl;have aY:=kn.l 0 rfl;clear eK gY nY jK kN;refine Q1 (Qa ?_);simp only[go_sem,aZ];refine Ho fD λH7 hu=>?_;have kn:=kn.au hu;have aZ:=kn.l 1 rfl;have aY:=kn.l 0 rfl;simp only[go_sem,Rb];refine Wu ?_ ?_
    ·intro _;refine Zi aY ?_;intro H8 h8;have kn:=kn.aA 0 rfl h8;have aY:=kn.l 0 rfl;simp only[go_sem,CB];refine Zr aY ?_;refine⟨λ_=>trivial,_,Dk (FrzL.ag (.cons (FrzR.nil.sl) .nil)) (.c _ _ (Qg rfl)),hK [] false _ (λh=>ZH) kn.fin⟩
    ·intro bn;have fq:AN ds=true:=Bi bn;refine Zd ?_
     refine Zn aZ aY ?_;intro H8 h8;have kn:=kn.aA 0 rfl h8;have aY:=kn.l 0 rfl;simp only[go_sem,GX];refine Zr aY ?_;obtain⟨u1,u2,u3⟩:=Pg fD fq;refine⟨λ_=>trivial,_,Dk (Dd ds) (.c _ _ (Qg rfl)),hK ds true _ (λ_=>⟨u2,u1,u3⟩) kn.fin⟩
theorem Qavd {cs:List CodeD}{fl:Bool}(aU:∀c∈cs,c.fits)(hK:∀(ds:List CodeD) (b:Bool) H',(b=true->UnitOk ds)->Upd H H' []->K (.tup [.ag [.sl false 3 (Qn ds)],.c (.bool b)]) H') :
  Qv prog Qk8 [.ag [.sl fl 3 (Qn cs)]] H K:=by
 refine Qz ?_;refine Qd A6 Qaaw ?_;refine Za ?_;intro x2 aH H1 h1;have kn:=(Kn.ao H).al aH h1;simp only[go_sem,G1];refine Za ?_;refine Qbke aU λds b H2 hb hu=>?_;have kn:=kn.au hu;have aH:=kn.l 0 rfl;simp only[go_sem,G0,J3,Jah,aH];intro H3 h3;have kn:=kn.aA 0 rfl h3;have aH:=kn.l 0 rfl;simp only[go_sem,G2];refine Zr aH ?_;exact⟨λ_=>trivial,_,Dk (Dd ds) (.c _ _ (Qg rfl)),hK ds b _ hb kn.fin⟩
def oneU:List CodeD:=[⟨0,1,[⟨[],[⟨1,0,[],0⟩],3,0,[]⟩]⟩]
theorem TN:UnitOk oneU:=by
 refine⟨by simp[oneU],by simp[oneU],λc hc=>?_⟩;simp only[oneU,Ja]at hc;subst hc;refine⟨ZC,ZC,λy hy=>?_,λy hy=>?_,ZC,λy hy=>?_⟩
 ·simp only[Ja]at hy;subst hy;simp
 ·simp only[Ja]at hy;subst hy;simp
 ·simp only[Ja]at hy;subst hy;exact⟨ZC,ZC,ZC,ZC,ZC⟩
theorem Yk {S:Nat->Bool}:FrzC H S (.sl true 3 [[Ui 0,Ui 1,.sl true 5 [[.sl true 2 [],.sl true 4 [[Ui 1,Ui 0,.sl true 1 [],Ui 0]],Ui 3,Ui 0,.sl true 1 []]]]]) (.sl false 3 (Qn oneU)):=
 FrzR.sl (.cons (.cons (Qg rfl) (.cons (Qg rfl) (.cons (FrzR.sl (.cons (.cons FrzR.nil.sl (.cons (FrzR.sl (.cons (.cons (Qg rfl) (.cons (Qg rfl) (.cons FrzR.nil.sl (.cons (Qg rfl) .nil)))) .nil)) (.cons (Qg rfl) (.cons (Qg rfl) (.cons FrzR.nil.sl .nil))))) .nil)) .nil))) .nil)
theorem Qbkk {R:Rdr}{k:Nat}(hH:H R.l=R.o k)(hk:k+7100000<=2^30)
  (hK:∀(cs:List CodeD) (H':Heap) (k':Nat),k<k'->k'<=k+7050000->Upd H H' [(R.l,R.o k')]->UnitOk cs->K (.ag [.sl false 3 (Qn cs)]) H') :
  Qv prog Ly [.c (.ptr R.l 0)] H K:=by
 refine Qz ?_;refine Qd A6 Qble ?_;refine Za ?_;intro x2 aH H1 h1;have kn:=(Kn.start1 hH (R.an k)).al aH h1;refine Za ?_;refine Km (kn.e 0 rfl) ZA λcs H3 k2 iR iQ hu aw=>?_;have kn:=kn.aq 0 rfl hu (R.an _);simp only[go_sem,Q4n];refine Qavd aw.fits λds b H4 hb hu=>?_;have kn:=kn.au hu;simp only[go_sem,Q4m,J3,Jah];intro x3 aK H5 h5;have kn:=kn.al aK h5;have aK:=kn.l 1 rfl;simp only[go_sem,Q4l,aK];intro H6 h6;have kn:=kn.aA 1 rfl h6;have aH:=kn.l 0 rfl;have aK:=kn.l 1 rfl;simp only[go_sem,Q4k];refine Wa ?_;refine Wu ?_ ?_
 ·intro _;refine Zi aH ?_;intro H7 h7;have kn:=kn.aA 0 rfl h7;have aH:=kn.l 0 rfl;refine Zj aH ?_;exact⟨_,FrzL.ag (.cons Yk .nil),hK oneU _ k2 iR iQ kn.fin TN⟩
 ·intro hc;have oq:b=true:=Bi hc;refine Zd ?_
  refine Zn aH aK ?_;intro H7 h7;have kn:=kn.aA 0 rfl h7;have aH:=kn.l 0 rfl;refine Zj aH ?_;exact⟨_,Dd ds,hK ds _ k2 iR iQ kn.fin (hb oq)⟩
theorem Qbkj {R:Rdr}{k:Nat}(hH:H R.l=R.o k)(hk:k+7300000<=2^30)
  (hK:∀(cs:List CodeD) (H':Heap) (k':Nat),k<k'->k'<=k+7150000->Upd H H' [(R.l,R.o k')]->UnitOk cs->K (.ag [.sl false 3 (Qn cs)]) H') :
  Qv prog Lz [.c (.ptr R.l 0)] H K:=by
 refine Qz ?_;refine Qd A6 Qbld ?_;refine Za ?_;intro x2 aH H1 h1;have kn:=(Kn.start1 hH (R.an k)).al aH h1;refine Wa ?_;refine AX (kn.e 0 rfl) ZA λv H2 hv hu=>?_;have kn:=kn.aq 0 rfl hu (R.an _);simp only[go_sem,Py];refine Wu ?_ ?_
 ·intro hc;refine Za ?_;refine Ko (kn.e 0 rfl) ZA λcs H3 k2 iR iQ hu aw=>?_;have kn:=kn.aq 0 rfl hu (R.an _);have aH:=kn.l 0 rfl;simp only[go_sem,Px,aH];intro H4 h4;have kn:=kn.aA 0 rfl h4;have aH:=kn.l 0 rfl;refine Zj aH ?_;exact⟨_,Dd cs,hK cs _ k2 ZA ZA kn.fin aw⟩
 ·intro hc;refine Zd ?_
  refine Za ?_;refine Qbkk (kn.e 0 rfl) ZA λcs H3 k2 iR iQ hu aw=>?_;have kn:=kn.aq 0 rfl hu (R.an _);have aH:=kn.l 0 rfl;simp only[go_sem,Pw,aH];intro H4 h4;have kn:=kn.aA 0 rfl h4;have aH:=kn.l 0 rfl;refine Zj aH ?_;exact⟨_,Dd cs,hK cs _ k2 ZA ZA kn.fin aw⟩
theorem Qbkn {fl:Bool}{bs:List UInt8}(hK:∀(cs:List CodeD) (H':Heap),Upd H H' []->UnitOk cs->K (.ag [.sl false 3 (Qn cs)]) H') :
  Qv prog Lv [.c (.sl fl 1 (B3 bs))] H K:=by
 refine Qz ?_;refine Qd A6 Qblh ?_;refine Za ?_;intro x2 aH H1 h1;have kn:=(Kn.ao H).al aH h1;refine Za ?_;refine Qbku λR H2 hR h2=>?_;have kn:=kn.al hR h2 (R.an 0);simp only[go_sem,CQ];refine Wa ?_;refine AX (kn.l 1 rfl) ZA λv H2 hv hu=>?_;have kn:=kn.callL 1 rfl hu (R.an _);simp only[go_sem,Q40];refine Wu ?_ ?_
 ·intro hc;refine Za ?_;refine Qbkj (kn.l 1 rfl) ZA λcs H3 k2 iR iQ hu aw=>?_;have kn:=kn.callL 1 rfl hu (R.an _);have aH:=kn.l 0 rfl;simp only[go_sem,Q41,aH];intro H4 h4;have kn:=kn.aA 0 rfl h4;have aH:=kn.l 0 rfl;refine Zj aH ?_;exact⟨_,Dd cs,hK cs _ kn.fin aw⟩
 ·intro hc;refine Zd ?_
  refine Za ?_;refine Ko (kn.l 1 rfl) ZA λcs H3 k2 iR iQ hu aw=>?_;have kn:=kn.callL 1 rfl hu (R.an _);have aH:=kn.l 0 rfl;simp only[go_sem,Q42,aH];intro H4 h4;have kn:=kn.aA 0 rfl h4;have aH:=kn.l 0 rfl;refine Zj aH ?_;exact⟨_,Dd cs,hK cs _ kn.fin aw⟩
end Go.AE.Y
namespace Go.AE.Y
attribute [local instance] Classical.propDecidable
open Go.Proofs.Tryz
variable {H:Heap}{K:Uk}{cs ds:List CodeD}{q:CodeD}{bs:List UInt8}{fl:Bool}
theorem Il (cs:List CodeD):∀c∈Bu jnD cs,c.fits:=λc hc=>by
 rw[Bu]at hc;split at hc
 ·rename_i hg
  obtain⟨i,hi,rfl⟩:=Jq.1 hc;exact λy hy=>by
   obtain⟨k,hk,rfl⟩:=Jq.1 hy;have:=(CE (F7 hg) hi).il k hk;omega
 ·simp at hc
theorem Ik (cs:List CodeD):B7 (Bu jnD cs) (AN cs)=Bu jnD cs/\(AN cs&&AN (Bu jnD cs))=AN cs:=by
 cases hg:AN cs with
 |false=>simp[B7,Bu,hg]
 |true=>
  have h:=F7 hg;have e:Bu jnD cs=cs.map jnD:=by rw[Bu,if_pos hg]
  rw[e,B7,h];simp
theorem Qbfl (ho:q.ok)(hs:JnOk (AZ q))(hK:∀H',Upd H H' []->K (.ag (jnD q).cells) H') :
  Qv prog O7 [.ag [Ui q.params,Ui q.ae,.sl false 5 (Qm q.blocks)],.c (.str [106,111,105,110])] H K:=by
 refine Qz ?_;refine Qd A6 Kh ?_;refine Za ?_;intro x4 aY H1 h1;have kn:=(Kn.ao H).al aY h1;refine Wa ?_;refine Wf ?_;refine Qf rfl (λhc=>absurd hc ZN) (λ_=>?_);refine Za ?_;refine Qf rfl (λhc=>absurd hc ZN) (λ_=>?_);refine Za ?_;refine Qf rfl (λhc=>absurd hc ZN) (λ_=>?_);refine Za ?_;refine Qf rfl (λhc=>absurd hc ZN) (λ_=>?_);refine Za ?_;refine Qf rfl (λhc=>absurd hc ZN) (λ_=>?_);refine Za ?_;refine Qf rfl (λhc=>absurd hc ZN) (λ_=>?_);refine Za ?_;refine Qf rfl (λhc=>absurd hc ZN) (λ_=>?_);refine Za ?_;refine Qf rfl (λhc=>absurd hc ZN) (λ_=>?_);refine Za ?_;refine Qf rfl (λhc=>absurd hc ZN) (λ_=>?_);refine Za ?_;refine Qf rfl (λhc=>absurd hc ZN) (λ_=>?_);refine Za ?_;refine Qf rfl (λ_=>?_) (λhc=>absurd hc ZN);refine Za ?_;refine Qbko ho hs λH2 hu=>?_;have kn:=kn.au hu;have aY:=kn.l 0 rfl;simp only[go_sem,Qzj,CodeD.cells,aY];intro H3 h3;have kn:=kn.aA 0 rfl h3;have aY:=kn.l 0 rfl;refine Zj aY ?_;exact⟨_,FrzL.ag (.cons (.same _ rfl) (.cons (.same _ rfl) (.cons (.same _ rfl) .nil))),hK _ kn.fin⟩
theorem Qan1 (aU:∀c∈cs,c.fits)(hK:∀H',Upd H H' []->K (.tup [.ag [.sl false 3 (Qn (Bu jnD cs))],.c (.bool (AN cs))]) H') :
  Qv prog Qk7 [.ag [.sl fl 3 (Qn cs)]] H K:=by
 refine Qz ?_;refine Qd A6 Qaav ?_;refine Za ?_;intro x2 aH H1 h1;have kn:=(Kn.ao H).al aH h1;simp only[go_sem,G1];refine Za ?_;refine Qbfh (f:=jnD) aU (Il cs) (λhg p hp H K hK=>?_) λH2 hu=>?_
 ·obtain⟨i,hi,rfl⟩:=Jq.1 hp;exact Qbfl (CE hg hi) (by
   have:=Gh (GR hg) (k:=i) ZU
   rwa [Jt]at this) hK
 rw[(Ik cs).1,(Ik cs).2];have kn:=kn.au hu;have aH:=kn.l 0 rfl;simp only[go_sem,G0,J3,Jah,aH];intro H3 h3;have kn:=kn.aA 0 rfl h3;have aH:=kn.l 0 rfl;simp only[go_sem,G2];refine Zr aH ?_;exact⟨λ_=>trivial,_,Dk (Dd _) (.c _ _ (Qg rfl)),hK _ kn.fin⟩
theorem Q6j {fl:Bool}(hK:∀(cs:List CodeD) (H':Heap),Upd H H' []->UnitOk cs->K (.ag [.sl false 3 (Qn cs)]) H'):Qv prog Qe8 [.c (.sl fl 1 (B3 bs))] H K:=by
 refine Qz ?_;refine Qd A6 Qv6 ?_;refine Za ?_;intro x2 aH H1 h1;have kn:=(Kn.ao H).al aH h1;refine Za ?_;refine Qbkn λcs H2 hu aw=>?_;have kn:=kn.au hu;have aH:=kn.l 0 rfl;simp only[go_sem,Qdw,aH];intro H3 h3;have kn:=kn.aA 0 rfl h3;have aH:=kn.l 0 rfl;refine Zj aH ?_;exact⟨_,Dd cs,hK cs _ kn.fin aw⟩
end Go.AE.Y
namespace Go.AE.Y
attribute [local instance] Classical.propDecidable
variable {q:CodeD}{b n:Nat}{ss:List PSl}{D:List Int}
def jl (b n:Int)(l:List (Int×Int)):List (Int×Int):=deI n (upI b ((lkI n l).getD 0) l)
theorem SY (b n:Int)(l:List (Int×Int)):(jl b n l).length<=l.length+1:=Jbb (Iq _ _) (Eh _ _ _)
noncomputable def jnPT (q:CodeD)(b n:Nat)(D:List Int)(r:Nat):List (List (Int×Int)):=if (r:Int)∈D then (phT q q.blocks.length r).map (jl b n)else phT q q.blocks.length r
noncomputable def jnGv (q:CodeD)(b n j:Nat)(p:PhiD)(w:Int):Int:=p.args.getD ((Qp (gnx q) (j:Int) q.blocks.length).idxOf (if (j:Int)∈(Qt q n).next then (if w=(b:Int)then (n:Int)else w)else w)) 0
theorem Qbp1 (r:Nat):jnPT q b n [] r=phT q q.blocks.length r:=by rw[jnPT,if_neg ZC]
theorem Ep {r:Nat}(hr:r<q.blocks.length):jnPT q b n D r=(Qt q r).ab.map λp=>if (r:Int)∈D then jl b n (zpA q r p)else zpA q r p:=by
 rw[jnPT,phT,if_pos hr];split
 ·rw[Jam];rfl
 ·rfl
theorem Fj (ho:q.ok){r:Nat}(hr:r<q.blocks.length){p:PhiD}(hm:p∈(Qt q r).ab){w:Int}(hw:w∈Qp (gnx q) (r:Int) q.blocks.length):lkI w (zpA q r p)=some (p.args.getD ((Qp (gnx q) (r:Int) q.blocks.length).idxOf w) 0):=by
 rw[AP hr]at hm;exact HH hw (by rw[(ho.bs r hr).pal p hm];exact Jg _)
theorem ST (ho:q.ok)(hp:JnP q b n){r:Nat}(hr:r<q.blocks.length)(jh:r≠n){p:PhiD}(hm:p∈(Qt q r).ab){w:Int}(hw:w∈Qp (jnG q b n) (r:Int) q.blocks.length) :
  (lkI w (if (r:Int)∈(Qt q n).next then jl b n (zpA q r p)else zpA q r p)).getD 0=jnGv q b n r p w:=by
 by_cases cq:(r:Int)∈(Qt q n).next
 ·rw[if_pos cq,jnGv,if_pos cq,jl];obtain⟨c,hc,jZ,rfl⟩:=preds_mem.1 hw;have ey:=Gg hp cq hc jZ;have zV:c≠n:=λe=>by
   rw[e,jnG,C1]at jZ;have:=Ja.1 jZ;exact jh ZA
  by_cases eL:c=b
  ·rw[if_pos eL]at ey;have bx:(n:Int)∈Qp (gnx q) (r:Int) q.blocks.length:=preds_mem.2 ⟨n,ey.2,ey.1,rfl⟩;rw[if_pos (by rw[eL]),eL,EZ (by have:=hp.ne;omega),CL,if_pos rfl,Fj ho hr hm bx];rfl
  ·rw[if_neg eL]at ey;have bx:(c:Int)∈Qp (gnx q) (r:Int) q.blocks.length:=preds_mem.2 ⟨c,ey.2,ey.1,rfl⟩;rw[if_neg ZA,EZ ZA,CL,if_neg ZA,Fj ho hr hm bx];rfl
 ·rw[if_neg cq,jnGv,if_neg cq];rw[Gf hp cq jh]at hw;rw[Fj ho hr hm hw];rfl
theorem SQ (ho:q.ok)(hp:JnP q b n)(h:PInv (jnPT q b n (Qt q n).next) ss)(hl:ss.length=q.blocks.length):PTel (jnG q b n) q.blocks.length (jnGv q b n) (jnX q b n) ss:=by
 have am:∀r (hr:r<ss.length),ss[r].ms.length=(Qt q r).ab.length:=λr hr=>by
  have:=congrArg List.length (h.f r hr);rw[Ep ZA]at this;simpa using this
 refine⟨λr hr=>?_,λr hr i h1 h2 w hw=>?_,h.ok⟩
 ·rw[am r hr];by_cases jh:r=n
  ·rw[jh,hp.ph,C1]
  ·rw[E9 hp jh]
 ·by_cases jh:r=n
  ·rw[am r hr,jh,hp.ph]at h1;simp at h1
  ·have zr:r<q.blocks.length:=ZA
   have h3:i<(Qt q r).ab.length:=by rw[<-am r hr];exact h1
   have e:(ss[r].ms.map PMap.l)[i]? = some (ss[r].ms[i]).l:=Zbk
   rw[h.f r hr,Ep zr,Jx,Ji h3,J0]at e;rw[<-J4 e,ST ho hp zr jh (Jb h3) hw];have e2:∀(l l':List PhiD) (hl:l=l') (a:i<l.length) (b:i<l'.length),l[i]=l'[i]:=λl l' hl a b=>by subst hl;rfl
   rw[e2 _ _ (E9 hp jh) h2 h3]
theorem Id:∀(l:List Int) (aa:List Int),l.Nodup->aa.length=l.length->l.map (λw=>aa.getD (l.idxOf w) 0)=aa
 |[],[],_,_=>rfl
 |[],_::_,_,h=>ZH
 |_::_,[],_,h=>ZH
 |x::l,a::aa,hn,h=>by
  have ih:=Id l aa (Jai.1 hn).2 ZI;rw[Jae];congr 1
  ·simp
  ·conv=>rhs;rw[<-ih]
   refine J1 λw hw=>?_;have hx:¬w=x:=λe=>(Jai.1 hn).1 (e▸hw);have hb:(x == w)=false:=by simp;exact λe=>hx e.symm
   rw[List.idxOf_cons,hb];simp
theorem SR (ho:q.ok)(hp:JnP q b n){j:Nat}(hj:j<q.blocks.length):stlY (jnG q b n) q.blocks.length (jnGv q b n) j (jnX q b n j)=jnB q b n j:=by
 rw[jnB];by_cases cq:(j:Int)∈(Qt q n).next
 ·rw[if_pos cq,stlY];congr 1;refine J1 λp _=>?_;rw[stlP,jnA];congr 1;refine J1 λw _=>?_;rw[jnGv,if_pos cq]
 ·rw[if_neg cq,stlY];by_cases nT:j=n
  ·rw[nT,C1];rfl
  ·have e:(jnX q b n j).ab.map (stlP (jnG q b n) q.blocks.length (jnGv q b n) j)=(jnX q b n j).ab:=by
    rw[E9 hp nT]
    conv=>rhs;rw[<-Jbk (Qt q j).ab]
    refine J1 λp hm=>?_;have eW:=hm;rw[AP hj]at eW;have dD:=(ho.bs j hj).pal p eW;rw[stlP,Gf hp cq nT];have e2:(Qp (gnx q) (j:Int) q.blocks.length).map (jnGv q b n j p)=p.args:=by
     have:=Id (Qp (gnx q) (j:Int) q.blocks.length) p.args (GP _ _ _) dD
     conv=>rhs;rw[<-this]
     refine J1 λw _=>?_;rw[jnGv,if_neg cq]
    rw[e2];rfl
   rw[e]
end Go.AE.Y
namespace Go.AE.Y
attribute [local go_sem] cond_true cond_false Bool.not_true Bool.not_false
attribute [local instance] Classical.propDecidable
open Go.Proofs.Tryz
variable {H H0 H':Heap}{K:Uk}{q:CodeD}{E L R A:Ul}
theorem RwR.ofJ {js:List JB}{z:Nat}(kn:Kn H0 H E L)(hy:js.map JB.y=q.blocks)(ho:∀k∈js,k.ok)(hz:H z=.vec 5 (js.map JB.row))(hm:∀p∈js.flatMap JB.lg,p∈L):RwR H q (.ai z 5 0 q.blocks.length) (js.map JB.row):=by
 have hl:js.length=q.blocks.length:=ZaL
 refine⟨rfl,vslc hz (by rw[Jc,hl]),by rw[Jc,hl],λb hb=>?_⟩;have aT:b<js.length:=ZA
 have hk:=ho _ (Jb aT);refine⟨js[b].pc,js[b].ic,js[b].fl,by rw[JB.getD aT,JB.row,Cz hy aT],hk.p.ah,hk.i.ah,?_⟩;have:=hk.p.slcM kn λp hp=>hm p (Jo.2 ⟨_,Jb aT,Jj _ hp⟩);rw[Cz hy aT]at this;exact this
theorem Qbp3 {Q:X->Env->Heap->Prop}{e:Env}{x1 z b n:Nat}{a2 a5:C}{js:List JB}(hp:JnP q b n)(hy:js.map JB.y=q.blocks)(ho:∀k∈js,k.ok)(dz:∀i (h:i<js.length),js[i].y.ins.length<=100000)
  (kn:Kn H0 H [] (([(x1,.st [Ui q.params,Ui q.ae,.ai z 5 0 q.blocks.length])]++A)++([(z,.vec 5 (js.map JB.row))]++js.flatMap JB.lg)))
  (l1:lk 1 e=Up x1) (l2:lk 2 e=.c a2) (l3:lk 3 e=Uv b) (l4:lk 4 e=Uv n) (l5:lk 5 e=.c a5)
  (hQ:∀(e:Env) (H':Heap) (js:List JB),JnS q b n [] js->Kn H0 H' [] (([(x1,.st [Ui q.params,Ui q.ae,.ai z 5 0 q.blocks.length])]++A)++([(z,.vec 5 (js.map JB.row))]++js.flatMap JB.lg))->
   lk 1 e=Up x1->lk 2 e=.c a2->lk 3 e=Uv b->lk 4 e=Uv n->lk 5 e=.c a5->lk 6 e=.c (.ep (.ai z 5 0 q.blocks.length) 5 b 0)->A9 prog Rn Q e H') :
  A9 prog Qt8 Q e H:=by
 have ce:js.length=q.blocks.length:=ZaL
 have bk:b<js.length:=by rw[ce];exact hp.bl
 have bC:n<js.length:=by rw[ce];exact hp.nl
 have ja:=hp.bl;have jT:=hp.nl;have bf:=hp.ne;obtain⟨kb,df⟩:∃k,js[b]=k:=⟨_,rfl⟩;obtain⟨kk,ex⟩:∃k,js[n]=k:=⟨_,rfl⟩;have cg:kb.ok:=by rw[<-df];exact ho _ (Jb bk)
 have bx:kk.ok:=by rw[<-ex];exact ho _ (Jb bC)
 have qH:=dz b bk;have xl:=dz n bC;rw[df]at qH;rw[ex]at xl;obtain⟨RW,em⟩:∃RW,js.map JB.row=RW:=⟨_,rfl⟩;obtain⟨N,hN⟩:∃N,q.blocks.length=N:=⟨_,rfl⟩;have gS:RW.length=N:=Zbc
 have mN:RW.take N=RW:=Jh ZA;have mP:RW.getD b []=[kb.pc,kb.ic,Ui kb.y.jump,Ui kb.y.on,.sl kb.fl 1 (Qc kb.y.next)]:=by rw[<-em,JB.getD bk,df];rfl
 have ut:RW.getD n []=[kk.pc,kk.ic,Ui kk.y.jump,Ui kk.y.on,.sl kk.fl 1 (Qc kk.y.next)]:=by rw[<-em,JB.getD bC,ex];rfl
 have oip:=cg.i.ah;have oin:=bx.i.ah;have opp:=cg.p.ah;have opn:=bx.p.ah;rw[em]at kn;simp only[hN]at kn hQ ja jT;obtain⟨X1,ro⟩:∃o,o=Obj.st [Ui q.params,Ui q.ae,.ai z 5 0 N]:=⟨_,rfl⟩;rw[<-ro]at kn;simp only[<-ro]at hQ;have hB:∀(t:C) (g:Ul),(js.flatMap JB.lg++(kb.pl++g)).Perm ((kb.pl++kb.il)++(js.set b (jnb kb kk t g)).flatMap JB.lg):=λt g=>by
  have:=Ox (f:=JB.lg) bk (jnb kb kk t g);rw[df]at this;exact this
 have hC:∀(t:C) (g:Ul),((js.set b (jnb kb kk t g)).flatMap JB.lg++[]).Perm ((kk.pl++kk.il)++((js.set b (jnb kb kk t g)).set n (jnn n)).flatMap JB.lg):=λt g=>by
  have:=Ox (f:=JB.lg) (l:=js.set b (jnb kb kk t g)) (i:=n) (by rw[Jl];exact bC) (jnn n);rw[List.getElem_set_ne ZA,ex]at this;exact this
 obtain⟨R,hR⟩:∃R,((js.set b (jnb kb kk (.sl true 4 []) [])).set n (jnn n)).flatMap JB.lg=R:=⟨_,rfl⟩;have kn:Kn H0 H [] (([(x1,X1),(z,.vec 5 RW)]++((kk.pl++kk.il)++(R++A)))++kb.il):=kn.perm (Qj λf hf h0 hc hp=>by
  have e2:∀(a b:Nat×Obj),f [a,b]=f [a]+f [b]:=λa b=>hc a [b];have e1:=hp _ _ (hB (.sl true 4 []) []);have e3:=hp _ _ (hC (.sl true 4 []) []);rw[hR]at e3;simp only[Ui,hf,h0,e2]at e1 e3⊢;omega)
 have cE:=kn.l 0 rfl;rw[ro]at cE;have hz:=kn.l 1 rfl;refine AC ?_;simp only[go_sem,l1,l2,l3,l4,l5,cE,hz,gS,ja,jT,Jf,Jg];refine AC ?_;simp only[go_sem,cE,hz,gS,mN,mP,ut,ja,jT,oip,oin,Jf,Jg];refine kn.br (new:=AD kk.y.ins) cg.i (bx.i.slcM kn λp hp=>ZaQ) (EV _) (by simp only[Bm,LIM];omega) λt2 Lg2 H2 dA di kn=>?_;have cE:=kn.l 0 rfl;rw[ro]at cE;have hz:=kn.l 1 rfl;simp only[go_sem,Qud,hz,gS,mN,mP,ja,opp,di,Jf,Jg];have jH:∀x,(RW.set b x).getD b []=x:=λx=>N7 ZA;have iC:∀x,(RW.set b x).getD n []=[kk.pc,kk.ic,Ui kk.y.jump,Ui kk.y.on,.sl kk.fl 1 (Qc kk.y.next)]:=λx=>by rw[K9 ZA];exact ut
 have d9:∀x,(RW.set b x).length=N:=λx=>by rw[Jl];exact gS
 have fW:∀x,(RW.set b x).take N=RW.set b x:=λx=>Jh (by rw[d9 x];omega);intro H3 h3;have kn:=kn.aA 1 rfl h3;have hz:=kn.l 1 rfl;refine AC ?_;simp only[go_sem,hz,d9,fW,jH,iC,ja,jT,opp,di,Jf,Jg];intro H4 h4;rw[Jap]at h4;have kn:=kn.aA 1 rfl h4;have hz:=kn.l 1 rfl;simp only[go_sem,Quf,hz,d9,fW,jH,iC,ja,jT,opp,di,Jf,Jg];intro H5 h5;rw[Jap]at h5;have kn:=kn.aA 1 rfl h5;have hz:=kn.l 1 rfl;simp only[go_sem,Que,hz,d9,fW,jH,iC,ja,jT,opp,di,Jf,Jg];intro H6 h6;rw[Jap]at h6;have kn:=kn.aA 1 rfl h6;have hz:=kn.l 1 rfl;refine Qa ?_;simp only[go_sem,hz,d9,fW,jH,iC,ja,jT,opp,di,Jf,Jg];intro H7 h7;have kn:=kn.aA 1 rfl h7;have dA:Gr Lg2 4 (AD (js[b].y.ins++js[n].y.ins)) t2:=by rw[df,ex,AD,Jp];exact dA
 have hJ:=JnS.start (q:=q) hy ho hp bk bC dA;rw[df,ex]at hJ;obtain⟨ks2,im⟩:∃k,(js.set b (jnb kb kk t2 Lg2)).set n (jnn n)=k:=⟨_,rfl⟩;rw[im]at hJ;have bA:ks2.map JB.row=(RW.set b [kb.pc,t2,Ui kk.y.jump,Ui kk.y.on,.sl kk.fl 1 (Qc kk.y.next)]).set n [.sl true 2 [],.sl true 4 [],Ui 1,Ui 0,.sl true 1 [[Ui n]]]:=by
  rw[<-im,J2,J2,em];rfl
 refine hQ _ H7 ks2 hJ ?_ rfl rfl rfl rfl rfl rfl;rw[bA];have hD:(R++Lg2).Perm (ks2.flatMap JB.lg):=Qj λf hf h0 hc hp=>by
  have e1:=hp _ _ (hB (.sl true 4 []) []);have e2:=hp _ _ (hC (.sl true 4 []) []);have e3:=hp _ _ (hB t2 Lg2);have e4:=hp _ _ (hC t2 Lg2);rw[hR]at e2;rw[im]at e4;simp only[Ui,hf,h0]at e1 e2 e3 e4⊢;omega
 refine Kn.drop (B:=kk.pl++kk.il) (kn.perm (Qj λf hf h0 hc hp=>?_));have e2:∀(a b:Nat×Obj),f [a,b]=f [a]+f [b]:=λa b=>hc a [b];have:=hp _ _ hD;show f ([(x1,X1),(z,_)]++((kk.pl++kk.il)++(R++A))++Lg2)=_;simp only[Ui,hf,e2]at this⊢;omega
structure MsI (s:PSl)(b n:Int)(i:Nat)(ms:List PMap):Prop where
 m:ms.map PMap.m=s.ms.map PMap.m
 l:ms.map PMap.l=mix (jl b n) (s.ms.map PMap.l) i
theorem MsI.len {s:PSl}{b n:Int}{i:Nat}{ms:List PMap}(h:MsI s b n i ms):ms.length=s.ms.length:=by
 have:=congrArg List.length h.m;simpa using this
theorem MsI.mps {s:PSl}{b n:Int}{i:Nat}{ms:List PMap}(h:MsI s b n i ms):Ba ms=Ba s.ms:=by
 have e:∀l:List PMap,Ba l=(l.map PMap.m).map λm=>[C.mp m]:=λl=>by rw[Ba,Jam];rfl
 rw[e,e,h.m]
theorem MsI.step {s:PSl}{b n:Int}{i ver:Nat}{ms:List PMap}(h:MsI s b n i ms)(hi:i<ms.length):MsI s b n (i+1) (ms.set i ⟨ms[i].m,ver,jl b n ms[i].l⟩):=by
 have hl:=h.len;refine⟨?_,?_⟩
 ·rw[J2,<-h.m];have e:ms[i].m=(ms.map PMap.m)[i]'ZU:=by rw[Jt]
  rw[e,Jao]
 ·have jo:i<(s.ms.map PMap.l).length:=by rw[Jc];omega
  rw[J2,h.l,<-Dz jo];have e:ms[i].l=(s.ms.map PMap.l)[i]:=by
   have e1:(ms.map PMap.l)[i]'ZU=ms[i].l:=by rw[Jt]
   rw[<-e1];have e2:∀(l l':List (List (Int×Int))) (hl:l=l') (a:i<l.length) (b:i<l'.length),l[i]=l'[i]:=λl l' hl a b=>by subst hl;rfl
   rw[e2 _ _ h.l ZU ZaT];exact CV jo ZaT
  show (mix (jl b n) (s.ms.map PMap.l) i).set i (jl b n ms[i].l)=_;rw[e]
theorem Qbp6 {Q:X->Env->Heap->Prop}{e:Env}{b n m k o:Nat}{a1 a2 a77 a78:C}{ss:List PSl}{N:Nat}(hN:ss.length=N)(hm:m<N)(ho:∀s∈ss,s.ok)(hl:∀s∈ss,∀p∈s.ms,p.l.length<=100000)
  (kn:Kn H0 H E ([(o,.vec 1 (ss.map PSl.row))]++(psL ss++R)))
  (l1:lk 1 e=.c a1) (l2:lk 2 e=.c a2) (l3:lk 3 e=Uv b) (l4:lk 4 e=Uv n) (l5:lk 5 e=.c (.ai o 1 0 N)) (l9:lk 9 e=Uv m) (l77:lk 77 e=.c a77) (l78:lk 78 e=.c a78) (l79:lk 79 e=Uv k) (o0:N<=100000) (dy:∀s∈ss,s.ms.length<=100000)
  (hQ:∀(e:Env) (H':Heap) (s':PSl),s'.ok->(∀h:m<ss.length,s'.ms.map PMap.l=(ss[m].ms.map PMap.l).map (jl b n))->(ss.set m s').map PSl.row=ss.map PSl.row->Kn H0 H' E ([(o,.vec 1 ((ss.set m s').map PSl.row))]++(psL (ss.set m s')++R))->
   lk 1 e=.c a1->lk 2 e=.c a2->lk 3 e=Uv b->lk 4 e=Uv n->lk 5 e=.c (.ai o 1 0 N)->lk 77 e=.c a77->lk 78 e=.c a78->lk 79 e=Uv k->Q .nrm e H') :
  A9 prog Qt7 Q e H:=by
 have tu:m<ss.length:=ZA
 obtain⟨s,hs⟩:∃s,ss[m]=s:=⟨_,rfl⟩;have gK:s∈ss:=by rw[<-hs];exact Jb tu
 have i7:=ho s gK;have cW:=hl s gK;have wg:=dy s gK;have fU:=Gr.ah i7;obtain⟨SW,ox⟩:∃SW,ss.map PSl.row=SW:=⟨_,rfl⟩;have rS:SW.length=N:=by rw[<-ox,Jc,hN]
 have hSt:SW.take N=SW:=Jh ZA;have hSg:SW.getD m []=[s.c]:=by rw[<-ox];simp[Jd,tu,hs,PSl.row]
 rw[ox]at kn;have ta:=kn.l 0 rfl;have qg:=GY tu hs;obtain⟨R2,oz⟩:∃R2,[(o,Obj.vec 1 SW)]++((psL (ss.eraseIdx m)++s.g)++R)=R2:=⟨_,rfl⟩;have kn:Kn H0 H E (R2++s.ms.flatMap PMap.lg):=kn.perm (Qj λf hf h0 hc hp=>by
  have h1:=hp _ _ qg;rw[PSl.lg]at h1;rw[<-oz];simp only[Ui,hf]at h1⊢;omega)
 have hgm:∀p∈s.g,p∈R2:=λp hp=>by rw[<-oz];simp[hp]
 have ko:∀(H1:Heap) (ms:List PMap),Kn H0 H1 E (R2++ms.flatMap PMap.lg)->aW H1 s.c=True/\ax s.c=s.ms.length/\rowsOf H1 s.c=Ba s.ms:=λH1 ms kn=>by
  have:=i7.slcM kn λp hp=>Jj _ (hgm p hp);exact⟨eq_true this.ok,by rw[this.len,C6],this.rows⟩
 have bj:=i7.aO;refine Qa ?_;simp only[go_sem,l1,l2,l3,l4,l5,l9,l77,l78,l79,ta,rS,hSt,hSg,hm,fU,(ko _ _ kn).1,(ko _ _ kn).2.1,Jf,Jg];try intro _
 refine Qe (Qx (λt e1 H1=>∃(i:Nat) (ms:List PMap),t=s.ms.length-i/\i<=s.ms.length/\MsI s b n i ms/\Kn H0 H1 E (R2++ms.flatMap PMap.lg)/\
  lk 1 e1=.c a1/\lk 2 e1=.c a2/\lk 3 e1=Uv b/\lk 4 e1=Uv n/\lk 5 e1=.c (.ai o 1 0 N)/\lk 77 e1=.c a77/\lk 78 e1=.c a78/\lk 79 e1=Uv k/\lk 86 e1=.c s.c/\lk 87 e1=.c (Ui s.ms.length)/\lk 88 e1=Uv i) s.ms.length ?_ ?_)
 ·exact⟨0,s.ms,ZA,ZA,⟨rfl,(GQ _ _).symm⟩,kn,rfl,rfl,rfl,rfl,rfl,rfl,rfl,rfl,rfl,rfl,rfl⟩
 ·clear kn ta l1 l2 l3 l4 l5 l9 l77 l78 l79;rintro t e1 H1 ⟨i,ms,ht,hi,hM,kn,l1,l2,l3,l4,l5,l77,l78,l79,l86,l87,l88⟩;have hmsl:=hM.len;refine Qa ?_;simp only[go_sem,l1,l2,l3,l4,l5,l77,l78,l79,l86,l87,l88];refine Wu ?_ ?_
  ·intro hc;have af:i<s.ms.length:=ZD
   have aN:i<ms.length:=ZA
   obtain⟨pm,ee⟩:∃pm,ms[i]=pm:=⟨_,rfl⟩;have cQ:pm.l.length<=100000:=by
    have e1:(ms.map PMap.l)[i]? = some pm.l:=(by simp[aN,ee]);have jo:i<(s.ms.map PMap.l).length:=Zbj;rw[hM.l,Ji ZaT,CV jo ZaT,Jt]at e1;rw[<-J4 e1];exact cW _ (Jb af)
   have ma:(Ba s.ms).getD i []=[.mp pm.m]:=by rw[<-hM.mps,Q1a _ _ aN,ee]
   have qh:=ko _ _ kn;have sG:=BT (f:=PMap.lg) aN;rw[ee]at sG;obtain⟨R3,An⟩:∃R3,R2++(ms.eraseIdx i).flatMap PMap.lg=R3:=⟨_,rfl⟩;have kn:Kn H0 H1 E ([(pm.m,.map pm.ver (mI pm.l))]++R3):=kn.perm (Qj λf hf h0 hc hp=>by
    have h1:=hp _ _ sG;rw[PMap.lg]at h1;rw[<-An];simp only[Ui,hf]at h1⊢;omega)
   have o6:=kn.l 0 rfl;refine Zd ?_
   refine Wb ?_;simp only[go_sem,fU,qh.1,qh.2.1,qh.2.2,bj,af,ma,C6];have iP:BL H1 (.mp pm.m)=True:=by simp only[BL,o6]
   have iV:Bb H1 (.mp pm.m)=mI pm.l:=by simp only[Bb,o6]
   refine Qa ?_;simp only[go_sem,o6,iP,iV,DM,Ol,Du,Dw];refine⟨by simp only[LIM];omega,λH2 h2=>?_⟩;have kn:=kn.aA 0 rfl h2;have o6:=kn.l 0 rfl;refine Qq ?_;simp only[go_sem,o6,DM,Ip];intro H3 h3;have kn:Kn H0 H3 E ([(pm.m,.map (pm.ver+1+1) (mI (jl b n pm.l)))]++R3):=kn.aA 0 rfl h3;refine Zh ?_;refine⟨Qr,?_⟩;show ∃m,_;have aQ:=hM.step aN (ver:=pm.ver+1+1);rw[ee]at aQ;refine⟨s.ms.length-(i+1),ZA,i+1,_,rfl,ZA,aQ,?_,rfl,rfl,rfl,rfl,rfl,rfl,rfl,rfl,rfl,rfl,ZB⟩;have sF:=BT (f:=PMap.lg) (l:=ms.set i ⟨pm.m,pm.ver+1+1,jl b n pm.l⟩) (i:=i) (by rw[Jl];exact aN);rw[Jac,J8]at sF;refine kn.perm (Qj λf hf h0 hc hp=>?_);have h1:=hp _ _ sF;rw[PMap.lg]at h1;rw[<-An];simp only[Ui,hf]at h1⊢;omega
  ·intro hc;have iA:i=s.ms.length:=by have:s.ms.length<=i:=ZD;omega
   subst iA;refine Zb ?_;have Aq:=hM.l;rw[D0 _ _ (by rw[Jc];exact Jg _)]at Aq;obtain⟨s',dV⟩:∃s':PSl,s'=⟨ms,s.c,s.g⟩:=⟨_,rfl⟩;have aC:(ss.set m s').map PSl.row=ss.map PSl.row:=by
    rw[J2];have e:s'.row=(ss.map PSl.row)[m]'(by simpa using tu):=(by rw[Jt,hs,dV];rfl);rw[e,Jao]
   refine hQ _ H1 s' ?_ (λh=>?_) aC ?_ rfl rfl rfl rfl rfl rfl rfl rfl
   ·rw[dV];show Gr s.g 1 (Ba ms) s.c;rw[hM.mps];exact i7
   ·rw[hs,dV];exact Aq
   ·rw[aC,ox];have lQ:=FW (s:=s') tu;refine kn.perm (Qj λf hf h0 hc hp=>?_);have h1:=hp _ _ lQ;have e:s'.lg=ms.flatMap PMap.lg++s.g:=(by rw[dV];rfl);rw[e]at h1;rw[<-oz];simp only[Ui,hf]at h1⊢;omega
theorem Qbj6 {b n m:Nat}{D:List Int}{ss:List PSl}{s':PSl}(hS:PInv (jnPT q b n D) ss)(hm:m<ss.length)(hD:¬(m:Int)∈D)(hs:s'.ok)(hl:s'.ms.map PMap.l=(ss[m].ms.map PMap.l).map (jl b n)):PInv (jnPT q b n (D++[(m:Int)])) (ss.set m s'):=by
 refine hS.set hs λr hr=>?_;by_cases oH:r=m
 ·subst oH;rw[if_pos rfl,hl,hS.f r hm,jnPT,if_pos ZC,jnPT,if_neg hD]
 ·rw[if_neg oH,jnPT,jnPT];have:((r:Int)∈D++[(m:Int)])↔(r:Int)∈D:=by
   simp only[Js,Ja];exact⟨λhh=>hh.resolve_right λe2=>oH ZA,.inl⟩
  by_cases h:(r:Int)∈D
  ·rw[if_pos h,if_pos (this.2 h)]
  ·rw[if_neg h,if_neg (λhh=>h (this.1 hh))]
theorem Qbfd {b n:Nat}{D D':List Int}{ss:List PSl}(hS:PInv (jnPT q b n D) ss)(h:∀x,x∈D↔x∈D'):PInv (jnPT q b n D') ss:=by
 refine⟨λr hr=>?_,hS.ok⟩;rw[hS.f r hr,jnPT,jnPT];by_cases hd:(r:Int)∈D
 ·rw[if_pos hd,if_pos ((h _).1 hd)]
 ·rw[if_neg hd,if_neg (λhh=>hd ((h _).2 hh))]
theorem Qbp0 (ho:q.ok){b n:Nat}{D:List Int}{ss:List PSl}(hS:PInv (jnPT q b n D) ss)(hl:ss.length=q.blocks.length):(∀s∈ss,s.ms.length<=100000)/\∀s∈ss,∀p∈s.ms,p.l.length<=100000:=by
 have bg:=ho.b1;have hz:∀r p,(zpA q r p).length<=160:=λr p=>by
  rw[zpA,List.length_zip];have:=CA (gnx q) (r:Int) q.blocks.length;omega
 refine⟨λs hs=>?_,λs hs p hp=>?_⟩
 ·obtain⟨r,hr,rfl⟩:=Jq.1 hs;have:=congrArg List.length (hS.f r hr);rw[Ep ZA]at this;simp only[Jc]at this;have h2:=(ho.il r ZA).2;rw[<-AP ZA]at h2;omega
 ·obtain⟨r,hr,rfl⟩:=Jq.1 hs;have hm:p.l∈ss[r].ms.map PMap.l:=Jk.2 ⟨p,hp,rfl⟩;rw[hS.f r hr,Ep ZA,Jk]at hm;obtain⟨f,_,e⟩:=hm;rw[<-e];have:=hz r f;have h2:=SY b n (zpA q r f);split <;> omega
theorem Qbp4 {Q:X->Env->Heap->Prop}{e:Env}{x1 z o b n:Nat}{a2:C}{js:List JB}{ss:List PSl}(hq:q.ok)(hj:((Qt q n).next.length:Int)=Bd (Qt q n).jump)(hp:JnP q b n)(hJ:JnS q b n [] js)(cW:ss.length=q.blocks.length)(hS:PInv (jnPT q b n []) ss)
  (kn:Kn H0 H [] ([(x1,.st [Ui q.params,Ui q.ae,.ai z 5 0 q.blocks.length]),(z,.vec 5 (js.map JB.row)),(o,.vec 1 (ss.map PSl.row))]++(js.flatMap JB.lg++(psL ss++R))))
  (l1:lk 1 e=Up x1) (l2:lk 2 e=.c a2) (l3:lk 3 e=Uv b) (l4:lk 4 e=Uv n) (l5:lk 5 e=.c (.ai o 1 0 q.blocks.length)) (l6:lk 6 e=.c (.ep (.ai z 5 0 q.blocks.length) 5 b 0))
  (hQ:∀(e:Env) (H':Heap) (js':List JB),js'.map JB.y=(jnQ q b n).blocks->(∀k∈js',k.ok)->Kn H0 H' [] (([(x1,.st [Ui q.params,Ui q.ae,.ai z 5 0 q.blocks.length])]++R)++([(z,.vec 5 (js'.map JB.row))]++js'.flatMap JB.lg))->
   lk 1 e=Up x1->lk 2 e=.c a2->Q (.exit 1) e H') :
  A9 prog Rn Q e H:=by
 have bg:=hq.b1;have bk:=hp.bl;have bC:=hp.nl;have ce:=hJ.len;have ni:b<js.length:=ZA
 have gM:(Qt q n).next.length<=2:=by
  unfold Bd at hj;split at hj
  ·omega
  ·split at hj
   ·omega
   ·split at hj <;> omega
 obtain⟨nn,jD⟩:∃l,(Qt q n).next=l:=⟨_,rfl⟩;rw[jD]at gM;obtain⟨N,hN⟩:∃N,q.blocks.length=N:=⟨_,rfl⟩;obtain⟨RW,em⟩:∃RW,js.map JB.row=RW:=⟨_,rfl⟩;have gS:RW.length=N:=Zbc
 have mN:RW.take N=RW:=Jh ZA;have mP:RW.getD b []=[js[b].pc,js[b].ic,Ui js[b].y.jump,Ui js[b].y.on,.sl js[b].fl 1 (Qc nn)]:=by
  rw[<-em,JB.getD ni,JB.row,hJ.y b ni,F6,Fb hp,jD]
 rw[em]at kn;simp only[hN]at kn cW l5 l6 bk;have hz:=kn.l 1 rfl;refine Q1 (Qa ?_);simp only[go_sem,l1,l2,l3,l4,l5,l6,hz,gS,mN,mP,bk,Jf,Jg];refine HE ZA λns H2 hu yw bZ am=>?_;have kn:=kn.au hu;simp only[go_sem,l1,l2,l3,l4,l5,l6,Qug,Qb];try intro _
 obtain⟨X1,ro⟩:∃o,o=Obj.st [Ui q.params,Ui q.ae,.ai z 5 0 N]:=⟨_,rfl⟩;rw[<-ro]at kn;refine Qh (Qe (Qx (λt e1 H1=>∃(k:Nat) (ss:List PSl),t=ns.length-k/\k<=ns.length/\ss.length=N/\PInv (jnPT q b n (ns.take k)) ss/\
  Kn H0 H1 [] ([(x1,X1),(z,.vec 5 RW),(o,.vec 1 (ss.map PSl.row))]++(js.flatMap JB.lg++(psL ss++R)))/\
  lk 1 e1=Up x1/\lk 2 e1=.c a2/\lk 3 e1=Uv b/\lk 4 e1=Uv n/\lk 5 e1=.c (.ai o 1 0 N)/\lk 77 e1=.c (.sl false 1 (Qc ns))/\lk 78 e1=.c (Ui ns.length)/\lk 79 e1=Uv k) ns.length ?_ ?_))
 ·exact⟨0,ss,ZA,ZA,cW,by rw[Jbi];exact hS,kn,rfl,rfl,rfl,rfl,rfl,rfl,rfl,rfl⟩
 ·clear kn hz l1 l2 l3 l4 l5 l6 cW hS;rintro t e1 H3 ⟨k,ss,ht,hk,cW,hS,kn,l1,l2,l3,l4,l5,l77,l78,l79⟩;refine Qa ?_;simp only[go_sem,l1,l2,l3,l4,l5,l77,l78,l79];refine Wu ?_ ?_
  ·intro hc;have af:k<ns.length:=ZD
   have jE:ns[k]∈nn:=(bZ _).1 (Jb af);have eC:0<=ns[k]/\ns[k]<q.blocks.length:=by
    rw[<-jD,AP bC]at jE;have:=(hq.bs n bC).nx _ jE;omega
   obtain⟨m,hm⟩:∃m:Nat,ns[k]=m:=⟨ns[k].toNat,ZA⟩;have b6:ns.getD k 0=(m:Int):=by rw[<-hm];simp[Jd,af]
   have hmN:m<N:=ZA
   have qA:¬(m:Int)∈ns.take k:=λh=>by
    obtain⟨i,hi,e⟩:=Jq.1 h;rw[Jaz]at hi;rw[Jba]at e;have:=List.pairwise_iff_getElem.1 yw i k ZA af ZA;omega
   have oT:=Qbp0 hq hS ZA;refine Zd ?_
   refine Wb ?_;simp only[go_sem,af,Qb,Qo _ _ af,b6];refine Qbp6 (ss:=ss) (N:=N) (m:=m) (k:=k) (o:=o) (R:=[(x1,X1),(z,.vec 5 RW)]++(js.flatMap JB.lg++R)) cW hmN hS.ok oT.2 (kn.perm (Qj λf hf h0 hc hp=>by
    have e3:∀(a b c:Nat×Obj),f [a,b,c]=f [a,b]+f [c]:=λa b c=>ZP;simp only[Ui,hf,e3];omega)) rfl rfl rfl rfl rfl rfl rfl rfl rfl ZA oT.1 λe4 H4 s' dV de aC kn l1 l2 l3 l4 l5 l77 l78 l79=>?_
   refine Qq ?_;simp only[go_sem,l1,l2,l3,l4,l5,l77,l78,l79];refine⟨Qr,?_⟩;show ∃m,_;have kn:Kn H0 H4 [] ([(x1,X1),(z,.vec 5 RW),(o,.vec 1 ((ss.set m s').map PSl.row))]++(js.flatMap JB.lg++(psL (ss.set m s')++R))):=kn.perm (Qj λf hf h0 hc hp=>by
    have e3:∀(a b c:Nat×Obj),f [a,b,c]=f [a,b]+f [c]:=λa b c=>ZP;simp only[Ui,hf,e3];omega)
   refine⟨ns.length-(k+1),ZA,k+1,ss.set m s',rfl,ZA,by rw[Jl];exact cW,?_,kn,rfl,rfl,rfl,rfl,rfl,rfl,rfl,ZB⟩;rw[Jr af,hm];exact Qbj6 hS ZA qA dV (de ZA)
  ·intro hc;have jm:k=ns.length:=by have:ns.length<=k:=ZD;omega
   subst jm;rw[Ja0]at hS;have hS:=Qbfd hS (D':=(Qt q n).next) (by rw[jD];exact bZ);refine Wc ?_;rw[<-em,ro]at kn;refine Og (js:=js) (nx:=jnG q b n) (N:=N) (g:=jnGv q b n) (Y:=jnX q b n) ZA ZA hJ.ok (λj hj=>by rw[hJ.y j hj,jnY,if_neg ZC]) (λj _=>rfl) (λj hjN=>?_) cW (by rw[<-hN];exact SQ hq hp hS (by omega)) kn λjs' H4 de dU fg kn=>?_
   ·by_cases nT:j=n
    ·rw[nT,C1];simp
    ·rw[E9 hp nT];have:=(hq.il j ZA).2;rw[<-AP ZA]at this;omega
   ·simp only[go_sem];refine Qu ?_;refine hQ _ H4 js' ?_ fg (Kn.drop (B:=[(o,.vec 1 (ss.map PSl.row))]++psL ss) (kn.perm (Qj λf hf h0 hc hp=>?_))) rfl rfl
    ·refine Jag (by rw[Jc,de,DL,hN]) λj h1 h2=>?_;have hj:j<js'.length:=ZW;rw[Jt,dU j hj,<-AP h2,Eo ZA,<-hN,SR hq hp ZA]
    ·have e3:∀(a b c:Nat×Obj),f [a,b,c]=f [a]+f [b]+f [c]:=λa b c=>ZS;rw[hN];simp only[Ui,hf,e3];omega
end Go.AE.Y
namespace Go.AE.Y
attribute [local go_sem] cond_true cond_false Bool.not_true Bool.not_false
attribute [local instance] Classical.propDecidable
open Go.Proofs.Tryz
variable {H H0 H':Heap}{K:Uk}{q p:CodeD}{E L R A:Ul}{fl:Bool}{cs:List CodeD}
theorem SZ {x z:Nat}{B:Ul}{js:List JB}(kn:Kn H0 H [] (([(x,.st [Ui q.params,Ui q.ae,.ai z 5 0 q.blocks.length])]++B)++([(z,.vec 5 (js.map JB.row))]++js.flatMap JB.lg)))(hy:js.map JB.y=q.blocks)(ho:∀k∈js,k.ok) :
  ∃(S:Nat->Bool) (H4:Heap),FrzH H S H4/\Kn H0 H4 [] ([(x,.st [Ui q.params,Ui q.ae,.sl false 5 (Qm q.blocks)])]++B):=by
 obtain⟨S,hS,hB,eK,kn⟩:=kn.cw;have hx:=hB (x,.st [Ui q.params,Ui q.ae,.ai z 5 0 q.blocks.length]) ZC;have hz:=hS (z,.vec 5 (js.map JB.row)) ZC;have hr:=JB.frzR ho (λp hp=>hS p (Je _ hp));rw[hy]at hr;refine⟨S,_,eK.set (o:=.st [Ui q.params,Ui q.ae,.sl false 5 (Qm q.blocks)]) hx.2 ?_,kn.setL (o':=.st [Ui q.params,Ui q.ae,.sl false 5 (Qm q.blocks)]) 0 rfl ZC⟩;rw[hx.1];exact FrzKL.st (.cons rfl (Qg rfl) (.cons rfl (Qg rfl) (.cons rfl (FrzR.ai hz.2 hz.1 (by rw[Jc,<-hy,Jc]) hr) .nil)))
theorem I3:∀i,(Nat.repeat jn1 i q).params=q.params/\(Nat.repeat jn1 i q).ae=q.ae
 |0=>⟨rfl,rfl⟩
 |i+1=>by
  have:=I3 i;exact⟨(F9 (q:=Nat.repeat jn1 i q)).1.trans this.1,(F9 (q:=Nat.repeat jn1 i q)).2.trans this.2⟩
def jO (x1 x2 z:Nat)(q:CodeD):List (Nat×Obj):=[(x1,.st [.int .i64 q.params,.int .i64 q.ae,.ai z 5 0 q.blocks.length])]++[(x2,.st [.int .i64 0,.int .i64 0,.sl true 5 []])]
theorem Qbp5 (ho : q.ok) (hs : JnOk (AZ q)) (hK : ∀ H', Upd H H' [] -> K (.ag (jnD q).cells) H') :
    Qv prog PY [.ag [Ui q.params, Ui q.ae, .sl fl 5 (Qm q.blocks)]] H K := by
  obtain ⟨d, hd⟩ : ∃ d, AZ q = d := ⟨_, rfl⟩;have pd : jnD q = AZ (jnE d) := by rw [<- hd]; rfl
  have jY : d.params = q.params := by rw [<- hd]; rfl
  have uU : d.ae = q.ae := by rw [<- hd]; rfl
  rw [hd] at hs;have kF : d.ok := hs.ok 0;have cU := kF.b1;refine Qz ?_;refine Qd A6 Qa5g ?_;refine Qa ?_;simp only [go_sem];intro x1 cE H0 h0;have kn := (Kn.ao H).al cE h0;simp only [go_sem, Qt9];intro x2 aH H1 h1;have kn := kn.al aH h1;have cE := kn.l 0 rfl;refine Xc (Qa ?_);simp only [go_sem, cE];refine Qyx ho λjs z H2 hy hk k2 => ?_;rw [hd] at hy ⊢;have kn := kn.comp0 k2;have cE := kn.l 0 rfl;simp only [go_sem, Qua, cE];intro H4 h4;rw [<- jY, <- uU] at h4;have kn := kn.aA 0 rfl h4;have kn : Kn H H4 [] (jO x1 x2 z d ++ ([(z, .vec 5 (js.map JB.row))] ++ js.flatMap JB.lg)) := kn;refine Qh (Qi ?_);try simp only [go_sem]
  refine Qe (Qx (λmm e1 H1 => ∃ (i : Nat) (js : List JB), mm = jnW (Nat.repeat jn1 i d) /\ js.map JB.y = (Nat.repeat jn1 i d).blocks /\ (∀ k ∈ js, k.ok) /\
    Kn H H1 [] (jO x1 x2 z d ++ ([(z, .vec 5 (js.map JB.row))] ++ js.flatMap JB.lg)) /\ lk 1 e1 = Up x1 /\ lk 2 e1 = Up x2) (jnW (Nat.repeat jn1 0 d)) ?_ ?_)
  · exact ⟨0, js, rfl, hy, hk, kn, rfl, rfl⟩
  clear kn cE hy hk k2;rintro mm e1 H5 ⟨i, js, dm, hy, hk, kn, l1, l2⟩;obtain ⟨p, hp⟩ : ∃ p, Nat.repeat jn1 i d = p := ⟨_, rfl⟩;have kV : p.ok := by rw [<- hp]; exact hs.ok i
  have sX : ∀ b, b < p.blocks.length -> ((Qt p b).next.length : Int) = Bd (Qt p b).jump := by rw [<- hp]; exact hs.jn i
  have cQ : p.blocks.length = d.blocks.length := by rw [<- hp]; exact Gd i
  have eJ : p.params = d.params /\ p.ae = d.ae := by rw [<- hp]; exact I3 i
  have hO : jO x1 x2 z d = jO x1 x2 z p := by rw [jO, jO, eJ.1, eJ.2, cQ]
  have qu := kV.b1;rw [hp] at dm hy;rw [hO] at kn;have ce : (js.map JB.row).length = p.blocks.length := by rw [Jc, <- hy, Jc]
  have cE : H5 x1 = .st [Ui p.params, Ui p.ae, .ai z 5 0 p.blocks.length] := kn.l 0 rfl;have hz : H5 z = .vec 5 (js.map JB.row) := kn.l 2 rfl;refine Qe (Q1 ?_);refine Qa ?_;simp only [go_sem, l1, l2, cE, hz, ce];refine ⟨ZA, λ_ => ?_⟩;refine Qh (Qe (Qx (λmm e1 H1 => ∃ (b : Nat), mm = p.blocks.length - b /\ b <= p.blocks.length /\ (∀ c, c < b -> ¬ JnP p c (skT p c).toNat) /\ Kn H H1 [] (jO x1 x2 z p ++ ([(z, .vec 5 (js.map JB.row))] ++ js.flatMap JB.lg)) /\
    e1 = [(1, Up x1), (2, Up x2), (16, .c (Ui p.blocks.length)), (17, Uv b)]) p.blocks.length ?_ ?_))
  · exact ⟨0, by omega, by omega, λc hc => absurd hc ZA, kn, rfl⟩
  clear kn cE hz;rintro mm2 e2 H6 ⟨b, eW, bk, bx, kn, rfl⟩;have cE : H6 x1 = .st [Ui p.params, Ui p.ae, .ai z 5 0 p.blocks.length] := kn.l 0 rfl;have hz : H6 z = .vec 5 (js.map JB.row) := kn.l 2 rfl;refine Qa ?_;simp only [go_sem];refine Wu ?_ ?_
  · intro hc;have af : b < p.blocks.length := by have : (b : Int) < p.blocks.length := of_decide_eq_true hc;omega
    have hR : RwR H6 p (.ai z 5 0 p.blocks.length) (js.map JB.row) := .ofJ kn hy hk hz λx hx => Je _ (Je _ hx);refine Qi ?_;try simp only [go_sem]
    refine Wb ?_;simp only [go_sem];refine Qa ?_;simp only [go_sem, cE];refine Qbff hR af kV (sX b af) λH7 hu => ?_;have kn := kn.au hu;simp only [go_sem, Qub];refine Q1 (Qa ?_);simp only [go_sem];by_cases hj : JnP p b (skT p b).toNat
    · have hF := N4 hj bx;have fe := Pl hF;obtain ⟨n, hn⟩ : ∃ n, (skT p b).toNat = n := ⟨_, rfl⟩;have cd := hj.n0;have hV : jnV p b = (n : Int) := (by rw [jnV, if_pos hj, <- hn]; omega);rw [hn] at hj hF cd;have e1 : jn1 p = jnQ p b n := (by rw [jn1, jnS, hF]);rw [hV];refine Qh (Qf rfl (λa7 => by have : (n : Int) < 0 := of_decide_eq_true a7;omega) (λ_ => ?_))
      refine Qi ?_;try simp only [go_sem]
      have cE : H7 x1 = .st [Ui p.params, Ui p.ae, .ai z 5 0 p.blocks.length] := kn.l 0 rfl;have hz : H7 z = .vec 5 (js.map JB.row) := kn.l 2 rfl;have hR : RwR H7 p (.ai z 5 0 p.blocks.length) (js.map JB.row) := .ofJ kn hy hk hz λx hx => Je _ (Je _ hx);refine Qa ?_;simp only [go_sem, cE];refine Kg kV hR λo ss H8 cW hS k8 => ?_;have kn := kn.comp0 k8;simp only [go_sem, Quc];have dq : js.length = p.blocks.length := (by rw [<- hy, Jc]);refine Qbp3 (x1 := x1) (z := z) (js := js) (q := p) (A := [(x2, .st [Ui 0, Ui 0, .sl true 5 []])] ++ ([(o, .vec 1 (ss.map PSl.row))] ++ psL ss)) hj hy hk (λj h => by
        have := (kV.il j ZA).1;rw [Cz hy h, AP ZA]; omega) (kn.perm (Qj λf hf h0 hc hp => by
        simp only[Ui,hf,jO];omega)) rfl rfl rfl rfl rfl λe9 H9 js2 hJ kn l1 l2 l3 l4 l5 l6 => ?_
      refine Qbp4 (x1 := x1) (z := z) (o := o) (js := js2) (ss := ss) (q := p) (R := [(x2, .st [Ui 0, Ui 0, .sl true 5 []])]) kV (sX n hj.nl) hj hJ cW ⟨λr hr => by rw [Qbp1]; exact hS.f r hr, hS.ok⟩ (kn.perm (Qj λf hf h0 hc hp => by
        have e3 : ∀ (a b c : Nat × Obj), f [a, b, c] = f [a] + f [b] + f [c] := λa b c => (by rw [hc a [b, c], hc b [c]]; omega);simp only [hf, e3]; omega)) l1 l2 l3 l4 l5 l6 λe10 H10 js3 sh iR kn l1 l2 => ?_
      rw [FB (rfl : ((1 : Nat) == 3) = false)];simp only [go_sem, X.next];rw [FB (rfl : ((1 : Nat) == 2) = false)];simp only [go_sem, X.next];have hh := F9 (q := p);have kz : (jn1 p).blocks.length = p.blocks.length := Gi;refine ⟨jnW (jn1 p), by omega, i + 1, js3, ?_, ?_, iR, by rw [hO]; exact kn, l1, l2⟩
      · show _ = jnW (jn1 (Nat.repeat jn1 i d));rw [hp]
      · show _ = (jn1 (Nat.repeat jn1 i d)).blocks;rw [hp, e1]; exact sh
    · have hV : jnV p b = -1 := (by rw [jnV, if_neg hj]);rw [hV];refine Qh (Qf rfl (λ_ => ?_) (λa7 => absurd a7 ZN));refine Qu ?_;simp only [go_sem, X.next];refine Qq ?_;simp only [go_sem, X.next];refine ⟨Qr, p.blocks.length - (b + 1), by omega, b + 1, rfl, by omega, λc hc => ?_, kn, rfl⟩;by_cases eL : c = b
      · rw [eL]; exact hj
      · exact bx c ZA
  · intro hc;have f0 : b = p.blocks.length := by have : ¬ (b : Int) < p.blocks.length := of_decide_eq_false hc;omega
    subst f0;have dT := N5 bx;have j6 : p = jnE d := ZaR;refine Qu ?_;simp only [go_sem, X.next];obtain ⟨S, H6, eK, kn⟩ := SZ kn hy hk;refine Q1 (c_gh (DK S (EN ?_) eK) (e' := [(1, Up x1), (2, Up x2)]) ?_)
    · simp only [Jv];exact ⟨.c _ _ (.same _ rfl), .c _ _ (.same _ rfl), by simp⟩
    have cE := kn.l 0 rfl;refine Qa ?_;simp only [go_sem, cE];refine Qarp kV λH7 hu => ?_;have kn := kn.au hu;have aH : H7 x2 = .st [Ui 0, Ui 0, .sl true 5 []] := kn.l 1 rfl;simp only [go_sem, Qo4, CodeD.cells, aH];intro H8 h8;have kn := kn.aA 1 rfl h8;have aH := kn.l 1 rfl;refine Qk ?_;simp only [go_sem, X.next, Q7, A5, Bf, Ja, forall_eq, RS.op, aH];rw [pd, <- j6] at hK;exact ⟨_, FrzL.ag (.cons (.same _ rfl) (.cons (.same _ rfl) (.cons (.same _ rfl) .nil))), hK _ kn.fin⟩
theorem Qail (aU:∀c∈cs,c.fits)(hK:∀H',Upd H H' []->K (.tup [.ag [.sl false 3 (Qn (Bu jnD cs))],.c (.bool (AN cs))]) H') :
  Qv prog Qk5 [.ag [.sl fl 3 (Qn cs)]] H K:=by
 refine Qz ?_;refine Qd A6 Qaat ?_;refine Za ?_;intro x2 aH H1 h1;have kn:=(Kn.ao H).al aH h1;simp only[go_sem,G1];refine Za ?_;refine Qbf5 (f:=jnD) aU (λhg p hp H K fl hK=>?_) λH2 hu=>?_
 ·obtain⟨i,hi,rfl⟩:=Jq.1 hp;exact Qbp5 (CE hg hi) (by
   have:=Gh (GR hg) (k:=i) ZU
   rwa [Jt]at this) hK
 have kn:=kn.au hu;have aH:=kn.l 0 rfl;simp only[go_sem,G0,aH,J3,Jah];intro H4 h4;have kn:=kn.aA 0 rfl h4;have aH:=kn.l 0 rfl;simp only[go_sem,G2];refine Zr aH ?_;exact⟨λ_=>trivial,_,Dk (Dd _) (.c _ _ (Qg rfl)),hK _ kn.fin⟩
end Go.AE.Y
namespace Go.AE.Y
attribute [local instance] Classical.propDecidable
variable {q e:CodeD}{cs:List CodeD}
abbrev R0 (g:Nat->List Nat)(x:Nat):Prop:=Rch g (λz=>(z:Int)=-1) 0 x
def Stb (p:CodeD):Prop:=∀i,i<p.blocks.length->R0 (nxN (gnx p)) i\/gnx p i=[(i:Int)]
theorem SS {b n:Nat}(ho:q.ok)(hp:JnP q b n)(h:Stb q):Stb (jnQ q b n):=by
 have af:∀x,R0 (nxN (gnx q)) x->x<q.blocks.length:=λx hx=>by
  induction hx with
  |refl _=>exact ho.b0
  |@step y z _ h2 _ ih=>
   obtain⟨v,hv,rfl⟩:=Jk.1 h2;rw[CD ih]at hv;have:=(ho.bs y ih).nx v hv;omega
 have wV:∀y,y<q.blocks.length->∀z,z∈nxN (gnx q) y->((z:Nat):Int)∈gnx q y:=λy hy z hz=>by
  obtain⟨v,hv,rfl⟩:=Jk.1 hz;have jN:=hv;rw[CD hy]at jN;have:=(ho.bs y hy).nx v jN;have e:((v.toNat:Nat):Int)=v:=ZA
  rw[e];exact hv
 have key:∀x,R0 (nxN (gnx q)) x->(x≠n->R0 (nxN (gnx (jnQ q b n))) x)/\(x=n->R0 (nxN (gnx (jnQ q b n))) b):=λx hx=>by
  induction hx with
  |refl _=>exact⟨λ_=>.refl ZA,λe=>by have:=hp.n0;omega⟩
  |@step y z hy h2 _ ih=>
   have fT:=af y hy;have jr:=wV y fT z h2;by_cases je:y=n
   ·subst je;have hb:=ih.2 rfl;refine⟨λ_=>.step hb ?_ ZA,λe=>?_⟩
    ·rw[nxN,EM hp.bl,Fb hp];rw[Bq fT]at jr;exact Jk.2 ⟨_,jr,ZA⟩
    ·subst e;exact absurd (hp.pr _ fT jr) hp.ne
   ·have dU:=ih.1 je;by_cases cP:y=b
    ·subst cP;rw[Bq fT,hp.nx]at jr;have gV:=Ja.1 jr;exact⟨λe=>absurd ZA e,λ_=>dU⟩
    ·refine⟨λ_=>.step dU ?_ ZA,λe=>?_⟩
     ·rw[nxN,EM fT,jnG,BH je cP,<-Bq fT];exact h2
     ·subst e;exact absurd (hp.pr y fT jr) cP
 intro i hi;rw[DL]at hi;by_cases cq:i=n
 ·subst cq;right;rw[EM hi,jnG,C1]
 ·rcases h i hi with h1|h1
  ·exact .inl ((key i h1).1 cq)
  ·right;have nW:i≠b:=λe=>by
    subst e;rw[Bq hi,hp.nx]at h1;have:=(List.cons.inj h1).1;exact cq ZA
   rw[EM hi,jnG,BH cq nW,<-Bq hi];exact h1
theorem VK (ho:q.ok)(h:Stb q):Stb (jn1 q):=by
 rw[jn1,jnS]
 cases hF:jnF q with
 |none=>exact h
 |some p=>exact SS ho (jnF_ok.ok _ _ _ hF) h
theorem HY (hs:JnOk q)(h:Stb q):∀i,Stb (Nat.repeat jn1 i q)
 |0=>h
 |i+1=>VK (hs.ok i) (HY hs h i)
theorem VW (ho:q.ok):Stb (AZ q):=λi hi=>by
 have:=Qbo0 ho;have hm:i∈rchL (AZ q).blocks.length (nxN (gnx (AZ q))):=by rw[this];exact J7.2 hi
 exact .inl (rchB_iff.1 (mem_rchL.1 hm).2)
theorem SV (h:jnF q=none){c:Nat}(hc:c<q.blocks.length):¬JnP q c (skT q c).toNat:=λhp=>by
 rw[jnF,Option.map_eq_none_iff,List.find?_eq_none]at h;exact h c (J7.2 hc) (decide_eq_true hp)
theorem Qbo1 (ho:e.ok)(hs:Stb e)(hF:jnF e=none){j m:Nat}(hp:JnP (AZ e) j m):False:=by
 have hk:=ho.rchPk;have hn:=EJ e.blocks.length (nxN (gnx e));obtain⟨l,hl⟩:∃l,rchL e.blocks.length (nxN (gnx e))=l:=⟨_,rfl⟩;have dy:∀x,x∈l↔x<e.blocks.length/\R0 (nxN (gnx e)) x:=λx=>by rw[<-hl,mem_rchL,rchB_iff]
 rw[hl]at hk hn;have hD:AZ e=pkE e l:=by rw[AZ,hl]
 rw[hD]at hp;have am:(pkE e l).blocks.length=l.length:=DC e l;have dq:j<l.length:=by rw[<-am];exact hp.bl
 have dm:m<l.length:=by rw[<-am];exact hp.nl
 have cO:∀i,(hi:i<l.length)->(Qt (pkE e l) i).jump=(Qt e l[i]).jump/\(Qt (pkE e l) i).ab.length=(Qt e l[i]).ab.length/\(Qt (pkE e l) i).next=(Qt e l[i]).next.map λv=>((l.idxOf v.toNat:Nat):Int):=λi hi=>by
  rw[AP (by rw[am];exact hi),Dt,<-EL ho hk hn (EK hk.lt) (Jb hi)];have hg:=(hk.get hi).1;rw[pkX,hg];exact⟨rfl,by simp[pkY],rfl⟩
 obtain⟨x,hx⟩:∃x,l[j]=x:=⟨_,rfl⟩;obtain⟨y,hy⟩:∃y,l[m]=y:=⟨_,rfl⟩;have eu:x<e.blocks.length:=by rw[<-hx];exact hk.lt _ (Jb dq)
 have fT:y<e.blocks.length:=by rw[<-hy];exact hk.lt _ (Jb dm)
 have xC:=cO j dq;have fC:=cO m dm;rw[hx]at xC;rw[hy]at fC;have nu:y≠x:=λh=>hp.ne ((List.getElem_inj hn).1 (hy.trans (h.trans hx.symm)));have cA:∀i,(hi:i<l.length)->∀v∈(Qt e l[i]).next,1<=v/\v.toNat∈l:=λi hi v hv=>by
  have cj:=hk.lt _ (Jb hi);refine⟨?_,hk.cl _ (Jb hi) v (by rw[Bq cj];exact hv)⟩;rw[AP cj]at hv;exact ((ho.bs _ cj).nx v hv).1
 have eC:(Qt e x).next=[(y:Int)]:=by
  have h1:=hp.nx;rw[xC.2.2]at h1;obtain⟨v,hv⟩:∃v,(Qt e x).next=[v]:=by
   match hh:(Qt e x).next with
   |[]=>rw[hh]at h1;simp at h1
   |[v]=>exact⟨v,rfl⟩
   |v::w::r=>rw[hh]at h1;simp at h1
  rw[hv]at h1⊢;have rF:v∈(Qt e l[j]).next:=by rw[hx,hv];simp
  obtain⟨v1,v2⟩:=cA j dq v rF;have h3:((l.idxOf v.toNat:Nat):Int)=(m:Int):=(List.cons.inj h1).1;have h4:l.idxOf v.toNat=m:=ZA
  have h5:l[l.idxOf v.toNat]'(Jar v2)=v.toNat:=List.getElem_idxOf _;have h6:y=v.toNat:=by
   rw[<-hy,<-h5];congr 1;exact h4.symm
  rw[h6];congr 1;omega
 have pG:0<y:=by
  have:=(cA j dq (y:Int) (by rw[hx,eC];simp)).1;omega
 have hsk:(skT e x).toNat=y:=by rw[skT,eC];simp
 refine SV hF eu ?_;rw[hsk];refine⟨eu,fT,nu,pG,by rw[<-xC.1];exact hp.j,eC,?_,λi hi f8=>?_⟩
 ·have:=fC.2.1;rw[hp.ph]at this;exact List.eq_nil_of_length_eq_zero this.symm
 ·rcases hs i hi with h1|h1
  ·have cj:=(dy i).2 ⟨hi,h1⟩;obtain⟨i',bN,pg⟩:=Jq.1 cj;have nW:=cO i' bN;rw[pg]at nW;have h3:i'=j:=by
    refine hp.pr i' (by rw[am];exact bN) ?_;rw[Bq (by rw[am];exact bN),nW.2.2];rw[Bq hi]at f8;refine Jk.2 ⟨_,f8,?_⟩;have h4:l.idxOf y=m:=Zaw;rw[Int.toNat_natCast,h4]
   subst h3;exact pg.symm.trans hx
  ·rw[h1]at f8;have f8:=Ja.1 f8;have f8:y=i:=ZA
   subst f8;have h3:m=j:=by
    refine hp.pr m (by rw[am];exact dm) ?_;rw[Bq (by rw[am];exact dm),fC.2.2,<-Bq hi,h1];have h4:l.idxOf y=m:=Zaw;simp[h4]
   exact absurd h3 hp.ne
theorem YW (ho:q.ok)(hs:JnOk (AZ q)){j m:Nat}:¬JnP (jnD q) j m:=λhp=>by
 have hb:=(hs.ok 0).b1;exact Qbo1 (hs.ok 160) (HY hs (VW ho) 160) (I4 hb) hp
theorem HZ (hs:JnOk q):∀i,AI (Nat.repeat jn1 i q)=AI q
 |0=>rfl
 |i+1=>by
  show AI (jn1 (Nat.repeat jn1 i q))=_;rw[<-HZ hs i,jn1,jnS]
  cases hF:jnF (Nat.repeat jn1 i q)with
  |none=>rfl
  |some p=>exact HI (jnF_ok.ok _ _ _ hF)
theorem VH (ho:q.ok)(hs:JnOk (AZ q)):AI (jnD q)<=AI q:=by
 have h1:AI (jnD q)<=AI (jnE (AZ q)):=FX (hs.ok 160).rchPk (EJ _ _);have h2:AI (AZ q)<=AI q:=FX ho.rchPk (EJ _ _);rw[jnE,HZ hs 160]at h1;omega
theorem Qbp2 (hg:AN cs=true):Bu jnD cs=cs.map jnD/\AN (cs.map jnD)=true/\D8 (Bu jnD cs)<=D8 cs/\∀i (h:i<cs.length) j m,¬JnP (jnD cs[i]) j m:=by
 have e:Bu jnD cs=cs.map jnD:=by rw[Bu,if_pos hg]
 have hd:=F7 hg;have hs:∀i (h:i<cs.length),JnOk (AZ cs[i]):=λi h=>by
  have:=Gh (GR hg) (k:=i) ZI
  rwa [Jt]at this
 refine⟨e,hd,?_,λi h j m=>YW (CE hg h) (hs i h)⟩;rw[e,D8,if_pos hd,D8,if_pos hg];have:=Mg (f:=jnD) (l:=cs) λc hc=>by
  obtain⟨i,hi,rfl⟩:=Jq.1 hc;exact VH (CE hg hi) (hs i hi)
 omega
end Go.AE.Y
namespace Go.AE.Y
open Go.Proofs.Tryz
def Qw7:=dZ 0x872103f002110e3
def Qff:=dY 0x9381e001
def Qfg:=dY 83503542321 Qff
def Qfh:=dY 5832785
def Qfi:=dY 88390885377 Qfh
def Qfj:=dY 0x137132f049f31b20b149f390114 Qfi
def Qfl:=dY 0x199681e001 P3
def Qfm:=dY 0x137132f069f31b20b199f890164 Qfl
def RH:=dY 0x3f2a04880f584800f0003f4a03c80f226
def Qew:=dY 0xfa0029f2f03a2f2
def Qsj:=dZ 0x87211012085703f6815760f4815760f000121f1f7805802871273 .skip Qew
def Qex:=dY 0x6b983e001
def Qey:=dY 0xebb85ecb00a2
def IZ:=dY 0x2f07da1f02af40f0af50f5e3
def Qsk:=dZ 0x872102f00211603
def Qsl:=dZ 0x960f0040031f403a104209af03f0af10f0f01af30f0af10fb84af20f983af60f002f0aca0f029540f09550f09510f009520f0459530f09510f0f019530f09510fb849520f09510f9829520f002f06a0138540fa88500f08510f0f018530f08510fb848520f001f02401b8223f1ff22f22f2 Qsk IZ
def Qsm:=dZ 0x40031f403901e03a9f1fab046120
def Qsn:=dZ 0x19090040031f00403b117004727532f0b9f0562453103c410342 Qsl Qey Qsm
def Qrk:=dZ 0x9023bb00040031f403a010443b11 Qsn
def Qso:=dZ 0x950240040031f403900f0050198223741 Qrk
def Qsp:=dZ 0x31f03502e0339f1f3b046220
def Qsq:=dZ 0x19090031f403615700332f099f036133335310142 Qso Qex Qsp
def Qrl:=dZ 0x90034b00031f036010443411 Qsq
def Qez:=dY 0x7e0029f0254672
def Qe0:=dY 0x1010ad3816564f662 Qez
def Qsr:=dZ 0x7211010ad649f3816659f4816633050403020102000706a2 .skip Qe0
def Qss:=dZ 0x190950040031f03500f00501480230412 Qrl [] Qsr
def Qst:=dZ 0x190927f0000361012083c03f6813c60f4813c60f000131f1f7805801b712 Qsj RH Qss
def Qsu:=dZ 0x900003510107d38161721 Qst Qfm
def Qsv:=dZ 0x9003310106d38161221 Qsu Qfj
def Qsw:=dZ 0x93110105d0800f21 Qsv Qfg
def Qsx:=dW 0x1909d02008f050800c312 [Qw7,Qsw] [] [cJ 14 .gtr 13 1048576]
def Q16:=dZ 0x90102f00211 Qsx
theorem Q07:mFn prog Qg8 1 104 Q16 A8=true:=ZE
end Go.AE.Y
