/- Part 2 of the proof: the engine, codes, walks and plain laws, each named where it stands. -/
import Derived.Test.YtlfdcfggpccakaaGreatDoorZA
import Derived.Test.YtlfdcfggpccakaaGreatDoorProg
open Nat (reduceEqDiff reduceAdd reduceLeDiff reduceLT)
set_option linter.unusedVariables false
set_option linter.unusedSimpArgs false
set_option maxRecDepth 4000
open Array renaming getElem?_eq_getElem->J9
open Bool renaming and_eq_true->Ju,not_eq_true'->Jam,true_and->Jaq
open Int renaming eq_ofNat_of_zero_le->Js,tmod_lt_of_pos->Jaj,tmod_nonneg->Jao
open List renaming mem_of_getElem?->Ja,mem_append_left->Jb,mem_append_right->Jc,mem_append->Jd,getD_eq_getElem?_getD->Je,nodup_append->Jf,mem_map->Jh,append_assoc->Ji,mem_singleton->Jj,map_append->Jk,mem_or_eq_of_mem_set->Jl,getElem?_eq_getElem->Jm,perm_append_comm->Jn,nil_append->Jo,mem_cons->Jp,getElem?_eq_some_iff->Jq,mem_cons_of_mem->Jr,length_eq_zero_iff->Jt,cons_append->Jv,take_of_length_le->Jw,mem_cons_self->Jx,all_cons->Jy,map_cons->Jz,getElem_mem->J0,length_map->J1,getElem?_set->J2,all_nil->J3,map_nil->J4,map_set->J5,getElem_set->J6,not_mem_nil->J7,map_eq_nil_iff->J8,drop_zero->Jaa,pairwise_iff_getElem->Jab,ext_getElem->Jac,length_eq_one_iff->Jad,append_nil->Jae,contains_iff_mem->Jaf,length_nil->Jag,length_singleton->Jah,flatMap_append->Jai,getElem?_drop->Jak,set_cons_zero->Jal,count_cons->Jap
open Nat renaming zero_add->Jan,le_refl->Jas,zero_le->Jat
open Option.some renaming injEq->Jg
open Prod.mk renaming injEq->Jar
namespace Go.AE
variable {P:Program}{H:Heap}{g:G}{w:World}{e:Env}{a:Act}
theorem Qbdz {c:Code}{Q:Exit→Act→World→Prop}(I:Nat→Act→World→Prop)(h₀:∃n,I n a w)
  (round:∀n a w,I n a w→c.wp P (Exit.then (fun a' w'=>∃m,m<n∧I m a' w') Q) a w):(Code.loop c).wp P Q a w:=by
 intro b k cs;have key:∀n a w,I n a w→∃e a' w',Q e a' w'∧Arrives P (lone (b.at a (.code c::.inLoop c::k)) cs w) b k cs e a' w':=by
  intro n
  induction n using Nat.strongRecOn with
  |_ n ih=>
   intro a w hI;obtain⟨e,a₁,w₁,hq,harr⟩:=round n a w hI b (.inLoop c::k) cs
   cases e with
   |normal=>
    obtain⟨m,hlt,hI₁⟩:=hq;obtain⟨e₂,a₂,w₂,hq₂,harr₂⟩:=ih m hlt a₁ w₁ hI₁;exact⟨e₂,a₂,w₂,hq₂,.of_steps (Steps.trans harr (.one step_inLoop)) harr₂⟩
   |exit id=>exact⟨_,a₁,w₁,hq,.pass (x:=.inLoop c) rfl (fun _ _=>.inl (by simp)) harr⟩
   |goto l=>exact⟨_,a₁,w₁,hq,.pass (x:=.inLoop c) rfl (fun _ _=>.inl (by simp)) harr⟩
   |ret=>exact⟨_,a₁,w₁,hq,.pass (x:=.inLoop c) rfl (fun _ _=>.inl (by simp)) harr⟩
   |panic ch=>exact⟨_,a₁,w₁,hq,.pass (x:=.inLoop c) rfl (fun _ _=>.inl (by simp)) harr⟩
   |outgrown=>exact⟨_,a₁,w₁,hq,.pass (x:=.inLoop c) rfl (fun _ _=>.inl (by simp)) harr⟩
 obtain⟨n,hn⟩:=h₀;obtain⟨e,a',w',hq,harr⟩:=key n a w hn;exact⟨e,a',w',hq,.of_steps (.one step_loop) harr⟩
def xm:Exit→Option X
 |.normal=>some .nrm
 |.exit id=>some (.exit id)
 |.ret=>some .ret
 |.panic [{ v:=v,recovered:=false,goexit:=false }]=>some (.pan v)
 |_=>none
theorem Qa9v {ch:List PanicEntry}{x:X}(h:xm (.panic ch)=some x):∃v,x=.pan v∧ch=[{ v:=v,recovered:=false }]:=by
 unfold xm at h;split at h <;> simp_all
def Qbd4 (n:Nat)(H:Heap)(g:G)(w:World)(Q:X→Env→Heap→Prop)(x:Exit)(a:Act)(w':World):Prop:=
 ∃x',xm x=some x'∧Post n H g w (Q x') a w'
def mC (P:Program)(n:Nat):Code→SC→Bool
 |c,.seq .gh s=>mC P n c s
 |.skip,.skip=>true
 |.region _ ops false,.reg its _=>mIts P n ops 0 its
 |.region _ ops true,.dreg fa ord its _=>Qbqb P n ops fa ord its
 |.seq c d,.seq s t=>mC P n c s&&mC P n d t
 |.cond x c d,.cond y s t=>mO y x&&mC P n c s&&mC P n d t
 |.block i c,.block j s=>i == j&&mC P n c s
 |.loop c,.loop s=>mC P n c s
 |.exit i,.exit j=>i == j
 |.ret,.ret=>true
 |_,_=>false
theorem Qbjp {ks:List Nat}(h:EnvOk w g e a):EnvOk w g (trim ks e) a:=by
 intro t;unfold trim
 induction ks with
 |nil=>exact .unk _
 |cons k ks ih=>
  simp only[Jz,lk];split
  ·rename_i ht;subst ht;exact h t
  ·exact ih
theorem Post.trans {n:Nat}{H':Heap}{g':G}{w' w'':World}{K:Env→Heap→Prop}(h:Stp H g w H' g' w')(k:Post n H' g' w' K a w''):Post n H g w K a w'':=by
 obtain⟨e2,H2,g2,k1,k2,k3,k4,k5⟩:=k;exact⟨e2,H2,g2,k1,h.trans k2,k3,k4,k5⟩
theorem Qa99 (Qaj:P.follows .mixedOrders=true){n:Nat}:∀(s:SC) (c:Code) (Q:X→Env→Heap→Prop) (e:Env) (H:Heap),mC P n c s=true→Qah P s Q e H→
  ∀(g:G) (w:World) (a:Act),Sat H g w→EnvOk w g e a→a.defers=[]→a.tmps.size=n→c.wp P (Qbd4 n H g w Q) a w:=by
 intro s
 induction s with
 |skip=>
  intro c Q e H hm hc g w a hs he hd hn;cases c <;> simp[mC]at hm;exact wp_skip ⟨.nrm,rfl,e,H,g,hc,.refl hs,he,hd,hn⟩
 |reg its keep=>
  intro c Q e H hm hc g w a hs he hd hn
  cases c with
  |region id ops dr'=>
   cases dr' with
   |true=>simp[mC]at hm
   |false=>
    simp only[mC]at hm;simp only[Qah]at hc;have hQ:∀a' w',Post n H g w (fun e' H'=>Q .nrm (trim keep e') H') a' w'→Qbd4 n H g w Q .normal a' w':=by
     rintro a' w' ⟨e2,H2,g2,k1,k2,k3,k4,k5⟩;exact⟨.nrm,rfl,_,H2,g2,k1,k2,Qbjp k3,k4,k5⟩
    have hP:∀v a' w',Post n H g w (fun _ H'=>X.panK Q v H') a' w'→Qbd4 n H g w Q (.panic [{ v:=v,recovered:=false }]) a' w':=by
     rintro v a' w' ⟨e2,H2,g2,k1,k2,k3,k4,k5⟩;exact⟨.pan v,rfl,[],H2,g2,k1,k2,fun t=>.unk _,k4,k5⟩
    have hl:=Qa8z its 0 hm;refine wp_region ?_;rw[List.range_eq_range',←hl,Jan];exact Q3m hQ hP its 0 e H g w a hm (.refl hs) he hn hd hc
  |_=>simp[mC]at hm
 |dreg fa ord its keep=>
  intro c Q e H hm hc g w a hs he hd hn
  cases c with
  |region id ops dr'=>
   cases dr' with
   |false=>simp[mC]at hm
   |true=>
    simp only[mC]at hm;simp only[Qah]at hc;have hQ:∀a' w',Post n H g w (fun e' H'=>Q .nrm (trim keep e') H') a' w'→Qbd4 n H g w Q .normal a' w':=by
     rintro a' w' ⟨e2,H2,g2,k1,k2,k3,k4,k5⟩;exact⟨.nrm,rfl,_,H2,g2,k1,k2,Qbjp k3,k4,k5⟩
    have hP:∀v a' w',Post n H g w (fun _ H'=>X.panK Q v H') a' w'→Qbd4 n H g w Q (.panic [{ v:=v,recovered:=false }]) a' w':=by
     rintro v a' w' ⟨e2,H2,g2,k1,k2,k3,k4,k5⟩;exact⟨.pan v,rfl,[],H2,g2,k1,k2,fun t=>.unk _,k4,k5⟩
    exact Qbab Qaj hm hs he hn hd hc hQ hP
  |_=>simp[mC]at hm
 |seq s t ihs iht=>
  intro c Q e H hm hc g w a hs he hd hn;by_cases hg:s=.gh
  ·subst hg;have hm':mC P n c t=true:=by simpa[mC]using hm
   simp only[Qah]at hc;obtain⟨e1,H1,h1,h2⟩:=hc;obtain⟨g1,k1,k2⟩:=h1 g w (fun t=>a.tmps.getD t undef) hs he;refine wp_mono (iht c Q e1 H1 hm' h2 g1 w a k1.sat k2 hd hn) ?_;rintro x a' w' ⟨x',q1,q2⟩;exact⟨x',q1,q2.trans k1⟩
  ·cases c with
   |seq c d=>
    have hm':mC P n c s=true∧mC P n d t=true:=by
     cases s <;> first|(exact absurd rfl hg)|simpa[mC]using hm
    simp only[Qah]at hc;refine wp_seq (wp_mono (ihs c _ e H hm'.1 hc g w a hs he hd hn) ?_);rintro x a' w' ⟨x',q1,e2,H2,g2,k1,k2,k3,k4,k5⟩
    cases x with
    |normal=>
     simp only[xm,Jg]at q1;subst q1;refine wp_mono (iht d Q e2 H2 hm'.2 k1 g2 w' a' k2.sat k3 k4 k5) ?_;rintro x2 a2 w2 ⟨x2',r1,r2⟩;exact⟨x2',r1,r2.trans k2⟩
    |exit id=>
     simp only[xm,Jg]at q1;subst q1;exact⟨_,rfl,e2,H2,g2,k1,k2,k3,k4,k5⟩
    |ret=>
     simp only[xm,Jg]at q1;subst q1;exact⟨_,rfl,e2,H2,g2,k1,k2,k3,k4,k5⟩
    |panic ch=>
     obtain⟨v,rfl,rfl⟩:=Qa9v q1;exact⟨_,rfl,e2,H2,g2,k1,k2,k3,k4,k5⟩
    |_=>simp[xm]at q1
   |_=>cases s <;> first|(exact absurd rfl hg)|simp[mC]at hm
 |cond y s t ihs iht=>
  intro c Q e H hm hc g w a hs he hd hn;cases c <;> simp[mC]at hm
  rename_i x c d
  obtain⟨⟨h1,h2⟩,h3⟩:=hm;simp only[Qah]at hc;obtain⟨b,k1,k2,k3⟩:=hc;have hr:=Qboh he h1;rw[k1]at hr;have hb:=hr.c_inv.bool_inv;exact wp_cond_split hb (fun hbt=>ihs c Q e H h2 (k2 hbt) g w a hs he hd hn) (fun hbt=>iht d Q e H h3 (k3 hbt) g w a hs he hd hn)
 |block id s ih=>
  intro c Q e H hm hc g w a hs he hd hn;cases c <;> simp[mC]at hm
  rename_i id' c
  obtain⟨rfl,h2⟩:=hm;simp only[Qah]at hc;refine wp_block (wp_mono (ih c _ e H h2 hc g w a hs he hd hn) ?_);rintro x a' w' ⟨x',q1,e2,H2,g2,k1,k2⟩
  cases x with
  |normal=>
   simp only[xm,Jg]at q1;subst q1;exact⟨.nrm,rfl,e2,H2,g2,k1,k2⟩
  |exit id2=>
   simp only[xm,Jg]at q1;subst q1;simp only[X.inBlock]at k1;simp only[Exit.inBlock];split
   ·rename_i h;subst h;rw[if_pos rfl]at k1;exact⟨.nrm,rfl,e2,H2,g2,k1,k2⟩
   ·rename_i h;rw[if_neg h]at k1;exact⟨.exit id2,rfl,e2,H2,g2,k1,k2⟩
  |ret=>
   simp only[xm,Jg]at q1;subst q1;exact⟨.ret,rfl,e2,H2,g2,k1,k2⟩
  |panic ch=>
   obtain⟨v,rfl,rfl⟩:=Qa9v q1;exact⟨.pan v,rfl,e2,H2,g2,k1,k2⟩
  |_=>simp[xm]at q1
 |loop s ih=>
  intro c Q e H hm hc g w a hs he hd hn;cases c <;> simp[mC]at hm
  rename_i c
  simp only[Qah]at hc;obtain⟨I,⟨m0,h0⟩,hround⟩:=hc;refine Qbdz (fun m a' w'=>Post n H g w (I m) a' w') ⟨m0,e,H,g,h0,.refl hs,he,hd,hn⟩ ?_;rintro m a1 w1 ⟨e1,H1,g1,k1,k2,k3,k4,k5⟩;refine wp_mono (ih c _ e1 H1 hm (hround m e1 H1 k1) g1 w1 a1 k2.sat k3 k4 k5) ?_;rintro x a' w' ⟨x',q1,e2,H2,g2,r1,r2,r3,r4,r5⟩
  cases x with
  |normal=>
   simp only[xm,Jg]at q1;subst q1;obtain⟨m',hlt,hI⟩:=r1;exact⟨m',hlt,e2,H2,g2,hI,k2.trans r2,r3,r4,r5⟩
  |exit id=>
   simp only[xm,Jg]at q1;subst q1;exact⟨_,rfl,e2,H2,g2,r1,k2.trans r2,r3,r4,r5⟩
  |ret=>
   simp only[xm,Jg]at q1;subst q1;exact⟨_,rfl,e2,H2,g2,r1,k2.trans r2,r3,r4,r5⟩
  |panic ch=>
   obtain⟨v,rfl,rfl⟩:=Qa9v q1;exact⟨_,rfl,e2,H2,g2,r1,k2.trans r2,r3,r4,r5⟩
  |_=>simp[xm]at q1
 |exit id=>
  intro c Q e H hm hc g w a hs he hd hn;cases c <;> simp[mC]at hm;subst hm;exact wp_exit ⟨.exit _,rfl,e,H,g,hc,.refl hs,he,hd,hn⟩
 |ret=>
  intro c Q e H hm hc g w a hs he hd hn;cases c <;> simp[mC]at hm;exact wp_ret ⟨.ret,rfl,e,H,g,hc,.refl hs,he,hd,hn⟩
 |gh=>
  intro c Q e H hm hc g w a hs he hd hn;cases c <;> simp[mC]at hm
def mR (P:Program):ResultVar→RS→Bool
 |.tmp t,.tmp t'=>t == t'
 |.cell t ty,.cell t' n agg=>t == t'&&Qa1b P ty n agg
 |_,_=>false
def mRs (P:Program):List ResultVar→List RS→Bool
 |[],[]=>true
 |x::r,y::s=>mR P x y&&mRs P r s
 |_,_=>false
def mFn (P:Program)(f:FuncId)(nargs n:Nat)(s:SC)(rs:List RS):Bool:=
 fnOk P f&&(match P.funcs[f]? with
  |some fn=>(match fn.body with
   |some c=>fn.ntmps == n&&decide (nargs≤n)&&mC P n c s&&mRs P fn.results.toList rs
   |none=>false)
  |none=>false)
theorem Qbse {n:Nat}{x:ResultVar}{y:RS}(hm:mR P x y=true)(hs:Sat H g w)(he:EnvOk w g e a)(ho:y.op.obl true e H) :
  ∃v,(match x with
   |.tmp t=>(pure (a.tmps.getD t undef):Sem Value)
   |.cell t ty=>do loadVar ty (←asAddr (a.tmps.getD t undef))).run P w=.ok v w∧RepV w g (y.op.val e H) v:=by
 cases x with
 |tmp t=>
  cases y with
  |tmp t'=>
   simp[mR]at hm;subst hm;have hr:=Qay (x:=.t t) (y:=.tmp t) he (by simp[mO]) rfl ho;exact⟨a.tmps.getD t undef,rfl,hr⟩
  |cell=>simp[mR]at hm
 |cell t ty=>
  cases y with
  |tmp=>simp[mR]at hm
  |cell t' n agg=>
   simp only[mR,Ju,beq_iff_eq]at hm;obtain⟨rfl,h2⟩:=hm;obtain⟨d,i,k1,k2,k3,k4,k5⟩:=Qka h2;obtain ⟨v, w', g', r1, r2, r3, _⟩ := s_ld (o := { dst := none, op := .load ty (.tmp t), type := 0, pos := "", after := #[], guard := none }) (x := .t t) (x' := .tmp t) rfl k1 k2 k3 k4 k5 (by simp [mO]) hs he rfl ho
   simp only[RS.op,FOp.obl]at ho;obtain⟨o1,o2,o3,o4,o5⟩:=ho;have hrr:=Qay (x:=.t t) (y:=.tmp t) he (by simp[mO]) rfl o1;rw[Qip o2]at hrr;obtain⟨b,q,hv,_⟩:=Qak9 hs hrr.c_inv o3;have hv':a.tmps.getD t undef=.pointer (some ⟨b,q,none⟩):=hv;have hcell := Qazq (P := P) (o := { dst := none, op := .load ty (.tmp t), type := 0, pos := "", after := #[], guard := none }) (x := .t t) (x' := .tmp t) rfl k1 k2 k3 k4 k5 (by simp [mO]) hs he rfl ⟨o1, o2, o3, o4, o5⟩
   obtain⟨v2,q1,q2⟩:=hcell;refine⟨v2,?_,q2⟩;simp only[execOp,Instr.loadAt,Act.eval,hv',Instr.sureAddr,Sem.run_bind,Sem.run_pure,Result.andThen_ok]at q1;simp only[hv',asAddr,Sem.run_bind,Sem.run_pure,Result.andThen_ok]
   cases hl:(loadVar ty ⟨b,q,none⟩).run P w with
   |ok u w2=>rw[hl]at q1;simp at q1;obtain⟨rfl,rfl⟩:=q1;rfl
   |halt h w2=>rw[hl]at q1;simp at q1
def rRun (tmps:Array Value):ResultVar→Sem Value
 |.tmp t=>pure (tmps.getD t undef)
 |.cell a t=>do loadVar t (←asAddr (tmps.getD a undef))
theorem Qa1z {P:Program}{w:World}{tmps:Array Value}:∀(l:List ResultVar) (vs:List Value),l.length=vs.length→
  (∀(j:Nat) (x:ResultVar) (v:Value),l[j]? = some x→vs[j]? = some v→(rRun tmps x).run P w=.ok v w)→(l.mapM (rRun tmps)).run P w=.ok vs w:=by
 intro l
 induction l with
 |nil=>intro vs hl _;cases vs with
  |nil=>simp
  |cons=>simp at hl
 |cons x r ih=>
  intro vs hl h
  cases vs with
  |nil=>simp at hl
  |cons v vs=>
   have h0:=h 0 x v rfl rfl;have ih':=ih vs (by simpa using hl) fun j y u h1 h2=>h (j+1) y u (by simpa using h1) (by simpa using h2);simp only[List.mapM_cons,Sem.run_bind,h0,Result.andThen_ok,ih',Sem.run_pure]
theorem Qbqc {n:Nat}:∀(l:List ResultVar) (rs:List RS),mRs P l rs=true→Sat H g w→EnvOk w g e a→(∀r∈rs,r.op.obl true e H)→
  ∃vs:List Value,l.length=vs.length∧vs.length=rs.length∧(∀(j:Nat) (x:ResultVar) (v:Value),l[j]? = some x→vs[j]? = some v→(rRun a.tmps x).run P w=.ok v w)∧
   (∀(j:Nat) (x:V) (u:Value),(rs.map fun r=>r.op.val e H)[j]? = some x→vs[j]? = some u→RepV w g x u):=by
 intro l
 induction l with
 |nil=>
  intro rs hm hs he ho
  cases rs with
  |nil=>exact⟨[],rfl,rfl,by simp,by simp⟩
  |cons=>simp[mRs]at hm
 |cons x r ih=>
  intro rs hm hs he ho
  cases rs with
  |nil=>simp[mRs]at hm
  |cons y rs=>
   simp only[mRs,Ju]at hm;obtain⟨v,h1,h2⟩:=Qbse (n:=n) hm.1 hs he (ho y (by simp));obtain⟨vs,k1,k2,k3,k4⟩:=ih rs hm.2 hs he fun z hz=>ho z (by simp[hz]);refine⟨v::vs,by simp[k1],by simp[k2],?_,?_⟩
   ·intro j z u hz hu
    cases j with
    |zero=>
     simp at hz hu;subst hz;subst hu;exact h1
    |succ j=>exact k3 j z u (by simpa using hz) (by simpa using hu)
   ·intro j z u hz hu
    cases j with
    |zero=>
     simp at hz hu;subst hz;subst hu;exact h2
    |succ j=>exact k4 j z u (by simpa using hz) (by simpa using hu)
theorem Qbbi {fn:Func}{rs:List RS}(hm:mRs P fn.results.toList rs=true)(hs:Sat H g w)(he:EnvOk w g e a){K:V→Heap→Prop}(ho:Qab rs e H K) :
  ∃v x,(results fn a.tmps).run P w=.ok v w∧K x H∧RepV w g x v:=by
 obtain⟨h1,h2⟩:=ho;obtain⟨vs,k1,k2,k3,k4⟩:=Qbqc (n:=0) _ _ hm hs he h1;have hr:=Qa1z (P:=P) (w:=w) (tmps:=a.tmps) _ _ k1 k3;have hrun:(results fn a.tmps).run P w=.ok (if h:vs.toArray.size=1 then vs.toArray[0]else .tuple vs.toArray) w:=by
  have:results fn a.tmps=(do let vs ←fn.results.mapM (rRun a.tmps);pure (if h:vs.size=1 then vs[0]else .tuple vs)):=by
   unfold results;rfl
  rw[this,Array.mapM_eq_mapM_toList];simp only[Sem.run_bind,Sem.run_map,hr,Result.andThen_ok,Sem.run_pure]
 by_cases hl:vs.length=1
 ·obtain⟨v,rfl⟩:∃v,vs=[v]:=Jad.mp hl;obtain⟨r,rfl⟩:∃r,rs=[r]:=Jad.mp (by omega);exact⟨v,_,by simpa using hrun,h2,k4 0 _ v (by simp) rfl⟩
 ·have hsz:¬vs.toArray.size=1:=by simpa using hl
  rw[dif_neg hsz]at hrun;refine⟨_,.tup (rs.map fun r=>r.op.val e H),hrun,?_,.tup _ _ (by simp[k2]) k4⟩;split at h2
  ·rename_i r;simp at k2;omega
  ·exact h2
def Q3 (rs:List RS)(K:V→Heap→Prop):X→Env→Heap→Prop
 |.nrm,e,H=>Qab rs e H K
 |.ret,e,H=>Qab rs e H K
 |.exit _,_,_=>False
 |.pan v,_,H=>K (.pn v) H
theorem Qbro:∀(args:List V) (i t:Nat),lk t (zipE i args)=if i≤t then args.getD (t-i) .unk else .unk:=by
 intro args
 induction args with
 |nil=>intro i t;simp[zipE,lk]
 |cons v r ih=>
  intro i t;simp only[zipE,lk,ih];split
  ·rename_i h;subst h;simp
  ·rename_i h
   split
   ·rw[if_pos (by omega)];have:t-i=(t-(i+1))+1:=(by omega);rw[this];simp
   ·rw[if_neg (by omega)]
theorem Qc (Qaj:P.follows .mixedOrders=true){f n:Nat}{s:SC}{rs:List RS}{args:List V}{H:Heap}{K:V→Heap→Prop}
  (hm:mFn P f args.length n s rs=true) (hc:Qah P s (Q3 rs K) (zipE 0 args) H):Qs P f args H K:=by
 simp only[mFn,Ju]at hm;obtain⟨hok,hm⟩:=hm;refine⟨hok,?_⟩;intro g w vs hs hl hv
 cases hf:P.funcs[f]? with
 |none=>rw[hf]at hm;simp at hm
 |some fn=>
  rw[hf]at hm;simp only at hm
  cases hb:fn.body with
  |none=>rw[hb]at hm;simp at hm
  |some c=>
   rw[hb]at hm;simp only[Ju,beq_iff_eq,decide_eq_true_eq]at hm;obtain⟨⟨⟨h1,h2⟩,h3⟩,h4⟩:=hm;refine calls_of_wp hf hb ?_;have he:EnvOk w g (zipE 0 args) { tmps:=vs.toArray++Array.replicate (fn.ntmps-vs.toArray.size) undef,defers:=[] }:=by
    intro t;rw[Qbro,if_pos (Jat _),Nat.sub_zero];by_cases ht:t<args.length
    ·have ht':t<vs.length:=(by omega);have hg:(vs.toArray++Array.replicate (fn.ntmps-vs.toArray.size) undef).getD t undef=vs[t]:=by
      simp[Array.getD,ht',Array.getElem_append];intro h;omega
     rw[hg];exact hv t _ _ (by rw[Je,Jm ht];rfl) (Jm ht')
    ·rw[Je,List.getElem?_eq_none (by omega)];exact .unk _
   refine wp_mono (Qa99 Qaj s c _ (zipE 0 args) H h3 hc g w _ hs he rfl (by simp;omega)) ?_;rintro x a' w' ⟨x',q1,e2,H2,g2,k1,k2,k3,k4,k5⟩;have key:Qab rs e2 H2 K→a'.defers=[]∧∃v,(results fn a'.tmps).run P w'=.ok v w'∧((∃v' x H' g',Ending.returned v=.returned v'∧K x H'∧Stp H g w H' g' w'∧RepV w' g' x v')∨(∃v' H' g',Ending.returned v=.panicked [{ v:=v',recovered:=false }]∧K (.pn v') H'∧Stp H g w H' g' w')):=by
    intro hret;obtain⟨v,x,r1,r2,r3⟩:=Qbbi h4 k2.sat k3 hret;exact⟨k4,v,r1,.inl ⟨v,x,H2,g2,rfl,r2,k2,r3⟩⟩
   cases x with
   |normal=>
    simp only[xm,Jg]at q1;subst q1;exact key k1
   |ret=>
    simp only[xm,Jg]at q1;subst q1;exact key k1
   |exit id=>
    simp only[xm,Jg]at q1;subst q1;exact k1.elim
   |panic ch=>
    obtain⟨v,rfl,rfl⟩:=Qa9v q1;exact⟨k4,.inr ⟨v,H2,g2,rfl,k1,k2⟩⟩
   |_=>simp[xm]at q1
end Go.AE
namespace Go.AE
variable {P:Program}{H:Heap}{e:Env}
def X.sq (P:Program)(b:SC)(Q:X→Env→Heap→Prop):X→Env→Heap→Prop:=X.next (Qah P b Q) Q
theorem Qbq9 {KP:Value→Heap→Prop}{K:V→Heap→Prop}{x:C}:Qa0b KP K (.c x) H=K (.c x) H:=rfl
theorem Qbnt {KP:Value→Heap→Prop}{K:V→Heap→Prop}{x:List C}:Qa0b KP K (.ag x) H=K (.ag x) H:=rfl
theorem Qa0c {KP:Value→Heap→Prop}{K:V→Heap→Prop}{x:List V}:Qa0b KP K (.tup x) H=K (.tup x) H:=rfl
theorem Qbjf {KP:Value→Heap→Prop}{K:V→Heap→Prop}:Qa0b KP K .unk H=K .unk H:=rfl
theorem Qbnu {KP:Value→Heap→Prop}{K:V→Heap→Prop}{v:Value}:Qa0b KP K (.pn v) H=KP v H:=rfl
theorem Qbsy {b:SC}{Q:X→Env→Heap→Prop}:X.sq P b Q .nrm e H=Qah P b Q e H:=rfl
theorem Qbs0 {b:SC}{Q:X→Env→Heap→Prop}:X.sq P b Q .ret e H=Q .ret e H:=rfl
theorem Qbq4 {b:SC}{Q:X→Env→Heap→Prop}{i:Nat}:X.sq P b Q (.exit i) e H=Q (.exit i) e H:=rfl
theorem Qbr7 {i:Nat}{Q:X→Env→Heap→Prop}:X.inBlock i Q .nrm e H=Q .nrm e H:=rfl
theorem Qbr9 {i:Nat}{Q:X→Env→Heap→Prop}:X.inBlock i Q .ret e H=Q .ret e H:=rfl
theorem Qbpq {i:Nat}{Q:X→Env→Heap→Prop}:X.inBlock i Q (.exit i) e H=Q .nrm e H:=by simp[X.inBlock]
theorem Qbks {i j:Nat}{Q:X→Env→Heap→Prop}(h:(j == i)=false):X.inBlock i Q (.exit j) e H=Q (.exit j) e H:=by
 have:j≠i:=by simpa using h
 simp[X.inBlock,this]
theorem Qh {a b:SC}{Q:X→Env→Heap→Prop}(h:Qah P a (X.sq P b Q) e H):Qah P (.seq a b) Q e H:=h
theorem Qbgw {K K':Env→Heap→Prop}{Q:X→Env→Heap→Prop}:X.next K (X.next K' Q)=X.next K Q:=by
 funext x e H
 cases x <;> rfl
theorem Qy {a b c:SC}{Q:X→Env→Heap→Prop}(h:Qah P (.seq a (.seq b c)) Q e H):Qah P (.seq (.seq a b) c) Q e H:=by
 simp only[Qah]at h⊢;rw[Qbgw];exact h
theorem Qq {its:List Item}{keep:List Nat}{Q:X→Env→Heap→Prop}(h:regT P its e H (X.panK Q) fun e' H'=>Q .nrm (trim keep e') H'):Qah P (.reg its keep) Q e H:=h
theorem Qa2 {fa:Nat}{ord:List Nat}{its:List Item}{keep:List Nat}{Q:X→Env→Heap→Prop}(h:Qop P its e H (X.panK Q) fun e' H'=>Q .nrm (trim keep e') H'):Qah P (.dreg fa ord its keep) Q e H:=h
theorem Qa {its:List Item}{keep:List Nat}{b:SC}{Q:X→Env→Heap→Prop}(h:regT P its e H (X.panK Q) fun e' H'=>Qah P b Q (trim keep e') H'):Qah P (.seq (.reg its keep) b) Q e H:=h
theorem Qag {fa:Nat}{ord:List Nat}{its:List Item}{keep:List Nat}{b:SC}{Q:X→Env→Heap→Prop}(h:Qop P its e H (X.panK Q) fun e' H'=>Qah P b Q (trim keep e') H'):Qah P (.seq (.dreg fa ord its keep) b) Q e H:=h
theorem Qe {t:Opd}{a b:SC}{Q:X→Env→Heap→Prop}{c:Bool}(hc:t.raw e=.c (.bool c))(h1:c=true→Qah P a Q e H)(h2:c=false→Qah P b Q e H):Qah P (.cond t a b) Q e H:=⟨c,hc,h1,h2⟩
theorem Qf {i:Nat}{a:SC}{Q:X→Env→Heap→Prop}(h:Qah P a (X.inBlock i Q) e H):Qah P (.block i a) Q e H:=h
theorem Qv {i:Nat}{Q:X→Env→Heap→Prop}(h:Q (.exit i) e H):Qah P (.exit i) Q e H:=h
theorem Qk {Q:X→Env→Heap→Prop}(h:Q .ret e H):Qah P .ret Q e H:=h
theorem Qi {Q:X→Env→Heap→Prop}(h:Q .nrm e H):Qah P .skip Q e H:=h
theorem Qw {a:SC}{Q:X→Env→Heap→Prop}(I:Nat→Env→Heap→Prop)(n:Nat)(h0:I n e H)
  (h:∀n e1 H1,I n e1 H1→Qah P a (X.next (fun e2 H2=>∃m,m<n∧I m e2 H2) Q) e1 H1):Qah P (.loop a) Q e H:=⟨I,⟨n,h0⟩,h⟩
theorem Qbkm {e:Env}:gdO e none=True:=rfl
theorem Qbkl {e:Env}:gdB e none=true:=rfl
theorem Qbkn {p:Bool}{v:V}:gdV none p v=v:=rfl
theorem Qbko {p:Bool}{v:V}{x:Nat×Bool}:gdV (some x) p v=.gd p v:=rfl
theorem Qbn0 {e:Env}:trim [] e=[]:=rfl
theorem Qbjo {k:Nat}{ks:List Nat}{e:Env}:trim (k::ks) e=(k,lk k e)::trim ks e:=rfl
theorem Qbn1 {a:Prop}:(true=true→a)=a:=by simp
theorem Qbev {a:Prop}:(false=true→a)=True:=by simp
theorem Qbjq {a:Prop}:(true=false→a)=True:=by simp
theorem Qbaf {a:Prop}:(false=false→a)=a:=by simp
theorem Qbtf {a:Prop}:(a∧True)=a:=by simp
theorem Qbuf {a:Prop}:(True∧a)=a:=by simp
theorem Qbug {a:Prop}:(True→a)=a:=by simp
theorem Qbtk {a:Prop}:(a→True)=True:=by simp
theorem b_f {b:Bool}:(b == false) = !b:=by cases b <;> rfl
theorem b_t {b:Bool}:(b == true)=b:=by cases b <;> rfl
theorem Qbku {a:Prop}:(a→a)=True:=by simp
theorem Qbe4 {a b:Prop}:(a→b→a)=True:=propext ⟨fun _=>trivial,fun _ h _=>h⟩
theorem Qbe5 {a b:Prop}:(a→a∧b)=(a→b):=propext ⟨fun h x=>(h x).2,fun h x=>⟨x,h x⟩⟩
theorem Qbpr {a b:Prop}:(a→a→b)=(a→b):=by simp
theorem Qa1r {α:Type}{p:α→Prop}:(∀x∈([]:List α),p x)=True:=by simp
def Qa0e (H:Heap)(p:C)(vs:List C)(K:V→Heap→Prop):Prop:=
 match p with
 |.ptr l k=>match H l with
  |.st cells=>k+vs.length≤cells.length∧∀H',H'=H.set l (.st (Qwj cells k vs))→K .unk H'
  |_=>False
 |.ep (.vsl l sz st n) z i k=>match H l with
  |.vec y rows=>y=sz∧z=sz∧i<n∧st+n≤rows.length∧k+vs.length≤sz∧
    ∀H',H'=H.set l (.vec sz (rows.set (st+i) (Qwj (rows.getD (st+i) []) k vs)))→K .unk H'
  |_=>False
 |_=>False
def appQ (H:Heap)(sz:Nat)(a b:C)(K:V→Heap→Prop):Prop:=
 okSl H b∧b.elemSz=sz∧match a with
 |.sl true z rows=>z=sz∧(rows=[]∨rowsOf H b≠[])∧(∀r∈rows++rowsOf H b,noOw r=true)∧rows.length+lenC b≤LIM∧
   ∀l,H l=.none→∀H',H'=H.set l (.vec sz (rows++rowsOf H b))→K (.c (.vsl l sz 0 (rows.length+lenC b))) H'
 |.vsl l z st n=>match H l with
  |.vec y rows=>z=sz∧y=sz∧st+n≤rows.length∧(∀r∈rowsOf H b,noOw r=true)∧n+lenC b≤LIM∧
    ∀l',(H.set l .none) l'=.none→∀H',H'=(H.set l .none).set l' (.vec sz ((rows.drop st).take n++rowsOf H b))→
     K (.c (.vsl l' sz 0 (n+lenC b))) H'
  |_=>False
 |_=>False
def updQ (H:Heap)(tag:Nat)(m k:C)(v:V)(K:V→Heap→Prop):Prop:=
 match m with
 |.mp l=>match H l with
  |.map n es=>Qast tag k es∧es.length+1≤LIM∧∀H',H'=H.set l (.map (n+1) (updE k v es))→K .unk H'
  |_=>False
 |_=>False
def delQ (H:Heap)(tag:Nat)(m k:C)(K:V→Heap→Prop):Prop:=
 match m with
 |.mp l=>match H l with
  |.map n es=>Qast tag k es∧∀H',H'=H.set l (.map (n+1) (delE k es))→K .unk H'
  |_=>False
 |.mnil=>Qast tag k []∧K .unk H
 |_=>False
theorem Qa3 {α:Type}{a:α}{p:α→Prop}:(∀x,x=a→p x)=p a:=propext ⟨fun h=>h a rfl,fun h x hx=>hx▸h⟩
section
variable {p:Bool}{K:V→Heap→Prop}
theorem Qbjh {a:C}{vs:List C}:Qagw H a vs K=Qa0e H a vs K:=by
 cases a with
 |ptr l k=>simp only[Qagw,Qa0e];cases hh:H l <;> simp only[hh,Qa3]
 |ep s z i k=>
  cases s with
  |vsl l sz st n=>simp only[Qagw,Qa0e];cases hh:H l <;> simp only[hh,Qa3]
  |_=>rfl
 |_=>rfl
theorem Qbou {sz:Nat}{a b:C}:appT H sz a b K=appQ H sz a b K:=by
 unfold appT appQ;refine congrArg (And _) (congrArg (And _) ?_)
 cases a with
 |sl fl z rows=>cases fl <;> simp only[Qa3]
 |vsl l z st n=>simp only[];cases hh:H l <;> simp only[hh,Qa3]
 |_=>rfl
theorem Qbrh {tag:Nat}{m k:C}{v:V}:updT H tag m k v K=updQ H tag m k v K:=by
 cases m with
 |mp l=>simp only[updT,updQ];cases hh:H l <;> simp only[hh,Qa3]
 |_=>rfl
theorem Qbo2 {tag:Nat}{m k:C}:delT H tag m k K=delQ H tag m k K:=by
 cases m with
 |mp l=>simp only[delT,delQ];cases hh:H l <;> simp only[hh,Qa3]
 |_=>rfl
theorem Qbek {cells:List C}:(EOp.alloc cells).eff P p e H K=∀l,H l=.none→∀H',H'=H.set l (.st cells)→K (.c (.ptr l 0)) H':=by simp only[EOp.eff,Qa3]
theorem Qbj6 {a:Opd}:(EOp.boxm a).eff P p e H K=(a.fine p e∧(a.v e).cells≠[]∧∀l,H l=.none→∀H',H'=H.set l (.st (a.v e).cells)→K (.c (.ptr l 0)) H'):=by simp only[EOp.eff,Qa3]
theorem Qbph {n:Nat}{a v:Opd}:(EOp.sto n a v).eff P p e H K=(a.fine p e∧v.fine p e∧(a.v e).isC∧(v.v e).cells.length=n∧0<n∧Qa0e H (a.v e).c1 (v.v e).cells K):=by simp only[EOp.eff,Qbjh]
theorem Qbo9 {sz:Nat}{a b:Opd}:(EOp.app sz a b).eff P p e H K=(a.fine p e∧b.fine p e∧(a.v e).isC∧(b.v e).isC∧appQ H sz (a.v e).c1 (b.v e).c1 K):=by simp only[EOp.eff,Qbou]
theorem Qbpe {sz:Nat}{zero:List C}{n:Opd}:(EOp.mks sz zero n).eff P p e H K=(n.fine p e∧Qt0 (n.v e)∧0≤Q9 (n.v e)∧Q9 (n.v e)≤LIM∧
   ∀l,H l=.none→∀H',H'=H.set l (.vec sz (List.replicate (Q9 (n.v e)).toNat zero))→K (.c (.vsl l sz 0 (Q9 (n.v e)).toNat)) H'):=by simp only[EOp.eff,Qa3]
theorem Qbpd:EOp.mkm.eff P p e H K=∀l,H l=.none→∀H',H'=H.set l (.map 0 [])→K (.c (.mp l)) H':=by simp only[EOp.eff,Qa3]
theorem Qbpi {tag:Nat}{m k v:Opd}:(EOp.upd tag m k v).eff P p e H K=(m.fine p e∧k.fine p e∧v.fine p e∧(m.v e).isC∧(k.v e).isC∧(v.v e).cells≠[]∧updQ H tag (m.v e).c1 (k.v e).c1 (v.v e) K):=by simp only[EOp.eff,Qbrh]
theorem Qbpb {tag:Nat}{m k:Opd}:(EOp.del tag m k).eff P p e H K=(m.fine p e∧k.fine p e∧(m.v e).isC∧(k.v e).isC∧delQ H tag (m.v e).c1 (k.v e).c1 K):=by simp only[EOp.eff,Qbo2]
theorem Qbj9 {m:Opd}:(EOp.clrm m).eff P p e H K=(m.fine p e∧match m.v e with
  |.c (.mp l)=>match H l with
   |.map n _=>∀H',H'=H.set l (.map (n+1) [])→K .unk H'
   |_=>False
  |_=>False):=by
 simp only[EOp.eff];refine congrArg (And _) ?_
 cases m.v e with
 |c x=>cases x with
  |mp l=>simp only[];cases hh:H l <;> simp only[hh,Qa3]
  |_=>rfl
 |_=>rfl
theorem Qbka {sz:Nat}{zero:List C}{m:Opd}:(EOp.clrs sz zero m).eff P p e H K=(m.fine p e∧match m.v e with
  |.c (.vsl l z st n)=>z=sz∧match H l with
   |.vec y rows=>y=sz∧st+n≤rows.length∧∀H',H'=H.set l (.vec sz (rows.take st++List.replicate n zero++rows.drop (st+n)))→K .unk H'
   |_=>False
  |_=>False):=by
 simp only[EOp.eff];refine congrArg (And _) ?_
 cases m.v e with
 |c x=>cases x with
  |vsl l z st n=>simp only[];refine congrArg (And _) ?_;cases hh:H l <;> simp only[hh,Qa3]
  |_=>rfl
 |_=>rfl
theorem Qbj8 {f:Nat}{args:List Opd}:(EOp.call f args).eff P p e H K=((∀x∈args,x.fine p e)∧Qs P f (args.map fun x=>x.v e) H K):=rfl
theorem Qbel {f:Opd}{args:List Opd}:(EOp.callv f args).eff P p e H K=(f.fine p e∧(∀x∈args,x.fine p e)∧match f.v e with
  |.c (.fn n caps)=>Qs P n ((args.map fun x=>x.v e)++caps.map .c) H K
  |_=>False):=rfl
theorem Qbpg {m:Opd}:(EOp.rng m).eff P p e H K=(m.fine p e∧match m.v e with
  |.c (.mp l)=>match H l with
   |.map n es=>es.Nodup∧∀i,H i=.none→∀H',H'=H.set i (.iter (some (l,n)) es none)→K (.c (.itr i)) H'
   |_=>False
  |.c .mnil=>∀i,H i=.none→∀H',H'=H.set i (.iter none [] none)→K (.c (.itr i)) H'
  |_=>False):=by
 simp only[EOp.eff];refine congrArg (And _) ?_
 cases m.v e with
 |c x=>cases x with
  |mp l=>simp only[];cases hh:H l <;> simp only[hh,Qa3]
  |mnil=>simp only[Qa3]
  |_=>rfl
 |_=>rfl
theorem Qbpf {it:Opd}:(EOp.nxt it).eff P p e H K=(it.fine p e∧match it.v e with
  |.c (.itr i)=>match H i with
   |.iter none left _=>K (.tup [.c (.bool false)]) H
   |.iter (some (l,n)) left cur=>(∃es,H l=.map n es)∧(left=[]→K (.tup [.c (.bool false)]) H)∧
     ∀x left',x∈left→(∀y,y∈left'↔y∈left∧y≠x)→left'.Nodup→left'.length+1=left.length→
      ∀H',H'=H.set i (.iter (some (l,n)) left' (some x))→K (.tup [.c (.bool true),.c x.1,x.2]) H'
   |_=>False
  |_=>False):=by
 simp only[EOp.eff];refine congrArg (And _) ?_
 cases it.v e with
 |c x=>cases x with
  |itr i=>
   simp only[]
   cases hh:H i with
   |iter m left cur=>cases m with
    |none=>rfl
    |some y=>simp only[Qa3]
   |_=>rfl
  |_=>rfl
 |_=>rfl
theorem Qbpc {it:Opd}:(EOp.ent it).eff P p e H K=(it.fine p e∧match it.v e with
  |.c (.itr i)=>match H i with
   |.iter (some (l,n)) left (some x)=>(∃es,H l=.map n es)∧K (.tup [.c x.1,x.2]) H
   |_=>False
  |_=>False):=rfl
def cpyQ (H:Heap)(sz:Nat)(a b:C)(K:V→Heap→Prop):Prop:=
 okSl H b∧b.elemSz=sz∧match a with
 |.vsl l z st n=>match H l with
  |.vec y rows=>z=sz∧y=sz∧st+n≤rows.length∧lenC b≤n∧(∀r∈rowsOf H b,noOw r=true)∧
    ∀H',H'=H.set l (.vec sz (rows.take st++rowsOf H b++rows.drop (st+lenC b)))→K (.c (.int .i64 (lenC b))) H'
  |_=>False
 |_=>False
theorem Qbo1 {sz:Nat}{a b:C}:cpyT H sz a b K=cpyQ H sz a b K:=by
 unfold cpyT cpyQ;refine congrArg (And _) (congrArg (And _) ?_)
 cases a with
 |vsl l z st n=>simp only[];cases hh:H l <;> simp only[hh,Qa3]
 |_=>rfl
theorem Qbpa {sz:Nat}{a b:Opd}:(EOp.cpy sz a b).eff P p e H K=(a.fine p e∧b.fine p e∧(a.v e).isC∧(b.v e).isC∧cpyQ H sz (a.v e).c1 (b.v e).c1 K):=by simp only[EOp.eff,Qbo1]
theorem Qbj7 {sz:Nat}{parts:List Opd}:(EOp.bslm sz parts).eff P p e H K=((∀x∈parts,x.fine p e∧(x.v e).cells.length=sz)∧∀l,H l=.none→∀H',H'=H.set l (.vec sz (parts.map fun x=>(x.v e).cells))→K (.c (.vsl l sz 0 parts.length)) H'):=by simp only[EOp.eff,Qa3]
theorem Qbkb {a:Opd}:(EOp.nilq a).eff P p e H K=(a.fine p e∧match a.v e with
  |.c (.sl _ _ rows)=>∀b:Bool,(b=true→rows=[])→K (.c (.bool b)) H
  |_=>False):=rfl
end
theorem Qbkz {k:IntKind}{n:Int}:(C.int k n).isOw=false:=rfl
theorem Qbe8 {b:Bool}:(C.bool b).isOw=false:=rfl
theorem Qbk2 {s:List UInt8}:(C.str s).isOw=false:=rfl
theorem Qbp0 {f:Bool}{sz:Nat}{r:List (List C)}:(C.sl f sz r).isOw=false:=rfl
theorem Qbpz {c:List C}:(C.pp c).isOw=false:=rfl
theorem Qbpv {c:C}{a i k:Nat}:(C.ep c a i k).isOw=false:=rfl
theorem Qbfb:C.pnil.isOw=false:=rfl
theorem Qbk1 {l k:Nat}:(C.ptr l k).isOw=false:=rfl
theorem Qb1 {l a b c:Nat}:(C.vsl l a b c).isOw=false:=rfl
theorem Qbpx {l:Nat}:(C.mp l).isOw=false:=rfl
theorem Qbfa:C.mnil.isOw=false:=rfl
theorem Qbpw {f:Nat}{c:List C}:(C.fn f c).isOw=false:=rfl
theorem Qbe9:C.fnil.isOw=false:=rfl
theorem Qbk0 {l:Nat}:(C.itr l).isOw=false:=rfl
theorem Qbk3:C.unk.isOw=false:=rfl
theorem Qbpy {sz:Nat}{r:List (List C)}:(C.ow sz r).isOw=true:=rfl
theorem Qbp7 {f:Bool}{sz:Nat}{r:List (List C)}:lenC (.sl f sz r)=r.length:=rfl
theorem Qblg {l a b c:Nat}:lenC (.vsl l a b c)=c:=rfl
theorem Qbem {f:Bool}{sz:Nat}{r:List (List C)}:(C.sl f sz r).elemSz=sz:=rfl
theorem Qbad {l a b c:Nat}:(C.vsl l a b c).elemSz=a:=rfl
theorem Qbhb {f:Bool}{sz:Nat}{r:List (List C)}:rowsOf H (.sl f sz r)=r:=rfl
theorem Qbbl {l a st n:Nat}:rowsOf H (.vsl l a st n)=match H l with
  |.vec _ rows=>(rows.drop st).take n
  |_=>[]:=rfl
theorem Qbqk {f:Bool}{sz:Nat}{r:List (List C)}:okSl H (.sl f sz r)=True:=rfl
theorem Qbl5 {l sz st n:Nat}:okSl H (.vsl l sz st n)=match H l with
  |.vec z rows=>z=sz∧st+n≤rows.length
  |_=>False:=rfl
section
variable {K:V→Heap→Prop}
theorem Qbov {sz z:Nat}{rows:List (List C)}{b:C}:appQ H sz (.sl true z rows) b K=(okSl H b∧b.elemSz=sz∧z=sz∧(rows=[]∨rowsOf H b≠[])∧(∀r∈rows++rowsOf H b,noOw r=true)∧rows.length+lenC b≤LIM∧
   ∀l,H l=.none→∀H',H'=H.set l (.vec sz (rows++rowsOf H b))→K (.c (.vsl l sz 0 (rows.length+lenC b))) H'):=rfl
theorem Qbj0 {sz l z st n:Nat}{b:C}:appQ H sz (.vsl l z st n) b K=(okSl H b∧b.elemSz=sz∧match H l with
  |.vec y rows=>z=sz∧y=sz∧st+n≤rows.length∧(∀r∈rowsOf H b,noOw r=true)∧n+lenC b≤LIM∧
    ∀l',(H.set l .none) l'=.none→∀H',H'=(H.set l .none).set l' (.vec sz ((rows.drop st).take n++rowsOf H b))→
     K (.c (.vsl l' sz 0 (n+lenC b))) H'
  |_=>False):=rfl
end
theorem Qbq3 {lo hi:Option Int}{fl:Bool}{sz:Nat}{rows:List (List C)}:sliC lo hi (.sl fl sz rows)=.sl (fl&&(hi.isNone || rows.isEmpty)) sz ((rows.take (hi.getD rows.length).toNat).drop (lo.getD 0).toNat):=rfl
theorem Qbnq {lo hi:Option Int}{l sz st n:Nat}:sliC lo hi (.vsl l sz st n)=.vsl l sz (st+(lo.getD 0).toNat) ((hi.getD n).toNat-(lo.getD 0).toNat):=rfl
attribute [go_sem] Qbpa cpyQ Qbq9 Qbnt Qa0c Qbjf Qbnu b_f b_t Qbku Qbe4 Qbe5 Qbpr regT Qop Q9a lk Qbkm Qbkl Qbkn Qbko gdO gdB Opd.v Opd.raw Opd.fine V.bare V.fine FOp.val FOp.obl FOp.fct Qbek Qbj6 Qbph Qbo9 Qbpe Qbpd Qbpi Qbpb Qbj9 Qbka Qbj8 Qbel Qbpg Qbpf Qbpc Qbkb Qbj7 Qbn0 Qbjo
 V.c1 V.isC V.isAg V.cells Qih Qbbb fadC binC binO Qbau noOw Qa0e Qbov Qbj0 updQ delQ zipE Qym Qbq3 Qbnq bnds Qbqk Qbl5 Qbp7 Qblg Qbhb Qbbl Qbem Qbad Qbkz Qbe8 Qbk2 Qbp0 Qbpz Qbpv Qbfb Qbk1 Qb1 Qbpx Qbfa Qbpw Qbe9 Qbk0 Qbk3 Qbpy Qt0 Qbkx Q9 Qbme Qbn1 Qbev Qbjq Qbaf Qbtf Qbuf Qbug Qbtk
 Qbsy Qbs0 Qbq4 Qbr7 Qbr9 Qbpq Jz J4 Qwj List.take_succ_cons List.take_zero List.take_nil List.drop_succ_cons Jaa List.drop_nil
 List.length_cons Jag Jy J3 List.headD_cons Bool.not_false Bool.not_true Bool.and_true Jaq Bool.and_false Bool.false_and and_self eq_self Bool.false_eq_true Jv Jo Jat Jas not_true_eq_false not_false_eq_true ite_true ite_false ne_eq Option.map_some Option.map_none Option.getD_some Option.getD_none Option.isNone_some Option.isNone_none List.isEmpty_nil List.isEmpty_cons Bool.or_true Bool.true_or Bool.or_false Bool.false_or optI optF Int.toNat_natCast Int.natCast_nonneg Int.add_sub_cancel List.forall_mem_cons Qa1r
end Go.AE
namespace Go.AE
abbrev fI (d : Nat) (o : FOp) : Item := .f (some d) none o
abbrev eI (d : Nat) (o : EOp) : Item := .e (some d) none o
abbrev gT (d t : Nat) (o : FOp) : Item := .f (some d) (some (t, true)) o
abbrev gF (d t : Nat) (o : FOp) : Item := .f (some d) (some (t, false)) o
abbrev kI (n : Int) : Opd := .k (.c (.int .i64 n))
abbrev mJ (d a : Nat) : Item := .f (some d) none (.mv (.t a))
abbrev fJ (d n a : Nat) : Item := .f (some d) none (.fad n (.t a))
abbrev lJ (d a : Nat) : Item := .f (some d) none (.ld 1 false (.t a))
abbrev tJ (d n a : Nat) : Item := .f (some d) none (.ld n true (.t a))
abbrev nJ (d a : Nat) : Item := .f (some d) none (.len (.t a))
abbrev kJ (d a : Nat) : Item := .f (some d) none (.nck (.t a))
abbrev oJ (d a : Nat) : Item := .f (some d) none (.not (.t a))
abbrev iJ (d n a b : Nat) : Item := .f (some d) none (.iad n (.t a) (.t b))
abbrev bJ (d : Nat) (o : BinOp) (a b : Nat) : Item := .f (some d) none (.bin 0 o (.t a) (.t b))
abbrev cJ (d : Nat) (o : BinOp) (a : Nat) (n : Int) : Item := .f (some d) none (.bin 0 o (.t a) (.k (.c (.int .i64 n))))
abbrev gTm (d g a : Nat) : Item := .f (some d) (some (g, true)) (.mv (.t a))
abbrev gFm (d g a : Nat) : Item := .f (some d) (some (g, false)) (.mv (.t a))
abbrev gTf (d g n a : Nat) : Item := .f (some d) (some (g, true)) (.fad n (.t a))
abbrev gFf (d g n a : Nat) : Item := .f (some d) (some (g, false)) (.fad n (.t a))
abbrev gTl (d g a : Nat) : Item := .f (some d) (some (g, true)) (.ld 1 false (.t a))
abbrev gFl (d g a : Nat) : Item := .f (some d) (some (g, false)) (.ld 1 false (.t a))
abbrev aJ (d f : Nat) (l : List Opd) : Item := .e (some d) none (.call f l)
abbrev sJ (k a b : Nat) : Item := .e none none (.sto k (.t a) (.t b))
abbrev fB (d : Nat) (b : Bool) : Item := .f (some d) none (.mv (.k (.c (.bool b))))
abbrev zJ (d : Nat) (n : Int) : Item := .f (some d) none (.mv (.k (.c (.int .i64 n))))
abbrev hJ (d a : Nat) : Item := .chk d none (.ld 1 false (.t a))
abbrev pT (d a b : Nat) : Item := .f (some d) none (.pick (.t a) (.k (.c (.bool true))) (.t b))
abbrev pF (d a b : Nat) : Item := .f (some d) none (.pick (.t a) (.t b) (.k (.c (.bool false))))
abbrev xJ (d k a b : Nat) : Item := .e (some d) none (.app k (.t a) (.t b))
abbrev vJ (d a : Nat) : Item := .f (some d) none (.box (.t a))
abbrev sR (l : List Item) (k : List Nat) (n : SC) : SC := .seq (.reg l k) n
abbrev cX (t i : Nat) (n : SC) : SC := .seq (.cond (.t t) .skip (.exit i)) n
abbrev bL (i : Nat) (l : SC) : SC := .block i (.loop l)
abbrev cT (t : Nat) (a b : SC) : SC := .cond (.t t) a b
theorem Qbs6 : Int.toNat 0 = 0 := rfl
theorem Qbs7 : Int.toNat 1 = 1 := rfl
theorem Qbra : Int.toNat 2000 = 2000 := rfl
attribute [go_sem] sJ fB zJ hJ pT pF xJ vJ mJ fJ lJ tJ nJ kJ oJ iJ bJ cJ gTm gFm gTf gFf gTl gFl aJ fI eI gT gF kI false_implies Qbs6 Qbs7 Qbra
variable {P:Program}{H:Heap}{g:G}{w:World}{e:Env}
def Obj.used:Obj→Bool
 |.none=>false
 |_=>true
def Heap.frz (H:Heap)(S:Nat→Bool):Heap:=fun l=>if S l then .none else H l
def G.frz (g:G)(H:Heap)(S:Nat→Bool):G:=
 { g with
  per:=fun b=>g.per b || (match g.own b with
   |some (l,_)=>S l&&(H l).used
   |none=>false)
  own:=fun b=>match g.own b with
   |some (l,p)=>if S l&&(H l).used then none else some (l,p)
   |none=>none }
theorem Qbof (H:Heap)(S:Nat→Bool)(g:G)(w:World):Le g w (g.frz H S) w:=
 ⟨fun b h=>⟨by simp[G.frz,h],rfl⟩,fun _ _ h=>h,Jas _,fun _ _ _ h=>h,rfl,rfl,rfl⟩
theorem Qpe {S:Nat→Bool}{m:Nat}(hm:¬(S m=true∧(H m).used=true)):Q0z g w (g.frz H S) w m:=by
 intro b q hb;refine⟨?_,rfl⟩;have:¬(S m&&(H m).used)=true:=by simpa using hm
 simp only[G.frz,hb];rw[if_neg this]
theorem Qaq6 (hs:Sat H g w)(S:Nat→Bool):Stp H g w (H.frz S) (g.frz H S) w:=by
 have hle:=Qbof H S g w;refine⟨hle,fun m hm hn=>?_,⟨fun b hb=>?_,hs.names,fun b x hb=>?_,fun b m p hb=>?_,fun m=>?_⟩⟩
 ·refine⟨by simp only[Heap.frz,hn];split <;> rfl,?_⟩;exact Qpe (by rw[hn];simp[Obj.used])
 ·obtain⟨h1,h2⟩:=hs.fresh b hb;simp[G.frz,h1,h2]
 ·have hb':(match g.own b with
   |some (l,p)=>if S l&&(H l).used then none else some (l,p)
   |none=>none)=some x:=hb
  show (g.per b || (match g.own b with
   |some (l,_)=>S l&&(H l).used
   |none=>false))=false
  cases ho:g.own b with
  |none=>rw[ho]at hb';simp at hb'
  |some y=>
   obtain⟨l,p⟩:=y;rw[ho]at hb';simp only at hb'⊢;have:=hs.excl b _ ho;by_cases hx:(S l&&(H l).used)=true
   ·rw[if_pos hx]at hb';simp at hb'
   ·simp[this,hx]
 ·have hb':(match g.own b with
   |some (l,p)=>if S l&&(H l).used then none else some (l,p)
   |none=>none)=some (m,p):=hb
  cases ho:g.own b with
  |none=>rw[ho]at hb';simp at hb'
  |some y=>
   obtain⟨l,q⟩:=y;rw[ho]at hb';simp only at hb';by_cases hx:(S l&&(H l).used)=true
   ·rw[if_pos hx]at hb';simp at hb'
   ·rw[if_neg hx]at hb';simp at hb';obtain⟨rfl,rfl⟩:=hb';exact hs.named b _ _ ho
 ·by_cases hS:S m=true
  ·simp[Heap.frz,hS,SatObj]
  ·have hH':H.frz S m=H m:=by simp[Heap.frz,hS]
   have hk:Q0z g w (g.frz H S) w m:=Qpe (by simp[hS]);refine SatObj.keep (H':=H.frz S) hs hle hk hH' fun m' v left cur hc v' es hv=>?_;by_cases hS':S m'=true
   ·simp[Heap.frz,hS']at hv
   ·have:H.frz S m'=H m':=(by simp[Heap.frz,hS']);rw[this]at hv;exact .inl ⟨hv,Qpe (by simp[hS'])⟩
inductive FrzC (H:Heap)(S:Nat→Bool):C→C→Prop
 |same (c:C) (h:c.isOw=false):FrzC H S c c
 |sl (fl:Bool) (sz:Nat) (rows rows':List (List C)) (hl:rows'.length=rows.length) (hr:∀(i:Nat) (r r':List C),rows[i]? = some r→rows'[i]? = some r'→r'.length=r.length)
   (hc:∀(i:Nat) (r r':List C) (j:Nat) (c c':C),rows[i]? = some r→rows'[i]? = some r'→r[j]? = some c→r'[j]? = some c'→FrzC H S c c'):FrzC H S (.sl fl sz rows) (.sl false sz rows')
 |pp (cells cells':List C) (hl:cells'.length=cells.length) (hc:∀(j:Nat) (c c':C),cells[j]? = some c→cells'[j]? = some c'→FrzC H S c c'):FrzC H S (.pp cells) (.pp cells')
 |vsl (l sz st n:Nat) (all rows rows':List (List C)) (hS:S l=true) (hH:H l=.vec sz all) (hb:st+n≤all.length) (hrows:rows=(all.drop st).take n)
   (hl:rows'.length=rows.length) (hr:∀(i:Nat) (r r':List C),rows[i]? = some r→rows'[i]? = some r'→r'.length=r.length)
   (hc:∀(i:Nat) (r r':List C) (j:Nat) (c c':C),rows[i]? = some r→rows'[i]? = some r'→r[j]? = some c→r'[j]? = some c'→FrzC H S c c'):FrzC H S (.vsl l sz st n) (.sl false sz rows')
 |ptr (l k:Nat) (all cells cells':List C) (hS:S l=true) (hH:H l=.st all) (hcells:cells=all.drop k) (hl:cells'.length=cells.length)
   (hc:∀(j:Nat) (c c':C),cells[j]? = some c→cells'[j]? = some c'→FrzC H S c c'):FrzC H S (.ptr l k) (.pp cells')
 |ow (sz:Nat) (rows rows':List (List C)) (hl:rows'.length=rows.length) (hr:∀(i:Nat) (r r':List C),rows[i]? = some r→rows'[i]? = some r'→r'.length=r.length)
   (hc:∀(i:Nat) (r r':List C) (j:Nat) (c c':C),rows[i]? = some r→rows'[i]? = some r'→r[j]? = some c→r'[j]? = some c'→FrzC H S c c'):FrzC H S (.ow sz rows) (.sl false sz rows')
theorem Qae {α:Type}{l l':List α}(h:l'.length=l.length){i:Nat}{x:α}(hx:l'[i]? = some x):∃y,l[i]? = some y:=by
 have:i<l'.length:=(Jq.1 hx).1;exact⟨l[i]'(by omega),Jm (by omega)⟩
theorem Qa03 {S:Nat→Bool}{b l:Nat}{p:List Nat}(ho:g.own b=some (l,p))(hS:S l=true)(hu:(H l).used=true):(g.frz H S).per b=true:=by
 simp[G.frz,ho,hS,hu]
theorem Qa04 (hs:Sat H g w){S:Nat→Bool}{c c':C}(h:FrzC H S c c') :
  (∀v,RepC w g c v→RepC w (g.frz H S) c' v)∧∀l p v,S l=true→(H l).used=true→RepO w g l p c v→RepC w (g.frz H S) c' v:=by
 have hle:=Qbof H S g w
 induction h with
 |same c h=>
  refine⟨fun v hv=>hv.mono hle,fun l p v _ _ hv=>?_⟩;exact (hv.plain_of fun sz rows hc=>by subst hc;simp[C.isOw]at h).mono hle
 |sl fl sz rows rows' hl hr hc ih=>
  have key:∀v,RepC w g (.sl fl sz rows) v→RepC w (g.frz H S) (.sl false sz rows') v:=by
   intro v hv
   cases hv with
   |slnil _ _ ad=>
    have:rows'=[]:=Jt.1 (by simpa using hl);subst this;exact .slnil _ _ _
   |sl _ _ _ b off cap val h1 h2 h3 h4 h5 h6 h7=>
    rw[←hl]at h1 h2 h3⊢;refine .sl false sz rows' b off cap val h1 (by simp) h3 (hle.per b h4).1 (fun i r' hr'=>?_) (fun i r' j c' hr' hc'=>?_) (fun i r' j c' hr' hc'=>?_)
    ·obtain⟨r,hr0⟩:=Qae hl hr';rw[hr i r r' hr0 hr'];exact h5 i r hr0
    ·obtain⟨r,hr0⟩:=Qae hl hr';obtain⟨c,hc0⟩:=Qae (hr i r r' hr0 hr') hc';exact h6 i r j c hr0 hc0
    ·obtain⟨r,hr0⟩:=Qae hl hr';obtain⟨c,hc0⟩:=Qae (hr i r r' hr0 hr') hc';exact (ih i r r' j c c' hr0 hr' hc0 hc').1 _ (h7 i r j c hr0 hc0)
  exact⟨key,fun l p v _ _ hv=>key v (hv.plain_of fun _ _ hc=>by simp at hc)⟩
 |pp cells cells' hl hc ih=>
  have key:∀v,RepC w g (.pp cells) v→RepC w (g.frz H S) (.pp cells') v:=by
   intro v hv
   cases hv with
   |pp _ b off val h1 h2 h3=>
    refine .pp cells' b off val (hle.per b h1).1 (fun j c' hc'=>?_) (fun j c' hc'=>?_)
    ·obtain⟨c,hc0⟩:=Qae hl hc';exact h2 j c hc0
    ·obtain⟨c,hc0⟩:=Qae hl hc';exact (ih j c c' hc0 hc').1 _ (h3 j c hc0)
  exact⟨key,fun l p v _ _ hv=>key v (hv.plain_of fun _ _ hc=>by simp at hc)⟩
 |vsl l sz st n all rows rows' hS hH hb hrows hl hr hc ih=>
  have key:∀v,RepC w g (.vsl l sz st n) v→RepC w (g.frz H S) (.sl false sz rows') v:=by
   intro v hv;have hlen:rows.length=n:=by rw[hrows];simp;omega
   cases hv with
   |vslnil _ _ _ ad=>
    have:rows'=[]:=Jt.1 (by omega);subst this;exact .slnil _ _ _
   |vsl _ _ _ _ cap b base T m h1 h2 h3 h4=>
    have hob:=hs.objs l;rw[hH]at hob;obtain⟨b',base',T',cs,val,r1,r2,r3,r4,r5,r6,r7,r8⟩:=SatVec.of hob h1;rw[h1]at r1;simp only[Jg,Jar,true_and]at r1;obtain⟨rfl,rfl⟩:=r1;have hper:=Qa03 (g:=g) (H:=H) r2 hS (by rw[hH];rfl);have hget:∀(i:Nat) (r:List C),rows[i]? = some r→all[st+i]? = some r:=by
     intro i r hi;rw[hrows,List.getElem?_take]at hi;split at hi
     ·rw[Jak]at hi;exact hi
     ·simp at hi
    have hn:n=rows'.length:=(by omega);rw[hn]at h2⊢;refine .sl false sz rows' b (base+st * sz) cap (fun i j=>val (st+i) j) (by omega) (by simp) h2 hper (fun i r' hr'=>?_) (fun i r' j c' hr' hc'=>?_) (fun i r' j c' hr' hc'=>?_)
    ·obtain⟨r,hr0⟩:=Qae hl hr';rw[hr i r r' hr0 hr'];exact r6 _ r (hget i r hr0)
    ·obtain⟨r,hr0⟩:=Qae hl hr';obtain⟨c,hc0⟩:=Qae (hr i r r' hr0 hr') hc';rw[Qcr r3,show base+st * sz+i * sz+j=base+(st+i) * sz+j by rw[Nat.add_mul];omega];exact r7 _ r j c (hget i r hr0) hc0
    ·obtain⟨r,hr0⟩:=Qae hl hr';obtain⟨c,hc0⟩:=Qae (hr i r r' hr0 hr') hc';exact (ih i r r' j c c' hr0 hr' hc0 hc').2 l _ _ hS (by rw[hH];rfl) (r8 _ r j c (hget i r hr0) hc0)
  exact⟨key,fun l p v _ _ hv=>key v (hv.plain_of fun _ _ hc=>by simp at hc)⟩
 |ptr l k all cells cells' hS hH hcells hl hc ih=>
  have key:∀v,RepC w g (.ptr l k) v→RepC w (g.frz H S) (.pp cells') v:=by
   intro v hv
   cases hv with
   |ptr _ _ b sz base h1=>
    have hob:=hs.objs l;rw[hH]at hob;obtain⟨b',sz',T,cs,r1,r2,r3,r4,r5⟩:=hob;rw[h1]at r1;simp only[Jg,Jar]at r1;obtain⟨rfl,rfl,rfl⟩:=r1;have hper:=Qa03 (g:=g) (H:=H) r2 hS (by rw[hH];rfl);have hget:∀(j:Nat) (c:C),cells[j]? = some c→all[k+j]? = some c:=by
     intro j c hj;rw[hcells,Jak]at hj;exact hj
    have hcs:∀(j:Nat) (c:C),all[j]? = some c→cs[j]? = some (cs.getD j undef):=by
     intro j c hj;have hlt:j<cs.size:=(by rw[r4];exact (Jq.1 hj).1);rw[J9 hlt,Array.getD_eq_getD_getElem?,J9 hlt];rfl
    refine .pp cells' b (0+k) (fun j=>cs.getD (k+j) undef) hper (fun j c' hc'=>?_) (fun j c' hc'=>?_)
    ·obtain⟨c,hc0⟩:=Qae hl hc';rw[Qcr r3,show 0+k+j=k+j by omega];exact hcs _ c (hget j c hc0)
    ·obtain⟨c,hc0⟩:=Qae hl hc';exact (ih j c c' hc0 hc').2 l _ _ hS (by rw[hH];rfl) (r5 _ c _ (hget j c hc0) (hcs _ c (hget j c hc0)))
  exact⟨key,fun l p v _ _ hv=>key v (hv.plain_of fun _ _ hc=>by simp at hc)⟩
 |ow sz rows rows' hl hr hc ih=>
  refine⟨fun v hv=>(by cases hv),fun l p v hS hu hv=>?_⟩
  cases hv with
  |plain _ _ _ h=>cases h
  |ownil _ _ ad=>
   have:rows'=[]:=Jt.1 (by simpa using hl);subst this;exact .slnil _ _ _
  |ow _ _ _ b off cap T cs val h1 h2 h3 h4 h5 h6 h7 h8=>
   have hper:=Qa03 (g:=g) (H:=H) h3 hS hu;rw[←hl]at h1 h2⊢;refine .sl false sz rows' b off cap val h1 (by simp) h2 hper (fun i r' hr'=>?_) (fun i r' j c' hr' hc'=>?_) (fun i r' j c' hr' hc'=>?_)
   ·obtain⟨r,hr0⟩:=Qae hl hr';rw[hr i r r' hr0 hr'];exact h6 i r hr0
   ·obtain⟨r,hr0⟩:=Qae hl hr';obtain⟨c,hc0⟩:=Qae (hr i r r' hr0 hr') hc';rw[Qcr h4];exact h7 i r j c hr0 hc0
   ·obtain⟨r,hr0⟩:=Qae hl hr';obtain⟨c,hc0⟩:=Qae (hr i r r' hr0 hr') hc';exact (ih i r r' j c c' hr0 hr' hc0 hc').2 l _ _ hS hu (h8 i r j c hr0 hc0)
inductive FrzV (H:Heap)(S:Nat→Bool):V→V→Prop
 |c (a b:C) (h:FrzC H S a b):FrzV H S (.c a) (.c b)
 |ag (cs cs':List C) (hl:cs'.length=cs.length) (h:∀(j:Nat) (c c':C),cs[j]? = some c→cs'[j]? = some c'→FrzC H S c c'):FrzV H S (.ag cs) (.ag cs')
 |tup (xs xs':List V) (hl:xs'.length=xs.length) (h:∀(j:Nat) (x x':V),xs[j]? = some x→xs'[j]? = some x'→FrzV H S x x'):FrzV H S (.tup xs) (.tup xs')
 |unk (x:V):FrzV H S x .unk
theorem Q86 (hs:Sat H g w){S:Nat→Bool}{x x':V}(h:FrzV H S x x'):∀v,RepV w g x v→RepV w (g.frz H S) x' v:=by
 induction h with
 |c a b h=>
  intro v hv;exact .c _ _ ((Qa04 hs h).1 v hv.c_inv)
 |ag cs cs' hl h=>
  intro v hv
  cases hv with
  |ag _ vs h1 h2=>
   refine .ag cs' vs (by omega) fun j c' u hc' hu=>?_;obtain⟨c,hc⟩:=Qae hl hc';exact (Qa04 hs (h j c c' hc hc')).1 u (h2 j c u hc hu)
 |tup xs xs' hl h ih=>
  intro v hv
  cases hv with
  |tup _ vs h1 h2=>
   refine .tup xs' vs (by omega) fun j x' u hx' hu=>?_;obtain⟨x,hx⟩:=Qae hl hx';exact ih j x x' hx hx' u (h2 j x u hx hu)
 |unk x=>exact fun v _=>.unk v
abbrev frzK (K:V→Heap→Prop):V→Heap→Prop
 |.pn v,H'=>∃S,K (.pn v) (H'.frz S)
 |x,H'=>∃S x',FrzV H' S x x'∧K x' (H'.frz S)
theorem Qbkk {K:V→Heap→Prop}{x:V}{v:Value}(h:frzK K x H)(hr:RepV w g x v):∃S x',FrzV H S x x'∧K x' (H.frz S):=by
 cases hr <;> exact h
theorem Qbd6 {f:Nat}{args:List V}{K:V→Heap→Prop}(h:Qs P f args H (frzK K)):Qs P f args H K:=by
 refine⟨h.1,fun g w vs hs hl hv=>?_⟩;refine Calls.mono (h.2 g w vs hs hl hv) ?_;rintro e w' (⟨v,x,H',g',he,hx,hst,hr⟩|⟨v,H',g',he,hx,hst⟩)
 ·obtain⟨S,x',hf,hk⟩:=Qbkk hx hr;exact .inl ⟨v,x',H'.frz S,g'.frz H' S,he,hk,hst.trans (Qaq6 hst.sat S),Q86 hst.sat hf v hr⟩
 ·obtain⟨S,hk⟩:∃S,K (.pn v) (H'.frz S):=hx;exact .inr ⟨v,H'.frz S,g'.frz H' S,he,hk,hst.trans (Qaq6 hst.sat S)⟩
theorem Qa9z {f:Nat}{args:List V}{K K':V→Heap→Prop}(h:Qs P f args H K)(hk:∀x H',K x H'→K' x H'):Qs P f args H K':=by
 refine⟨h.1,fun g w vs hs hl hv=>?_⟩;refine Calls.mono (h.2 g w vs hs hl hv) ?_;rintro e w' (⟨v,x,H',g',he,hx,hst,hr⟩|⟨v,H',g',he,hx,hst⟩)
 ·exact .inl ⟨v,x,H',g',he,hk x H' hx,hst,hr⟩
 ·exact .inr ⟨v,H',g',he,hk _ H' hx,hst⟩
theorem Qbe2 {e e':Env}(S:Nat→Bool)(h:∀t,FrzV H S (lk t e) (lk t e')):Qbjw e H e' (H.frz S):=by
 intro g w tmps hs hr;exact⟨g.frz H S,Qaq6 hs S,fun t=>Q86 hs (h t) _ (hr t)⟩
def FrzK (H:Heap)(S:Nat→Bool)(c c':C):Prop:=c'=c∨(c.isOw=false∧FrzC H S c c')
inductive FrzO (H:Heap)(S:Nat→Bool):Obj→Obj→Prop
 |same (o:Obj):FrzO H S o o
 |st (cells cells':List C) (hl:cells'.length=cells.length) (h:∀(j:Nat) (c c':C),cells[j]? = some c→cells'[j]? = some c'→FrzK H S c c'):FrzO H S (.st cells) (.st cells')
 |vec (sz:Nat) (rows rows':List (List C)) (hl:rows'.length=rows.length) (hr:∀(i:Nat) (r r':List C),rows[i]? = some r→rows'[i]? = some r'→r'.length=r.length)
   (h:∀(i:Nat) (r r':List C) (j:Nat) (c c':C),rows[i]? = some r→rows'[i]? = some r'→r[j]? = some c→r'[j]? = some c'→FrzK H S c c'):FrzO H S (.vec sz rows) (.vec sz rows')
def FrzH (H:Heap)(S:Nat→Bool)(H':Heap):Prop:=∀m,(S m=true∧H' m=.none)∨(S m=false∧FrzO H S (H m) (H' m))
theorem Qd7 (H:Heap)(S:Nat→Bool):FrzH H S (H.frz S):=fun m=>by
 cases h:S m with
 |true=>exact .inl ⟨rfl,by simp[Heap.frz,h]⟩
 |false=>exact .inr ⟨rfl,by simp[Heap.frz,h];exact .same _⟩
theorem FrzH.set {S:Nat→Bool}{H':Heap}(h:FrzH H S H'){l:Nat}{o:Obj}(hl:S l=false)(ho:FrzO H S (H l) o):FrzH H S (H'.set l o):=fun m=>by
 by_cases hm:m=l
 ·subst hm;rw[Heap.set_same];exact .inr ⟨hl,ho⟩
 ·rw[Heap.set_other _ _ hm];exact h m
theorem Qa9p (hs:Sat H g w){S:Nat→Bool}{H':Heap}(h:FrzH H S H'):Stp H g w H' (g.frz H S) w:=by
 have h0:=Qaq6 hs S;have hle:=h0.le;have hkk:∀m,S m=false→Q0z g w (g.frz H S) w m:=fun m hm=>Qpe (by simp[hm]);have hmv:∀(l:Nat) (p:List Nat) (c c':C) (v:Value),S l=false→FrzK H S c c'→RepO w g l p c v→RepO w (g.frz H S) l p c' v:=by
  intro l p c c' v hl hk hr;rcases hk with rfl|⟨h1,h2⟩
  ·exact hr.move hle fun q b hb=>⟨(hkk l hl b _ hb).1,rfl⟩
  ·exact .plain _ _ _ _ ((Qa04 hs h2).1 v (hr.plain_of fun sz rows hc=>by subst hc;simp[C.isOw]at h1))
 refine⟨hle,fun m hm hn=>?_,⟨h0.sat.fresh,h0.sat.names,h0.sat.excl,h0.sat.named,fun m=>?_⟩⟩
 ·refine⟨?_,Qpe (by rw[hn];simp[Obj.used])⟩;rcases h m with ⟨_,h1⟩|⟨_,h1⟩
  ·exact h1
  ·rw[hn]at h1;generalize H' m=o at h1;cases h1;rfl
 ·rcases h m with ⟨_,h1⟩|⟨hS,h1⟩
  ·rw[h1];exact trivial
  ·have ho:=hs.objs m;generalize hA:H m=A at h1 ho;generalize hB:H' m=B at h1
   cases h1 with
   |same=>
    have:=SatObj.keep (H':=H') hs hle (hkk m hS) (hB.trans hA.symm) fun m' v left cur hc v' es hv=>?_
    ·rw[hB]at this;exact this
    ·rcases h m' with ⟨_,h2⟩|⟨hS',h2⟩
     ·rw[h2]at hv;simp at hv
     ·rw[hv]at h2;generalize hA':H m'=A' at h2;cases h2;exact .inl ⟨rfl,hkk m' hS'⟩
   |st cells cells' hl hc=>
    obtain⟨b,sz,T,cs,r1,r2,r3,r4,r5⟩:=ho;refine⟨b,sz,T,cs,r1,(hkk m hS b _ r2).1,r3,by rw[hl];exact r4,fun k c' v hc' hv=>?_⟩;obtain⟨c,hc0⟩:=Qae hl hc';exact hmv _ _ c c' v hS (hc k c c' hc0 hc') (r5 k c v hc0 hv)
   |vec sz rows rows' hl hr hc=>
    rcases ho with ⟨r1,r2⟩|⟨b,base,T,cs,val,r1,r2,r3,r4,r5,r6,r7,r8⟩
    ·refine .inl ⟨?_,r2⟩;subst r1;exact Jt.1 hl
    ·refine .inr ⟨b,base,T,cs,val,r1,(hkk m hS b _ r2).1,r3,by rw[hl];exact r4,by rw[hl];exact r5,fun i r' hr'=>?_,fun i r' j c' hr' hc'=>?_,fun i r' j c' hr' hc'=>?_⟩
     ·obtain⟨r,hr0⟩:=Qae hl hr';rw[hr i r r' hr0 hr'];exact r6 i r hr0
     ·obtain⟨r,hr0⟩:=Qae hl hr';obtain⟨c,hc0⟩:=Qae (hr i r r' hr0 hr') hc';exact r7 i r j c hr0 hc0
     ·obtain⟨r,hr0⟩:=Qae hl hr';obtain⟨c,hc0⟩:=Qae (hr i r r' hr0 hr') hc';exact hmv _ _ c c' _ hS (hc i r r' j c c' hr0 hr' hc0 hc') (r8 i r j c hr0 hc0)
abbrev finK (K:V→Heap→Prop):V→Heap→Prop
 |.pn v,H'=>K (.pn v) H'
 |x,H'=>∃S x' H2,FrzV H' S x x'∧FrzH H' S H2∧K x' H2
theorem Qbr6 {K:V→Heap→Prop}{x:C}:finK K (.c x) H=∃S x' H2,FrzV H S (.c x) x'∧FrzH H S H2∧K x' H2:=rfl
theorem Qbpm {K:V→Heap→Prop}{x:List C}:finK K (.ag x) H=∃S x' H2,FrzV H S (.ag x) x'∧FrzH H S H2∧K x' H2:=rfl
theorem Qbke {K:V→Heap→Prop}{x:List V}:finK K (.tup x) H=∃S x' H2,FrzV H S (.tup x) x'∧FrzH H S H2∧K x' H2:=rfl
theorem Qbpn {K:V→Heap→Prop}{v:Value}:finK K (.pn v) H=K (.pn v) H:=rfl
attribute [go_sem] Qbr6 Qbpm Qbke Qbpn
theorem Qbkf {K:V→Heap→Prop}{x:V}{v:Value}(h:finK K x H)(hr:RepV w g x v):∃S x' H2,FrzV H S x x'∧FrzH H S H2∧K x' H2:=by
 cases hr <;> exact h
theorem Qcb {f:Nat}{args:List V}{K:V→Heap→Prop}(h:Qs P f args H (finK K)):Qs P f args H K:=by
 refine⟨h.1,fun g w vs hs hl hv=>?_⟩;refine Calls.mono (h.2 g w vs hs hl hv) ?_;rintro e w' (⟨v,x,H',g',he,hx,hst,hr⟩|⟨v,H',g',he,hx,hst⟩)
 ·obtain⟨S,x',H2,hf,hh,hk⟩:=Qbkf hx hr;exact .inl ⟨v,x',H2,g'.frz H' S,he,hk,hst.trans (Qa9p hst.sat hh),Q86 hst.sat hf v hr⟩
 ·exact .inr ⟨v,H',g',he,hx,hst⟩
theorem Qdt {e e':Env}(S:Nat→Bool){H2:Heap}(h:∀t,FrzV H S (lk t e) (lk t e'))(hh:FrzH H S H2):Qbjw e H e' H2:=by
 intro g w tmps hs hr;exact⟨g.frz H S,Qa9p hs hh,fun t=>Q86 hs (h t) _ (hr t)⟩
def un (H:Heap)(m:Nat):Bool:=!(H m).used
theorem Qa79 {m:Nat}(h:H m≠.none):un H m=false:=by
 unfold un;cases hm:H m <;> first|rfl|exact absurd hm h
theorem Qe8 {m:Nat}(h:H m=.none):un H m=true:=by simp[un,h,Obj.used]
theorem Qbe0 {H':Heap}{m:Nat}(h:H m≠.none):H'.frz (un H) m=H' m:=by simp[Heap.frz,Qa79 h]
def C.plain:C→Bool
 |.int _ _|.bool _|.str _|.sl _ _ _|.pp _|.pnil|.mnil|.fnil|.unk=>true
 |_=>false
theorem Qg {S:Nat→Bool}{c:C}(h:c.plain=true):FrzC H S c c:=.same c (by cases c <;> simp_all[C.plain,C.isOw])
theorem Qamu {S:Nat→Bool}{l sz n:Nat}{rows:List (List C)}(hS:S l=true)(hH:H l=.vec sz rows)(hn:n=rows.length)(hr:∀r∈rows,∀c∈r,c.isOw=false):FrzC H S (.vsl l sz 0 n) (.sl false sz rows):=by
 subst hn;refine .vsl l sz 0 rows.length rows rows rows hS hH (by omega) (by simp) rfl (fun i r r' h1 h2=>by rw[h1]at h2;simp at h2;rw[h2]) (fun i r r' j c c' h1 h2 h3 h4=>?_);rw[h1]at h2;simp at h2;subst h2;rw[h3]at h4;simp at h4;subst h4;exact .same _ (hr r (Ja h1) c (Ja h3))
theorem Q1l {S:Nat→Bool}{fl:Bool}{sz:Nat}{rows:List (List C)}(hr:∀r∈rows,∀c∈r,c.isOw=false):FrzC H S (.sl fl sz rows) (.sl false sz rows):=by
 refine .sl fl sz rows rows rfl (fun i r r' h1 h2=>by rw[h1]at h2;simp at h2;rw[h2]) (fun i r r' j c c' h1 h2 h3 h4=>?_);rw[h1]at h2;simp at h2;subst h2;rw[h3]at h4;simp at h4;subst h4;exact .same _ (hr r (Ja h1) c (Ja h3))
inductive FrzL (H:Heap)(S:Nat→Bool):List C→List C→Prop
 |nil:FrzL H S [] []
 |cons {c c':C} {l l':List C} (h:FrzC H S c c') (t:FrzL H S l l'):FrzL H S (c::l) (c'::l')
theorem FrzL.spec {S:Nat→Bool}{l l':List C}(h:FrzL H S l l'):l'.length=l.length∧∀(j:Nat) (c c':C),l[j]? = some c→l'[j]? = some c'→FrzC H S c c':=by
 induction h with
 |nil=>exact⟨rfl,fun j c c' h=>by simp at h⟩
 |cons h t ih=>
  refine⟨by simp[ih.1],fun j c c' h1 h2=>?_⟩
  cases j with
  |zero=>simp at h1 h2;subst h1;subst h2;exact h
  |succ j=>simp at h1 h2;exact ih.2 j c c' h1 h2
theorem FrzL.ag {S:Nat→Bool}{l l':List C}(h:FrzL H S l l'):FrzV H S (.ag l) (.ag l'):=.ag _ _ h.spec.1 h.spec.2
inductive FrzKL (H:Heap)(S:Nat→Bool):List C→List C→Prop
 |nil:FrzKL H S [] []
 |same {c:C} {l l':List C} (t:FrzKL H S l l'):FrzKL H S (c::l) (c::l')
 |cons {c c':C} {l l':List C} (h:c.isOw=false) (h':FrzC H S c c') (t:FrzKL H S l l'):FrzKL H S (c::l) (c'::l')
theorem FrzKL.st {S:Nat→Bool}{l l':List C}(h:FrzKL H S l l'):FrzO H S (.st l) (.st l'):=by
 have:l'.length=l.length∧∀(j:Nat) (c c':C),l[j]? = some c→l'[j]? = some c'→FrzK H S c c':=by
  induction h with
  |nil=>exact⟨rfl,fun j c c' h=>by simp at h⟩
  |same t ih=>
   refine⟨by simp[ih.1],fun j c c' h1 h2=>?_⟩
   cases j with
   |zero=>simp at h1 h2;subst h1;subst h2;exact .inl rfl
   |succ j=>simp at h1 h2;exact ih.2 j c c' h1 h2
  |cons h h' t ih=>
   refine⟨by simp[ih.1],fun j c c' h1 h2=>?_⟩
   cases j with
   |zero=>simp at h1 h2;subst h1;subst h2;exact .inr ⟨h,h'⟩
   |succ j=>simp at h1 h2;exact ih.2 j c c' h1 h2
 exact .st _ _ this.1 this.2
end Go.AE
namespace Go.AE
variable {P:Program}{H0 H H':Heap}{E L:List (Nat×Obj)}
structure Kn (H0 H:Heap)(E L:List (Nat×Obj)):Prop where
 get:∀p∈E++L,H p.1=p.2∧p.2≠.none
 ext:∀p∈E,H0 p.1≠.none
 loc:∀p∈L,H0 p.1=.none
 dE:(E.map Prod.fst).Nodup
 dL:(L.map Prod.fst).Nodup
 chg:∀m,H0 m≠.none→m∉E.map Prod.fst→H m=H0 m
def Upd (H H':Heap)(U:List (Nat×Obj)):Prop:=(∀p∈U,H' p.1=p.2)∧∀m,H m≠.none→m∉U.map Prod.fst→H' m=H m
theorem Kn.start0 (H:Heap):Kn H H [] []:=⟨by simp,by simp,by simp,by simp,by simp,fun _ _ _=>rfl⟩
theorem Kn.start1 {l:Nat}{o:Obj}(h:H l=o)(ho:o≠.none):Kn H H [(l,o)] []:=
 ⟨by simp[h,ho],by simp[h,ho],by simp,by simp,by simp,fun _ _ _=>rfl⟩
theorem Kn.start2 {l m:Nat}{o q:Obj}(h:H l=o)(ho:o≠.none)(h2:H m=q)(hq:q≠.none)(hn:l≠m):Kn H H [(l,o),(m,q)] []:=
 ⟨by simp[h,ho,h2,hq],by simp[h,ho,h2,hq],by simp,by simp[hn],by simp,fun _ _ _=>rfl⟩
theorem Kn.e (hk:Kn H0 H E L)(i:Nat){l:Nat}{o:Obj}(h:E[i]? = some (l,o)):H l=o:=
 (hk.get (l,o) (Jb _ (Ja h))).1
theorem Kn.l (hk:Kn H0 H E L)(i:Nat){l:Nat}{o:Obj}(h:L[i]? = some (l,o)):H l=o:=
 (hk.get (l,o) (Jc _ (Ja h))).1
theorem Kn.free (hk:Kn H0 H E L)(i:Nat){l:Nat}{o:Obj}(h:L[i]? = some (l,o)):H0 l=.none:=hk.loc (l,o) (Ja h)
theorem Kn.un (hk:Kn H0 H E L)(i:Nat){l:Nat}{o:Obj}(h:L[i]? = some (l,o)):un H0 l=true:=Qe8 (hk.free i h)
theorem Kn.usedE (hk:Kn H0 H E L)(i:Nat){l:Nat}{o:Obj}(h:E[i]? = some (l,o)):H0 l≠.none:=hk.ext (l,o) (Ja h)
theorem Kn.ne (hk:Kn H0 H E L)(i j:Nat){l m:Nat}{o q:Obj}(h:E[i]? = some (l,o))(h2:L[j]? = some (m,q)):l≠m:=fun hh=>by
 subst hh;exact hk.usedE i h (hk.free j h2)
theorem Qao {L:List (Nat×Obj)}{p:Nat×Obj}(h:p∈L):p.1∈L.map Prod.fst:=List.mem_map_of_mem h
theorem Qcp {L:List (Nat×Obj)}(hd:(L.map Prod.fst).Nodup){i j:Nat}{p q:Nat×Obj}(hi:L[i]? = some p)(hj:L[j]? = some q)(h:p.1=q.1):i=j:=by
 have h1:(L.map Prod.fst)[i]? = some p.1:=by simp[hi]
 have h2:(L.map Prod.fst)[j]? = some q.1:=by simp[hj]
 have hlt:i<(L.map Prod.fst).length:=(Jq.1 h1).1;exact (List.getElem?_inj hlt hd).1 (by rw[h1,h2,h])
theorem Kn.neL (hk:Kn H0 H E L)(i j:Nat){l m:Nat}{o q:Obj}(h:L[i]? = some (l,o))(h2:L[j]? = some (m,q))(hij:i≠j):l≠m:=fun hh=>
 hij (Qcp hk.dL h h2 hh)
theorem Kn.newFree (hk:Kn H0 H E L){x:Nat}(hx:H x=.none):H0 x=.none∧x∉E.map Prod.fst∧x∉L.map Prod.fst:=by
 have hno:∀p∈E++L,p.1≠x:=fun p hp hh=>by
  obtain⟨h1,h2⟩:=hk.get p hp;rw[hh,hx]at h1;exact h2 h1.symm
 have hE:x∉E.map Prod.fst:=fun h=>by
  obtain⟨p,hp,hh⟩:=Jh.1 h;exact hno p (Jb _ hp) hh
 refine⟨?_,hE,fun h=>?_⟩
 ·cases h0:H0 x with
  |none=>rfl
  |_=>have:=hk.chg x (by rw[h0];simp) hE;rw[hx,h0]at this;simp at this
 ·obtain⟨p,hp,hh⟩:=Jh.1 h;exact hno p (Jc _ hp) hh
theorem Kn.alloc (hk:Kn H0 H E L){x:Nat}{o:Obj}(hx:H x=.none)(ho:o≠.none):Kn H0 (H.set x o) E (L++[(x,o)]):=by
 obtain⟨h1,h2,h3⟩:=hk.newFree hx;refine⟨fun p hp=>?_,hk.ext,fun p hp=>?_,hk.dE,?_,fun m hm hn=>?_⟩
 ·rw[←Ji]at hp;rcases Jd.1 hp with hp|hp
  ·have:p.1≠x:=fun hh=>by
    rcases Jd.1 hp with hp|hp
    ·exact h2 (hh▸Qao hp)
    ·exact h3 (hh▸Qao hp)
   rw[Heap.set_other _ _ this];exact hk.get p hp
  ·simp at hp;subst hp;exact⟨Heap.set_same _ _ _,ho⟩
 ·rcases Jd.1 hp with hp|hp
  ·exact hk.loc p hp
  ·simp at hp;subst hp;exact h1
 ·rw[Jk];refine Jf.2 ⟨hk.dL,by simp,fun a ha b hb=>?_⟩;simp at hb;subst hb;exact fun hh=>h3 (hh▸ha)
 ·have:m≠x:=fun hh=>by subst hh;exact hm h1
  rw[Heap.set_other _ _ this];exact hk.chg m hm hn
theorem Qbx {L:List (Nat×Obj)}{i:Nat}{x:Nat}{o o':Obj}(h:L[i]? = some (x,o)):(L.set i (x,o')).map Prod.fst=L.map Prod.fst:=by
 rw[J5];refine List.ext_getElem? fun j=>?_;rw[J2];split
 ·rename_i hij
  subst hij;have hlt:=(Jq.1 h).1;rw[if_pos (by simpa using hlt)];simp[h]
 ·rfl
theorem Qbh {α:Type}{L:List α}{i:Nat}{x p:α}(h:p∈L.set i x):p=x∨∃j,j≠i∧L[j]? = some p:=by
 obtain⟨j,hj⟩:=List.getElem?_of_mem h;rw[J2]at hj;split at hj
 ·split at hj
  ·simp at hj;exact .inl hj.symm
  ·simp at hj
 ·rename_i hn;exact .inr ⟨j,fun h=>hn h.symm,hj⟩
theorem Kn.setL (hk:Kn H0 H E L)(i:Nat){x:Nat}{o o':Obj}(h:L[i]? = some (x,o))(ho:o'≠.none):Kn H0 (H.set x o') E (L.set i (x,o')):=by
 have hf:=hk.free i h;refine⟨fun p hp=>?_,hk.ext,fun p hp=>?_,hk.dE,by rw[Qbx h];exact hk.dL,fun m hm hn=>?_⟩
 ·rcases Jd.1 hp with hp|hp
  ·have:p.1≠x:=fun hh=>hk.ext p hp (hh▸hf);rw[Heap.set_other _ _ this];exact hk.get p (Jb _ hp)
  ·rcases Qbh hp with rfl|⟨j,hj,hp⟩
   ·exact⟨Heap.set_same _ _ _,ho⟩
   ·have:p.1≠x:=fun hh=>hj (Qcp hk.dL hp h hh);rw[Heap.set_other _ _ this];exact hk.get p (Jc _ (Ja hp))
 ·rcases Qbh hp with rfl|⟨j,hj,hp⟩
  ·exact hf
  ·exact hk.loc p (Ja hp)
 ·have:m≠x:=fun hh=>by subst hh;exact hm hf
  rw[Heap.set_other _ _ this];exact hk.chg m hm hn
theorem Kn.setE (hk:Kn H0 H E L)(i:Nat){x:Nat}{o o':Obj}(h:E[i]? = some (x,o))(ho:o'≠.none):Kn H0 (H.set x o') (E.set i (x,o')) L:=by
 have hf:=hk.usedE i h;refine⟨fun p hp=>?_,fun p hp=>?_,hk.loc,by rw[Qbx h];exact hk.dE,hk.dL,fun m hm hn=>?_⟩
 ·rcases Jd.1 hp with hp|hp
  ·rcases Qbh hp with rfl|⟨j,hj,hp⟩
   ·exact⟨Heap.set_same _ _ _,ho⟩
   ·have:p.1≠x:=fun hh=>hj (Qcp hk.dE hp h hh);rw[Heap.set_other _ _ this];exact hk.get p (Jb _ (Ja hp))
  ·have:p.1≠x:=fun hh=>hf (hh▸hk.loc p hp);rw[Heap.set_other _ _ this];exact hk.get p (Jc _ hp)
 ·rcases Qbh hp with rfl|⟨j,hj,hp⟩
  ·exact hf
  ·exact hk.ext p (Ja hp)
 ·rw[Qbx h]at hn;have:m≠x:=fun hh=>by subst hh;exact hn (Qao (p:=(m,o)) (Ja h))
  rw[Heap.set_other _ _ this];exact hk.chg m hm hn
theorem Kn.app (hk:Kn H0 H E L)(i:Nat){y y':Nat}{o o':Obj}(h:L[i]? = some (y,o))(hy:(H.set y .none) y'=.none)(ho:o'≠.none) :
  Kn H0 ((H.set y .none).set y' o') E (L.set i (y',o')):=by
 have hf:=hk.free i h;have hyf:H0 y'=.none∧y'∉E.map Prod.fst∧∀(j:Nat) (p:Nat×Obj),j≠i→L[j]? = some p→p.1≠y':=by
  by_cases hyy:y'=y
  ·subst hyy;refine⟨hf,fun hh=>?_,fun j p hj hp hh=>hj (Qcp hk.dL hp h hh)⟩;obtain⟨p,hp,hh⟩:=Jh.1 hh;exact hk.ext p hp (hh▸hf)
  ·rw[Heap.set_other _ _ hyy]at hy;obtain⟨h1,h2,h3⟩:=hk.newFree hy;exact⟨h1,h2,fun j p hj hp hh=>h3 (hh▸Qao (Ja hp))⟩
 obtain⟨h1,h2,h3⟩:=hyf;refine⟨fun p hp=>?_,hk.ext,fun p hp=>?_,hk.dE,?_,fun m hm hn=>?_⟩
 ·rcases Jd.1 hp with hp|hp
  ·have a1:p.1≠y:=fun hh=>hk.ext p hp (hh▸hf);have a2:p.1≠y':=fun hh=>hk.ext p hp (hh▸h1);rw[Heap.set_other _ _ a2,Heap.set_other _ _ a1];exact hk.get p (Jb _ hp)
  ·rcases Qbh hp with rfl|⟨j,hj,hp⟩
   ·exact⟨Heap.set_same _ _ _,ho⟩
   ·have a1:p.1≠y:=fun hh=>hj (Qcp hk.dL hp h hh);rw[Heap.set_other _ _ (h3 j p hj hp),Heap.set_other _ _ a1];exact hk.get p (Jc _ (Ja hp))
 ·rcases Qbh hp with rfl|⟨j,hj,hp⟩
  ·exact h1
  ·exact hk.loc p (Ja hp)
 ·rw[J5];refine Jab.2 fun a b ha hb hab=>?_;rw[List.length_set,J1]at ha hb;have gl:∀(j:Nat) (hj:j<L.length),j≠i→L[j].1≠y':=fun j hj hji=>h3 j L[j] hji (Jm hj);have hd:=Jab.1 hk.dL a b (by simpa using ha) (by simpa using hb) hab;simp only[J6,List.getElem_map]at hd⊢;by_cases e1:i=a
  ·subst e1;rw[if_pos rfl,if_neg (by omega)];exact fun hh=>gl b hb (by omega) hh.symm
  ·rw[if_neg e1];by_cases e2:i=b
   ·subst e2;rw[if_pos rfl];exact gl a ha (by omega)
   ·rw[if_neg e2];exact hd
 ·have a1:m≠y:=fun hh=>by subst hh;exact hm hf
  have a2:m≠y':=fun hh=>by subst hh;exact hm h1
  rw[Heap.set_other _ _ a2,Heap.set_other _ _ a1];exact hk.chg m hm hn
theorem Kn.callg (hk:Kn H0 H E L){U E2 L2:List (Nat×Obj)}(hu:Upd H H' U)(hE:E2.map Prod.fst=E.map Prod.fst)(hL:L2.map Prod.fst=L.map Prod.fst)
  (h:∀p∈E2++L2,p.2≠.none∧(p∈U∨(p∈E++L∧p.1∉U.map Prod.fst))) (hU:∀u∈U,u.1∈E.map Prod.fst∨u.1∈L.map Prod.fst):Kn H0 H' E2 L2:=by
 have hin:∀{A B:List (Nat×Obj)} {p:Nat×Obj},B.map Prod.fst=A.map Prod.fst→p∈B→∃q∈A,q.1=p.1:=fun hAB hp=>by
  have:=Qao hp;rw[hAB]at this;obtain⟨q,h1,h2⟩:=Jh.1 this;exact⟨q,h1,h2⟩
 refine⟨fun p hp=>?_,fun p hp=>?_,fun p hp=>?_,by rw[hE];exact hk.dE,by rw[hL];exact hk.dL,fun m hm hn=>?_⟩
 ·obtain⟨h1,h2⟩:=h p hp;refine⟨?_,h1⟩;rcases h2 with h2|⟨h2,h3⟩
  ·exact hu.1 p h2
  ·obtain⟨a1,a2⟩:=hk.get p h2;rw[hu.2 p.1 (by rw[a1];exact a2) h3,a1]
 ·obtain⟨q,hq,hh⟩:=hin hE hp;rw[←hh];exact hk.ext q hq
 ·obtain⟨q,hq,hh⟩:=hin hL hp;rw[←hh];exact hk.loc q hq
 ·rw[hE]at hn;have h0:=hk.chg m hm hn;rw[hu.2 m (by rw[h0];exact hm) (fun hh=>?_),h0];obtain⟨u,hu1,hu2⟩:=Jh.1 hh;rcases hU u hu1 with a|a
  ·exact hn (hu2▸a)
  ·obtain⟨q,hq,hh⟩:=Jh.1 a;exact hm (by rw[←hu2,←hh];exact hk.loc q hq)
theorem Kn.call0 (hk:Kn H0 H E L)(hu:Upd H H' []):Kn H0 H' E L:=hk.callg hu rfl rfl (fun p hp=>⟨(hk.get p hp).2,.inr ⟨hp,by simp⟩⟩) (by simp)
theorem Kn.callE (hk:Kn H0 H E L)(i:Nat){l:Nat}{o o':Obj}(h:E[i]? = some (l,o))(hu:Upd H H' [(l,o')])(ho:o'≠.none):Kn H0 H' (E.set i (l,o')) L:=by
 refine hk.callg hu (Qbx h) rfl (fun p hp=>?_) (fun u hu=>by simp at hu;subst hu;exact .inl (Qao (p:=(l,o)) (Ja h)));rcases Jd.1 hp with hp|hp
 ·rcases Qbh hp with rfl|⟨j,hj,hp⟩
  ·exact⟨ho,.inl (by simp)⟩
  ·have hm:=Jb L (Ja hp);exact⟨(hk.get p hm).2,.inr ⟨hm,by simp;exact fun hh=>hj (Qcp hk.dE hp h hh)⟩⟩
 ·have hm:=Jc E hp;exact⟨(hk.get p hm).2,.inr ⟨hm,by simp;exact fun hh=>hk.usedE i h (hh▸hk.loc p hp)⟩⟩
theorem Kn.callL (hk:Kn H0 H E L)(i:Nat){l:Nat}{o o':Obj}(h:L[i]? = some (l,o))(hu:Upd H H' [(l,o')])(ho:o'≠.none):Kn H0 H' E (L.set i (l,o')):=by
 refine hk.callg hu rfl (Qbx h) (fun p hp=>?_) (fun u hu=>by simp at hu;subst hu;exact .inr (Qao (p:=(l,o)) (Ja h)));rcases Jd.1 hp with hp|hp
 ·have hm:=Jb L hp;exact⟨(hk.get p hm).2,.inr ⟨hm,by simp;exact fun hh=>hk.ext p hp (hh▸hk.free i h)⟩⟩
 ·rcases Qbh hp with rfl|⟨j,hj,hp⟩
  ·exact⟨ho,.inl (by simp)⟩
  ·have hm:=Jc E (Ja hp);exact⟨(hk.get p hm).2,.inr ⟨hm,by simp;exact fun hh=>hj (Qcp hk.dL hp h hh)⟩⟩
theorem Kn.callEE (hk:Kn H0 H E L)(i j:Nat){l m:Nat}{o o' q q':Obj}(h:E[i]? = some (l,o))(h2:E[j]? = some (m,q))(hij:i≠j)(hu:Upd H H' [(l,o'),(m,q')])(ho:o'≠.none)(hq:q'≠.none) :
  Kn H0 H' ((E.set i (l,o')).set j (m,q')) L:=by
 have h2':(E.set i (l,o'))[j]? = some (m,q):=by rw[J2];rw[if_neg hij];exact h2
 refine hk.callg hu ((Qbx h2').trans (Qbx h)) rfl (fun p hp=>?_) (fun u hu=>?_)
 ·rcases Jd.1 hp with hp|hp
  ·rcases Qbh hp with rfl|⟨b,hb,hp⟩
   ·exact⟨hq,.inl (by simp)⟩
   ·rcases Qbh (Ja hp)with rfl|⟨c,hc,hp'⟩
    ·exact⟨ho,.inl (by simp)⟩
    ·have hm:=Jb L (Ja hp');rw[J2]at hp;split at hp
     ·rename_i hib
      split at hp
      ·simp at hp;subst hp;exact⟨ho,.inl (by simp)⟩
      ·simp at hp
     ·rename_i hib
      refine⟨(hk.get p hm).2,.inr ⟨hm,?_⟩⟩;simp only[Jz,J4,Jp,J7,or_false,not_or];exact⟨fun hh=>hib (Qcp hk.dE hp h hh).symm,fun hh=>hb (Qcp hk.dE hp h2 hh)⟩
  ·have hm:=Jc E hp;refine⟨(hk.get p hm).2,.inr ⟨hm,?_⟩⟩;simp only[Jz,J4,Jp,J7,or_false,not_or];exact⟨fun hh=>hk.usedE i h (hh▸hk.loc p hp),fun hh=>hk.usedE j h2 (hh▸hk.loc p hp)⟩
 ·simp at hu;rcases hu with rfl|rfl
  ·exact .inl (Qao (p:=(l,o)) (Ja h))
  ·exact .inl (Qao (p:=(m,q)) (Ja h2))
theorem Kn.fin (hk:Kn H0 H E L):Upd H0 (H.frz (Go.AE.un H0)) E:=by
 refine⟨fun p hp=>?_,fun m hm hn=>?_⟩
 ·rw[Qbe0 (hk.ext p hp)];exact (hk.get p (Jb _ hp)).1
 ·rw[Qbe0 hm];exact hk.chg m hm hn
abbrev unK (H:Heap)(K:V→Heap→Prop):V→Heap→Prop
 |.pn v,H'=>K (.pn v) (H'.frz (un H))
 |x,H'=>∃x',FrzV H' (un H) x x'∧K x' (H'.frz (un H))
theorem Qbuh {K:V→Heap→Prop}{H0:Heap}{x:C}:unK H0 K (.c x) H=∃x',FrzV H (un H0) (.c x) x'∧K x' (H.frz (un H0)):=rfl
theorem Qbs9 {K:V→Heap→Prop}{H0:Heap}{x:List C}:unK H0 K (.ag x) H=∃x',FrzV H (un H0) (.ag x) x'∧K x' (H.frz (un H0)):=rfl
theorem Qbrd {K:V→Heap→Prop}{H0:Heap}{x:List V}:unK H0 K (.tup x) H=∃x',FrzV H (un H0) (.tup x) x'∧K x' (H.frz (un H0)):=rfl
theorem Qbre {K:V→Heap→Prop}{H0:Heap}:unK H0 K .unk H=∃x',FrzV H (un H0) .unk x'∧K x' (H.frz (un H0)):=rfl
theorem Qbta {K:V→Heap→Prop}{H0:Heap}{v:Value}:unK H0 K (.pn v) H=K (.pn v) (H.frz (un H0)):=rfl
attribute [go_sem] Qbuh Qbs9 Qbrd Qbre Qbta
theorem Qx {f:Nat}{args:List V}{K:V→Heap→Prop}(h:Qs P f args H (unK H K)):Qs P f args H K:=
 Qbd6 (Qa9z h fun x H' hx=>by
  cases x with
  |pn v=>exact⟨un H,hx⟩
  |_=>
   obtain⟨x',h1,h2⟩:=hx;exact⟨un H,x',h1,h2⟩)
theorem Kn.al (hk:Kn H0 H E L){x:Nat}{o:Obj}(hx:H x=.none)(h1:H'=H.set x o)(ho:o≠.none:=by nofun):Kn H0 H' E (L++[(x,o)]):=h1▸hk.alloc hx ho
theorem Kn.stL (hk:Kn H0 H E L)(i:Nat){x:Nat}{o o':Obj}(h:L[i]? = some (x,o))(h1:H'=H.set x o')(ho:o'≠.none:=by nofun):Kn H0 H' E (L.set i (x,o')):=h1▸hk.setL i h ho
theorem Kn.stE (hk:Kn H0 H E L)(i:Nat){x:Nat}{o o':Obj}(h:E[i]? = some (x,o))(h1:H'=H.set x o')(ho:o'≠.none:=by nofun):Kn H0 H' (E.set i (x,o')) L:=h1▸hk.setE i h ho
theorem Kn.ap (hk:Kn H0 H E L)(i:Nat){y y':Nat}{o o':Obj}(h:L[i]? = some (y,o))(hy:(H.set y .none) y'=.none)(h1:H'=(H.set y .none).set y' o')(ho:o'≠.none:=by nofun):Kn H0 H' E (L.set i (y',o')):=h1▸hk.app i h hy ho
end Go.AE
namespace Go.AE.Y
theorem Qr {x:Int}(h1:-(2^63)≤x)(h2:x<2^63):inR .i64 x:=by
 unfold inR;have a1:IntKind.min .i64=-(2^63):=by decide
 have a2:IntKind.max .i64=2^63-1:=by decide
 rw[a1,a2];omega
theorem Qgu (b:UInt8):inR .i64 (b.toNat:Int):=Qr (by omega) (by have:=b.toNat_lt;omega)
def Qbp (bs:List UInt8):List (List C):=bs.map fun b=>[.int .u8 b.toNat]
theorem Qav (bs:List UInt8):(Qbp bs).length=bs.length:=by simp[Qbp]
theorem Q26 (bs:List UInt8)(i:Nat)(h:i<bs.length):(Qbp bs).getD i []=[.int .u8 (bs.getD i 0).toNat]:=by
 simp[Qbp,Je,h]
theorem Qbrk {a b:Int}(ha:0≤a)(hb:0≤b)(ha':a<2^62)(hb':b<2^62):0≤Qa92 .xor .i64 a b:=by
 obtain⟨m,rfl⟩:=Js ha;obtain⟨n,rfl⟩:=Js hb;have hm:m<2^62:=by omega
 have hn:n<2^62:=by omega
 have hx:m ^^^ n<2^62:=Nat.xor_lt_two_pow hm hn;have h1:(BitVec.ofInt (IntKind.bits .i64) (m:Int) ^^^ BitVec.ofInt (IntKind.bits .i64) (n:Int)).toNat=m ^^^ n:=by
  have hb:IntKind.bits .i64=64:=rfl;rw[hb,BitVec.toNat_xor];have e1:(BitVec.ofInt 64 (m:Int)).toNat=m:=by simp;omega
  have e2:(BitVec.ofInt 64 (n:Int)).toNat=n:=by simp;omega
  rw[e1,e2]
 simp only[Qa92];rw[h1];simp only[IntKind.wrap];have hb:IntKind.bits .i64=64:=rfl;have hm:((m ^^^ n:Nat):Int) % 2 ^ 64=(m ^^^ n:Nat):=Int.emod_eq_of_lt (by omega) (by omega);rw[hb,hm];rw[if_neg]
 ·omega
 ·simp only[Ju,decide_eq_true_eq,not_and];intro _;omega
structure Rdr where
 l:Nat
 fl:Bool
 bs:List UInt8
def Rdr.o (R:Rdr)(k:Nat):Obj:=.st [.sl R.fl 1 (Qbp R.bs),.int .i64 k]
theorem Rdr.o_ne (R:Rdr)(k:Nat):R.o k≠.none:=by simp[Rdr.o]
def Qb (ns:List Int):List (List C):=ns.map fun n=>[.int .i64 n]
theorem Qd (ns:List Int):(Qb ns).length=ns.length:=by simp[Qb]
theorem Qn (ns:List Int)(i:Nat)(h:i<ns.length):(Qb ns).getD i []=[.int .i64 (ns.getD i 0)]:=by
 simp[Qb,Je,h]
theorem Qbg (a b:List Int):Qb (a++b)=Qb a++Qb b:=by simp[Qb]
theorem Qp (ns:List Int):∀r∈Qb ns,noOw r=true:=by
 intro r hr;simp[Qb]at hr;obtain⟨n,_,rfl⟩:=hr;rfl
def Qbm (ss:List (List UInt8)):List (List C):=ss.map fun s=>[.str s]
theorem Qas (ss:List (List UInt8)):(Qbm ss).length=ss.length:=by simp[Qbm]
theorem Qic (ss:List (List UInt8))(i:Nat)(h:i<ss.length):(Qbm ss).getD i []=[.str (ss.getD i [])]:=by
 simp[Qbm,Je,h]
theorem Qamf:Qbm []=[]:=rfl
theorem Qa75 (a:List (List UInt8))(n:List UInt8):Qbm a++[[.str n]]=Qbm (a++[n]):=by simp[Qbm]
theorem Qmw (ns:List (List UInt8)):∀r∈Qbm ns,noOw r=true:=by
 intro r hr;simp[Qbm]at hr;obtain⟨n,_,rfl⟩:=hr;rfl
theorem noOw_mem {rows:List (List C)}(h:∀r∈rows,noOw r=true):∀r∈rows,∀c∈r,c.isOw=false:=fun r hr c hc=>by
 have:=h r hr;simp only[noOw,List.all_eq_true]at this;simpa using this c hc
theorem Qbl4 {a b:List (List C)}(ha:∀r∈a,noOw r=true)(hb:∀r∈b,noOw r=true):∀r∈a++b,noOw r=true:=fun r hr=>by
 rcases Jd.1 hr with h|h
 ·exact ha r h
 ·exact hb r h
inductive Ex where
 |mk (op n:Int) (name:List UInt8) (kids:List Ex)
def Ex.op:Ex→Int|.mk op _ _ _=>op
def Ex.n:Ex→Int|.mk _ n _ _=>n
def Ex.name:Ex→List UInt8|.mk _ _ s _=>s
def Ex.kids:Ex→List Ex|.mk _ _ _ k=>k
mutual
def Ex.cells:Ex→List C
 |.mk op n name kids=>[.int .i64 op,.int .i64 n,.str name,.sl false 4 (Qbv kids)]
def Qbv:List Ex→List (List C)
 |[]=>[]
 |x::r=>x.cells::Qbv r
end
theorem Ex.cells_eq (x:Ex):x.cells=[.int .i64 x.op,.int .i64 x.n,.str x.name,.sl false 4 (Qbv x.kids)]:=by
 cases x;simp[Ex.cells,Ex.op,Ex.n,Ex.name,Ex.kids]
theorem Qx9 (l:List Ex):Qbv l=l.map Ex.cells:=by
 induction l with
 |nil=>simp[Qbv]
 |cons x r ih=>simp[Qbv,ih]
theorem Qa6 (l:List Ex):(Qbv l).length=l.length:=by simp[Qx9]
theorem Qer (l:List Ex)(i:Nat)(h:i<l.length):(Qbv l).getD i []=(l[i]'h).cells:=by
 simp[Qx9,Je,h]
theorem Qbae (a:List Ex)(x:Ex):Qbv a++[x.cells]=Qbv (a++[x]):=by simp[Qx9]
theorem Ex.noOw (x:Ex):Go.AE.noOw x.cells=true:=by rw[x.cells_eq];rfl
theorem Qj1 (l:List Ex):∀r∈Qbv l,Go.AE.noOw r=true:=by
 intro r hr;rw[Qx9]at hr;obtain⟨x,_,rfl⟩:=Jh.1 hr;exact x.noOw
theorem Ex.cells_len (x:Ex):x.cells.length=4:=by rw[x.cells_eq];rfl
mutual
def Ex.size:Ex→Nat
 |.mk _ _ _ kids=>1+Qai kids
def Qai:List Ex→Nat
 |[]=>0
 |x::r=>x.size+Qai r
end
mutual
def Ex.ok:Ex→Prop
 |.mk op _ _ kids=>(op=10→kids.length=2)∧Qd3 kids
def Qd3:List Ex→Prop
 |[]=>True
 |x::r=>x.ok∧Qd3 r
end
theorem Q9u {l:List Ex}(h:Qd3 l):∀x∈l,x.ok:=by
 induction l with
 |nil=>simp
 |cons y r ih=>
  simp only[Qd3]at h;intro x hx;rcases Jp.1 hx with rfl|hx
  ·exact h.1
  ·exact ih h.2 x hx
theorem Qbeu {a b:List Ex}(ha:Qd3 a)(hb:Qd3 b):Qd3 (a++b):=by
 induction a with
 |nil=>exact hb
 |cons x r ih=>simp only[Qd3]at ha;exact⟨ha.1,ih ha.2⟩
theorem Qwm (a b:List Ex):Qai (a++b)=Qai a+Qai b:=by
 induction a with
 |nil=>simp[Qai]
 |cons x r ih=>simp[Qai,ih];omega
theorem Ex.size_pos (x:Ex):1≤x.size:=by cases x;simp[Ex.size]
theorem Qes {l:List Ex}{x:Ex}(h:x∈l):x.size≤Qai l:=by
 induction l with
 |nil=>simp at h
 |cons y r ih=>
  simp only[Qai];rcases Jp.1 h with rfl|h
  ·omega
  ·have:=ih h;omega
theorem Ex.size_kids (x:Ex):x.size=1+Qai x.kids:=by cases x;simp[Ex.size,Ex.kids]
theorem Ex.ok_kids {x:Ex}(h:x.ok):Qd3 x.kids:=by cases x;simp only[Ex.ok]at h;exact h.2
theorem Ex.ok_and {x:Ex}(h:x.ok)(h1:x.op=10):x.kids.length=2:=by cases x;simp only[Ex.ok]at h;exact h.1 h1
theorem Ex.frz {H:Heap}{S:Nat→Bool}{fl:Bool}(x:Ex):FrzV H S (.ag [.int .i64 x.op,.int .i64 x.n,.str x.name,.sl fl 4 (Qbv x.kids)]) (.ag x.cells):=by
 rw[x.cells_eq];exact (FrzL.cons (Qg rfl) (FrzL.cons (Qg rfl) (FrzL.cons (Qg rfl) (FrzL.cons (Q1l (noOw_mem (Qj1 _))) FrzL.nil)))).ag
variable {H:Heap}{S:Nat→Bool}
inductive FrzR (H:Heap)(S:Nat→Bool):List (List C)→List (List C)→Prop
 |nil:FrzR H S [] []
 |cons {r r':List C} {l l':List (List C)} (h:FrzL H S r r') (t:FrzR H S l l'):FrzR H S (r::l) (r'::l')
theorem FrzR.spec {l l':List (List C)}(h:FrzR H S l l'):l'.length=l.length∧∀(i:Nat) (r r':List C),l[i]? = some r→l'[i]? = some r'→FrzL H S r r':=by
 induction h with
 |nil=>exact⟨rfl,fun j c c' h=>by simp at h⟩
 |cons h t ih=>
  refine⟨by simp[ih.1],fun j c c' h1 h2=>?_⟩
  cases j with
  |zero=>simp at h1 h2;subst h1;subst h2;exact h
  |succ j=>simp at h1 h2;exact ih.2 j c c' h1 h2
theorem FrzR.sl {fl:Bool}{sz:Nat}{l l':List (List C)}(h:FrzR H S l l'):FrzC H S (.sl fl sz l) (.sl false sz l'):=
 .sl fl sz l l' h.spec.1 (fun i r r' h1 h2=>(h.spec.2 i r r' h1 h2).spec.1) fun i r r' j c c' h1 h2 h3 h4=>(h.spec.2 i r r' h1 h2).spec.2 j c c' h3 h4
theorem FrzR.vsl {l sz n:Nat}{rows rows':List (List C)}(hS:S l=true)(hH:H l=.vec sz rows)(hn:n=rows.length)(h:FrzR H S rows rows'):FrzC H S (.vsl l sz 0 n) (.sl false sz rows'):=by
 subst hn;exact .vsl l sz 0 rows.length rows rows rows' hS hH (by omega) (by simp) h.spec.1 (fun i r r' h1 h2=>(h.spec.2 i r r' h1 h2).spec.1) fun i r r' j c c' h1 h2 h3 h4=>(h.spec.2 i r r' h1 h2).spec.2 j c c' h3 h4
end Go.AE.Y
namespace Go.AE
open Go.AE.Y
variable {H:Heap}{S:Nat→Bool}
theorem FrzL.same {l:List C}(h:noOw l=true):FrzL H S l l:=by
 induction l with
 |nil=>exact .nil
 |cons c r ih=>
  simp only[noOw,Jy,Ju,Jam]at h ih;exact .cons (.same _ h.1) (ih (by simpa using h.2))
end Go.AE
namespace Go.AE.Y
variable {H:Heap}{S:Nat→Bool}
theorem FrzR.same {l:List (List C)}(h:∀r∈l,noOw r=true):FrzR H S l l:=by
 induction l with
 |nil=>exact .nil
 |cons c r ih=>exact .cons (.same (h _ Jx)) (ih fun x hx=>h x (Jr _ hx))
theorem FrzR.app {a a' b b':List (List C)}(h:FrzR H S a a')(k:FrzR H S b b'):FrzR H S (a++b) (a'++b'):=by
 induction h with
 |nil=>exact k
 |cons h t ih=>exact .cons h ih
end Go.AE.Y
namespace Go.AE
open Go.AE.Y
variable {H:Heap}{S:Nat→Bool}
theorem Upd.set2 {H H':Heap}{a b:Nat}{oa ob o:Obj}(h:Upd H H' [(a,oa),(b,ob)])(hn:a≠b):Upd H (H'.set b o) [(a,oa),(b,o)]:=by
 refine⟨fun p hp=>?_,fun m hm hx=>?_⟩
 ·simp at hp;rcases hp with rfl|rfl
  ·show (H'.set b o) a=oa;rw[Heap.set_other _ _ hn];exact h.1 (a,oa) (by simp)
  ·exact Heap.set_same _ _ _
 ·have:m≠b:=by simp at hx;exact hx.2
  rw[Heap.set_other _ _ this];exact h.2 m hm (by simpa using hx)
end Go.AE
namespace Go.AE.Y
variable {H:Heap}{S:Nat→Bool}
inductive St where
 |mk (op:Int) (name:List UInt8) (args:List Ex) (body els:List St)
def St.op:St→Int|.mk op _ _ _ _=>op
def St.name:St→List UInt8|.mk _ s _ _ _=>s
def St.args:St→List Ex|.mk _ _ a _ _=>a
def St.body:St→List St|.mk _ _ _ b _=>b
def St.els:St→List St|.mk _ _ _ _ e=>e
mutual
def St.cells:St→List C
 |.mk op name args body els=>[.int .i64 op,.str name,.sl false 4 (Qbv args),.sl false 5 (Qa4 body),.sl false 5 (Qa4 els)]
def Qa4:List St→List (List C)
 |[]=>[]
 |x::r=>x.cells::Qa4 r
end
theorem St.cells_eq (x:St):x.cells=[.int .i64 x.op,.str x.name,.sl false 4 (Qbv x.args),.sl false 5 (Qa4 x.body),.sl false 5 (Qa4 x.els)]:=by
 cases x;simp[St.cells,St.op,St.name,St.args,St.body,St.els]
theorem Q0x (l:List St):Qa4 l=l.map St.cells:=by
 induction l with
 |nil=>simp[Qa4]
 |cons x r ih=>simp[Qa4,ih]
theorem Qbb (l:List St):(Qa4 l).length=l.length:=by simp[Q0x]
theorem Qe7 (l:List St)(i:Nat)(h:i<l.length):(Qa4 l).getD i []=(l[i]'h).cells:=by
 simp[Q0x,Je,h]
theorem Qagy (a b:List St):Qa4 a++Qa4 b=Qa4 (a++b):=by simp[Q0x]
theorem St.noOw (x:St):Go.AE.noOw x.cells=true:=by rw[x.cells_eq];rfl
theorem Qg9 (l:List St):∀r∈Qa4 l,Go.AE.noOw r=true:=by
 intro r hr;rw[Q0x]at hr;obtain⟨x,_,rfl⟩:=Jh.1 hr;exact x.noOw
theorem St.cells_len (x:St):x.cells.length=5:=by rw[x.cells_eq];rfl
mutual
def St.size:St→Nat
 |.mk _ _ args body els=>1+Qai args+Q5 body+Q5 els
def Q5:List St→Nat
 |[]=>0
 |x::r=>x.size+Q5 r
end
mutual
def St.ok:St→Prop
 |.mk _ _ args body els=>0<args.length∧Qd3 args∧Qc0 body∧Qc0 els
def Qc0:List St→Prop
 |[]=>True
 |x::r=>x.ok∧Qc0 r
end
theorem Qbjj {l:List St}(h:Qc0 l):∀x∈l,x.ok:=by
 induction l with
 |nil=>simp
 |cons y r ih=>
  simp only[Qc0]at h;intro x hx;rcases Jp.1 hx with rfl|hx
  ·exact h.1
  ·exact ih h.2 x hx
theorem Qagz {a b:List St}(ha:Qc0 a)(hb:Qc0 b):Qc0 (a++b):=by
 induction a with
 |nil=>exact hb
 |cons x r ih=>simp only[Qc0]at ha;exact⟨ha.1,ih ha.2⟩
theorem Qid (a b:List St):Q5 (a++b)=Q5 a+Q5 b:=by
 induction a with
 |nil=>simp[Q5]
 |cons x r ih=>simp[Q5,ih];omega
theorem St.size_eq (x:St):x.size=1+Qai x.args+Q5 x.body+Q5 x.els:=by cases x;simp[St.size,St.args,St.body,St.els]
theorem St.ok_eq (x:St):x.ok=(0<x.args.length∧Qd3 x.args∧Qc0 x.body∧Qc0 x.els):=by cases x;simp[St.ok,St.args,St.body,St.els]
theorem Qmx {l:List St}{x:St}(h:x∈l):x.size≤Q5 l:=by
 induction l with
 |nil=>simp at h
 |cons y r ih=>
  simp only[Q5];rcases Jp.1 h with rfl|h
  ·omega
  ·have:=ih h;omega
structure Fn where
 name:List UInt8
 params:List (List UInt8)
 body:List St
def Fn.cells (f:Fn):List C:=[.str f.name,.sl false 1 (Qbm f.params),.sl false 5 (Qa4 f.body)]
def Qca (l:List Fn):List (List C):=l.map Fn.cells
theorem Qbk (l:List Fn):(Qca l).length=l.length:=by simp[Qca]
theorem Qg7 (l:List Fn)(i:Nat)(h:i<l.length):(Qca l).getD i []=(l[i]'h).cells:=by
 simp[Qca,Je,h]
theorem Qalc (a:List Fn)(x:Fn):Qca a++[x.cells]=Qca (a++[x]):=by simp[Qca]
theorem Fn.noOw (x:Fn):Go.AE.noOw x.cells=true:=rfl
theorem Fn.cells_len (x:Fn):x.cells.length=3:=rfl
theorem Qalb (l:List Fn):∀r∈Qca l,Go.AE.noOw r=true:=by
 intro r hr;obtain⟨x,_,rfl⟩:=Jh.1 hr;exact x.noOw
structure GS where
 fns:List Fn
 ffl:C×List (Nat×Obj)
 vars:List (List UInt8)
 vfl:Bool
 next:Int
 left:Int
def GS.o (s:GS)(R:Rdr):Obj:=.st [.ptr R.l 0,s.ffl.1,.sl s.vfl 1 (Qbm s.vars),.int .i64 s.next,.int .i64 s.left]
theorem GS.o_ne (s:GS)(R:Rdr):s.o R≠.none:=by simp[GS.o]
structure GS.ok (s:GS)(k:Nat):Prop where
 n0:-1≤s.next
 n1:s.next≤k+10
 l0:-(4 * (k:Int)+10)≤s.left
 l1:s.left≤100
 v:s.vars.length≤k+10
 f:∀f∈s.fns,f.params.length≤3
 fn:s.fns.length≤3
theorem GS.ok.mono {s:GS}{k k':Nat}(h:s.ok k)(hk:k≤k'):s.ok k':=
 ⟨h.n0,by have:=h.n1;omega,by have:=h.l0;omega,h.l1,by have:=h.v;omega,h.f,h.fn⟩
end Go.AE.Y
namespace Go.AE
variable {H0 H H':Heap}{E L B:List (Nat×Obj)}
theorem Upd.drop2 {H H':Heap}{a b:Nat}{oa ob:Obj}(h:Upd H H' [(a,oa),(b,ob)])(hb:H b=ob):Upd H H' [(a,oa)]:=by
 refine⟨fun p hp=>h.1 p (by simp at hp;subst hp;simp),fun m hm hx=>?_⟩;by_cases hmb:m=b
 ·subst hmb;rw[hb];exact h.1 (m,ob) (by simp)
 ·exact h.2 m hm (by simp at hx⊢;exact⟨hx,hmb⟩)
theorem Kn.perm {L':List (Nat×Obj)}(h:Kn H0 H E L)(hp:L.Perm L'):Kn H0 H E L':=
 ⟨fun p hp'=>h.get p (by
   rcases Jd.1 hp' with a|a
   ·exact Jb _ a
   ·exact Jc _ (hp.mem_iff.2 a)),h.ext,fun p hp'=>h.loc p (hp.mem_iff.2 hp'),h.dE,(hp.map Prod.fst).nodup_iff.1 h.dL,h.chg⟩
def Gr (Lg:List (Nat×Obj))(sz:Nat)(rows:List (List C))(c:C):Prop:=
 (c=.sl true sz []∧rows=[]∧Lg=[])∨∃y,c=.vsl y sz 0 rows.length∧Lg=[(y,.vec sz rows)]
theorem Gr.nil (sz:Nat):Gr [] sz [] (.sl true sz []):=.inl ⟨rfl,rfl,rfl⟩
theorem Gr.mk (y sz:Nat)(rows:List (List C)){n:Nat}(hn:n=rows.length):Gr [(y,.vec sz rows)] sz rows (.vsl y sz 0 n):=.inr ⟨y,by rw[hn],rfl⟩
variable {sz:Nat}{rows:List (List C)}{c:C}{Lg:List (Nat×Obj)}
theorem Gr.isOw (h:Gr Lg sz rows c):c.isOw=false:=by rcases h with ⟨rfl,_⟩|⟨y,rfl,_⟩ <;> rfl
theorem Gr.elemSz (h:Gr Lg sz rows c):c.elemSz=sz:=by rcases h with ⟨rfl,_⟩|⟨y,rfl,_⟩ <;> rfl
theorem Gr.lenC (h:Gr Lg sz rows c):lenC c=rows.length:=by
 rcases h with ⟨rfl,rfl,_⟩|⟨y,rfl,_⟩ <;> rfl
theorem Gr.get (h:Gr Lg sz rows c)(kn:Kn H0 H E (B++Lg)):okSl H c∧rowsOf H c=rows:=by
 rcases h with ⟨rfl,rfl,_⟩|⟨y,rfl,rfl⟩
 ·exact⟨trivial,rfl⟩
 ·have hy:H y=.vec sz rows:=(kn.get (y,.vec sz rows) (by simp)).1;refine⟨?_,?_⟩
  ·simp[okSl,hy]
  ·simp[rowsOf,hy]
theorem Gr.okSl (h:Gr Lg sz rows c)(kn:Kn H0 H E (B++Lg)):Go.AE.okSl H c:=(h.get kn).1
theorem Gr.rowsOf (h:Gr Lg sz rows c)(kn:Kn H0 H E (B++Lg)):Go.AE.rowsOf H c=rows:=(h.get kn).2
theorem Gr.frz (h:Gr Lg sz rows c)(kn:Kn H0 H E (B++Lg))(hr:∀r∈rows,noOw r=true):FrzC H (un H0) c (.sl false sz rows):=by
 rcases h with ⟨rfl,rfl,_⟩|⟨y,rfl,rfl⟩
 ·exact Y.FrzR.nil.sl
 ·exact (Y.FrzR.same hr).vsl (Qe8 (kn.loc (y,.vec sz rows) (by simp))) (kn.get (y,.vec sz rows) (by simp)).1 rfl
theorem Gr.frzR {rows':List (List C)}(h:Gr Lg sz rows c)(kn:Kn H0 H E (B++Lg))(hr:Y.FrzR H (un H0) rows rows'):FrzC H (un H0) c (.sl false sz rows'):=by
 rcases h with ⟨rfl,rfl,_⟩|⟨y,rfl,rfl⟩
 ·cases hr;exact Y.FrzR.nil.sl
 ·exact hr.vsl (Qe8 (kn.loc (y,.vec sz rows) (by simp))) (kn.get (y,.vec sz rows) (by simp)).1 rfl
structure Slc (H:Heap)(sz:Nat)(rws:List (List C))(b:C):Prop where
 ok:okSl H b
 sz:b.elemSz=sz
 rows:rowsOf H b=rws
 len:Go.AE.lenC b=rws.length
theorem Slc.mk' (H:Heap)(fl:Bool)(sz:Nat)(rows:List (List C)):Slc H sz rows (.sl fl sz rows):=⟨trivial,rfl,rfl,rfl⟩
theorem Kn.grow {K:V→Heap→Prop}{new:List (List C)}{b:C}(kn:Kn H0 H E (B++Lg))(hc:Gr Lg sz rows c)(hb:Slc H sz new b)
  (h1:∀r∈new,noOw r=true) (h2:rows.length+new.length≤LIM)
  (h:∀y' H',Kn H0 H' E (B++[(y',.vec sz (rows++new))])→K (.c (.vsl y' sz 0 (rows.length+new.length))) H'):appQ H sz c b K:=by
 refine⟨hb.ok,hb.sz,?_⟩;rcases hc with ⟨rfl,rfl,rfl⟩|⟨y,rfl,rfl⟩
 ·simp only[hb.rows,hb.len,Jo,Jag,Jan];refine⟨trivial,.inl trivial,h1,by simpa using h2,fun l hl H' hH'=>?_⟩;rw[Jae]at kn;have:=h l H' (by simpa using kn.al hl hH');simpa using this
 ·have hy:H y=.vec sz rows:=(kn.get (y,.vec sz rows) (by simp)).1;simp only[hy,hb.rows,hb.len,Jaa,List.take_length];refine⟨trivial,trivial,by omega,h1,h2,fun l' hl' H' hH'=>?_⟩;refine h l' H' ?_;have:=kn.ap B.length (y:=y) (o:=.vec sz rows) (by simp) hl' hH';simpa using this
end Go.AE
namespace Go.AE.Y
variable {H H':Heap}{R:Rdr}{gl:Nat}{s s':GS}{L:List (Nat×Obj)}{o q:Obj}
def FnsOk (H:Heap)(R:Rdr)(gl:Nat)(s:GS):Prop:=Gr s.ffl.2 3 (Qca s.fns) s.ffl.1∧∀p∈s.ffl.2,H p.1=p.2∧p.1≠R.l∧p.1≠gl
theorem FnsOk.keep (h:FnsOk H R gl s)(kn:Kn H H' [(R.l,o),(gl,q)] L)(h1:s'.fns=s.fns)(h2:s'.ffl=s.ffl):FnsOk H' R gl s':=by
 refine⟨by rw[h1,h2];exact h.1,fun p hp=>?_⟩;rw[h2]at hp;obtain⟨a1,a2,a3⟩:=h.2 p hp;refine⟨?_,a2,a3⟩;have hn:p.2≠.none:=by
  rcases h.1 with ⟨_,_,hx⟩|⟨y,_,hx⟩
  ·rw[hx]at hp;simp at hp
  ·rw[hx]at hp;simp at hp;subst hp;simp
 rw[kn.chg p.1 (by rw[a1];exact hn) (by simp[a2,a3]),a1]
theorem FnsOk.rd (h:FnsOk H R gl s):okSl H s.ffl.1=True∧rowsOf H s.ffl.1=Qca s.fns:=by
 rcases h.1 with ⟨h1,h2,h3⟩|⟨y,h1,h3⟩
 ·rw[h1,h2];exact⟨rfl,rfl⟩
 ·have hy:H y=.vec 3 (Qca s.fns):=(h.2 (y,.vec 3 (Qca s.fns)) (by rw[h3];simp)).1;rw[h1];exact⟨by simp[okSl,hy],by simp[rowsOf,hy]⟩
theorem FnsOk.ok (h:FnsOk H R gl s)(kn:Kn H H' [(R.l,o),(gl,q)] L):okSl H' s.ffl.1=True:=(h.keep kn rfl rfl).rd.1
theorem FnsOk.rows (h:FnsOk H R gl s)(kn:Kn H H' [(R.l,o),(gl,q)] L):rowsOf H' s.ffl.1=Qca s.fns:=(h.keep kn rfl rfl).rd.2
theorem FnsOk.len (h:FnsOk H R gl s):lenC s.ffl.1=s.fns.length:=by rw[h.1.lenC,Qbk]
theorem FnsOk.esz (h:FnsOk H R gl s):s.ffl.1.elemSz=3:=h.1.elemSz
theorem FnsOk.ow (h:FnsOk H R gl s):s.ffl.1.isOw=false:=h.1.isOw
end Go.AE.Y
namespace Go.AE
variable {H0 H H':Heap}{E L B E0 L0 Lg:List (Nat×Obj)}
def New (H H':Heap)(N:List (Nat×Obj)):Prop:=∀p∈N,H p.1=.none∧H' p.1=p.2
theorem Kn.add1 (kn0:Kn H0 H E0 L0)(kn:Kn H0 H' E L)(hE:E.map Prod.fst=E0.map Prod.fst)(hL:L.map Prod.fst=L0.map Prod.fst){x:Nat}{o:Obj}(hx:H x=.none)(hx':H' x=o)(ho:o≠.none):Kn H0 H' E (L++[(x,o)]):=by
 obtain⟨h1,h2,h3⟩:=kn0.newFree hx;refine⟨fun p hp=>?_,kn.ext,fun p hp=>?_,kn.dE,?_,kn.chg⟩
 ·rw[←Ji]at hp;rcases Jd.1 hp with hp|hp
  ·exact kn.get p hp
  ·simp at hp;subst hp;exact⟨hx',ho⟩
 ·rcases Jd.1 hp with hp|hp
  ·exact kn.loc p hp
  ·simp at hp;subst hp;exact h1
 ·rw[Jk];refine Jf.2 ⟨kn.dL,by simp,fun a ha b hb=>?_⟩;simp at hb;subst hb;rw[hL]at ha;exact fun hh=>h3 (hh▸ha)
theorem Kn.addGr {sz:Nat}{rows:List (List C)}{c:C}(kn0:Kn H0 H E0 L0)(kn:Kn H0 H' E L)(hE:E.map Prod.fst=E0.map Prod.fst)(hL:L.map Prod.fst=L0.map Prod.fst)(hg:Gr Lg sz rows c)(hn:New H H' Lg):Kn H0 H' E (L++Lg):=by
 rcases hg with ⟨_,_,rfl⟩|⟨y,_,rfl⟩
 ·simpa using kn
 ·obtain⟨h1,h2⟩:=hn (y,.vec sz rows) (by simp);exact kn0.add1 kn hE hL h1 h2 (by simp)
def unx (H:Heap)(Lg:List (Nat×Obj))(m:Nat):Bool:=un H m&&!(Lg.map Prod.fst).contains m
theorem Qa9u {m:Nat}(h:H m≠.none):unx H Lg m=false:=by simp[unx,Qa79 h]
theorem Qbrg {p:Nat×Obj}(h:p∈Lg):unx H Lg p.1=false:=by
 have:p.1∈Lg.map Prod.fst:=Qao h;simp only[unx,Bool.and_eq_false_iff,Bool.not_eq_false'];exact .inr (Jaf.2 this)
theorem Kn.unx (hk:Kn H0 H E (B++Lg)){p:Nat×Obj}(h:p∈B):Go.AE.unx H0 Lg p.1=true:=by
 have h1:=hk.loc p (Jb _ h);have h2:p.1∉Lg.map Prod.fst:=fun hh=>by
  have:=hk.dL;rw[Jk]at this;exact (Jf.1 this).2.2 _ (Qao h) _ hh rfl
 simp only[Go.AE.unx,Qe8 h1,Jaq,Jam,Bool.eq_false_iff];intro hh;exact h2 (Jaf.1 hh)
theorem Kn.finx (hk:Kn H0 H E (B++Lg)):Upd H0 (H.frz (Go.AE.unx H0 Lg)) E∧New H0 (H.frz (Go.AE.unx H0 Lg)) Lg:=by
 refine⟨⟨fun p hp=>?_,fun m hm hn=>?_⟩,fun p hp=>⟨hk.loc p (Jc _ hp),?_⟩⟩
 ·have:H.frz (Go.AE.unx H0 Lg) p.1=H p.1:=by simp[Heap.frz,Qa9u (hk.ext p hp)]
  rw[this];exact (hk.get p (Jb _ hp)).1
 ·have:H.frz (Go.AE.unx H0 Lg) m=H m:=by simp[Heap.frz,Qa9u hm]
  rw[this];exact hk.chg m hm hn
 ·have:H.frz (Go.AE.unx H0 Lg) p.1=H p.1:=by simp only[Heap.frz];rw[Qbrg hp];rfl
  rw[this];exact (hk.get p (Jc _ (Jc _ hp))).1
end Go.AE
namespace Go.AE.Y
theorem Qez {b:Bool}(h:(!b)=false):b=true:=by simpa using h
theorem Qt3 {b:Bool}(h:(!b)=true):b=false:=by simpa using h
theorem Ex.ne_nil (x:Ex):(x.cells=[])=False:=by rw[x.cells_eq];simp
theorem Ex.take4 (x:Ex):x.cells.take 4=x.cells:=Jw (by rw[x.cells_len];omega)
theorem Ex.allOw (x:Ex):(x.cells.all fun c=>!c.isOw)=true:=x.noOw
theorem St.take5 (x:St):x.cells.take 5=x.cells:=Jw (by rw[x.cells_len];omega)
theorem St.allOw (x:St):(x.cells.all fun c=>!c.isOw)=true:=x.noOw
theorem Fn.take3 (x:Fn):x.cells.take 3=x.cells:=Jw (by rw[x.cells_len];omega)
theorem Fn.allOw (x:Fn):(x.cells.all fun c=>!c.isOw)=true:=x.noOw
end Go.AE.Y
namespace Go.AE
variable {H0 H H':Heap}{E L B A:List (Nat×Obj)}{P:Program}
theorem c_gh {b:SC}{Q:X→Env→Heap→Prop}{e e':Env}(h:Qbjw e H e' H')(hb:Qah P b Q e' H'):Qah P (.seq .gh b) Q e H:=⟨e',H',h,hb⟩
theorem Kn.drop (kn:Kn H0 H E (A++B)):Kn H0 H E A:=
 ⟨fun p hp=>kn.get p (by
   rcases Jd.1 hp with h|h
   ·exact Jb _ h
   ·exact Jc _ (Jb _ h)),kn.ext,fun p hp=>kn.loc p (Jb _ hp),kn.dE,by
   have:=kn.dL;rw[Jk]at this;exact (Jf.1 this).1,kn.chg⟩
theorem Kn.freeze {z gl:Nat}{o og og':Obj}(kn:Kn H0 H E (B++[(z,o)]))(i:Nat)(hB:B[i]? = some (gl,og))(hO:FrzO H (fun m=>m == z) og og')(hn:og'≠.none) :
  FrzH H (fun m=>m == z) ((H.frz fun m=>m == z).set gl og')∧Kn H0 ((H.frz fun m=>m == z).set gl og') E (B.set i (gl,og')):=by
 have hzf:H0 z=.none:=kn.loc (z,o) (by simp);have hnd:=kn.dL;rw[Jk]at hnd;have hne:∀p∈B,p.1≠z:=fun p hp hh=>(Jf.1 hnd).2.2 _ (Qao hp) z (by simp) hh;have hneE:∀p∈E,p.1≠z:=fun p hp hh=>kn.ext p hp (hh▸hzf);have hgl:=hne _ (Ja hB);have hH:H gl=og:=(kn.get (gl,og) (Jc _ (Jb _ (Ja hB)))).1;refine⟨(Qd7 _ _).set (by simpa using hgl) (by rw[hH];exact hO),?_⟩;have kn1:Kn H0 (H.frz fun m=>m == z) E B:=by
  refine⟨fun p hp=>?_,kn.ext,fun p hp=>kn.loc p (Jb _ hp),kn.dE,(Jf.1 hnd).1,fun m hm hx=>?_⟩
  ·have:p.1≠z:=by
    rcases Jd.1 hp with h|h
    ·exact hneE p h
    ·exact hne p h
   have h2:(H.frz fun m=>m == z) p.1=H p.1:=by simp[Heap.frz,this]
   rw[h2];refine kn.get p ?_;rcases Jd.1 hp with h|h
   ·exact Jb _ h
   ·exact Jc _ (Jb _ h)
  ·have:m≠z:=fun h=>hm (h▸hzf);have h2:(H.frz fun m=>m == z) m=H m:=by simp[Heap.frz,this]
   rw[h2];exact kn.chg m hm hx
 exact kn1.setL i hB hn
theorem Kn.callEL (hk:Kn H0 H E L)(i j:Nat){l m:Nat}{o o' q q':Obj}(h:E[i]? = some (l,o))(h2:L[j]? = some (m,q))(hu:Upd H H' [(l,o'),(m,q')])(ho:o'≠.none)(hq:q'≠.none) :
  Kn H0 H' (E.set i (l,o')) (L.set j (m,q')):=by
 refine hk.callg hu (Qbx h) (Qbx h2) (fun p hp=>?_) (fun u hu=>?_)
 ·rcases Jd.1 hp with hp|hp
  ·rcases Qbh hp with rfl|⟨b,hb,hp⟩
   ·exact⟨ho,.inl (by simp)⟩
   ·have hm:=Jb L (Ja hp);refine⟨(hk.get p hm).2,.inr ⟨hm,?_⟩⟩;simp only[Jz,J4,Jp,J7,or_false,not_or];exact⟨fun hh=>hb (Qcp hk.dE hp h hh),fun hh=>hk.ext p (Ja hp) (hh▸hk.free j h2)⟩
  ·rcases Qbh hp with rfl|⟨b,hb,hp⟩
   ·exact⟨hq,.inl (by simp)⟩
   ·have hm:=Jc E (Ja hp);refine⟨(hk.get p hm).2,.inr ⟨hm,?_⟩⟩;simp only[Jz,J4,Jp,J7,or_false,not_or];exact⟨fun hh=>hk.usedE i h (hh▸hk.loc p (Ja hp)),fun hh=>hb (Qcp hk.dL hp h2 hh)⟩
 ·simp at hu;rcases hu with rfl|rfl
  ·exact .inl (Qao (p:=(l,o)) (Ja h))
  ·exact .inr (Qao (p:=(m,q)) (Ja h2))
end Go.AE
namespace Go.AE.Y
structure Blk where
 ic:C
 irows:List (List C)
 lg:List (Nat×Obj)
 jump:Int
 on:Int
 nfl:Bool
 next:List Int
def Blk.row (b:Blk):List C:=[.sl true 2 [],b.ic,.int .i64 b.jump,.int .i64 b.on,.sl b.nfl 1 (Qb b.next)]
structure LS where
 fns:List Fn
 pfl:Bool
 params:Int
 regs:Int
 bc:C
 lb:List (Nat×Obj)
 blocks:List Blk
 at_:Nat
 vc:C
 lv:List (Nat×Obj)
 vars:List (List C)
 next:Int
def LS.o (s:LS):Obj:=.st [.sl s.pfl 3 (Qca s.fns),.int .i64 s.params,.int .i64 s.regs,s.bc,.int .i64 s.at_,s.vc,.int .i64 s.next,.sl true 1 []]
def LS.L (s:LS)(w:Nat):List (Nat×Obj):=[(w,s.o)]++(s.lb++(s.lv++s.blocks.flatMap Blk.lg))
def InsRow (r:List C):Prop:=∃(op to n:Int) (fl:Bool) (args:List Int),r=[.int .i64 op,.int .i64 to,.sl fl 1 (Qb args),.int .i64 n]
def VarRow (r:List C):Prop:=∃(s:List UInt8) (a b:Int),r=[.str s,.int .i64 a,.int .i64 b]
def VGr (lv:List (Nat×Obj))(vars:List (List C))(c:C):Prop:=
 (c=.sl true 3 []∧vars=[]∧lv=[])∨∃y all n,c=.vsl y 3 0 n∧n≤all.length∧vars=all.take n∧lv=[(y,.vec 3 all)]
structure LInv (F H:Heap)(w:Nat)(s:LS):Prop where
 kn:Kn F H [] (s.L w)
 gb:Gr s.lb 5 (s.blocks.map Blk.row) s.bc
 gv:VGr s.lv s.vars s.vc
 gi:∀b∈s.blocks,Gr b.lg 4 b.irows b.ic
 ri:∀b∈s.blocks,∀r∈b.irows,InsRow r
 rv:∀r∈s.vars,VarRow r
structure LS.ok (s:LS)(N:Nat):Prop where
 r0:0≤s.regs
 r1:s.regs≤N
 n0:0≤s.next
 n1:s.next≤N
 b1:s.blocks.length≤N
 i1:∀b∈s.blocks,b.irows.length≤N
 v1:s.vars.length≤N
theorem LS.ok.mono {s:LS}{N M:Nat}(h:s.ok N)(hm:N≤M):s.ok M:=
 ⟨h.r0,by have:=h.r1;omega,h.n0,by have:=h.n1;omega,by have:=h.b1;omega,fun b hb=>by have:=h.i1 b hb;omega,by have:=h.v1;omega⟩
theorem InsRow.noOw {r:List C}(h:InsRow r):Go.AE.noOw r=true:=by obtain⟨_,_,_,_,_,rfl⟩:=h;rfl
theorem VarRow.noOw {r:List C}(h:VarRow r):Go.AE.noOw r=true:=by obtain⟨_,_,_,rfl⟩:=h;rfl
theorem VGr.isOw {lv:List (Nat×Obj)}{vars:List (List C)}{c:C}(h:VGr lv vars c):c.isOw=false:=by
 rcases h with ⟨rfl,_⟩|⟨_,_,_,rfl,_⟩ <;> rfl
theorem VGr.elemSz {lv:List (Nat×Obj)}{vars:List (List C)}{c:C}(h:VGr lv vars c):c.elemSz=3:=by
 rcases h with ⟨rfl,_⟩|⟨_,_,_,rfl,_⟩ <;> rfl
theorem VGr.lenC {lv:List (Nat×Obj)}{vars:List (List C)}{c:C}(h:VGr lv vars c):Go.AE.lenC c=vars.length:=by
 rcases h with ⟨rfl,rfl,_⟩|⟨_,_,_,rfl,h,rfl,_⟩
 ·rfl
 ·simp[Go.AE.lenC];omega
variable {F H H':Heap}{w:Nat}{s:LS}
theorem LInv.hw (h:LInv F H w s):H w=s.o:=h.kn.l 0 rfl
theorem LInv.vget (h:LInv F H w s):okSl H s.vc=True∧rowsOf H s.vc=s.vars:=by
 rcases h.gv with ⟨h1,h2,_⟩|⟨y,all,n,h1,h2,h3,h4⟩
 ·rw[h1,h2];exact⟨rfl,rfl⟩
 ·have hy:H y=.vec 3 all:=(h.kn.get (y,.vec 3 all) (by simp[LS.L,h4])).1;rw[h1];refine⟨eq_true ?_,?_⟩
  ·simp only[Go.AE.okSl,hy];exact⟨trivial,by omega⟩
  ·simp only[Go.AE.rowsOf,hy,Jaa,h3]
theorem LInv.bvec (h:LInv F H w s)(hb:0<s.blocks.length):∃y,s.bc=.vsl y 5 0 s.blocks.length∧s.lb=[(y,.vec 5 (s.blocks.map Blk.row))]∧H y=.vec 5 (s.blocks.map Blk.row):=by
 rcases h.gb with ⟨_,h2,_⟩|⟨y,h1,h2⟩
 ·simp at h2;rw[h2]at hb;simp at hb
 ·refine⟨y,by rw[h1];simp,h2,?_⟩;exact (h.kn.get (y,.vec 5 (s.blocks.map Blk.row)) (by simp[LS.L,h2])).1
theorem LInv.setw {s':LS}(h:LInv F H w s)(h1:H'=H.set w s'.o)(a1:s'.lb=s.lb)(a2:s'.lv=s.lv)(a3:s'.blocks=s.blocks)(a4:s'.bc=s.bc)(a5:VGr s.lv s'.vars s'.vc)(a6:∀r∈s'.vars,VarRow r):LInv F H' w s':=by
 refine⟨?_,by rw[a1,a3,a4];exact h.gb,by rw[a2];exact a5,by rw[a3];exact h.gi,by rw[a3];exact h.ri,a6⟩;have:=h.kn.stL 0 (x:=w) (o:=s.o) rfl h1 (by simp[LS.o]);simp only[LS.L,a1,a2,a3];exact this
theorem Qbma {α:Type}{A X Y:List α}:(A++(X++Y)).Perm ((A++Y)++X):=by
 rw[Ji];exact .append_left _ Jn
theorem LInv.addBlk {K:V→Heap→Prop}{fl:Bool}{b:Blk}(h:LInv F H w s)(hl:s.blocks.length+1≤LIM)(b1:b.lg=[])(b2:b.ic=.sl true 4 [])(b3:b.irows=[])
  (hK:∀(y:Nat) (H1:Heap),H1 w=s.o→(∀H2,H2=H1.set w (LS.o { s with bc:=.vsl y 5 0 (s.blocks.length+1) })→
   LInv F H2 w { s with bc:=.vsl y 5 0 (s.blocks.length+1),lb:=[(y,.vec 5 ((s.blocks++[b]).map Blk.row))],blocks:=s.blocks++[b] })→K (.c (.vsl y 5 0 (s.blocks.length+1))) H1) :
  appQ H 5 s.bc (.sl fl 5 [b.row]) K:=by
 have kn:=h.kn;have kn:Kn F H [] (([(w,s.o)]++(s.lv++s.blocks.flatMap Blk.lg))++s.lb):=kn.perm Qbma;refine kn.grow h.gb (.mk' _ _ _ _) (by
  intro r hr;simp only[Jj]at hr;subst hr;simp only[Blk.row,b2];rfl) (by simpa using hl) fun y H1 kn=>?_
 have e1:(s.blocks.map Blk.row).length+[b.row].length=s.blocks.length+1:=by simp
 rw[e1];refine hK y H1 (kn.l 0 rfl) fun H2 h2=>⟨?_,?_,h.gv,?_,?_,h.rv⟩
 ·have:=kn.stL 0 (x:=w) (o:=s.o) rfl h2 (by simp[LS.o]);simp only[LS.L,Jai,List.flatMap_cons,List.flatMap_nil,b1,Jae,Jk,Jz,J4];simp only[Jv,Jo,Jal]at this⊢;refine this.perm (.cons _ ?_);exact Jn
 ·exact .mk _ _ _ (by simp)
 ·intro b' hb';rcases Jd.1 hb' with hb'|hb'
  ·exact h.gi b' hb'
  ·simp at hb';subst hb';rw[b1,b2,b3];exact .nil 4
 ·intro b' hb';rcases Jd.1 hb' with hb'|hb'
  ·exact h.ri b' hb'
  ·simp at hb';subst hb';rw[b3];simp
theorem Qjc {α β:Type}(f:α→List β)(l:List α)(i:Nat)(hi:i<l.length):(l.flatMap f).Perm (f l[i]++(l.eraseIdx i).flatMap f):=by
 have h1:(l[i]::l.eraseIdx i).Perm l:=by
  rw[List.eraseIdx_eq_take_drop_succ];refine List.perm_middle.symm.trans ?_;rw[←List.drop_eq_getElem_cons hi,List.take_append_drop]
 have h2:=h1.symm.flatMap_right f;simpa using h2
theorem Qgv {α β:Type}(f:α→List β)(l:List α)(i:Nat)(x:α)(hi:i<l.length):((l.set i x).flatMap f).Perm (f x++(l.eraseIdx i).flatMap f):=by
 have:=Qjc f (l.set i x) i (by simpa using hi);simpa[List.eraseIdx_set_eq]using this
theorem Qaaj (l:List Blk)(i:Nat)(b:Blk):(l.map Blk.row).set i b.row=(l.set i b).map Blk.row:=by rw[J5]
theorem Qey {l:List Blk}{i:Nat}{b x:Blk}(h:x∈l.set i b):x=b∨x∈l:=by
 rcases Qbh h with h|⟨j,_,h⟩
 ·exact .inl h
 ·exact .inr (Ja h)
theorem LInv.setBlk {b':Blk}{y i:Nat}(h:LInv F H w s)(hi:i<s.blocks.length)(hbc:s.bc=.vsl y 5 0 s.blocks.length)(hlb:s.lb=[(y,.vec 5 (s.blocks.map Blk.row))])
  (h1:H'=H.set y (.vec 5 ((s.blocks.set i b').map Blk.row))) (a1:b'.lg=s.blocks[i].lg) (a2:b'.ic=s.blocks[i].ic) (a3:b'.irows=s.blocks[i].irows) :
  LInv F H' w { s with lb:=[(y,.vec 5 ((s.blocks.set i b').map Blk.row))],blocks:=s.blocks.set i b' }:=by
 have hm:=J0 hi;refine⟨?_,?_,h.gv,fun b hb=>?_,fun b hb=>?_,h.rv⟩
 ·have kn:=h.kn;simp only[LS.L,hlb]at kn;have kn:=kn.stL 1 (x:=y) rfl h1;refine kn.perm ?_;simp only[LS.L,Jv,Jo,Jal,List.set_cons_succ];refine .cons _ (.cons _ (.append_left _ ?_));refine (Qjc Blk.lg s.blocks i hi).trans ?_;rw[←a1];exact (Qgv Blk.lg s.blocks i b' hi).symm
 ·simp only[hbc];exact .mk _ _ _ (by simp)
 ·rcases Qey hb with rfl|hb
  ·rw[a1,a2,a3];exact h.gi _ hm
  ·exact h.gi b hb
 ·rcases Qey hb with rfl|hb
  ·rw[a3];exact h.ri _ hm
  ·exact h.ri b hb
theorem LInv.addIns {K:V→Heap→Prop}{y i:Nat}{fl:Bool}{r:List C}(h:LInv F H w s)(hi:i<s.blocks.length)(hbc:s.bc=.vsl y 5 0 s.blocks.length)(hlb:s.lb=[(y,.vec 5 (s.blocks.map Blk.row))])
  (hr:InsRow r) (hl:s.blocks[i].irows.length+1≤LIM)
  (hK:∀(z:Nat) (H1:Heap),H1 w=s.o→H1 y=.vec 5 (s.blocks.map Blk.row)→
   (∀H2,H2=H1.set y (.vec 5 ((s.blocks.map Blk.row).set i (Blk.row { s.blocks[i]with ic:=.vsl z 4 0 (s.blocks[i].irows.length+1) })))→
    ∃b':Blk,b'.irows.length=s.blocks[i].irows.length+1∧LInv F H2 w { s with lb:=[(y,.vec 5 ((s.blocks.set i b').map Blk.row))],blocks:=s.blocks.set i b' })→K (.c (.vsl z 4 0 (s.blocks[i].irows.length+1))) H1) :
  appQ H 4 s.blocks[i].ic (.sl fl 4 [r]) K:=by
 have hm:=J0 hi;have kn:=h.kn;simp only[LS.L]at kn;have kn:Kn F H [] (([(w,s.o)]++(s.lb++(s.lv++(s.blocks.eraseIdx i).flatMap Blk.lg)))++s.blocks[i].lg):=kn.perm (by
  have h1:(s.blocks.flatMap Blk.lg).Perm ((s.blocks.eraseIdx i).flatMap Blk.lg++s.blocks[i].lg):=(Qjc Blk.lg s.blocks i hi).trans Jn;refine ((h1.append_left _).append_left _ |>.append_left _).trans ?_;simp only[Ji];exact .refl _)
 refine kn.grow (h.gi _ hm) (.mk' _ _ _ _) (by intro r' hr';simp only[Jj]at hr';subst hr';exact hr.noOw) (by simpa using hl) fun z H1 kn=>?_;have e1:s.blocks[i].irows.length+[r].length=s.blocks[i].irows.length+1:=by simp
 rw[e1];simp only[hlb]at kn;refine hK z H1 (kn.l 0 rfl) (kn.l 1 rfl) fun H2 h2=>?_;refine⟨{ s.blocks[i]with ic:=.vsl z 4 0 (s.blocks[i].irows.length+1),irows:=s.blocks[i].irows++[r],lg:=[(z,.vec 4 (s.blocks[i].irows++[r]))] },by simp,?_⟩;have hrow:Blk.row { s.blocks[i]with ic:=.vsl z 4 0 (s.blocks[i].irows.length+1) }=Blk.row { s.blocks[i]with ic:=.vsl z 4 0 (s.blocks[i].irows.length+1),irows:=s.blocks[i].irows++[r],lg:=[(z,.vec 4 (s.blocks[i].irows++[r]))] }:=rfl;rw[hrow,Qaaj]at h2;refine⟨?_,?_,h.gv,fun b hb=>?_,fun b hb=>?_,h.rv⟩
 ·have kn:=kn.stL 1 (x:=y) rfl h2;refine kn.perm ?_;simp only[LS.L];have h1:=(Qgv Blk.lg s.blocks i { s.blocks[i]with ic:=.vsl z 4 0 (s.blocks[i].irows.length+1),irows:=s.blocks[i].irows++[r],lg:=[(z,.vec 4 (s.blocks[i].irows++[r]))] } hi).symm;have h3:=(Jn.trans h1).append_left ([(w,s.o)]++([(y,Obj.vec 5 ((s.blocks.set i { s.blocks[i]with ic:=.vsl z 4 0 (s.blocks[i].irows.length+1),irows:=s.blocks[i].irows++[r],lg:=[(z,.vec 4 (s.blocks[i].irows++[r]))] }).map Blk.row))]++s.lv));refine List.Perm.trans ?_ (h3.trans ?_)
  ·simp only[List.set,Jv,Jo,Ji];exact .refl _
  ·simp only[Jv,Jo,Ji];exact .refl _
 ·simp only[hbc];exact .mk _ _ _ (by simp)
 ·rcases Qey hb with rfl|hb
  ·exact .mk _ _ _ (by simp)
  ·exact h.gi b hb
 ·rcases Qey hb with rfl|hb
  ·intro r' hr';rcases Jd.1 hr' with hr'|hr'
   ·exact h.ri _ hm r' hr'
   ·simp at hr';subst hr';exact hr
  ·exact h.ri b hb
theorem LInv.addVar {K:V→Heap→Prop}{fl:Bool}{r:List C}(h:LInv F H w s)(hr:VarRow r)(hl:s.vars.length+1≤LIM)
  (hK:∀(y:Nat) (H1:Heap),H1 w=s.o→(∀H2,H2=H1.set w (LS.o { s with vc:=.vsl y 3 0 (s.vars.length+1) })→
   LInv F H2 w { s with vc:=.vsl y 3 0 (s.vars.length+1),lv:=[(y,.vec 3 (s.vars++[r]))],vars:=s.vars++[r] })→K (.c (.vsl y 3 0 (s.vars.length+1))) H1) :
  appQ H 3 s.vc (.sl fl 3 [r]) K:=by
 have hrv:∀r'∈s.vars++[r],VarRow r':=fun r' hr'=>by
  rcases Jd.1 hr' with h1|h1
  ·exact h.rv r' h1
  ·simp at h1;subst h1;exact hr
 have kn:=h.kn;have kn:Kn F H [] (([(w,s.o)]++(s.lb++s.blocks.flatMap Blk.lg))++s.lv):=kn.perm (by
  simp only[LS.L];refine List.Perm.trans (.append_left _ (.append_left _ Jn)) ?_;simp only[Ji];exact .refl _)
 have fin:∀(y:Nat) (H1:Heap),Kn F H1 [] (([(w,s.o)]++(s.lb++s.blocks.flatMap Blk.lg))++[(y,.vec 3 (s.vars++[r]))])→K (.c (.vsl y 3 0 (s.vars.length+1))) H1:=by
  intro y H1 kn;refine hK y H1 (kn.l 0 rfl) fun H2 h2=>⟨?_,h.gb,.inr ⟨y,s.vars++[r],s.vars.length+1,rfl,by simp,by rw[Jw (by simp)],rfl⟩,h.gi,h.ri,hrv⟩;have kn:=kn.stL 0 (x:=w) (o:=s.o) rfl h2 (by simp[LS.o]);refine kn.perm ?_;simp only[LS.L,List.set,Jv,Jo,Ji];refine .cons _ (.append_left _ ?_);exact Jn
 refine⟨trivial,rfl,?_⟩;rcases h.gv with ⟨h1,h2,h3⟩|⟨y,all,n,h1,h2,h3,h4⟩
 ·rw[h1];rw[h3,Jae]at kn;simp only[rowsOf,Go.AE.lenC,Jo,Jag,Jan,Jah];refine⟨trivial,.inl trivial,by intro r' hr';simp only[Jj]at hr';subst hr';exact hr.noOw,by simp only[LIM];omega,fun l hl H' hH'=>?_⟩;have:=fin l H' (by rw[h2];simpa using kn.al hl hH');rw[h2]at this;exact this
 ·rw[h4]at kn;have hy:H y=.vec 3 all:=(kn.get (y,.vec 3 all) (by simp)).1;have hn:s.vars.length=n:=by rw[h3];simp;omega
  rw[h1];simp only[hy,rowsOf,Go.AE.lenC,Jaa,Jah];refine⟨trivial,trivial,by omega,by intro r' hr';simp only[Jj]at hr';subst hr';exact hr.noOw,by omega,fun l' hl' H' hH'=>?_⟩;rw[←hn]at hH'⊢;rw[hn,←h3]at hH';refine fin l' H' ?_;have:=kn.ap ([(w,s.o)]++(s.lb++s.blocks.flatMap Blk.lg)).length (y:=y) (o:=.vec 3 all) (by simp) hl' hH';simpa using this
end Go.AE.Y
namespace Go.AE.Y
structure InsD where
 op:Int
 to:Int
 args:List Int
 n:Int
def InsD.cells (x:InsD):List C:=[.int .i64 x.op,.int .i64 x.to,.sl false 1 (Qb x.args),.int .i64 x.n]
structure PhiD where
 to:Int
 args:List Int
def PhiD.cells (x:PhiD):List C:=[.int .i64 x.to,.sl false 1 (Qb x.args)]
def Qaq (l:List InsD):List (List C):=l.map InsD.cells
def Q1 (l:List PhiD):List (List C):=l.map PhiD.cells
structure BlkD where
 phis:List PhiD
 ins:List InsD
 jump:Int
 on:Int
 next:List Int
def BlkD.cells (x:BlkD):List C:=[.sl false 2 (Q1 x.phis),.sl false 4 (Qaq x.ins),.int .i64 x.jump,.int .i64 x.on,.sl false 1 (Qb x.next)]
def Qm (l:List BlkD):List (List C):=l.map BlkD.cells
structure CodeD where
 params:Int
 regs:Int
 blocks:List BlkD
def CodeD.cells (x:CodeD):List C:=[.int .i64 x.params,.int .i64 x.regs,.sl false 5 (Qm x.blocks)]
def Qj (l:List CodeD):List (List C):=l.map CodeD.cells
theorem Qal (l:List InsD):(Qaq l).length=l.length:=by simp[Qaq]
theorem Q0 (l:List PhiD):(Q1 l).length=l.length:=by simp[Q1]
theorem Qo (l:List BlkD):(Qm l).length=l.length:=by simp[Qm]
theorem Q4 (l:List CodeD):(Qj l).length=l.length:=by simp[Qj]
theorem Qb7 (l:List InsD)(i:Nat)(h:i<l.length):(Qaq l).getD i []=(l[i]'h).cells:=by simp[Qaq,Je,h]
theorem Qaw (l:List PhiD)(i:Nat)(h:i<l.length):(Q1 l).getD i []=(l[i]'h).cells:=by simp[Q1,Je,h]
theorem Qaa (l:List BlkD)(i:Nat)(h:i<l.length):(Qm l).getD i []=(l[i]'h).cells:=by simp[Qm,Je,h]
theorem Qam (l:List CodeD)(i:Nat)(h:i<l.length):(Qj l).getD i []=(l[i]'h).cells:=by simp[Qj,Je,h]
theorem Qj9 (l:List InsD):∀r∈Qaq l,noOw r=true:=by intro r hr;obtain⟨x,_,rfl⟩:=Jh.1 hr;rfl
theorem Qhs (l:List PhiD):∀r∈Q1 l,noOw r=true:=by intro r hr;obtain⟨x,_,rfl⟩:=Jh.1 hr;rfl
theorem Qwk (l:List BlkD):∀r∈Qm l,noOw r=true:=by intro r hr;obtain⟨x,_,rfl⟩:=Jh.1 hr;rfl
theorem Qa9 (l:List CodeD):∀r∈Qj l,noOw r=true:=by intro r hr;obtain⟨x,_,rfl⟩:=Jh.1 hr;rfl
theorem Qarn (a:List CodeD)(x:CodeD):Qj a++[x.cells]=Qj (a++[x]):=by simp[Qj]
theorem Qbaj (a:List InsD)(x:InsD):Qaq a++[x.cells]=Qaq (a++[x]):=by simp[Qaq]
variable {H:Heap}{S:Nat→Bool}
theorem Gr.frzM {Lg:List (Nat×Obj)}{sz:Nat}{rows rows':List (List C)}{c:C}(h:Gr Lg sz rows c)(hm:∀p∈Lg,H p.1=p.2∧S p.1=true)(hr:FrzR H S rows rows'):FrzC H S c (.sl false sz rows'):=by
 rcases h with ⟨rfl,rfl,rfl⟩|⟨y,rfl,rfl⟩
 ·cases hr;exact FrzR.nil.sl
 ·obtain⟨h1,h2⟩:=hm (y,.vec sz rows) (by simp);exact hr.vsl h2 h1 rfl
theorem InsRow.frz {r:List C}(h:InsRow r):∃d:InsD,FrzL H S r d.cells:=by
 obtain⟨op,to,n,fl,args,rfl⟩:=h;exact⟨⟨op,to,args,n⟩,.cons (Qg rfl) (.cons (Qg rfl) (.cons (FrzR.same (Qp _)).sl (.cons (Qg rfl) .nil)))⟩
def CodeD.fits (c:CodeD):Prop:=∀b∈c.blocks,b.ins.length≤2^38∧b.phis.length≤2^38
theorem Q98:∀(l:List (List C)),(∀r∈l,InsRow r)→∃ds:List InsD,FrzR H S l (Qaq ds)
 |[],_=>⟨[],.nil⟩
 |r::l,h=>by
  obtain⟨d,hd⟩:=(h r Jx).frz (H:=H) (S:=S);obtain⟨ds,hds⟩:=Q98 l fun r' hr'=>h r' (Jr _ hr');exact⟨d::ds,.cons hd hds⟩
theorem Qa8e:∀(l:List Blk),(∀b∈l,Gr b.lg 4 b.irows b.ic∧(∀r∈b.irows,InsRow r)∧(∀p∈b.lg,H p.1=p.2∧S p.1=true)∧b.irows.length≤2^38)→
  ∃bs:List BlkD,FrzR H S (l.map Blk.row) (Qm bs)∧bs.length=l.length∧∀b∈bs,b.ins.length≤2^38∧b.phis.length≤2^38
 |[],_=>⟨[],.nil,rfl,by simp⟩
 |b::l,h=>by
  obtain⟨g1,g2,g3,g4⟩:=h b Jx;obtain⟨bs,h1,h2,h3⟩:=Qa8e l fun r' hr'=>h r' (Jr _ hr');obtain⟨ds,hds⟩:=Q98 (H:=H) (S:=S) b.irows g2;have hdl:=hds.spec.1;rw[Qal]at hdl;refine⟨⟨[],ds,b.jump,b.on,b.next⟩::bs,.cons ?_ h1,by simp[h2],fun b' hb'=>?_⟩
  ·exact .cons FrzR.nil.sl (.cons (Gr.frzM g1 g3 hds) (.cons (Qg rfl) (.cons (Qg rfl) (.cons (FrzR.same (Qp _)).sl .nil))))
  ·rcases Jp.1 hb' with rfl|hb'
   ·exact⟨by show ds.length≤_;omega,by simp⟩
   ·exact h3 b' hb'
end Go.AE.Y
namespace Go.AE
variable {H0 H H' F:Heap}{E L B A:List (Nat×Obj)}
theorem Kn.toFrame {y:Nat}{o:Obj}(kn:Kn F H [] (L++[(y,o)])):Kn (F.set y o) H [] L:=by
 have hnd:=kn.dL;rw[Jk]at hnd;have hne:∀p∈L,p.1≠y:=fun p hp hh=>(Jf.1 hnd).2.2 _ (Qao hp) y (by simp) hh;refine⟨fun p hp=>kn.get p (by simp only[Jo]at hp⊢;exact Jb _ hp),by simp,fun p hp=>?_,by simp,(Jf.1 hnd).1,fun m hm _=>?_⟩
 ·rw[Heap.set_other _ _ (hne p hp)];exact kn.loc p (Jb _ hp)
 ·by_cases h:m=y
  ·subst h;rw[Heap.set_same];exact (kn.get (m,o) (by simp)).1
  ·rw[Heap.set_other _ _ h]at hm⊢;exact kn.chg m hm (by simp)
theorem Kn.ofFrame {y:Nat}{o:Obj}(kn:Kn (F.set y o) H [] L)(hF:F y=.none)(ho:o≠.none):Kn F H [] (L++[(y,o)]):=by
 have hy:H y=o:=by have:=kn.chg y (by rw[Heap.set_same];exact ho) (by simp);rw[this,Heap.set_same]
 have hne:∀p∈L,p.1≠y:=fun p hp hh=>by have:=kn.loc p hp;rw[hh,Heap.set_same]at this;exact ho this
 refine⟨fun p hp=>?_,by simp,fun p hp=>?_,by simp,?_,fun m hm _=>?_⟩
 ·simp only[Jo]at hp;rcases Jd.1 hp with hp|hp
  ·exact kn.get p (by simpa using hp)
  ·simp at hp;subst hp;exact⟨hy,ho⟩
 ·rcases Jd.1 hp with hp|hp
  ·have:=kn.loc p hp;rw[Heap.set_other _ _ (hne p hp)]at this;exact this
  ·simp at hp;subst hp;exact hF
 ·rw[Jk];refine Jf.2 ⟨kn.dL,by simp,fun a ha b hb=>?_⟩;simp at hb;subst hb;obtain⟨p,hp,rfl⟩:=Jh.1 ha;exact hne p hp
 ·have hmy:m≠y:=fun h=>by subst h;exact hm hF
  have:=kn.chg m (by rw[Heap.set_other _ _ hmy];exact hm) (by simp);rw[this,Heap.set_other _ _ hmy]
theorem Kn.frz1 {z:Nat}{o:Obj}(kn:Kn H0 H E (B++[(z,o)])):Kn H0 (H.frz fun m=>m == z) E B:=by
 have hzf:H0 z=.none:=kn.loc (z,o) (by simp);have hnd:=kn.dL;rw[Jk]at hnd;have hne:∀p∈B,p.1≠z:=fun p hp hh=>(Jf.1 hnd).2.2 _ (Qao hp) z (by simp) hh;have hneE:∀p∈E,p.1≠z:=fun p hp hh=>kn.ext p hp (hh▸hzf);refine⟨fun p hp=>?_,kn.ext,fun p hp=>kn.loc p (Jb _ hp),kn.dE,(Jf.1 hnd).1,fun m hm hx=>?_⟩
 ·have:p.1≠z:=by
   rcases Jd.1 hp with h|h
   ·exact hneE p h
   ·exact hne p h
  have h2:(H.frz fun m=>m == z) p.1=H p.1:=by simp[Heap.frz,this]
  rw[h2];refine kn.get p ?_;rcases Jd.1 hp with h|h
  ·exact Jb _ h
  ·exact Jc _ (Jb _ h)
 ·have:m≠z:=fun h=>hm (h▸hzf);have h2:(H.frz fun m=>m == z) m=H m:=by simp[Heap.frz,this]
  rw[h2];exact kn.chg m hm hx
theorem Gr.freeze {Lg:List (Nat×Obj)}{sz:Nat}{rows:List (List C)}{c:C}(h:Gr Lg sz rows c)(kn:Kn H0 H E (B++Lg))(hr:∀r∈rows,noOw r=true) :
  ∃S H2,FrzC H S c (.sl false sz rows)∧FrzH H S H2∧Kn H0 H2 E B:=by
 rcases h with ⟨rfl,rfl,rfl⟩|⟨y,rfl,rfl⟩
 ·refine⟨fun _=>false,H,Y.FrzR.nil.sl,fun m=>.inr ⟨rfl,.same _⟩,by simpa using kn⟩
 ·exact⟨fun m=>m == y,_,(Y.FrzR.same hr).vsl (by simp) (kn.get (y,.vec sz rows) (by simp)).1 rfl,Qd7 _ _,kn.frz1⟩
end Go.AE
namespace Go.AE.Y
variable {F H H':Heap}{w:Nat}{s:LS}{Lg:List (Nat×Obj)}{sz:Nat}{rows:List (List C)}{c:C}
theorem LInv.re {H2:Heap}(h:LInv F H w s)(kn:Kn F H2 [] (s.L w)):LInv F H2 w s:=⟨kn,h.gb,h.gv,h.gi,h.ri,h.rv⟩
theorem LInv.beside (h:LInv F H w s)(kn:Kn F H [] (s.L w++Lg))(hg:Gr Lg sz rows c) :
  ∃F',LInv F' H w s∧∀(s':LS) (H':Heap),LInv F' H' w s'→LInv F H' w s'∧Kn F H' [] (s'.L w++Lg):=by
 rcases hg with ⟨_,_,rfl⟩|⟨y,_,rfl⟩
 ·exact⟨F,h,fun s' H' h'=>⟨h',by simpa using h'.kn⟩⟩
 ·refine⟨F.set y (.vec sz rows),⟨kn.toFrame,h.gb,h.gv,h.gi,h.ri,h.rv⟩,fun s' H' h'=>?_⟩;have k2:=h'.kn.ofFrame (kn.loc (y,.vec sz rows) (by simp)) (by simp);exact⟨⟨k2.drop,h'.gb,h'.gv,h'.gi,h'.ri,h'.rv⟩,k2⟩
end Go.AE.Y
namespace Go.AE
variable {H0 H H':Heap}{E L N B:List (Nat×Obj)}
theorem Kn.comp0 (kn:Kn H0 H E L)(k2:Kn H H' [] N):Kn H0 H' E (L++N):=by
 have hne:∀p∈E++L,H p.1≠.none:=fun p hp=>by obtain⟨a,b⟩:=kn.get p hp;rw[a];exact b
 refine⟨fun p hp=>?_,kn.ext,fun p hp=>?_,kn.dE,?_,fun m hm hx=>?_⟩
 ·rw[←Ji]at hp;rcases Jd.1 hp with hp|hp
  ·obtain⟨a,b⟩:=kn.get p hp;exact⟨by rw[k2.chg p.1 (hne p hp) (by simp),a],b⟩
  ·exact k2.get p (by simpa using hp)
 ·rcases Jd.1 hp with hp|hp
  ·exact kn.loc p hp
  ·exact (kn.newFree (k2.loc p hp)).1
 ·rw[Jk];refine Jf.2 ⟨kn.dL,k2.dL,fun a ha b hb hab=>?_⟩;obtain⟨p,hp,rfl⟩:=Jh.1 ha;obtain⟨q,hq,rfl⟩:=Jh.1 hb;exact hne p (Jc _ hp) (by rw[hab];exact k2.loc q hq)
 ·have:=kn.chg m hm hx;rw[k2.chg m (by rw[this];exact hm) (by simp),this]
theorem Kn.compE (kn:Kn H0 H E L)(i:Nat){l:Nat}{o o':Obj}(h:E[i]? = some (l,o))(k2:Kn H H' [(l,o')] N):Kn H0 H' (E.set i (l,o')) (L++N):=by
 have hne:∀p∈E++L,H p.1≠.none:=fun p hp=>by obtain⟨a,b⟩:=kn.get p hp;rw[a];exact b
 have hl:H' l=o'∧o'≠.none:=k2.get (l,o') (by simp);have hu:Upd H H' [(l,o')]:=⟨fun p hp=>by simp at hp;subst hp;exact hl.1,fun m hm hx=>k2.chg m hm hx⟩;have k3:=kn.callE i h hu hl.2;refine⟨fun p hp=>?_,k3.ext,fun p hp=>?_,k3.dE,?_,k3.chg⟩
 ·rw[←Ji]at hp;rcases Jd.1 hp with hp|hp
  ·exact k3.get p hp
  ·exact k2.get p (Jc _ hp)
 ·rcases Jd.1 hp with hp|hp
  ·exact kn.loc p hp
  ·exact (kn.newFree (k2.loc p hp)).1
 ·rw[Jk];refine Jf.2 ⟨kn.dL,k2.dL,fun a ha b hb hab=>?_⟩;obtain⟨p,hp,rfl⟩:=Jh.1 ha;obtain⟨q,hq,rfl⟩:=Jh.1 hb;exact hne p (Jc _ hp) (by rw[hab];exact k2.loc q hq)
theorem Kn.finK (hk:Kn H0 H E (B++N)):Kn H0 (H.frz (Go.AE.unx H0 N)) E N:=by
 obtain⟨h1,h2⟩:=hk.finx;have hd:=hk.dL;rw[Jk]at hd;refine⟨fun p hp=>?_,hk.ext,fun p hp=>hk.loc p (Jc _ hp),hk.dE,(Jf.1 hd).2.1,h1.2⟩;rcases Jd.1 hp with hp|hp
 ·exact⟨h1.1 p hp,(hk.get p (Jb _ hp)).2⟩
 ·exact⟨(h2 p hp).2,(hk.get p (Jc _ (Jc _ hp))).2⟩
end Go.AE
namespace Go.AE.Y
structure OInts where
 ns:List Int
 y:Nat
def OInts.c (x:OInts):C:=.vsl x.y 1 0 x.ns.length
def OInts.lg (x:OInts):List (Nat×Obj):=[(x.y,.vec 1 (Qb x.ns))]
structure OPhi where
 to:Int
 ns:List Int
 ac:C
 lg:List (Nat×Obj)
def OPhi.row (x:OPhi):List C:=[.int .i64 x.to,x.ac]
def OPhi.ok (x:OPhi):Prop:=(∃y,x.ac=.vsl y 1 0 x.ns.length∧x.lg=[(y,.vec 1 (Qb x.ns))])∨(∃fl,x.ac=.sl fl 1 (Qb x.ns)∧x.lg=[])
def OPhi.own (x:OPhi):Prop:=∃y,x.ac=.vsl y 1 0 x.ns.length∧x.lg=[(y,.vec 1 (Qb x.ns))]
structure OIns where
 op:Int
 to:Int
 a:OInts
 n:Int
def OIns.row (x:OIns):List C:=[.int .i64 x.op,.int .i64 x.to,x.a.c,.int .i64 x.n]
def OIns.lg (x:OIns):List (Nat×Obj):=x.a.lg
structure OBlk where
 phis:List OPhi
 pc:C
 pl:List (Nat×Obj)
 ins:List OIns
 ic:C
 il:List (Nat×Obj)
 jump:Int
 on:Int
 nx:OInts
def OBlk.row (x:OBlk):List C:=[x.pc,x.ic,.int .i64 x.jump,.int .i64 x.on,x.nx.c]
def OBlk.lg (x:OBlk):List (Nat×Obj):=x.nx.lg++(x.phis.flatMap OPhi.lg++(x.pl++(x.ins.flatMap OIns.lg++x.il)))
structure OBlk.ok (x:OBlk):Prop where
 p:Gr x.pl 2 (x.phis.map OPhi.row) x.pc
 i:Gr x.il 4 (x.ins.map OIns.row) x.ic
 a:∀p∈x.phis,p.ok
structure OCode where
 params:Int
 regs:Int
 blocks:List OBlk
 bc:C
 bl:List (Nat×Obj)
def OCode.row (x:OCode):List C:=[.int .i64 x.params,.int .i64 x.regs,x.bc]
def OCode.lg (x:OCode):List (Nat×Obj):=x.blocks.flatMap OBlk.lg++x.bl
structure OCode.ok (x:OCode):Prop where
 b:Gr x.bl 5 (x.blocks.map OBlk.row) x.bc
 bs:∀b∈x.blocks,b.ok
def OPhi.d (x:OPhi):PhiD:=⟨x.to,x.ns⟩
def OIns.d (x:OIns):InsD:=⟨x.op,x.to,x.a.ns,x.n⟩
def OBlk.d (x:OBlk):BlkD:=⟨x.phis.map OPhi.d,x.ins.map OIns.d,x.jump,x.on,x.nx.ns⟩
def OCode.d (x:OCode):CodeD:=⟨x.params,x.regs,x.blocks.map OBlk.d⟩
theorem OPhi.noOw (x:OPhi)(h:x.ok):Go.AE.noOw x.row=true:=by
 rcases h with ⟨y,h,_⟩|⟨fl,h,_⟩ <;> simp only[Go.AE.noOw,OPhi.row,h] <;> rfl
theorem OIns.noOw (x:OIns):Go.AE.noOw x.row=true:=rfl
theorem OBlk.noOw (x:OBlk)(h:x.ok):Go.AE.noOw x.row=true:=by
 simp only[Go.AE.noOw,OBlk.row,OInts.c,Jy,J3,h.p.isOw,h.i.isOw];rfl
theorem OCode.noOw (x:OCode)(h:x.ok):Go.AE.noOw x.row=true:=by
 simp only[Go.AE.noOw,OCode.row,Jy,J3,h.b.isOw];rfl
variable {H:Heap}{S:Nat→Bool}
def Held (H:Heap)(S:Nat→Bool)(l:List (Nat×Obj)):Prop:=∀p∈l,H p.1=p.2∧S p.1=true
theorem Held.l {a b:List (Nat×Obj)}(h:Held H S (a++b)):Held H S a:=fun p hp=>h p (Jb _ hp)
theorem Held.r {a b:List (Nat×Obj)}(h:Held H S (a++b)):Held H S b:=fun p hp=>h p (Jc _ hp)
theorem Held.m {α:Type}{f:α→List (Nat×Obj)}{l:List α}(h:Held H S (l.flatMap f)){x:α}(hx:x∈l):Held H S (f x):=fun p hp=>h p (List.mem_flatMap.2 ⟨x,hx,hp⟩)
theorem OInts.frz (x:OInts)(h:Held H S x.lg):FrzC H S x.c (.sl false 1 (Qb x.ns)):=by
 obtain⟨h1,h2⟩:=h (x.y,.vec 1 (Qb x.ns)) (by simp[OInts.lg]);exact (FrzR.same (Qp _)).vsl h2 h1 (by simp[Qb])
theorem OPhi.frz (x:OPhi)(hok:x.ok)(h:Held H S x.lg):FrzL H S x.row (PhiD.mk x.to x.ns).cells:=by
 refine .cons (Qg rfl) (.cons ?_ .nil);rcases hok with ⟨y,h1,h2⟩|⟨fl,h1,h2⟩
 ·obtain⟨h3,h4⟩:=h (y,.vec 1 (Qb x.ns)) (by rw[h2];simp);rw[h1];exact (FrzR.same (Qp _)).vsl h4 h3 (by simp[Qb])
 ·rw[h1];exact (FrzR.same (Qp _)).sl
theorem OIns.frz (x:OIns)(h:Held H S x.lg):FrzL H S x.row (InsD.mk x.op x.to x.a.ns x.n).cells:=.cons (Qg rfl) (.cons (Qg rfl) (.cons (x.a.frz h) (.cons (Qg rfl) .nil)))
theorem Qa02 {α β:Type}{f:α→List C}{g:β→List C}:∀(l:List α),(∀x∈l,∃y,FrzL H S (f x) (g y))→∃l':List β,FrzR H S (l.map f) (l'.map g)∧l'.length=l.length
 |[],_=>⟨[],.nil,rfl⟩
 |x::l,h=>by
  obtain⟨y,hy⟩:=h x Jx;obtain⟨l',hl',hn⟩:=Qa02 l fun z hz=>h z (Jr _ hz);exact⟨y::l',.cons hy hl',by simp[hn]⟩
theorem Qtr {α β:Type}{P:β→Prop}{f:α→List C}{g:β→List C}:∀(l:List α),(∀x∈l,∃y,FrzL H S (f x) (g y)∧P y)→∃l':List β,FrzR H S (l.map f) (l'.map g)∧l'.length=l.length∧∀y∈l',P y
 |[],_=>⟨[],.nil,rfl,by simp⟩
 |x::l,h=>by
  obtain⟨y,hy,hp⟩:=h x Jx;obtain⟨l',hl',hn,hps⟩:=Qtr l fun z hz=>h z (Jr _ hz);refine⟨y::l',.cons hy hl',by simp[hn],fun z hz=>?_⟩;rcases Jp.1 hz with rfl|hz
  ·exact hp
  ·exact hps z hz
theorem OBlk.frz (x:OBlk)(hok:x.ok)(h:Held H S x.lg):∃d:BlkD,FrzL H S x.row d.cells∧d.next=x.nx.ns∧d.ins.length=x.ins.length∧d.phis.length=x.phis.length:=by
 obtain⟨ps,hps,hpn⟩:=Qa02 (H:=H) (S:=S) (f:=OPhi.row) (g:=PhiD.cells) x.phis fun p hp=>⟨_,p.frz (hok.a p hp) (h.r.l.m hp)⟩;obtain⟨is,his,hin⟩:=Qa02 (H:=H) (S:=S) (f:=OIns.row) (g:=InsD.cells) x.ins fun p hp=>⟨_,p.frz (h.r.r.r.l.m hp)⟩;exact⟨⟨ps,is,x.jump,x.on,x.nx.ns⟩,.cons (Gr.frzM hok.p h.r.r.l hps) (.cons (Gr.frzM hok.i h.r.r.r.r his) (.cons (Qg rfl) (.cons (Qg rfl) (.cons (x.nx.frz h.l) .nil)))),rfl,hin,hpn⟩
end Go.AE.Y
namespace Go.AE.Y
theorem Qaln {α:Type}{A L1 L2:List α}:(A++L1++L2).Perm (A++L2++L1):=by
 rw[Ji,Ji];exact .append_left _ Jn
structure BlkD.sm (b:BlkD):Prop where
 n:b.next.length≤2
 i:b.ins.length≤1000
 p:b.phis.length≤1000
 ia:∀x∈b.ins,x.args.length≤1000
 pa:∀x∈b.phis,x.args.length≤1000
structure CodeD.sm (c:CodeD):Prop where
 b0:0<c.blocks.length
 b:c.blocks.length≤160
 bs:∀b∈c.blocks,b.sm
 p0:0≤c.params
 p1:c.params≤1000
structure OBlk.sm (b:OBlk)(N:Nat):Prop where
 n:b.nx.ns.length≤2
 i:b.ins.length≤1000
 p:b.phis.length≤N
 ia:∀x∈b.ins,x.a.ns.length≤N
structure OCode.sm (c:OCode)(N:Nat):Prop where
 b0:0<c.blocks.length
 b:c.blocks.length≤160
 bs:∀b∈c.blocks,b.sm N
 p0:0≤c.params
 p1:c.params≤1000
theorem OBlk.sm.mono {b:OBlk}{N M:Nat}(h:b.sm N)(hm:N≤M):b.sm M:=⟨h.n,h.i,by have:=h.p;omega,fun x hx=>by have:=h.ia x hx;omega⟩
theorem OCode.sm.mono {c:OCode}{N M:Nat}(h:c.sm N)(hm:N≤M):c.sm M:=⟨h.b0,h.b,fun b hb=>(h.bs b hb).mono hm,h.p0,h.p1⟩
structure CodeD.gd (c:CodeD):Prop where
 b0:0<c.blocks.length
 b1:c.blocks.length≤160
 n:∀b∈c.blocks,b.next.length≤2
 f:c.fits
theorem CodeD.sm.fits {c:CodeD}(h:c.sm):c.fits:=fun b hb=>⟨by have:=(h.bs b hb).i;omega,by have:=(h.bs b hb).p;omega⟩
theorem CodeD.sm.gd {c:CodeD}(h:c.sm):c.gd:=⟨h.b0,h.b,fun b hb=>(h.bs b hb).n,h.fits⟩
structure BlkD.sg (b:BlkD):Prop where
 n:b.next.length≤1000000
 i:b.ins.length≤1000000
 p:b.phis.length≤1000000
 ia:∀x∈b.ins,x.args.length≤1000000
 pa:∀x∈b.phis,x.args.length≤1000000
structure CodeD.sg (c:CodeD):Prop where
 b:c.blocks.length≤1000000
 bs:∀b∈c.blocks,b.sg
theorem BlkD.sm.sg {b:BlkD}(h:b.sm):b.sg:=⟨by have:=h.n;omega,by have:=h.i;omega,by have:=h.p;omega,fun x hx=>by have:=h.ia x hx;omega,fun x hx=>by have:=h.pa x hx;omega⟩
theorem CodeD.sm.sg {c:CodeD}(h:c.sm):c.sg:=⟨by have:=h.b;omega,fun b hb=>(h.bs b hb).sg⟩
theorem BlkD.sm.o {o:OBlk}(h:o.d.sm):o.sm 1000:=
 ⟨h.n,by have:=h.i;simp only[OBlk.d,J1]at this;exact this,by have:=h.p;simp only[OBlk.d,J1]at this;exact this,fun x hx=>h.ia x.d (Jh.2 ⟨x,hx,rfl⟩)⟩
theorem CodeD.sm.o {o:OCode}(h:o.d.sm):o.sm 1000:=
 ⟨by have:=h.b0;simp only[OCode.d,J1]at this;exact this,by have:=h.b;simp only[OCode.d,J1]at this;exact this,fun b hb=>(h.bs b.d (Jh.2 ⟨b,hb,rfl⟩)).o,h.p0,h.p1⟩
variable {H:Heap}{S:Nat→Bool}
theorem OCode.frz (x:OCode){N:Nat}(hN:N≤100000)(hok:x.ok)(hs:x.sm N)(h:Held H S x.lg):∃d:CodeD,FrzL H S x.row d.cells∧d.gd:=by
 obtain⟨bs,hbs,hbn,hbp⟩:=Qtr (H:=H) (S:=S) (P:=fun d:BlkD=>d.next.length≤2∧d.ins.length≤2^38∧d.phis.length≤2^38) (f:=OBlk.row) (g:=BlkD.cells) x.blocks fun b hb=>by
  obtain⟨d,h1,h2,h3,h4⟩:=b.frz (hok.bs b hb) (h.l.m hb);have hsb:=hs.bs b hb;exact⟨d,h1,by rw[h2];exact hsb.n,by have:=hsb.i;omega,by have:=hsb.p;omega⟩
 have hb0:=hs.b0;have hb1:=hs.b;exact⟨⟨x.params,x.regs,bs⟩,.cons (Qg rfl) (.cons (Qg rfl) (.cons (Gr.frzM hok.b h.r hbs) .nil)),by show 0<bs.length;omega,by show bs.length≤_;omega,fun b hb=>(hbp b hb).1,fun b hb=>(hbp b hb).2⟩
theorem OCodes.frz {N:Nat}(hN:N≤100000){us:List OCode}{cc:C}{cl:List (Nat×Obj)}(hg:Gr cl 3 (us.map OCode.row) cc)(hu:∀u∈us,u.ok∧u.sm N)(h:Held H S (us.flatMap OCode.lg++cl)) :
  ∃cs:List CodeD,FrzC H S cc (.sl false 3 (Qj cs))∧cs.length=us.length∧∀c∈cs,c.gd:=by
 obtain⟨cs,h1,h2,h3⟩:=Qtr (H:=H) (S:=S) (P:=CodeD.gd) (f:=OCode.row) (g:=CodeD.cells) us fun u hu2=>u.frz hN (hu u hu2).1 (hu u hu2).2 (h.l.m hu2);exact⟨cs,Gr.frzM hg h.r h1,h2,h3⟩
end Go.AE.Y
namespace Go.AE
variable {P:Program}
theorem Qd2 {a b:SC}{Q:X→Env→Heap→Prop}{e:Env}{H:Heap}(T:Env→Heap→Prop)(h1:∀Q':X→Env→Heap→Prop,(∀e H,T e H→Q' .nrm e H)→(∀e H,Q .ret e H→Q' .ret e H)→(∀i e H,Q (.exit i) e H→Q' (.exit i) e H)→Qah P a Q' e H)
  (h2:∀e H,T e H→Qah P b Q e H):Qah P (.seq a b) Q e H:=h1 (X.sq P b Q) h2 (fun _ _ h=>h) (fun _ _ _ h=>h)
end Go.AE
namespace Go.AE.Y
structure UPhi where
 to:Int
 ns:List Int
 ac:C
 al:List (Nat×Obj)
def UPhi.row (x:UPhi):List C:=[.int .i64 x.to,x.ac]
structure UBlk where
 phis:List UPhi
 pc:C
 pl:List (Nat×Obj)
 ins:List InsD
 ic:C
 il:List (Nat×Obj)
 jump:Int
 on:Int
 nfl:Bool
 next:List Int
def UBlk.row (x:UBlk):List C:=[x.pc,x.ic,.int .i64 x.jump,.int .i64 x.on,.sl x.nfl 1 (Qb x.next)]
def UBlk.lg (x:UBlk):List (Nat×Obj):=x.il++(x.phis.flatMap UPhi.al++x.pl)
structure UBlk.ok (x:UBlk):Prop where
 p:Gr x.pl 2 (x.phis.map UPhi.row) x.pc
 i:Gr x.il 4 (Qaq x.ins) x.ic
 a:∀p∈x.phis,Gr p.al 1 (Qb p.ns) p.ac
structure UBlk.sm (b:UBlk)(N:Nat):Prop where
 n:b.next.length≤2
 i:b.ins.length≤1000
 p:b.phis.length≤N
 ia:∀x∈b.ins,x.args.length≤1000
 pa:∀x∈b.phis,x.ns.length≤1000
structure UCode where
 params:Int
 regs:Int
 blocks:List UBlk
 bc:C
 bl:List (Nat×Obj)
def UCode.row (x:UCode):List C:=[.int .i64 x.params,.int .i64 x.regs,x.bc]
def UCode.lg (x:UCode):List (Nat×Obj):=x.blocks.flatMap UBlk.lg++x.bl
structure UCode.ok (x:UCode):Prop where
 b:Gr x.bl 5 (x.blocks.map UBlk.row) x.bc
 bs:∀b∈x.blocks,b.ok
 p0:0≤x.params
 p1:x.params≤3
structure UCode.sm (c:UCode)(N:Nat):Prop where
 b0:0<c.blocks.length
 b:c.blocks.length≤160
 bs:∀b∈c.blocks,b.sm N
theorem UPhi.noOw (x:UPhi)(h:Gr x.al 1 (Qb x.ns) x.ac):Go.AE.noOw x.row=true:=by
 simp only[Go.AE.noOw,UPhi.row,Jy,J3,h.isOw];rfl
theorem UBlk.noOw (x:UBlk)(h:x.ok):Go.AE.noOw x.row=true:=by
 simp only[Go.AE.noOw,UBlk.row,Jy,J3,h.p.isOw,h.i.isOw];rfl
theorem UCode.noOw (x:UCode)(h:x.ok):Go.AE.noOw x.row=true:=by
 simp only[Go.AE.noOw,UCode.row,Jy,J3,h.b.isOw];rfl
theorem UBlk.len5 (x:UBlk):x.row.length=5:=rfl
theorem UCode.len3 (x:UCode):x.row.length=3:=rfl
theorem UBlk.sm.mono {b:UBlk}{N M:Nat}(h:b.sm N)(hm:N≤M):b.sm M:=⟨h.n,h.i,by have:=h.p;omega,h.ia,h.pa⟩
theorem UCode.sm.mono {c:UCode}{N M:Nat}(h:c.sm N)(hm:N≤M):c.sm M:=⟨h.b0,h.b,fun b hb=>(h.bs b hb).mono hm⟩
variable {H:Heap}{S:Nat→Bool}
theorem UBlk.frz (x:UBlk){N:Nat}(hN:N≤1000)(hok:x.ok)(hs:x.sm N)(h:Held H S x.lg):∃d:BlkD,FrzL H S x.row d.cells∧d.sm:=by
 obtain⟨ps,hps,hpn,hpp⟩:=Qtr (H:=H) (S:=S) (P:=fun p:PhiD=>p.args.length≤1000) (f:=UPhi.row) (g:=PhiD.cells) x.phis fun p hp=>
  ⟨⟨p.to,p.ns⟩,.cons (Qg rfl) (.cons (Gr.frzM (hok.a p hp) (h.r.l.m hp) (FrzR.same (Qp _))) .nil),hs.pa p hp⟩
 have h1:=hs.n;have h2:=hs.i;have h3:=hs.p;exact⟨⟨ps,x.ins,x.jump,x.on,x.next⟩,.cons (Gr.frzM hok.p h.r.r hps) (.cons (Gr.frzM hok.i h.l (FrzR.same (Qj9 _))) (.cons (Qg rfl) (.cons (Qg rfl) (.cons (FrzR.same (Qp _)).sl .nil)))),
  h1,h2,by show ps.length≤_;omega,hs.ia,hpp⟩
theorem UCode.frz (x:UCode){N:Nat}(hN:N≤1000)(hok:x.ok)(hs:x.sm N)(h:Held H S x.lg):∃d:CodeD,FrzL H S x.row d.cells∧d.sm:=by
 obtain⟨bs,hbs,hbn,hbp⟩:=Qtr (H:=H) (S:=S) (P:=BlkD.sm) (f:=UBlk.row) (g:=BlkD.cells) x.blocks fun b hb=>b.frz hN (hok.bs b hb) (hs.bs b hb) (h.l.m hb);have hb0:=hs.b0;have hb1:=hs.b;exact⟨⟨x.params,x.regs,bs⟩,.cons (Qg rfl) (.cons (Qg rfl) (.cons (Gr.frzM hok.b h.r hbs) .nil)),by show 0<bs.length;omega,by show bs.length≤_;omega,hbp,hok.p0,by have:=hok.p1;show x.params≤_;omega⟩
theorem UCodes.frz {us:List UCode}{N:Nat}(hN:N≤1000){cc:C}{cl:List (Nat×Obj)}(hg:Gr cl 3 (us.map UCode.row) cc)(hu:∀u∈us,u.ok∧u.sm N)(h:Held H S (us.flatMap UCode.lg++cl)) :
  ∃cs:List CodeD,FrzC H S cc (.sl false 3 (Qj cs))∧cs.length=us.length∧∀c∈cs,c.sm:=by
 obtain⟨cs,h1,h2,h3⟩:=Qtr (H:=H) (S:=S) (P:=CodeD.sm) (f:=UCode.row) (g:=CodeD.cells) us fun u hu2=>u.frz hN (hu u hu2).1 (hu u hu2).2 (h.l.m hu2);exact⟨cs,Gr.frzM hg h.r h1,h2,h3⟩
end Go.AE.Y
namespace Go.AE.Y
theorem Ql {α:Type}{l1 l2:List α}(h:∀f:List α→Nat,(∀a b,f (a++b)=f a+f b)→f []=0→(∀x l,f (x::l)=f [x]+f l)→(∀a b:List α,a.Perm b→f a=f b)→f l1=f l2):l1.Perm l2:=by
 classical
 exact List.perm_iff_count.2 fun a=>h (List.count a) (fun _ _=>List.count_append) rfl (fun x l=>by rw[Jap,Jap];simp;omega) (fun _ _ hp=>hp.count_eq a)
def UBlk.core (x:UBlk):List (Nat×Obj):=x.il++x.phis.flatMap UPhi.al
def Qarf (us:List UCode)(ci bi:Nat)(hc:ci<us.length):List (Nat×Obj):=(us[ci].blocks.eraseIdx bi).flatMap UBlk.lg++(us.eraseIdx ci).flatMap UCode.lg
theorem Qbn5 (us:List UCode)(ci bi:Nat)(hc:ci<us.length)(hb:bi<us[ci].blocks.length) :
  (us.flatMap UCode.lg).Perm (us[ci].bl++(us[ci].blocks[bi].pl++(us[ci].blocks[bi].core++Qarf us ci bi hc))):=by
 refine Ql fun f hf h0 hc1 hp=>?_;rw[hp _ _ (Qjc UCode.lg us ci hc)];simp only[hf,UCode.lg,Qarf];rw[hp _ _ (Qjc UBlk.lg us[ci].blocks bi hb)];simp only[hf,UBlk.lg,UBlk.core];omega
def UCode.put (u:UCode)(bi:Nat)(b:UBlk)(bl:List (Nat×Obj)):UCode:={ u with blocks:=u.blocks.set bi b,bl:=bl }
theorem Qbri (us:List UCode)(ci bi:Nat)(hc:ci<us.length)(hb:bi<us[ci].blocks.length)(b:UBlk)(bl:List (Nat×Obj)) :
  ((us.set ci (us[ci].put bi b bl)).flatMap UCode.lg).Perm (bl++(b.pl++(b.core++Qarf us ci bi hc))):=by
 refine Ql fun f hf h0 hc1 hp=>?_;rw[hp _ _ (Qgv UCode.lg us ci _ hc)];simp only[hf,UCode.lg,Qarf,UCode.put];rw[hp _ _ (Qgv UBlk.lg us[ci].blocks bi _ hb)];simp only[hf,UBlk.lg,UBlk.core];omega
theorem UBlk.core_snoc (b:UBlk)(p:UPhi)(pc:C)(pl:List (Nat×Obj)):UBlk.core { b with phis:=b.phis++[p],pc:=pc,pl:=pl }=b.core++p.al:=by
 simp[UBlk.core,Jai]
theorem UCode.put_row (u:UCode)(bi:Nat)(b:UBlk)(bl:List (Nat×Obj)):(u.put bi b bl).row=u.row:=rfl
theorem Qbrj (us:List UCode)(ci:Nat)(hc:ci<us.length)(u:UCode)(h:u.row=us[ci].row):(us.set ci u).map UCode.row=us.map UCode.row:=by
 rw[J5,h];refine Jac (by simp) fun i h1 h2=>?_;rw[J6];split
 ·rename_i h;subst h;simp
 ·rfl
theorem UCode.put_ok {u:UCode}{bi:Nat}{b:UBlk}{y:Nat}(h:u.ok)(hb:b.ok)(hbl:u.bl=[(y,.vec 5 (u.blocks.map UBlk.row))]):(u.put bi b [(y,.vec 5 ((u.blocks.set bi b).map UBlk.row))]).ok:=by
 refine⟨?_,fun b' hb'=>?_,h.p0,h.p1⟩
 ·rcases h.b with ⟨h1,h2,h3⟩|⟨y',h1,h2⟩
  ·rw[hbl]at h3;simp at h3
  ·rw[hbl]at h2;have:y=y':=by simpa using h2
   subst this;exact .inr ⟨y,by show u.bc=_;rw[h1];simp[UCode.put],rfl⟩
 ·rcases Jl hb' with hb'|rfl
  ·exact h.bs _ hb'
  ·exact hb
theorem UCode.put_sm {u:UCode}{bi N:Nat}{b:UBlk}{bl:List (Nat×Obj)}(h:u.sm N)(hb:b.sm (N+1)):(u.put bi b bl).sm (N+1):=by
 refine⟨by show 0<(u.blocks.set bi b).length;simpa using h.b0,by show (u.blocks.set bi b).length≤_;simpa using h.b,fun b' hb'=>?_⟩;rcases Jl hb' with hb'|rfl
 ·exact (h.bs _ hb').mono (by omega)
 ·exact hb
theorem UCode.bvec {u:UCode}(h:u.ok)(h0:0<u.blocks.length):∃y,u.bc=.vsl y 5 0 u.blocks.length∧u.bl=[(y,.vec 5 (u.blocks.map UBlk.row))]:=by
 rcases h.b with ⟨h1,h2,h3⟩|⟨y,h1,h2⟩
 ·have:=J8.1 h2;rw[this]at h0;simp at h0
 ·exact⟨y,by rw[h1];simp,h2⟩
def Qag1 (us:List OCode)(ci bi:Nat)(hc:ci<us.length):List (Nat×Obj):=(us[ci].blocks.eraseIdx bi).flatMap OBlk.lg++(us.eraseIdx ci).flatMap OCode.lg
theorem Qbl7 (us:List OCode)(ci bi:Nat)(hc:ci<us.length)(hb:bi<us[ci].blocks.length) :
  (us.flatMap OCode.lg).Perm (us[ci].bl++(us[ci].blocks[bi].lg++Qag1 us ci bi hc)):=by
 refine Ql fun f hf h0 hc1 hp=>?_;rw[hp _ _ (Qjc OCode.lg us ci hc)];simp only[hf,OCode.lg,Qag1];rw[hp _ _ (Qjc OBlk.lg us[ci].blocks bi hb)];simp only[hf];omega
def OCode.put (u:OCode)(bi:Nat)(b:OBlk)(bl:List (Nat×Obj)):OCode:={ u with blocks:=u.blocks.set bi b,bl:=bl }
theorem Qbqm (us:List OCode)(ci bi:Nat)(hc:ci<us.length)(hb:bi<us[ci].blocks.length)(b:OBlk)(bl:List (Nat×Obj)) :
  ((us.set ci (us[ci].put bi b bl)).flatMap OCode.lg).Perm (bl++(b.lg++Qag1 us ci bi hc)):=by
 refine Ql fun f hf h0 hc1 hp=>?_;rw[hp _ _ (Qgv OCode.lg us ci _ hc)];simp only[hf,OCode.lg,Qag1,OCode.put];rw[hp _ _ (Qgv OBlk.lg us[ci].blocks bi _ hb)];simp only[hf];omega
theorem Qbqn (us:List OCode)(ci:Nat)(hc:ci<us.length)(u:OCode)(h:u.row=us[ci].row):(us.set ci u).map OCode.row=us.map OCode.row:=by
 rw[J5,h];refine Jac (by simp) fun i h1 h2=>?_;rw[J6];split
 ·rename_i h;subst h;simp
 ·rfl
theorem OCode.put_ok {u:OCode}{bi:Nat}{b:OBlk}{y:Nat}(h:u.ok)(hb:b.ok)(hbl:u.bl=[(y,.vec 5 (u.blocks.map OBlk.row))]):(u.put bi b [(y,.vec 5 ((u.blocks.set bi b).map OBlk.row))]).ok:=by
 refine⟨?_,fun b' hb'=>?_⟩
 ·rcases h.b with ⟨h1,h2,h3⟩|⟨y',h1,h2⟩
  ·rw[hbl]at h3;simp at h3
  ·rw[hbl]at h2;have:y=y':=by simpa using h2
   subst this;exact .inr ⟨y,by show u.bc=_;rw[h1];simp[OCode.put],rfl⟩
 ·rcases Jl hb' with hb'|rfl
  ·exact h.bs _ hb'
  ·exact hb
theorem OCode.put_sm {u:OCode}{bi:Nat}{b:OBlk}{bl:List (Nat×Obj)}{N:Nat}(h:u.sm N)(hb:b.sm (N+1)):(u.put bi b bl).sm (N+1):=by
 refine⟨by show 0<(u.blocks.set bi b).length;simpa using h.b0,by show (u.blocks.set bi b).length≤_;simpa using h.b,fun b' hb'=>?_,h.p0,h.p1⟩;rcases Jl hb' with hb'|rfl
 ·exact (h.bs _ hb').mono (by omega)
 ·exact hb
theorem OCode.bvec {u:OCode}(h:u.ok)(h0:0<u.blocks.length):∃y,u.bc=.vsl y 5 0 u.blocks.length∧u.bl=[(y,.vec 5 (u.blocks.map OBlk.row))]:=by
 rcases h.b with ⟨h1,h2,h3⟩|⟨y,h1,h2⟩
 ·have:=J8.1 h2;rw[this]at h0;simp at h0
 ·exact⟨y,by rw[h1];simp,h2⟩
theorem OBlk.ivec {u:OBlk}(h:u.ok)(h0:0<u.ins.length):∃y,u.ic=.vsl y 4 0 u.ins.length∧u.il=[(y,.vec 4 (u.ins.map OIns.row))]:=by
 rcases h.i with ⟨h1,h2,h3⟩|⟨y,h1,h2⟩
 ·have:=J8.1 h2;rw[this]at h0;simp at h0
 ·exact⟨y,by rw[h1];simp,h2⟩
variable {H0 H H2:Heap}{E X cl:List (Nat×Obj)}
theorem Qa91 {us:List OCode}{ci bi yb:Nat}{u:OCode}{b:OBlk}(kn:Kn H0 H E (X++us.flatMap OCode.lg++cl))(hc:ci<us.length)(hu:us[ci]=u)(hb:bi<u.blocks.length)(hub:u.blocks[bi]=b)
  (hbl:u.bl=[(yb,.vec 5 (u.blocks.map OBlk.row))]):Kn H0 H E ([(yb,.vec 5 (u.blocks.map OBlk.row))]++(b.lg++(Qag1 us ci bi hc++(X++cl)))):=by
 subst hu;subst hub;refine kn.perm (Ql fun f hf h0 hc1 hp=>?_);have h1:=hp _ _ (Qbl7 us ci bi hc hb);rw[hbl]at h1;simp only[hf]at h1⊢;omega
theorem Qbd9 {us:List OCode}{ci bi yb:Nat}{u:OCode}{b':OBlk}{cc:C}(hc:ci<us.length)(hu:us[ci]=u)(hb:bi<u.blocks.length)
  (hbl:u.bl=[(yb,.vec 5 (u.blocks.map OBlk.row))]) {N:Nat} (hok:∀u∈us,u.ok∧u.sm N) (hok':b'.ok) (hsm':b'.sm (N+1)) (hg:Gr cl 3 (us.map OCode.row) cc)
  (kn:Kn H0 H E ([(yb,.vec 5 ((u.blocks.set bi b').map OBlk.row))]++(b'.lg++(Qag1 us ci bi hc++(X++cl))))) :
  ∃us':List OCode,us'.length=us.length∧Gr cl 3 (us'.map OCode.row) cc∧(∀u∈us',u.ok∧u.sm (N+1))∧Kn H0 H E (X++us'.flatMap OCode.lg++cl):=by
 obtain⟨h1,h2⟩:=hok _ (J0 hc);rw[hu]at h1 h2;refine⟨us.set ci (u.put bi b' [(yb,.vec 5 ((u.blocks.set bi b').map OBlk.row))]),by simp,?_,fun v hv=>?_,kn.perm (Ql fun f hf h0 hc1 hp=>?_)⟩
 ·rw[Qbqn us ci hc _ (by rw[hu];rfl)];exact hg
 ·rcases Jl hv with hv|rfl
  ·exact⟨(hok v hv).1,(hok v hv).2.mono (by omega)⟩
  ·exact⟨OCode.put_ok h1 hok' hbl,OCode.put_sm h2 hsm'⟩
 ·subst hu;have h1:=hp _ _ (Qbqm us ci bi hc hb b' [(yb,.vec 5 ((us[ci].blocks.set bi b').map OBlk.row))]);simp only[hf]at h1⊢;omega
theorem Q85 {l:List OBlk}{bi:Nat}{b:OBlk}(hb:bi<l.length)(h:b.row=(l[bi]).row):(l.set bi b).map OBlk.row=l.map OBlk.row:=by
 rw[J5,h];refine Jac (by simp) fun i h1 h2=>?_;rw[J6];split
 ·rename_i h;subst h;simp
 ·rfl
variable {b b':OBlk}{R:List (Nat×Obj)}{p:Nat×Obj}
theorem Qamv {yi:Nat}(kn:Kn H0 H E ([p]++(b.lg++R)))(hil:b.il=[(yi,.vec 4 (b.ins.map OIns.row))]) :
  Kn H0 H E ([(yi,.vec 4 (b.ins.map OIns.row))]++([p]++(b.nx.lg++(b.phis.flatMap OPhi.lg++(b.pl++(b.ins.flatMap OIns.lg++R)))))):=by
 refine kn.perm (Ql fun f hf h0 hc1 hp=>?_);simp only[OBlk.lg,hil,hf];omega
theorem Qbe3 {yi:Nat}{is:List OIns}(kn:Kn H0 H E ([(yi,.vec 4 (is.map OIns.row))]++([p]++(b.nx.lg++(b.phis.flatMap OPhi.lg++(b.pl++(b.ins.flatMap OIns.lg++R)))))))
  (hl:(is.flatMap OIns.lg).Perm (b.ins.flatMap OIns.lg)):Kn H0 H E ([p]++(OBlk.lg { b with ins:=is,il:=[(yi,.vec 4 (is.map OIns.row))] }++R)):=by
 refine kn.perm (Ql fun f hf h0 hc1 hp=>?_);have:=hp _ _ hl;simp only[OBlk.lg,hf];omega
theorem Q27 {l:List OIns}{i:Nat}{x':OIns}(hi:i<l.length)(h:x'.lg=(l[i]).lg):((l.set i x').flatMap OIns.lg).Perm (l.flatMap OIns.lg):=by
 refine (Qgv OIns.lg l i x' hi).trans ?_;rw[h];exact (Qjc OIns.lg l i hi).symm
theorem OBlk.ins_ok {yi:Nat}{i:Nat}{x':OIns}(h:b.ok)(hic:b.ic=.vsl yi 4 0 b.ins.length):OBlk.ok { b with ins:=b.ins.set i x',il:=[(yi,.vec 4 ((b.ins.set i x').map OIns.row))] }:=
 ⟨h.p,.inr ⟨yi,by show b.ic=_;rw[hic];simp,rfl⟩,h.a⟩
theorem OBlk.ins_sm {yi:Nat}{i:Nat}{x':OIns}{N:Nat}(h:b.sm N)(hx:x'.a.ns.length≤N+1):OBlk.sm { b with ins:=b.ins.set i x',il:=[(yi,.vec 4 ((b.ins.set i x').map OIns.row))] } (N+1):=by
 refine⟨h.n,by simpa using h.i,by have:=h.p;show b.phis.length≤_;omega,fun x hx2=>?_⟩;rcases Jl hx2 with hx2|rfl
 ·have:=h.ia x hx2;omega
 ·exact hx
end Go.AE.Y
namespace Go.AE.Y
abbrev Q6k:Nat:=8
abbrev Qd6:Nat:=14
abbrev Qf4:Nat:=15
abbrev Qjd:Nat:=16
abbrev Qb4:Nat:=17
abbrev Qdl:Nat:=33
abbrev Qhd:Nat:=34
abbrev Qho:Nat:=35
abbrev Qtk:Nat:=43
abbrev Q1g:Nat:=44
abbrev Qlt:Nat:=45
abbrev Qj3:Nat:=47
abbrev Ql0:Nat:=48
abbrev Qlv:Nat:=49
abbrev Qde:Nat:=50
abbrev Qgx:Nat:=51
abbrev Qet:Nat:=52
abbrev Qax:Nat:=53
abbrev Qo5:Nat:=54
abbrev Qhf:Nat:=55
abbrev Qt:Nat:=62
abbrev Qad:Nat:=63
abbrev Qbq:Nat:=69
abbrev Qo7:Nat:=71
abbrev Qtp:Nat:=72
abbrev Q1c:Nat:=74
abbrev Q04:Nat:=75
abbrev Qjf:Nat:=81
abbrev Qlu:Nat:=82
abbrev Qd4:Nat:=87
abbrev Ql4:Nat:=88
abbrev Qb6:Nat:=89
abbrev Qfl:Nat:=91
abbrev Qtj:Nat:=92
abbrev Q93:Nat:=93
abbrev Qtn:Nat:=94
abbrev Qck:Nat:=95
abbrev Qj4:Nat:=97
abbrev Qji:Nat:=98
abbrev Qdj:Nat:=99
abbrev Ql3:Nat:=100
abbrev Qak:Nat:=101
abbrev Qhj:Nat:=102
abbrev Qik:Nat:=103
abbrev Qbf:Nat:=104
abbrev Qhg:Nat:=105
abbrev Qcl:Nat:=106
abbrev Qhh:Nat:=107
abbrev Qwo:Nat:=108
abbrev Qgw:Nat:=109
abbrev Qhi:Nat:=110
abbrev Qce:Nat:=112
abbrev Qin:Nat:=122
abbrev Q07:Nat:=123
abbrev Q08:Nat:=127
abbrev Qlq:Nat:=133
abbrev Qo3:Nat:=134
abbrev Qf6:Nat:=135
abbrev Qcn:Nat:=136
abbrev Qb5:Nat:=144
abbrev Q1i:Nat:=145
abbrev Qfb:Nat:=146
abbrev Qlz:Nat:=147
abbrev Qyc:Nat:=148
abbrev Q97:Nat:=149
abbrev Q91:Nat:=150
abbrev Qtl:Nat:=152
abbrev Qtm:Nat:=153
abbrev Qhk:Nat:=154
abbrev Qa0w:Nat:=155
abbrev Qbag:Nat:=156
abbrev Qo8:Nat:=157
abbrev Qbey:Nat:=158
abbrev Qa0x:Nat:=159
abbrev Qa0y:Nat:=160
abbrev Q1d:Nat:=161
abbrev Qbai:Nat:=162
abbrev Qbah:Nat:=163
abbrev Qa0z:Nat:=164
abbrev Qo9:Nat:=165
abbrev Qhn:Nat:=166
abbrev Qdk:Nat:=167
abbrev Qc8:Nat:=168
abbrev Qls:Nat:=169
abbrev Qje:Nat:=170
abbrev Qti:Nat:=171
abbrev Qij:Nat:=172
abbrev Qlr:Nat:=173
abbrev Qjj:Nat:=174
abbrev Qb0:Nat:=175
abbrev Qcg:Nat:=176
abbrev Qc4:Nat:=177
abbrev Qc7:Nat:=178
abbrev Qew:Nat:=187
abbrev Qci:Nat:=188
abbrev Q09:Nat:=191
abbrev Q1h:Nat:=206
abbrev Qf5:Nat:=207
abbrev Qo4:Nat:=208
abbrev Qc5:Nat:=209
abbrev Qbd:Nat:=210
abbrev Qdi:Nat:=211
abbrev Qco:Nat:=212
abbrev Qams:Nat:=214
abbrev Qyb:Nat:=215
abbrev Q94:Nat:=216
abbrev Qa01:Nat:=217
abbrev Qlw:Nat:=218
abbrev Qd5:Nat:=219
abbrev Qhq:Nat:=221
abbrev Qwp:Nat:=222
abbrev Qeu:Nat:=223
abbrev Q1a:Nat:=226
abbrev Qwr:Nat:=227
abbrev Qwq:Nat:=228
abbrev Qto:Nat:=229
abbrev Qcv:Nat:=230
abbrev Qf7:Nat:=252
abbrev Q1b:Nat:=264
abbrev Qbt:Nat:=268
abbrev Qcm:Nat:=269
abbrev Qhe:Nat:=270
abbrev Qj2:Nat:=271
abbrev Qpa:Nat:=272
abbrev Q95:Nat:=273
abbrev Q96:Nat:=274
abbrev Qpb:Nat:=275
abbrev Qap:Nat:=276
abbrev Qcj:Nat:=277
abbrev Qat:Nat:=278
abbrev Qa5:Nat:=279
abbrev Qa1:Nat:=280
abbrev Qch:Nat:=281
abbrev Qbc:Nat:=282
abbrev Qa00:Nat:=283
abbrev Qamr:Nat:=284
abbrev Q05:Nat:=285
abbrev Qo6:Nat:=286
abbrev Qev:Nat:=288
abbrev Qhl:Nat:=289
abbrev Qcw:Nat:=290
abbrev Q06:Nat:=291
abbrev Qfa:Nat:=307
abbrev Ql2:Nat:=308
abbrev Qly:Nat:=309
abbrev Qfk:Nat:=310
abbrev Qds:Nat:=311
abbrev Qj6:Nat:=312
abbrev Qj5:Nat:=313
abbrev Qjg:Nat:=315
abbrev Ql1:Nat:=319
abbrev Qb9:Nat:=320
abbrev Qim:Nat:=321
abbrev Qhm:Nat:=322
abbrev Qil:Nat:=323
abbrev Qgy:Nat:=324
abbrev Qlx:Nat:=325
abbrev Q9z:Nat:=326
abbrev Qamp:Nat:=327
abbrev Qamq:Nat:=328
abbrev Q92:Nat:=329
abbrev Qpc:Nat:=331
abbrev Q1j:Nat:=332
abbrev Qjh:Nat:=333
abbrev Q1e:Nat:=334
abbrev Qjk:Nat:=335
abbrev Q90:Nat:=336
abbrev Qhp:Nat:=337
abbrev Q1f:Nat:=338
abbrev Qya:Nat:=339
abbrev Qtq:Nat:=340
abbrev Q9y:Nat:=341
open Go.Proofs.Tryz
def Q3o:List Item:=[cJ 5 .eql 4 0]
def Q3p:List Item:=[sJ 1 2 7]
def Qa16:SC:=cT 5 (sR (mJ 6 0::aJ 7 Q93 [.t 6]::Q3p) [2] .ret) .skip
def Q3q:List Item:=[sJ 1 2 9]
def Qa17:SC:=sR (mJ 8 0::aJ 9 Qtn [.t 8]::Q3q) [2] .ret
def Qa18:SC:=.seq (sR (mJ 3 0::aJ 4 Qt [.t 3,kI 12]::Q3o) [0,2,5] Qa16) Qa17
def Qbho:SC:=sR [eI 2 (.alloc [.sl true 3 []])] [0,2] Qa18
def Qaau:List RS:=[.cell 2 1 true]
theorem Qbf1:mFn prog Qtk 1 10 Qbho Qaau=true:=by kernel_rfl
def Qajh:SC:=cT 24 (sR [zJ 4 0] [4] .ret) .skip
def Qaji:SC:=cT 36 (sR [mJ 37 0,kJ 38 37,fJ 39 0 38,lJ 40 39,mJ 41 5,iJ 42 1 40 41,lJ 43 42,fI 44 (.cvt .i64 (.t 43)),mJ 45 1,bJ 46 .rem 44 45,mJ 4 46] [4] .ret) .skip
def Qajj:SC:=sR [mJ 96 6,mJ 97 1,bJ 98 .rem 96 97,mJ 4 98] [4] .ret
def Qajk:SC:=sR [mJ 92 6,mJ 93 6,cJ 94 .quo 93 64,bJ 95 .xor 92 94,mJ 6 95] [1,6] Qajj
def Qajl:SC:=.seq (.dreg 46 [0,1,2,3,4,5,6,7,8,9,10,11,12,13,14,15,16,17,18,19,20,21,22,23,24,25,26,27,28,29,30,31,32,33,34,35,36,37,38,39,40,41,42,43,44,45] ( mJ 47 0::kJ 48 47::fJ 49 0 48::lJ 50 49::mJ 51 5::mJ 52 0::kJ 53 52::fJ 54 0 53::lJ 55 54::nJ 56 55::bJ 57 .rem 51 56::iJ 58 1 50 57::lJ 59 58::fI 60 (.cvt .i64 (.t 59))::cJ 61 .mul 60 131::mJ 62 0::kJ 63 62::fJ 64 0 63::lJ 65 64::mJ 66 5::cJ 67 .mul 66 7::cJ 68 .add 67 3::mJ 69 0::kJ 70 69::fJ 71 0 70::lJ 72 71::nJ 73 72::bJ 74 .rem 68 73::iJ 75 1 65 74::lJ 76 75::fI 77 (.cvt .i64 (.t 76))::cJ 78 .mul 77 1117::bJ 79 .add 61 78::mJ 80 5::cJ 81 .mul 80 29::bJ 82 .add 79 81::mJ 83 5::mJ 84 0::kJ 85 84::fJ 86 0 85::lJ 87 86::nJ 88 87::bJ 89 .quo 83 88::cJ 90 .mul 89 53::bJ 91 .add 82 90::mJ 6 91::[]) [1,6]) Qajk
def Qajm:SC:=.seq (sR [mJ 30 5,mJ 31 0,kJ 32 31,fJ 33 0 32,lJ 34 33,nJ 35 34,bJ 36 .lss 30 35] [0,1,5,36] Qaji) Qajl
def Qajn:SC:=sR [mJ 25 0,kJ 26 25,fJ 27 1 26,lJ 28 27,cJ 29 .sub 28 1,mJ 5 29] [0,1,5] Qajm
def Qajo:SC:=.seq (sR [mJ 15 1,cJ 16 .lss 15 1,mJ 17 16,gFm 18 17 0,gF 19 17 (.nck (.t 18)),gFf 20 17 0 19,gFl 21 17 20,gF 22 17 (.len (.t 21)),gF 23 17 (.bin 0 .eql (.t 22) (kI 0)),pT 24 17 23] [0,1,24] Qajh) Qajn
def Qajp:SC:=sR [mJ 7 0,mJ 8 0,kJ 9 8,fJ 10 1 9,lJ 11 10,cJ 12 .add 11 1,kJ 13 7,fJ 14 1 13,sJ 1 14 12] [0,1] Qajo
def Qax6:SC:=sR [zJ 4 0] [0,1] Qajp
def Qiv:List RS:=[.tmp 4]
theorem Qasf:mFn prog Qt 2 99 Qax6 Qiv=true:=by kernel_rfl
def Qad6:List Item:=[sJ 1 3 9]
def Qad7:List Item:=eI 3 (.alloc [.sl true 3 []])::Qad6
def Qad8:List Item:=aJ 9 Qlz [.t 8]::Qad7
def Qad9:List Item:=[hJ 11 10,iJ 17 3 11 16,mJ 4 17]
def Qaea:List Item:=[hJ 21 20,iJ 29 5 21 28,mJ 5 29]
def Qaeb:List Item:=[mJ 6 41]
def Qaec:List Item:=[kJ 49 46,fJ 50 2 49,sJ 1 50 48]
def Qbcv:SC:=cT 58 (.reg [mJ 59 5,kJ 60 59,fJ 61 4 60,lJ 62 61,mJ 63 6,fI 64 (.iad 1 (.t 62) (kI 0)),sJ 1 64 63] [2,3]) .skip
def Qbcw:SC:=cT 78 (.reg [mJ 79 5,kJ 80 79,fJ 81 1 80,lJ 82 81,mJ 83 6,fI 84 (.iad 4 (.t 82) (kI 0)),fJ 85 1 84,sJ 1 85 83] [2,3]) .skip
def Qaed:List Item:=[hJ 97 96,fI 108 (.iad 4 (.t 97) (kI 0)),fJ 109 2 108,sJ 1 109 107]
def Qa5q:SC:=cT 93 (.dreg 17 [0,1,2,3,4,5,6,7,8,9,10,11,12,13,3,14,15,16] ( mJ 94 5::kJ 95 94::fJ 96 1 95::lJ 97 96::mJ 98 5::kJ 99 98::fJ 100 1 99::lJ 101 100::fI 102 (.iad 4 (.t 101) (kI 0))::fJ 103 2 102::lJ 104 103::mJ 105 6::fI 106 (.bsl 1 [.t 105])::xJ 107 1 104 106::Qaed) [2,3]) .skip
def Q5n:List Item:=[kJ 122 112,fJ 123 0 122,sJ 1 123 121]
def Q5o:List Item:=[hJ 130 129,bJ 133 .add 130 132,kJ 134 126,fJ 135 1 134,sJ 1 135 133]
def Q5p:List Item:=[hJ 147 146,fI 151 (.iad 4 (.t 147) (kI 0)),fJ 152 3 151,sJ 1 152 150]
def Qa5r:SC:=cT 143 (.dreg 10 [0,1,2,3,4,5,6,3,7,8,9] ( mJ 144 5::kJ 145 144::fJ 146 1 145::lJ 147 146::mJ 148 0::fI 149 (.bsl 1 [kI 256,kI (-1),kI 1])::aJ 150 Qad [.t 148,.t 149]::Q5p) [2,3]) .skip
def Qa5s:SC:=cT 136 (sR [mJ 138 5,kJ 139 138,fJ 140 1 139,lJ 141 140,nJ 142 141,cJ 143 .gtr 142 0] [0,2,3,5,143] Qa5r) .skip
def Qa5t:SC:=cT 124 (.dreg 11 [0,1,2,3,4,5,6,4,7,8,9,10] ( mJ 126 4::mJ 127 4::kJ 128 127::fJ 129 0 128::lJ 130 129::mJ 131 0::aJ 132 Qt [.t 131,kI 2]::Q5o) [2,3]) (sR [cJ 137 .eql 43 7,mJ 136 137] [0,2,3,5,136] Qa5s)
def Qa5u:SC:=cT 110 (.reg (mJ 112 5::mJ 113 5::kJ 114 113::fJ 115 0 114::lJ 116 115::mJ 117 6::fI 118 (.bsl 1 [.t 117])::fI 119 (.bld [.int .i64 0,.sl true 1 []] [(0,1,kI 0),(1,1,.t 118)])::fI 120 (.bsl 2 [.t 119])::xJ 121 2 116 120::Q5n) [2,3]) (sR [cJ 125 .eql 43 6,mJ 124 125] [0,2,3,4,5,43,124] Qa5t)
def Qa5v:SC:=cT 86 (sR [mJ 88 5,kJ 89 88,fJ 90 1 89,lJ 91 90,nJ 92 91,cJ 93 .gtr 92 0] [2,3,5,6,93] Qa5q) (sR [cJ 111 .eql 43 5,mJ 110 111] [0,2,3,4,5,6,43,110] Qa5u)
def Qa5w:SC:=cT 71 (sR [mJ 73 5,kJ 74 73,fJ 75 1 74,lJ 76 75,nJ 77 76,cJ 78 .gtr 77 0] [2,3,5,6,78] Qbcw) (sR [cJ 87 .eql 43 4,mJ 86 87] [0,2,3,4,5,6,43,86] Qa5v)
def Qa5x:SC:=cT 65 (.reg [mJ 67 5,mJ 68 6,kJ 69 67,fJ 70 3 69,sJ 1 70 68] [2,3]) (sR [cJ 72 .eql 43 3,mJ 71 72] [0,2,3,4,5,6,43,71] Qa5w)
def Qa5y:SC:=cT 51 (sR [mJ 53 5,kJ 54 53,fJ 55 4 54,lJ 56 55,nJ 57 56,cJ 58 .gtr 57 0] [2,3,5,6,58] Qbcv) (sR [cJ 66 .eql 43 2,mJ 65 66] [0,2,3,4,5,6,43,65] Qa5x)
def Qa5z:SC:=cT 44 (.reg (mJ 46 5::mJ 47 0::aJ 48 Qt [.t 47,kI 5]::Qaec) [2,3]) (sR [cJ 52 .eql 43 1,mJ 51 52] [0,2,3,4,5,6,43,51] Qa5y)
def Qa50:SC:=.block 0 (sR [cJ 45 .eql 43 0,mJ 44 45] [0,2,3,4,5,6,43,44] Qa5z)
def Qa51:SC:=sR [tJ 153 1 3,sJ 1 2 153] [2] .ret
def Qa52:SC:=.seq (sR [mJ 42 0,aJ 43 Qt [.t 42,kI 32]] [0,2,3,4,5,6,43] Qa50) Qa51
def Qa53:SC:=.seq (.dreg 13 [0,1,2,3,4,5,6,7,8,9,10,11,12] ( mJ 30 0::mJ 31 4::kJ 32 31::fJ 33 1 32::lJ 34 33::mJ 35 4::kJ 36 35::fJ 37 2 36::lJ 38 37::nJ 39 38::fI 40 (.bsl 1 [kI (-1),.t 34,.t 39,kI 0,kI 1])::aJ 41 Qad [.t 30,.t 40]::Qaeb) [0,2,3,4,5,6]) Qa52
def Qa54:SC:=.seq (.dreg 13 [0,1,2,3,4,5,6,7,8,9,10,3,11,12] ( mJ 18 4::kJ 19 18::fJ 20 2 19::lJ 21 20::mJ 22 0::mJ 23 4::kJ 24 23::fJ 25 2 24::lJ 26 25::nJ 27 26::aJ 28 Qt [.t 22,.t 27]::Qaea) [0,2,3,4,5]) Qa53
def Qa55:SC:=.seq (.dreg 9 [0,1,2,3,4,5,6,1,7,8] ( fJ 10 0 3::lJ 11 10::mJ 12 0::fJ 13 0 3::lJ 14 13::nJ 15 14::aJ 16 Qt [.t 12,.t 15]::Qad9) [0,2,3,4]) Qa54
def Qa56:SC:=sR (mJ 7 0::aJ 8 Qyc [.t 7]::Qad8) [0,2,3] Qa55
def Qbm1:SC:=sR [eI 2 (.alloc [.sl true 3 []])] [0,2] Qa56
def Qa85:List RS:=[.cell 2 1 true]
theorem Qbls:mFn prog Q93 1 154 Qbm1 Qa85=true:=by kernel_rfl
def Q32:List Item:=[cJ 6 .eql 5 0]
def Q33:List Item:=[sJ 1 3 9]
def Q34:List Item:=eI 3 (.alloc [.sl true 3 []])::Q33
def Q35:List Item:=aJ 9 Q97 [.t 8]::Q34
def Qa2p:SC:=cT 11 (sR [tJ 12 1 3,sJ 1 2 12] [2] .ret) .skip
def Qa2q:SC:=sR [tJ 10 1 3,aJ 11 Qb6 [.t 10]] [0,2,3,11] Qa2p
def Qa2r:SC:=cT 6 (sR (mJ 7 0::aJ 8 Q91 [.t 7]::Q35) [0,2,3] Qa2q) .skip
def Q36:List Item:=[sJ 1 2 14]
def Qab8:SC:=sR (mJ 13 0::aJ 14 Qyc [.t 13]::Q36) [2] .ret
def Qa2s:SC:=.seq (sR (mJ 4 0::aJ 5 Qt [.t 4,kI 2]::Q32) [0,2,6] Qa2r) Qab8
def Qbhu:SC:=sR [eI 2 (.alloc [.sl true 3 []])] [0,2] Qa2s
def Qyr:List RS:=[.cell 2 1 true]
theorem Qbf5:mFn prog Qtn 1 15 Qbhu Qyr=true:=by kernel_rfl
def Qv5:List Item:=[iJ 10 1 5 9,lJ 11 10,mJ 4 11]
def Qap0:SC:=sR (mJ 5 1::mJ 6 0::mJ 7 1::nJ 8 7::aJ 9 Qt [.t 6,.t 8]::Qv5) [4] .ret
def Qa4u:SC:=sR [zJ 4 0] [0,1] Qap0
def Qaa5:List RS:=[.tmp 4]
theorem Qa1j:mFn prog Qad 2 12 Qa4u Qaa5=true:=by kernel_rfl
def Qsu:List Item:=[sJ 1 3 5]
def Qsv:List Item:=[fJ 23 0 3,sJ 1 23 22]
def Qsw:List Item:=hJ 14 13::fI 21 (.bsl 3 [.t 20])::xJ 22 3 14 21::Qsv
def Qajv:SC:=.reg [mJ 11 4,cJ 12 .add 11 1,mJ 4 12] [1,2,3,4]
def Qajw:SC:=.seq (.block 1 (.dreg 12 [0,1,2,3,4,5,6,7,1,8,9,10,11] ( fJ 13 0 3::lJ 14 13::fJ 15 0 1::lJ 16 15::mJ 17 4::iJ 18 3 16 17::tJ 19 3 18::aJ 20 Qfl [.t 19]::Qsw) [1,2,3,4])) Qajv
def Qaep:SC:=.seq (sR [mJ 6 4,fJ 7 0 1,lJ 8 7,nJ 9 8,bJ 10 .lss 6 9] [1,2,3,4,10] (cT 10 .skip (.exit 0))) Qajw
def Qajx:SC:=sR [tJ 24 1 3,sJ 1 2 24] [2] .ret
def Qajy:SC:=.seq (sR [zJ 4 0] [1,2,3,4] (bL 0 Qaep)) Qajx
def Qajz:SC:=sR (fI 5 (.bld [.sl true 3 []] [])::eI 3 (.alloc [.sl true 3 []])::Qsu) [1,2,3] Qajy
def Qayy:SC:=sR [vJ 1 0,eI 2 (.alloc [.sl true 3 []])] [1,2] Qajz
def Q3i:List RS:=[.cell 2 1 true]
theorem Qask:mFn prog Qlz 1 25 Qayy Q3i=true:=by kernel_rfl
def Qafb:List Item:=[sJ 1 3 9]
def Qafc:List Item:=[mJ 4 12]
def Qafd:List Item:=[fJ 24 0 3,sJ 1 24 23]
def Qafe:List Item:=hJ 18 17::fI 22 (.bsl 3 [.t 21])::xJ 23 3 18 22::Qafd
def Qbdh:SC:=.reg [mJ 15 4,cJ 16 .sub 15 1,mJ 4 16] [0,2,3,4]
def Qbdi:SC:=.seq (.block 1 (.dreg 9 [0,1,2,3,4,1,5,6,7,8] ( fJ 17 0 3::lJ 18 17::mJ 19 0::tJ 20 1 3::aJ 21 Q94 [.t 19,.t 20]::Qafe) [0,2,3,4])) Qbdh
def Qa7n:SC:=.seq (sR [mJ 13 4,cJ 14 .gtr 13 0] [0,2,3,4,14] (cT 14 .skip (.exit 0))) Qbdi
def Qaff:List Item:=[mJ 5 27]
def Qafg:List Item:=[hJ 33 32,iJ 39 3 33 38,mJ 6 39]
def Qafh:List Item:=[mJ 7 46]
def Q6c:List Item:=[sJ 2 8 53]
def Q6d:List Item:=fI 53 (.bld [.int .i64 0,.sl true 1 []] [(0,1,.t 52)])::eI 8 (.alloc [.int .i64 0,.sl true 1 []])::Q6c
def Q6e:List Item:=[nJ 59 58,zJ 60 0]
def Q6f:List Item:=[fJ 72 1 8,sJ 1 72 71]
def Q6g:List Item:=hJ 63 62::fI 70 (.bsl 1 [.t 69])::xJ 71 1 63 70::Q6f
def Qa7a:SC:=.reg [cJ 73 .add 60 1,mJ 60 73] [0,2,3,5,6,7,8,59,60]
def Qa7b:SC:=.seq (.block 5 (.dreg 12 [0,1,2,3,4,5,6,7,1,8,9,10,11] ( fJ 62 1 8::lJ 63 62::mJ 64 0::mJ 65 6::kJ 66 65::fJ 67 1 66::lJ 68 67::aJ 69 Qt [.t 64,.t 68]::Q6g) [0,2,3,5,6,7,8,59,60])) Qa7a
def Qaza:SC:=sR [bJ 61 .lss 60 59] [0,2,3,5,6,7,8,59,60,61] (cX 61 4 Qa7b)
def Q6h:List Item:=[hJ 79 78,iJ 92 5 79 80,fJ 93 0 92,sJ 1 93 91]
def Qa7c:SC:=cT 75 (.dreg 19 [0,1,2,3,4,5,6,7,8,9,10,11,12,13,14,15,3,16,17,18] ( mJ 76 6::kJ 77 76::fJ 78 2 77::lJ 79 78::mJ 80 7::mJ 81 6::kJ 82 81::fJ 83 2 82::lJ 84 83::mJ 85 7::iJ 86 5 84 85::fJ 87 0 86::lJ 88 87::tJ 89 2 8::fI 90 (.bsl 2 [.t 89])::xJ 91 2 88 90::Q6h) [0,2,3,5]) .skip
def Qa7d:SC:=sR [mJ 74 7,cJ 75 .gtr 74 0] [0,2,3,5,6,7,8,75] Qa7c
def Qa7e:SC:=.seq (sR (mJ 54 6::kJ 55 54::tJ 56 3 55::mJ 57 7::aJ 58 Qci [.t 56,.t 57]::Q6e) [0,2,3,5,6,7,8,59,60] (bL 4 Qaza)) Qa7d
def Qa7f:SC:=sR (mJ 47 0::mJ 48 6::kJ 49 48::fJ 50 1 49::lJ 51 50::aJ 52 Qt [.t 47,.t 51]::Q6d) [0,2,3,5,6,7,8] Qa7e
def Qa7g:SC:=sR (mJ 40 0::mJ 41 6::kJ 42 41::fJ 43 2 42::lJ 44 43::nJ 45 44::aJ 46 Qt [.t 40,.t 45]::Qafh) [0,2,3,5,6,7] Qa7f
def Qa7h:SC:=.reg [mJ 30 5,cJ 31 .sub 30 1,mJ 5 31] [0,2,3,5]
def Qa7i:SC:=.seq (.block 3 (.seq (.dreg 9 [0,1,2,3,4,5,6,1,7,8] ( fJ 32 0 3::lJ 33 32::mJ 34 0::fJ 35 0 3::lJ 36 35::nJ 37 36::aJ 38 Qt [.t 34,.t 37]::Qafg) [0,2,3,5,6]) Qa7g)) Qa7h
def Qazb:SC:=.seq (sR [mJ 28 5,cJ 29 .gtr 28 0] [0,2,3,5,29] (cT 29 .skip (.exit 2))) Qa7i
def Qa7j:SC:=sR [tJ 94 1 3,sJ 1 2 94] [2] .ret
def Qa7k:SC:=.seq (sR (mJ 25 0::fI 26 (.bsl 1 [kI 0,kI 0,kI 1,kI 3])::aJ 27 Qad [.t 25,.t 26]::Qaff) [0,2,3,5] (bL 2 Qazb)) Qa7j
def Qa7l:SC:=.seq (sR (mJ 10 0::fI 11 (.bsl 1 [kI 1,kI 2,kI 1,kI 3])::aJ 12 Qad [.t 10,.t 11]::Qafc) [0,2,3,4] (bL 0 Qa7n)) Qa7k
def Qa7m:SC:=sR (fI 9 (.bld [.sl true 3 []] [])::eI 3 (.alloc [.sl true 3 []])::Qafb) [0,2,3] Qa7l
def Qbm7:SC:=sR [eI 2 (.alloc [.sl true 3 []])] [0,2] Qa7m
def Qa89:List RS:=[.cell 2 1 true]
theorem Qblx:mFn prog Qyc 1 95 Qbm7 Qa89=true:=by kernel_rfl
def Qli:List Item:=[oJ 11 10]
def Q8z:SC:=cT 11 (sR [fB 2 false] [2] .ret) .skip
def Qlj:List Item:=[sJ 3 5 23]
def Qcz:List Item:=[gF 41 36 (.not (.t 40)),pT 42 36 41]
def Qe4:List Item:=gF 34 28 (.not (.t 33))::pT 35 28 34::mJ 36 35::gFf 37 36 2 5::gFl 38 36 37::gF 39 36 (.len (.t 38))::.e (some 40) (some (36,false)) (.call Qbq [.t 39,kI 1,kI 160])::Qcz
def Qlk:List Item:=oJ 27 26::mJ 28 27::gFf 29 28 1 5::gFl 30 28 29::gFf 31 28 0 5::gFl 32 28 31::.e (some 33) (some (28,false)) (.call Qbq [.t 30,.t 32,kI 300])::Qe4
def s_sp_UnitValid_6:SC:=cT 42 (sR [fB 2 false] [2] .ret) .skip
def Qe5:List Item:=[gF 74 69 (.not (.t 73)),pT 75 69 74]
def Qon:SC:=cT 75 (sR [fB 2 false] [2] .ret) .skip
def Q80:SC:=sR (mJ 67 3::cJ 68 .gtr 67 800::mJ 69 68::gF 70 69 (.ld 1 true (.t 1))::gFm 71 69 4::gFm 72 69 6::.e (some 73) (some (69,false)) (.call Q1i [.t 70,.t 71,.t 72])::Qe5) [1,3,4,5,6,75] Qon
def Qlg:SC:=.reg [mJ 48 6,cJ 49 .add 48 1,mJ 6 49] [1,3,4,5,6]
def Q2y:SC:=.seq (.block 3 (.seq (.dreg 18 [0,1,2,3,4,5,6,7,8,9,10,11,12,13,14,15,16,17] ( mJ 50 3::fJ 51 2 5::lJ 52 51::mJ 53 6::iJ 54 5 52 53::fJ 55 1 54::lJ 56 55::nJ 57 56::bJ 58 .add 50 57::fJ 59 2 5::lJ 60 59::mJ 61 6::iJ 62 5 60 61::fJ 63 0 62::lJ 64 63::nJ 65 64::bJ 66 .add 58 65::mJ 3 66::[]) [1,3,4,5,6]) Q80)) Qlg
def Q0u:SC:=.seq (sR [mJ 43 6,fJ 44 2 5,lJ 45 44,nJ 46 45,bJ 47 .lss 43 46] [1,3,4,5,6,47] (cT 47 .skip (.exit 2))) Q2y
def Qlh:SC:=sR [zJ 6 0] [1,3,4,5,6] (bL 2 Q0u)
def Q2z:SC:=.seq (sR (fJ 24 0 5::lJ 25 24::aJ 26 Qbq [.t 25,kI 0,kI 3]::Qlk) [1,3,4,5,42] s_sp_UnitValid_6) Qlh
def Qe2:SC:=.reg [mJ 17 4,cJ 18 .add 17 1,mJ 4 18] [1,3,4]
def Q20:SC:=.seq (.block 1 (sR (fJ 19 0 1::lJ 20 19::mJ 21 4::iJ 22 3 20 21::tJ 23 3 22::eI 5 (.alloc [.int .i64 0,.int .i64 0,.sl true 5 []])::Qlj) [1,3,4,5] Q2z)) Qe2
def Q0v:SC:=.seq (sR [mJ 12 4,fJ 13 0 1,lJ 14 13,nJ 15 14,bJ 16 .lss 12 15] [1,3,4,16] (cT 16 .skip (.exit 0))) Q20
def Qe3:SC:=sR [fB 2 true] [2] .ret
def Q21:SC:=.seq (sR [zJ 4 0] [1,3,4] (bL 0 Q0v)) Qe3
def Q22:SC:=sR [zJ 3 0] [1,3] Q21
def Q23:SC:=.seq (sR (fJ 7 0 1::lJ 8 7::nJ 9 8::aJ 10 Qbq [.t 9,kI 1,kI 4]::Qli) [1,11] Q8z) Q22
def Qak4:SC:=sR [vJ 1 0,fB 2 false] [1] Q23
def Qdb:List RS:=[.tmp 2]
theorem Qahm:mFn prog Qb6 1 76 Qak4 Qdb=true:=by kernel_rfl
def Qagp:List Item:=[sJ 1 3 5]
def Qagq:List Item:=[fJ 20 0 3,sJ 1 20 19]
def Qagr:List Item:=hJ 14 13::fI 18 (.bsl 3 [.t 17])::xJ 19 3 14 18::Qagq
def Qbdo:SC:=.reg [mJ 11 4,cJ 12 .add 11 1,mJ 4 12] [1,2,3,4]
def Qbdp:SC:=.seq (.block 1 (.dreg 9 [0,1,2,3,4,1,5,6,7,8] ( fJ 13 0 3::lJ 14 13::tJ 15 1 1::mJ 16 4::aJ 17 Qa01 [.t 15,.t 16]::Qagr) [1,2,3,4])) Qbdo
def Qa7s:SC:=.seq (sR [mJ 6 4,fJ 7 0 1,lJ 8 7,nJ 9 8,bJ 10 .lss 6 9] [1,2,3,4,10] (cT 10 .skip (.exit 0))) Qbdp
def Qbdq:SC:=sR [tJ 21 1 3,sJ 1 2 21] [2] .ret
def Qbdr:SC:=.seq (sR [zJ 4 0] [1,2,3,4] (bL 0 Qa7s)) Qbdq
def Qbds:SC:=sR (fI 5 (.bld [.sl true 3 []] [])::eI 3 (.alloc [.sl true 3 []])::Qagp) [1,2,3] Qbdr
def Qbnc:SC:=sR [vJ 1 0,eI 2 (.alloc [.sl true 3 []])] [1,2] Qbds
def Qa9b:List RS:=[.cell 2 1 true]
theorem Qblz:mFn prog Q97 1 22 Qbnc Qa9b=true:=by kernel_rfl
def Qadv:List Item:=[mJ 3 13]
def Qadw:List Item:=fI 12 (.bld [.pnil,.sl true 3 [],.sl true 1 [],.int .i64 0,.int .i64 0] [(0,1,.t 8),(4,1,.t 11)])::eI 13 (.boxm (.t 12))::Qadv
def Qadx:List Item:=[mJ 4 16]
def Qady:List Item:=[hJ 26 25,.chk 27 none (.len (.t 26)),.chk 28 none (.iad 1 (.t 22) (.t 27)),hJ 29 28,sJ 3 5 32]
def Qadz:List Item:=eI 5 (.alloc [.str [],.sl true 1 [],.sl true 5 []])::Qady
def Qad0:List Item:=hJ 26 25::.chk 27 none (.len (.t 26))::.chk 28 none (.iad 1 (.t 22) (.t 27))::hJ 29 28::aJ 32 Qlw [.t 21,.t 29,.t 31]::Qadz
def Qad1:List Item:=[kJ 41 33,fJ 42 1 41,sJ 1 42 40]
def Qbcc:SC:=.dreg 11 [0,1,2,3,4,5,6,7,8,9,10] ( mJ 33 3::mJ 34 3::kJ 35 34::fJ 36 1 35::lJ 37 36::tJ 38 3 5::fI 39 (.bsl 3 [.t 38])::xJ 40 3 37 39::Qad1) [0,2,3,4]
def Qbcd:SC:=.reg [mJ 19 4,cJ 20 .sub 19 1,mJ 4 20] [0,2,3,4]
def Qbce:SC:=.seq (.block 1 (.seq (.dreg 12 [0,1,2,3,4,5,6,7,8,9,10,5,6,7,8,11,12,5,6,7,8,13] ( mJ 21 3::fI 22 (.bsl 1 [.k (.c (.str [102])),.k (.c (.str [103])),.k (.c (.str [104]))])::mJ 23 3::kJ 24 23::fJ 25 1 24::lJ 26 25::nJ 27 26::iJ 28 1 22 27::lJ 29 28::mJ 30 0::aJ 31 Qt [.t 30,kI 3]::Qad0) [0,2,3,4,5]) Qbcc)) Qbcd
def Qayg:SC:=.seq (sR [mJ 17 4,cJ 18 .gtr 17 0] [0,2,3,4,18] (cT 18 .skip (.exit 0))) Qbce
def Q5e:List Item:=[sJ 3 6 47]
def Q5f:List Item:=eI 6 (.alloc [.str [],.sl true 1 [],.sl true 5 []])::Q5e
def Q5g:List Item:=eI 47 (.call Qlw [.t 43,.k (.c (.str [109])),.t 46])::Q5f
def Q5h:List Item:=[hJ 52 51,.chk 54 none (.ld 3 true (.t 6)),sJ 1 7 57]
def Q5i:List Item:=fI 57 (.bld [.sl true 3 []] [(0,1,.t 56)])::eI 7 (.alloc [.sl true 3 []])::Q5h
def Q5j:List Item:=.chk 54 none (.ld 3 true (.t 6))::xJ 56 3 53 55::Q5i
def Q5k:List Item:=[oJ 60 59]
def Qa41:SC:=cT 60 (sR [fI 61 (.bld [.int .i64 0,.int .i64 0,.str [],.sl true 4 []] [(0,1,kI 1),(1,1,kI 1)]),fI 62 (.bsl 4 [.t 61]),fI 63 (.bld [.int .i64 0,.str [],.sl true 4 [],.sl true 5 [],.sl true 5 []] [(0,1,kI 3),(2,1,.t 62)]),fI 64 (.bsl 5 [.t 63]),fI 65 (.bld [.str [],.sl true 1 [],.sl true 5 []] [(0,1,.k (.c (.str [109]))),(2,1,.t 64)]),fI 66 (.bsl 3 [.t 65]),fI 67 (.bld [.sl true 3 []] [(0,1,.t 66)]),sJ 1 2 67] [2] .ret) .skip
def Qa42:SC:=sR [tJ 68 1 7,sJ 1 2 68] [2] .ret
def Qa43:SC:=.seq (.seq (.seq .gh (.reg (tJ 58 1 7::aJ 59 Qd5 [.t 58]::Q5k) [2,7,60])) Qa41) Qa42
def Qa44:SC:=.seq (.dreg 10 [0,1,2,3,4,6,7,5,6,8,9,10,4,6,11] ( fI 48 (.bsl 3 [])::mJ 49 3::kJ 50 49::fJ 51 1 50::lJ 52 51::tJ 54 3 6::fI 55 (.bsl 3 [.t 54])::xJ 53 3 48 52::Q5j) [2,7]) Qa43
def Qa45:SC:=sR (mJ 43 3::mJ 44 0::fI 45 (.bsl 1 [kI 0,kI 1,kI 2,kI 1])::aJ 46 Qad [.t 44,.t 45]::Q5g) [2,3,6] Qa44
def Qa46:SC:=.seq (sR (mJ 14 0::fI 15 (.bsl 1 [kI 0,kI 1,kI 1,kI 2])::aJ 16 Qad [.t 14,.t 15]::Qadx) [0,2,3,4] (bL 0 Qayg)) Qa45
def Qa47:SC:=sR (mJ 8 0::mJ 9 0::fI 10 (.bsl 1 [kI 14,kI 20,kI 8,kI 26])::aJ 11 Qad [.t 9,.t 10]::Qadw) [0,2,3] Qa46
def Qbmx:SC:=sR [eI 2 (.alloc [.sl true 3 []])] [0,2] Qa47
def Qanu:List RS:=[.cell 2 1 true]
theorem Qblo:mFn prog Q91 1 69 Qbmx Qanu=true:=by kernel_rfl
def Qaeq:List Item:=[sJ 3 3 9]
def Qaer:List Item:=[fJ 27 2 3,sJ 1 27 26]
def Qaes:List Item:=hJ 18 17::fI 25 (.bsl 5 [.t 24])::xJ 26 5 18 25::Qaer
def Qbcz:SC:=.reg [mJ 15 4,cJ 16 .add 15 1,mJ 4 16] [1,2,3,4]
def Qbc0:SC:=.seq (.block 1 (.dreg 12 [0,1,2,3,4,5,6,7,1,8,9,10,11] ( fJ 17 2 3::lJ 18 17::fJ 19 2 1::lJ 20 19::mJ 21 4::iJ 22 5 20 21::tJ 23 5 22::aJ 24 Qfb [.t 23]::Qaes) [1,2,3,4])) Qbcz
def Qa6t:SC:=.seq (sR [mJ 10 4,fJ 11 2 1,lJ 12 11,nJ 13 12,bJ 14 .lss 10 13] [1,2,3,4,14] (cT 14 .skip (.exit 0))) Qbc0
def Qbc1:SC:=sR [tJ 28 3 3,sJ 3 2 28] [2] .ret
def Qbc2:SC:=.seq (sR [zJ 4 0] [1,2,3,4] (bL 0 Qa6t)) Qbc1
def Qbc3:SC:=sR (fJ 5 0 1::lJ 6 5::fJ 7 1 1::lJ 8 7::fI 9 (.bld [.int .i64 0,.int .i64 0,.sl true 5 []] [(0,1,.t 6),(1,1,.t 8)])::eI 3 (.alloc [.int .i64 0,.int .i64 0,.sl true 5 []])::Qaeq) [1,2,3] Qbc2
def Qbm3:SC:=sR [vJ 1 0,eI 2 (.alloc [.int .i64 0,.int .i64 0,.sl true 5 []])] [1,2] Qbc3
def Qa87:List RS:=[.cell 2 3 true]
theorem Qblu:mFn prog Qfl 1 29 Qbm3 Qa87=true:=by kernel_rfl
def Q57:List Item:=[mJ 5 41]
def Qa6v:SC:=cT 37 (sR (mJ 38 5::mJ 39 6::fI 40 (.bsl 1 [.t 39])::xJ 41 1 38 40::Q57) [1,2,5,6] (.exit 2)) .skip
def Qa6w:SC:=.reg [mJ 25 7,cJ 26 .add 25 1,mJ 7 26] [1,2,5,6,7]
def Qa6x:SC:=.seq (.block 3 (sR [fJ 27 2 2,lJ 28 27,mJ 29 6,iJ 30 5 28 29,fJ 31 4 30,lJ 32 31,mJ 33 7,iJ 34 1 32 33,lJ 35 34,mJ 36 1,bJ 37 .eql 35 36] [1,2,5,6,7,37] Qa6v)) Qa6w
def Qay4:SC:=.seq (sR [mJ 16 7,fJ 17 2 2,lJ 18 17,mJ 19 6,iJ 20 5 18 19,fJ 21 4 20,lJ 22 21,nJ 23 22,bJ 24 .lss 16 23] [1,2,5,6,7,24] (cT 24 .skip (.exit 2))) Qa6x
def Qaeu:SC:=.reg [mJ 14 6,cJ 15 .add 14 1,mJ 6 15] [1,2,5,6]
def Qa6y:SC:=.seq (.block 1 (sR [zJ 7 0] [1,2,5,6,7] (bL 2 Qay4))) Qaeu
def Qay5:SC:=.seq (sR [mJ 9 6,fJ 10 2 2,lJ 11 10,nJ 12 11,bJ 13 .lss 9 12] [1,2,5,6,13] (cT 13 .skip (.exit 0))) Qa6y
def Qaev:SC:=sR [mJ 42 5,mJ 4 42] [4] .ret
def Qa6z:SC:=.seq (sR [zJ 6 0] [1,2,5,6] (bL 0 Qay5)) Qaev
def Qay3:SC:=sR [fI 8 (.bsl 1 []),mJ 5 8] [1,2,5] Qa6z
def Qbiw:SC:=sR [vJ 2 0,fI 4 (.mv (.k (.c (.sl true 1 []))))] [1,2] Qay3
def Qaba:List RS:=[.tmp 4]
theorem Qbgp:mFn prog Qci 2 43 Qbiw Qaba=true:=by kernel_rfl
def Qaef:List Item:=[sJ 3 5 13]
def Qaeg:List Item:=fI 13 (.bld [.int .i64 0,.int .i64 0,.sl true 5 []] [(0,1,.t 12)])::eI 5 (.alloc [.int .i64 0,.int .i64 0,.sl true 5 []])::Qaef
def Qaeh:List Item:=[hJ 15 14,bJ 19 .add 16 18,fJ 20 1 5,sJ 1 20 19]
def Qaei:List Item:=[mJ 6 23]
def Qaej:List Item:=[sJ 5 8 29]
def Qaek:List Item:=[mJ 9 32]
def Qael:List Item:=[fJ 46 1 8,sJ 1 46 45]
def Qaem:List Item:=hJ 38 37::fI 44 (.bsl 4 [.t 43])::xJ 45 4 38 44::Qael
def Qbcx:SC:=.reg [mJ 35 9,cJ 36 .sub 35 1,mJ 9 36] [0,3,4,5,6,7,8,9]
def Qbcy:SC:=.seq (.block 3 (.dreg 11 [0,1,2,3,4,5,6,1,7,8,9,10] ( fJ 37 1 8::lJ 38 37::mJ 39 0::tJ 40 1 3::fJ 41 1 5::lJ 42 41::aJ 43 Q95 [.t 39,.t 40,.t 42]::Qaem) [0,3,4,5,6,7,8,9])) Qbcx
def Qayw:SC:=.seq (sR [mJ 33 9,cJ 34 .gtr 33 0] [0,3,4,5,6,7,8,9,34] (cT 34 .skip (.exit 2))) Qbcy
def Q5y:List Item:=[fJ 51 3 8,sJ 1 51 50]
def Q5z:List Item:=[fJ 55 2 8,sJ 1 55 54]
def Qi6:List Item:=[gT 66 63 (.bin 0 .gtr (.t 65) (kI 0)),gF 67 58 (.pick (.t 63) (.t 66) (.k (.c (.bool false)))),pT 68 58 67]
def Qaee:SC:=cT 68 (.reg [fJ 69 2 8,.e none none (.sto 1 (.t 69) (kI 3))] [0,3,4,5,6,7,8]) .skip
def Q50:List Item:=[fI 79 (.bsl 1 [.t 78]),fJ 80 4 8,sJ 1 80 79]
def Qa6c:SC:=.reg (mJ 75 0::mJ 76 7::mJ 77 6::aJ 78 Q96 [.t 75,.t 76,.t 77]::Q50) [0,3,4,5,6,7,8]
def Q51:List Item:=[fI 91 (.bsl 1 [.t 86,.t 90]),fJ 92 4 8,sJ 1 92 91]
def Q52:List Item:=mJ 87 0::mJ 88 7::mJ 89 6::aJ 90 Q96 [.t 87,.t 88,.t 89]::Q51
def Qa6d:SC:=cT 81 (.reg (mJ 83 0::mJ 84 7::mJ 85 6::aJ 86 Q96 [.t 83,.t 84,.t 85]::Q52) [0,3,4,5,6,7,8]) .skip
def Qa6e:SC:=cT 72 (sR [fJ 74 3 8,.e none none (.sto 1 (.t 74) (kI 0))] [0,3,4,5,6,7,8] Qa6c) (sR [cJ 82 .eql 71 2,mJ 81 82] [0,3,4,5,6,7,8,81] Qa6d)
def Qa6f:SC:=.block 4 (sR [cJ 73 .eql 71 1,mJ 72 73] [0,3,4,5,6,7,8,71,72] Qa6e)
def Q53:List Item:=[fJ 98 2 5,sJ 1 98 97]
def Qa6g:SC:=.reg (fJ 93 2 5::lJ 94 93::tJ 95 5 8::fI 96 (.bsl 5 [.t 95])::xJ 97 5 94 96::Q53) [0,3,4,5,6,7]
def Qa6h:SC:=.seq (sR [fJ 70 2 8,lJ 71 70] [0,3,4,5,6,7,8,71] Qa6f) Qa6g
def Qa6i:SC:=.seq (sR (mJ 56 6::cJ 57 .eql 56 1::mJ 58 57::gFm 59 58 7::gFm 60 58 6::gF 61 58 (.bin 0 .sub (.t 60) (kI 1))::gF 62 58 (.bin 0 .eql (.t 59) (.t 61))::gFm 63 58 62::gTm 64 63 0::.e (some 65) (some (63,true)) (.call Qt [.t 64,kI 3])::Qi6) [0,3,4,5,6,7,8,68] Qaee) Qa6h
def Qa6j:SC:=sR (mJ 52 0::fI 53 (.bsl 1 [kI 2,kI 1,kI 2,kI 1,kI 3])::aJ 54 Qad [.t 52,.t 53]::Q5z) [0,3,4,5,6,7,8] Qa6i
def Qa6k:SC:=sR (mJ 47 0::fJ 48 1 5::lJ 49 48::aJ 50 Qt [.t 47,.t 49]::Q5y) [0,3,4,5,6,7,8] Qa6j
def Qa6l:SC:=.seq (sR (mJ 30 0::fI 31 (.bsl 1 [kI 1,kI 2,kI 0,kI 3,kI 4])::aJ 32 Qad [.t 30,.t 31]::Qaek) [0,3,4,5,6,7,8,9] (bL 2 Qayw)) Qa6k
def Qa6m:SC:=.reg [mJ 27 7,cJ 28 .add 27 1,mJ 7 28] [0,3,4,5,6,7]
def Qa6n:SC:=.seq (.block 1 (sR (fI 29 (.bld [.sl true 2 [],.sl true 4 [],.int .i64 0,.int .i64 0,.sl true 1 []] [])::eI 8 (.alloc [.sl true 2 [],.sl true 4 [],.int .i64 0,.int .i64 0,.sl true 1 []])::Qaej) [0,3,4,5,6,7,8] Qa6l)) Qa6m
def Qayx:SC:=.seq (sR [mJ 24 7,mJ 25 6,bJ 26 .lss 24 25] [0,3,4,5,6,7,26] (cT 26 .skip (.exit 0))) Qa6n
def Qa6o:SC:=sR [tJ 99 3 5,sJ 3 4 99] [4] .ret
def Qa6p:SC:=.seq (sR [zJ 7 0] [0,3,4,5,6,7] (bL 0 Qayx)) Qa6o
def Qa6q:SC:=sR (mJ 21 0::fI 22 (.bsl 1 [kI 3,kI 5,kI 2,kI 1,kI 7,kI 4])::aJ 23 Qad [.t 21,.t 22]::Qaei) [0,3,4,5,6] Qa6p
def Qa6r:SC:=.seq (.dreg 8 [0,1,2,3,4,1,5,6,7] ( fJ 14 0 5::lJ 15 14::cJ 16 .add 15 2::mJ 17 0::aJ 18 Qt [.t 17,kI 5]::Qaeh) [0,3,4,5]) Qa6q
def Qa6s:SC:=sR (mJ 10 0::fI 11 (.bsl 1 [kI 1,kI 0,kI 2,kI 3])::aJ 12 Qad [.t 10,.t 11]::Qaeg) [0,3,4,5] Qa6r
def Qbm2:SC:=sR [vJ 3 1,eI 4 (.alloc [.int .i64 0,.int .i64 0,.sl true 5 []])] [0,3,4] Qa6s
def Qa86:List RS:=[.cell 4 3 true]
theorem Qblt:mFn prog Q94 2 100 Qbm2 Qa86=true:=by kernel_rfl
def Qbmm:SC:=sR [mJ 7 0,mJ 8 1,bJ 9 .geq 7 8,mJ 10 9,gTm 11 10 0,gTm 12 10 2,gT 13 10 (.bin 0 .leq (.t 11) (.t 12)),pF 14 10 13,mJ 6 14] [6] .ret
def Qbsr:SC:=sR [fB 6 false] [0,1,2] Qbmm
def Qboj:List RS:=[.tmp 6]
theorem Qbsg:mFn prog Qbq 3 15 Qbsr Qboj=true:=by kernel_rfl
def Q5v:List Item:=[sJ 3 7 18]
def Q5w:List Item:=[sJ 5 8 23]
def Qa57:SC:=cT 30 (sR [fB 6 false] [6] .ret) .skip
def Qa58:SC:=cT 33 (.reg [zJ 9 0] [1,2,3,7,8,9]) (sR [fB 6 false] [6] .ret)
def Qa59:SC:=cT 31 (.reg [zJ 9 2] [1,2,3,7,8,9]) (sR [cJ 34 .eql 25 3,mJ 33 34] [1,2,3,7,8,33] Qa58)
def Qa6a:SC:=cT 26 (sR [fJ 28 3 8,lJ 29 28,cJ 30 .neq 29 0] [1,2,3,7,8,9,30] Qa57) (sR [cJ 32 .eql 25 2,mJ 31 32] [1,2,3,7,8,25,31] Qa59)
def Qa6b:SC:=.block 0 (sR [cJ 27 .eql 25 1,mJ 26 27] [1,2,3,7,8,9,25,26] Qa6a)
def Qi5:List Item:=[gT 51 44 (.not (.t 50)),gF 52 40 (.pick (.t 44) (.t 51) (.k (.c (.bool false)))),pT 53 40 52]
def s_l7Block_8:SC:=cT 53 (sR [fB 6 false] [6] .ret) .skip
def Q5x:List Item:=[oJ 71 70]
def Qayi:SC:=cT 71 (sR [fB 6 false] [6] .ret) .skip
def Qayj:SC:=.reg [mJ 59 10,cJ 60 .add 59 1,mJ 10 60] [1,2,3,7,8,10]
def Qayk:SC:=.seq (.block 2 (.seq (.dreg 11 [0,1,2,3,4,5,6,7,8,9,10] ( fJ 61 4 8::lJ 62 61::mJ 63 10::iJ 64 1 62 63::lJ 65 64::fJ 66 2 7::lJ 67 66::nJ 68 67::cJ 69 .sub 68 1::aJ 70 Qbq [.t 65,kI 1,.t 69]::Q5x) [1,2,3,7,8,10,71]) Qayi)) Qayj
def Qaqa:SC:=.seq (sR [mJ 54 10,fJ 55 4 8,lJ 56 55,nJ 57 56,bJ 58 .lss 54 57] [1,2,3,7,8,10,58] (cT 58 .skip (.exit 1))) Qayk
def Q0m:List Item:=[oJ 87 86]
def Qayl:SC:=cT 87 (sR [fB 6 false] [6] .ret) .skip
def Qaym:SC:=.reg [mJ 77 11,cJ 78 .add 77 1,mJ 11 78] [1,2,3,7,8,11]
def Qayn:SC:=.seq (.block 4 (.seq (.dreg 9 [0,1,2,3,4,5,6,7,8] ( tJ 79 1 3::mJ 80 1::fJ 81 1 8::lJ 82 81::mJ 83 11::iJ 84 4 82 83::tJ 85 4 84::aJ 86 Qams [.t 79,.t 80,.t 85]::Q0m) [1,2,3,7,8,11,87]) Qayl)) Qaym
def Qaqb:SC:=.seq (sR [mJ 72 11,fJ 73 1 8,lJ 74 73,nJ 75 74,bJ 76 .lss 72 75] [1,2,3,7,8,11,76] (cT 76 .skip (.exit 3))) Qayn
def Q0n:List Item:=[mJ 12 90]
def Qg5:List Item:=[gF 134 123 (.not (.t 133)),pT 135 123 134]
def Qms:List Item:=gF 121 112 (.not (.t 120))::pT 122 112 121::mJ 123 122::gFf 124 123 0 8::gFl 125 123 124::gFm 126 123 13::gF 127 123 (.iad 2 (.t 125) (.t 126))::gFf 128 123 0 127::gFl 129 123 128::gFf 130 123 1 7::gFl 131 123 130::gF 132 123 (.bin 0 .sub (.t 131) (kI 1))::.e (some 133) (some (123,false)) (.call Qbq [.t 129,kI 0,.t 132])::Qg5
def Q5q:SC:=cT 135 (sR [fB 6 false] [6] .ret) .skip
def Q5r:SC:=.reg [mJ 96 13,cJ 97 .add 96 1,mJ 13 97] [2,7,8,12,13]
def Qayo:SC:=.seq (.block 6 (.seq (.dreg 38 [0,1,2,3,4,5,6,7,8,9,10,11,12,13,14,15,16,17,18,19,20,21,22,23,24,25,26,27,28,29,30,31,32,33,34,35,36,37] ( mJ 98 2::cJ 99 .eql 98 0::mJ 100 99::gFf 101 100 0 8::gFl 102 100 101::gFm 103 100 13::gF 104 100 (.iad 2 (.t 102) (.t 103))::gFf 105 100 1 104::gFl 106 100 105::gF 107 100 (.len (.t 106))::gFm 108 100 12::gF 109 100 (.len (.t 108))::gF 110 100 (.bin 0 .neq (.t 107) (.t 109))::pT 111 100 110::mJ 112 111::gF 113 112 (.ld 3 true (.t 7))::gFf 114 112 0 8::gFl 115 112 114::gFm 116 112 13::gF 117 112 (.iad 2 (.t 115) (.t 116))::gFf 118 112 1 117::gFl 119 112 118::.e (some 120) (some (112,false)) (.call Qyb [.t 113,.t 119])::Qms) [2,7,8,12,13,135]) Q5q)) Q5r
def Qaqc:SC:=.seq (sR [mJ 91 13,fJ 92 0 8,lJ 93 92,nJ 94 93,bJ 95 .lss 91 94] [2,7,8,12,13,95] (cT 95 .skip (.exit 5))) Qayo
def Q5s:SC:=sR [fB 6 true] [6] .ret
def Qayp:SC:=.seq (sR [zJ 13 0] [2,7,8,12,13] (bL 5 Qaqc)) Q5s
def Qayq:SC:=sR (tJ 88 3 7::mJ 89 2::aJ 90 Qci [.t 88,.t 89]::Q0n) [2,7,8,12] Qayp
def Qayr:SC:=.seq (sR [zJ 11 0] [1,2,3,7,8,11] (bL 3 Qaqb)) Qayq
def Q5t:SC:=.seq (sR [zJ 10 0] [1,2,3,7,8,10] (bL 1 Qaqa)) Qayr
def Q5u:SC:=.seq (sR (fJ 35 4 8::lJ 36 35::nJ 37 36::mJ 38 9::bJ 39 .neq 37 38::mJ 40 39::gFf 41 40 2 8::gFl 42 40 41::gF 43 40 (.bin 0 .neq (.t 42) (kI 1))::gFm 44 40 43::gTf 45 44 3 8::gTl 46 44 45::gTf 47 44 1 7::gTl 48 44 47::gT 49 44 (.bin 0 .sub (.t 48) (kI 1))::.e (some 50) (some (44,true)) (.call Qbq [.t 46,kI 0,.t 49])::Qi5) [1,2,3,7,8,53] s_l7Block_8) Q5t
def Qays:SC:=.seq (sR [fJ 24 2 8,lJ 25 24] [1,2,3,7,8,9,25] Qa6b) Q5u
def Qayt:SC:=sR [zJ 9 1] [1,2,3,7,8,9] Qays
def Qayu:SC:=sR (fJ 19 2 7::lJ 20 19::mJ 21 2::iJ 22 5 20 21::tJ 23 5 22::eI 8 (.alloc [.sl true 2 [],.sl true 4 [],.int .i64 0,.int .i64 0,.sl true 1 []])::Q5w) [1,2,3,7,8] Qayt
def Qayv:SC:=sR (fJ 14 0 3::lJ 15 14::mJ 16 1::iJ 17 3 15 16::tJ 18 3 17::eI 7 (.alloc [.int .i64 0,.int .i64 0,.sl true 5 []])::Q5v) [1,2,3,7] Qayu
def Qbit:SC:=sR [vJ 3 0,fB 6 false] [1,2,3] Qayv
def Qkk:List RS:=[.tmp 6]
theorem Qbgn:mFn prog Q1i 3 136 Qbit Qkk=true:=by kernel_rfl
def Qazc:List Item:=[sJ 3 5 13]
def Qazd:List Item:=[mJ 6 19]
def Qaze:List Item:=[hJ 29 28,.chk 30 none (.len (.t 29)),bJ 34 .add 30 33,kJ 35 27,fJ 36 1 35,fJ 37 1 36,sJ 1 37 34]
def Qazf:List Item:=[kJ 59 45,fJ 60 5 59,sJ 1 60 58]
def Qbm8:SC:=.reg [mJ 43 7,cJ 44 .add 43 1,mJ 7 44] [4,5,6,7]
def Qbm9:SC:=.seq (.block 1 (.dreg 17 [0,1,2,3,4,5,6,7,8,9,10,11,12,13,14,15,16] ( mJ 45 6::mJ 46 6::kJ 47 46::fJ 48 5 47::lJ 49 48::fJ 50 1 5::lJ 51 50::mJ 52 7::iJ 53 1 51 52::lJ 54 53::mJ 55 7::fI 56 (.bld [.str [],.int .i64 0,.int .i64 0] [(0,1,.t 54),(1,1,.t 55),(2,1,kI 0)])::fI 57 (.bsl 3 [.t 56])::xJ 58 3 49 57::Qazf) [4,5,6,7])) Qbm8
def Qbi6:SC:=.seq (sR [mJ 38 7,fJ 39 1 5,lJ 40 39,nJ 41 40,bJ 42 .lss 38 41] [4,5,6,7,42] (cT 42 .skip (.exit 0))) Qbm9
def Qazg:List Item:=[mJ 8 71]
def Qazh:List Item:=fI 70 (.bsl 1 [])::aJ 71 Qat [.t 67,kI 1,.t 69,kI 0,.t 70]::Qazg
def Qbna:SC:=sR [mJ 76 6,kJ 77 76,fJ 78 1 77,tJ 79 3 78,sJ 3 4 79] [4] .ret
def Qbix:SC:=sR [mJ 72 6,mJ 73 8,fI 74 (.bsl 1 []),aJ 75 Qa1 [.t 72,kI 3,.t 73,.t 74,kI 0]] [4,6] Qbna
def Qbiy:SC:=sR (mJ 67 6::mJ 68 6::aJ 69 Qa5 [.t 68]::Qazh) [4,6,8] Qbix
def Qbiz:SC:=sR [mJ 63 6,fJ 64 2 5,lJ 65 64,aJ 66 Qcj [.t 63,.t 65]] [4,6] Qbiy
def Qbi0:SC:=sR [mJ 61 6,aJ 62 Qap [.t 61]] [4,5,6] Qbiz
def Qbi1:SC:=.seq (sR [zJ 7 0] [4,5,6,7] (bL 0 Qbi6)) Qbi0
def Qbi2:SC:=.seq (.dreg 12 [0,1,2,3,4,5,6,2,3,7,8,9,10,11] ( mJ 27 6::fJ 28 1 5::lJ 29 28::nJ 30 29::fJ 31 2 5::lJ 32 31::aJ 33 Qpb [.t 32]::Qaze) [4,5,6]) Qbi1
def Qbi3:SC:=sR [mJ 20 6,fJ 21 1 5,lJ 22 21,nJ 23 22,kJ 24 20,fJ 25 1 24,fJ 26 0 25,sJ 1 26 23] [4,5,6] Qbi2
def Qbi4:SC:=sR (tJ 14 1 2::fJ 15 1 5::lJ 16 15::nJ 17 16::fI 18 (.bld [.sl true 3 [],.int .i64 0,.int .i64 0,.sl true 5 [],.int .i64 0,.sl true 3 [],.int .i64 0,.sl true 1 []] [(0,1,.t 14),(6,1,.t 17)])::eI 19 (.boxm (.t 18))::Qazd) [4,5,6] Qbi3
def Qbi5:SC:=sR (fJ 9 0 2::lJ 10 9::mJ 11 1::iJ 12 3 10 11::tJ 13 3 12::eI 5 (.alloc [.str [],.sl true 1 [],.sl true 5 []])::Qazc) [2,4,5] Qbi4
def Qbsu:SC:=sR [vJ 2 0,eI 4 (.alloc [.int .i64 0,.int .i64 0,.sl true 5 []])] [1,2,4] Qbi5
def Qbok:List RS:=[.cell 4 3 true]
theorem Qbsj:mFn prog Qa01 2 80 Qbsu Qbok=true:=by kernel_rfl
def Q0h:List Item:=[sJ 3 7 26]
def Q0i:List Item:=fI 26 (.bld [.str [],.sl true 1 [],.sl true 5 []] [(0,1,.t 19),(1,1,.t 25)])::eI 7 (.alloc [.str [],.sl true 1 [],.sl true 5 []])::Q0h
def Q0j:List Item:=[fJ 29 2 7,sJ 1 29 28]
def Qmq:List Item:=[gT 41 35 (.bin 0 .gtr (.t 40) (kI 0)),pF 42 35 41]
def Q0k:List Item:=[fJ 59 2 7,sJ 1 59 58]
def Q0l:List Item:=hJ 52 51::fI 55 (.bsl 4 [.t 54])::fI 56 (.bld [.int .i64 0,.str [],.sl true 4 [],.sl true 5 [],.sl true 5 []] [(0,1,kI 7),(2,1,.t 55)])::fI 57 (.bsl 5 [.t 56])::xJ 58 5 52 57::Q0k
def Qayc:SC:=.dreg 10 [0,1,2,3,1,4,5,6,7,8,9] ( fJ 51 2 7::lJ 52 51::mJ 53 0::aJ 54 Qbc [.t 53,kI 2]::Q0l) [6,7]
def s_l3Gen_fn_7:SC:=cT 42 (sR [mJ 43 0,mJ 44 0,kJ 45 44,fJ 46 4 45,lJ 47 46,cJ 48 .sub 47 1,kJ 49 43,fJ 50 4 49,sJ 1 50 48] [0,6,7] Qayc) .skip
def Qr9:SC:=sR [tJ 60 3 7,sJ 3 6 60] [6] .ret
def Qayd:SC:=.seq (sR (mJ 30 0::kJ 31 30::fJ 32 4 31::lJ 33 32::cJ 34 .gtr 33 0::mJ 35 34::gTm 36 35 0::gT 37 35 (.nck (.t 36))::gTf 38 35 0 37::gTl 39 35 38::.e (some 40) (some (35,true)) (.call Qt [.t 39,kI 4])::Qmq) [0,6,7,42] s_l3Gen_fn_7) Qr9
def Qap2:SC:=sR (mJ 27 0::aJ 28 Qch [.t 27,kI 3]::Q0j) [0,6,7] Qayd
def Qap3:SC:=sR (mJ 19 1::fI 20 (.bsl 1 [])::mJ 21 0::kJ 22 21::fJ 23 2 22::lJ 24 23::xJ 25 1 20 24::Q0i) [0,6,7] Qap2
def Qap4:SC:=sR [mJ 14 0,mJ 15 2,cJ 16 .sub 15 1,kJ 17 14,fJ 18 3 17,sJ 1 18 16] [0,1,6] Qap3
def Qap5:SC:=sR [mJ 8 0,fI 9 (.bsl 1 [.k (.c (.str [97])),.k (.c (.str [98])),.k (.c (.str [99]))]),mJ 10 2,fI 11 (.sli 1 (.t 9) none (some (.t 10))),kJ 12 8,fJ 13 2 12,sJ 1 13 11] [0,1,2,6] Qap4
def Qbcb:SC:=sR [eI 6 (.alloc [.str [],.sl true 1 [],.sl true 5 []])] [0,1,2,6] Qap5
def Qtw:List RS:=[.cell 6 3 true]
theorem Qba3:mFn prog Qlw 3 61 Qbcb Qtw=true:=by kernel_rfl
def Qgq:List Item:=[oJ 8 7]
def Qxz:SC:=cT 8 (sR [fB 2 false] [2] .ret) .skip
def Qgr:List Item:=[oJ 22 21]
def Qx0:SC:=cT 22 (sR [fB 2 false] [2] .ret) .skip
def Qx1:SC:=.reg [mJ 14 3,cJ 15 .add 14 1,mJ 3 15] [1,3]
def Qx2:SC:=.seq (.block 1 (sR (fJ 16 0 1::lJ 17 16::mJ 18 3::iJ 19 3 17 18::tJ 20 3 19::aJ 21 Qa00 [.t 20]::Qgr) [1,3,22] Qx0)) Qx1
def Qu3:SC:=.seq (sR [mJ 9 3,fJ 10 0 1,lJ 11 10,nJ 12 11,bJ 13 .lss 9 12] [1,3,13] (cT 13 .skip (.exit 0))) Qx2
def Qgs:List Item:=[cJ 25 .leq 24 40,mJ 2 25]
def Qx3:SC:=sR (tJ 23 1 1::aJ 24 Qamr [.t 23]::Qgs) [2] .ret
def Qx4:SC:=.seq (sR [zJ 3 0] [1,3] (bL 0 Qu3)) Qx3
def Qu2:SC:=.seq (sR (fJ 4 0 1::lJ 5 4::nJ 6 5::aJ 7 Qbq [.t 6,kI 1,kI 4]::Qgq) [1,8] Qxz) Qx4
def Q2v:SC:=sR [vJ 1 0,fB 2 false] [1] Qu2
def Qe0:List RS:=[.tmp 2]
theorem Q1r:mFn prog Qd5 1 26 Q2v Qe0=true:=by kernel_rfl
def Qnw:List Item:=[hJ 10 9,hJ 12 11,hJ 15 14,sJ 5 3 17]
def Qnx:List Item:=hJ 10 9::hJ 12 11::fI 17 (.bld [.sl true 2 [],.sl true 4 [],.int .i64 0,.int .i64 0,.sl true 1 []] [(0,1,.t 7),(1,1,.t 8),(2,1,.t 10),(3,1,.t 12),(4,1,.t 16)])::eI 3 (.alloc [.sl true 2 [],.sl true 4 [],.int .i64 0,.int .i64 0,.sl true 1 []])::Qnw
def Qny:List Item:=[fJ 44 0 3,sJ 1 44 43]
def Qnz:List Item:=hJ 26 25::hJ 28 27::.chk 30 none (.iad 2 (.t 28) (.t 29))::hJ 32 31::fI 41 (.bld [.int .i64 0,.sl true 1 []] [(0,1,.t 32),(1,1,.t 40)])::fI 42 (.bsl 2 [.t 41])::xJ 43 2 26 42::Qny
def Qaen:SC:=.reg [mJ 23 4,cJ 24 .add 23 1,mJ 4 24] [1,2,3,4]
def Qaeo:SC:=.seq (.block 1 (.dreg 21 [0,1,2,3,4,5,6,7,8,9,10,11,12,13,14,15,1,3,5,7,16,17,18,19,20] ( fJ 25 0 3::lJ 26 25::fJ 27 0 1::lJ 28 27::mJ 29 4::iJ 30 2 28 29::fJ 31 0 30::lJ 32 31::fI 33 (.bsl 1 [])::fJ 34 0 1::lJ 35 34::mJ 36 4::iJ 37 2 35 36::fJ 38 1 37::lJ 39 38::xJ 40 1 33 39::Qnz) [1,2,3,4])) Qaen
def Q74:SC:=.seq (sR [mJ 18 4,fJ 19 0 1,lJ 20 19,nJ 21 20,bJ 22 .lss 18 21] [1,2,3,4,22] (cT 22 .skip (.exit 0))) Qaeo
def Qn0:List Item:=[sJ 4 6 56]
def Qn1:List Item:=[fJ 72 1 3,sJ 1 72 71]
def Qn2:List Item:=hJ 58 57::hJ 60 59::hJ 62 61::hJ 68 67::fI 69 (.bld [.int .i64 0,.int .i64 0,.sl true 1 [],.int .i64 0] [(0,1,.t 60),(1,1,.t 62),(2,1,.t 66),(3,1,.t 68)])::fI 70 (.bsl 4 [.t 69])::xJ 71 4 58 70::Qn1
def Q7x:SC:=.dreg 17 [0,1,2,3,4,5,6,7,8,10,11,9,1,3,5,11,12,13,14,15,16] ( fJ 57 1 3::lJ 58 57::fJ 59 0 6::lJ 60 59::fJ 61 1 6::lJ 62 61::fI 63 (.bsl 1 [])::fJ 64 2 6::lJ 65 64::fJ 67 3 6::lJ 68 67::xJ 66 1 63 65::Qn2) [1,2,3,5]
def Q7y:SC:=.reg [mJ 50 5,cJ 51 .add 50 1,mJ 5 51] [1,2,3,5]
def Q7z:SC:=.seq (.block 3 (sR (fJ 52 1 1::lJ 53 52::mJ 54 5::iJ 55 4 53 54::tJ 56 4 55::eI 6 (.alloc [.int .i64 0,.int .i64 0,.sl true 1 [],.int .i64 0])::Qn0) [1,2,3,5,6] Q7x)) Q7y
def Q2p:SC:=.seq (sR [mJ 45 5,fJ 46 1 1,lJ 47 46,nJ 48 47,bJ 49 .lss 45 48] [1,2,3,5,49] (cT 49 .skip (.exit 2))) Q7z
def Q70:SC:=sR [tJ 73 5 3,sJ 5 2 73] [2] .ret
def Q71:SC:=.seq (sR [zJ 5 0] [1,2,3,5] (bL 2 Q2p)) Q70
def Q72:SC:=.seq (sR [zJ 4 0] [1,2,3,4] (bL 0 Q74)) Q71
def Q73:SC:=.seq (.dreg 11 [0,1,2,3,4,5,6,7,8,9,3,5,10,11,3,5,8,12] ( fI 7 (.bsl 2 [])::fI 8 (.bsl 4 [])::fJ 9 2 1::lJ 10 9::fJ 11 3 1::lJ 12 11::fI 13 (.bsl 1 [])::fJ 14 4 1::lJ 15 14::xJ 16 1 13 15::Qnx) [1,2,3]) Q72
def Qaqd:SC:=sR [vJ 1 0,eI 2 (.alloc [.sl true 2 [],.sl true 4 [],.int .i64 0,.int .i64 0,.sl true 1 []])] [1,2] Q73
def Qyw:List RS:=[.cell 2 5 true]
theorem Qanh:mFn prog Qfb 1 74 Qaqd Qyw=true:=by kernel_rfl
def Qae5:List Item:=[mJ 7 13]
def Qxx:List Item:=[sJ 4 8 18]
def Qae6:List Item:=fI 18 (.bld [.int .i64 0,.int .i64 0,.sl true 1 [],.int .i64 0] [(0,1,.t 14),(1,1,.t 17)])::eI 8 (.alloc [.int .i64 0,.int .i64 0,.sl true 1 [],.int .i64 0])::Qxx
def Qae7:List Item:=[mJ 9 20]
def Qae8:List Item:=[fI 30 (.bsl 1 [.t 29]),fI 31 (.bld [.int .i64 0,.int .i64 0,.sl true 1 [],.int .i64 0] [(0,1,kI 13),(1,1,kI (-1)),(2,1,.t 30)]),sJ 4 6 31]
def Qbdd:SC:=cT 26 (sR (mJ 27 0::mJ 28 2::aJ 29 Qt [.t 27,.t 28]::Qae8) [6] .ret) .skip
def Qae9:List Item:=[fJ 37 3 8,sJ 1 37 36]
def Qbde:SC:=.reg [fJ 38 0 4,lJ 39 38,fJ 40 3 8,lJ 41 40,iJ 42 3 39 41,fJ 43 0 42,lJ 44 43,mJ 9 44] [0,2,6,7,8,9]
def Qbdf:SC:=sR (mJ 32 0::fJ 33 0 4::lJ 34 33::nJ 35 34::aJ 36 Qt [.t 32,.t 35]::Qae9) [0,2,4,6,7,8] Qbde
def Qbdg:SC:=cT 22 (.seq (sR [fJ 23 0 4,lJ 24 23,nJ 25 24,cJ 26 .eql 25 0] [0,2,4,6,7,8,26] Qbdd) Qbdf) .skip
def Q58:List Item:=[fJ 50 3 8,sJ 1 50 49]
def Qa61:SC:=cT 46 (.reg (mJ 47 0::fI 48 (.bsl 1 [kI 0,kI 1,kI 2,kI 3,kI 15,kI 16,kI 255])::aJ 49 Qad [.t 47,.t 48]::Q58) [0,2,6,7,8,9]) .skip
def Q59:List Item:=[oJ 53 52]
def Qa62:SC:=cT 53 (.reg [fJ 54 1 8,.e none none (.sto 1 (.t 54) (kI (-1)))] [0,2,6,8,9]) .skip
def Q6a:List Item:=[fJ 67 2 8,sJ 1 67 66]
def Q6b:List Item:=hJ 61 60::fI 65 (.bsl 1 [.t 64])::xJ 66 1 61 65::Q6a
def Qa63:SC:=.reg [mJ 58 10,cJ 59 .add 58 1,mJ 10 59] [0,2,6,8,9,10]
def Qa64:SC:=.seq (.block 1 (.dreg 9 [0,1,2,3,4,1,5,6,7,8] ( fJ 60 2 8::lJ 61 60::mJ 62 0::mJ 63 2::aJ 64 Qt [.t 62,.t 63]::Q6b) [0,2,6,8,9,10])) Qa63
def Qay7:SC:=.seq (sR [mJ 55 10,mJ 56 9,bJ 57 .lss 55 56] [0,2,6,8,9,10,57] (cT 57 .skip (.exit 0))) Qa64
def Qa65:SC:=sR [tJ 68 4 8,sJ 4 6 68] [6] .ret
def Qae2:SC:=.seq (sR [zJ 10 0] [0,2,6,8,9,10] (bL 0 Qay7)) Qa65
def Qae3:SC:=.seq (sR (mJ 51 7::aJ 52 Qew [.t 51]::Q59) [0,2,6,8,9,53] Qa62) Qae2
def Qae4:SC:=.seq (sR [mJ 45 7,cJ 46 .eql 45 1] [0,2,6,7,8,9,46] Qa61) Qae3
def Qa66:SC:=.seq (sR [mJ 21 7,cJ 22 .eql 21 14] [0,2,4,6,7,8,9,22] Qbdg) Qae4
def Qa67:SC:=sR (mJ 19 7::aJ 20 Qpa [.t 19]::Qae7) [0,2,4,6,7,8,9] Qa66
def Qa68:SC:=sR (mJ 14 7::mJ 15 0::mJ 16 2::aJ 17 Qt [.t 15,.t 16]::Qae6) [0,2,4,6,7,8] Qa67
def Qa69:SC:=sR (mJ 11 0::fI 12 (.bsl 1 [kI 1,kI 1,kI 2,kI 3,kI 4,kI 5,kI 8,kI 9,kI 10,kI 13,kI 3,kI 6,kI 7,kI 11,kI 12,kI 14])::aJ 13 Qad [.t 11,.t 12]::Qae5) [0,2,4,6,7] Qa68
def Qbm5:SC:=sR [vJ 4 1,eI 6 (.alloc [.int .i64 0,.int .i64 0,.sl true 1 [],.int .i64 0])] [0,2,4,6] Qa69
def Qtx:List RS:=[.cell 6 4 true]
theorem Qblw:mFn prog Q95 3 69 Qbm5 Qtx=true:=by kernel_rfl
def Qafa:List Item:=[gT 14 11 (.bin 0 .gtr (.t 13) (kI 0)),pF 15 11 14]
def Qay8:List Item:=[bJ 24 .add 17 23,mJ 6 24]
def s_l7To_2:SC:=cT 15 (sR (mJ 16 1::cJ 17 .add 16 1::mJ 18 0::mJ 19 2::cJ 20 .sub 19 1::mJ 21 1::bJ 22 .sub 20 21::aJ 23 Qt [.t 18,.t 22]::Qay8) [6] .ret) .skip
def Qay9:List Item:=[fI 29 (.bin 0 .add (kI 1) (.t 28)),mJ 6 29]
def Qa9d:SC:=sR (mJ 25 0::mJ 26 2::cJ 27 .sub 26 1::aJ 28 Qt [.t 25,.t 27]::Qay9) [6] .ret
def Qbm6:SC:=.seq (sR (mJ 7 1::mJ 8 2::cJ 9 .sub 8 1::bJ 10 .lss 7 9::mJ 11 10::gTm 12 11 0::.e (some 13) (some (11,true)) (.call Qt [.t 12,kI 4])::Qafa) [0,1,2,15] s_l7To_2) Qa9d
def Qbst:SC:=sR [zJ 6 0] [0,1,2] Qbm6
def Qa88:List RS:=[.tmp 6]
theorem Qbsi:mFn prog Q96 3 30 Qbst Qa88=true:=by kernel_rfl
def Qal6:List Item:=[sJ 3 7 12]
def Q2q:List Item:=[gF 22 17 (.not (.t 21)),pT 23 17 22]
def Qal7:List Item:=oJ 16 15::mJ 17 16::gF 18 17 (.ld 3 true (.t 7))::gFf 19 17 2 5::gFl 20 17 19::.e (some 21) (some (17,false)) (.call Qyb [.t 18,.t 20])::Q2q
def s_l7Ins_3:SC:=cT 23 (sR [fB 6 false] [6] .ret) .skip
def Q2r:List Item:=[gF 38 34 (.not (.t 37)),gFm 39 34 38,gTf 40 39 1 5,gTl 41 39 40,gT 42 39 (.bin 0 .neq (.t 41) (kI (-1))),gF 43 34 (.pick (.t 39) (.t 42) (.k (.c (.bool false)))),pT 44 34 43]
def Qal8:List Item:=fI 33 (.bin 1 .neq (.t 26) (.t 32))::mJ 34 33::gFf 35 34 0 5::gFl 36 34 35::.e (some 37) (some (34,false)) (.call Qew [.t 36])::Q2r
def Qal9:List Item:=hJ 28 27::hJ 30 29::aJ 32 Qbq [.t 28,kI 0,.t 31]::Qal8
def s_l7Ins_7:SC:=cT 44 (sR [fB 6 false] [6] .ret) .skip
def Qtz:List Item:=[mJ 53 52,gTf 54 53 2 5,gTl 55 53 54,gT 56 53 (.len (.t 55)),gTf 57 53 0 3,gTl 58 53 57,gTf 59 53 3 5,gTl 60 53 59,gT 61 53 (.iad 3 (.t 58) (.t 60)),gTf 62 53 0 61,gTl 63 53 62,gT 64 53 (.bin 0 .eql (.t 56) (.t 63)),pF 65 53 64,mJ 6 65]
def Qbiu:SC:=cT 47 (.seq (.dreg 19 [0,1,2,3,4,5,6,7,8,9,10,11,12,13,14,15,16,17,18] ( fJ 48 3 5::lJ 49 48::mJ 50 1::cJ 51 .sub 50 1::aJ 52 Qbq [.t 49,kI 0,.t 51]::Qtz) [6]) .ret) .skip
def Qxw:List Item:=[pF 77 73 76,mJ 78 77,gTf 79 78 3 5,gTl 80 78 79,gT 81 78 (.bin 0 .eql (.t 80) (kI 0)),gTm 82 78 81,gFf 83 82 0 5,gFl 84 82 83,gF 85 82 (.bin 0 .eql (.t 84) (kI 1)),gT 86 78 (.pick (.t 82) (.k (.c (.bool true))) (.t 85)),pF 87 78 86,mJ 6 87]
def Qaet:List Item:=hJ 67 66::.chk 68 none (.len (.t 67))::bJ 72 .eql 68 71::mJ 73 72::gTf 74 73 3 5::gTl 75 73 74::.e (some 76) (some (73,true)) (.call Qbq [.t 75,kI 0,kI 255])::Qxw
def Qbc4:SC:=.seq (.dreg 23 [0,1,2,3,4,5,1,2,6,7,8,9,10,11,12,13,14,15,16,17,18,19,20,21,22] ( fJ 66 2 5::lJ 67 66::nJ 68 67::fJ 69 0 5::lJ 70 69::aJ 71 Qpa [.t 70]::Qaet) [6]) .ret
def Qal4:SC:=.seq (sR [fJ 45 0 5,lJ 46 45,cJ 47 .eql 46 14] [1,3,5,47] Qbiu) Qbc4
def Qal5:SC:=.seq (.seq (.dreg 21 [0,1,3,4,5,6,7,2,4,6,8,9,10,11,12,13,14,15,16,17,18,19,20] ( fJ 24 0 5::lJ 25 24::fJ 27 1 5::lJ 28 27::fJ 29 1 7::lJ 30 29::cJ 31 .sub 30 1::aJ 26 Qew [.t 25]::Qal9) [1,3,5,44]) s_l7Ins_7) Qal4
def Qbc5:SC:=.seq (sR (fJ 13 0 5::lJ 14 13::aJ 15 Qbq [.t 14,kI 1,kI 14]::Qal7) [1,3,5,7,23] s_l7Ins_3) Qal5
def Qbc6:SC:=sR (fJ 8 0 3::lJ 9 8::mJ 10 1::iJ 11 3 9 10::tJ 12 3 11::eI 7 (.alloc [.int .i64 0,.int .i64 0,.sl true 5 []])::Qal6) [1,3,5,7] Qbc5
def Qbq0:SC:=sR [vJ 3 0,vJ 5 2,fB 6 false] [1,3,5] Qbc6
def Qaa9:List RS:=[.tmp 6]
theorem Qbqh:mFn prog Qams 3 88 Qbq0 Qaa9=true:=by kernel_rfl
def Qaew:List Item:=[oJ 20 19]
def Qbc8:SC:=cT 20 (sR [fB 4 false] [4] .ret) .skip
def Qbc9:SC:=.reg [mJ 10 5,cJ 11 .add 10 1,mJ 5 11] [1,2,5]
def Qbda:SC:=.seq (.block 1 (.seq (.dreg 9 [0,1,2,3,4,5,6,7,8] ( mJ 12 1::mJ 13 5::iJ 14 1 12 13::lJ 15 14::fJ 16 1 2::lJ 17 16::cJ 18 .sub 17 1::aJ 19 Qbq [.t 15,kI 0,.t 18]::Qaew) [1,2,5,20]) Qbc8)) Qbc9
def Qa60:SC:=.seq (sR [mJ 6 5,mJ 7 1,nJ 8 7,bJ 9 .lss 6 8] [1,2,5,9] (cT 9 .skip (.exit 0))) Qbda
def Qbdb:SC:=sR [fB 4 true] [4] .ret
def Qbdc:SC:=.seq (sR [zJ 5 0] [1,2,5] (bL 0 Qa60)) Qbdb
def Qbm4:SC:=sR [vJ 2 0,fB 4 false] [1,2] Qbdc
def Qanw:List RS:=[.tmp 4]
theorem Qblv:mFn prog Qyb 2 21 Qbm4 Qanw=true:=by kernel_rfl
def Qafi:List Item:=[bJ 33 .add 26 32,mJ 3 33]
def Qafj:List Item:=.chk 29 none (.iad 5 (.t 27) (.t 28))::hJ 31 30::bJ 26 .add 19 25::aJ 32 Qpb [.t 31]::Qafi
def Qafk:List Item:=.chk 22 none (.iad 5 (.t 20) (.t 21))::hJ 24 23::.chk 29 none (.iad 5 (.t 27) (.t 28))::hJ 31 30::bJ 19 .add 11 18::aJ 25 Qpb [.t 24]::Qafj
def Qbdj:SC:=.reg [mJ 9 4,cJ 10 .add 9 1,mJ 4 10] [0,3,4]
def Qbdk:SC:=.seq (.block 1 (.dreg 24 [0,1,2,3,4,5,6,9,10,11,12,13,16,17,18,19,20,7,11,13,18,20,8,14,18,20,15,21,22,23] ( mJ 11 3::mJ 12 0::mJ 13 4::iJ 14 5 12 13::fJ 15 0 14::lJ 16 15::cJ 17 .eql 16 1::mJ 20 0::mJ 21 4::iJ 22 5 20 21::fJ 23 3 22::lJ 24 23::mJ 27 0::mJ 28 4::iJ 29 5 27 28::fJ 30 4 29::lJ 31 30::aJ 18 Q1h [.t 17]::Qafk) [0,3,4])) Qbdj
def Qa7o:SC:=.seq (sR [mJ 5 4,mJ 6 0,nJ 7 6,bJ 8 .lss 5 7] [0,3,4,8] (cT 8 .skip (.exit 0))) Qbdk
def Qbdl:SC:=sR [mJ 34 3,mJ 2 34] [2] .ret
def Qbdm:SC:=.seq (sR [zJ 4 0] [0,3,4] (bL 0 Qa7o)) Qbdl
def Qbdn:SC:=sR [zJ 3 0] [0,3] Qbdm
def Qbnb:SC:=sR [zJ 2 0] [0] Qbdn
def Qa9a:List RS:=[.tmp 2]
theorem Qbly:mFn prog Qpb 1 35 Qbnb Qa9a=true:=by kernel_rfl
def Qn8:List Item:=[kJ 15 3,fJ 16 1 15,fJ 17 2 16,sJ 1 17 14]
def Qafl:SC:=sR [mJ 18 0,kJ 19 18,fJ 20 1 19,fJ 21 2 20,lJ 22 21,nJ 23 22,cJ 24 .sub 23 1,mJ 2 24] [2] .ret
def Qafm:SC:=sR (mJ 3 0::mJ 4 0::kJ 5 4::fJ 6 1 5::fJ 7 2 6::lJ 8 7::fI 9 (.bsl 2 [])::fI 10 (.bsl 4 [])::fI 11 (.bsl 1 [])::fI 12 (.bld [.sl true 2 [],.sl true 4 [],.int .i64 0,.int .i64 0,.sl true 1 []] [(0,1,.t 9),(1,1,.t 10),(4,1,.t 11)])::fI 13 (.bsl 5 [.t 12])::xJ 14 5 8 13::Qn8) [0] Qafl
def Qaqi:SC:=sR [zJ 2 0] [0] Qafm
def Qyy:List RS:=[.tmp 2]
theorem Qanj:mFn prog Qap 1 25 Qaqi Qyy=true:=by kernel_rfl
def Qagl:SC:=.reg [mJ 15 5,cJ 16 .add 15 1,mJ 5 16] [0,1,4,5]
def Qagm:SC:=.seq (.block 1 (.reg [mJ 17 0,mJ 18 1,mJ 19 5,iJ 20 5 18 19,tJ 21 5 20,aJ 22 Ql2 [.t 17,.t 21]] [0,1,4,5])) Qagl
def Q8g:SC:=.seq (sR [mJ 11 5,mJ 12 1,nJ 13 12,bJ 14 .lss 11 13] [0,1,4,5,14] (cT 14 .skip (.exit 0))) Qagm
def Qagn:SC:=.reg [mJ 23 0,mJ 24 0,kJ 25 24,fJ 26 5 25,lJ 27 26,mJ 28 4,fI 29 (.sli 3 (.t 27) none (some (.t 28))),kJ 30 23,fJ 31 5 30,sJ 1 31 29] []
def Qago:SC:=.seq (sR [zJ 5 0] [0,1,4,5] (bL 0 Q8g)) Qagn
def Qaqs:SC:=sR [mJ 6 0,kJ 7 6,fJ 8 5 7,lJ 9 8,nJ 10 9,mJ 4 10] [0,1,4] Qago
def Ql9:List RS:=[]
theorem Qanl:mFn prog Qcj 2 32 Qaqs Ql9=true:=by kernel_rfl
def Qwh:List Item:=[kJ 34 22,fJ 35 1 34,sJ 1 35 33]
def Qaqk:SC:=sR [mJ 36 2,mJ 10 36] [10] .ret
def Qaql:SC:=sR (mJ 22 11::mJ 23 11::kJ 24 23::fJ 25 1 24::lJ 26 25::mJ 27 1::mJ 28 2::mJ 29 4::mJ 30 3::fI 31 (.bld [.int .i64 0,.int .i64 0,.sl true 1 [],.int .i64 0] [(0,1,.t 27),(1,1,.t 28),(2,1,.t 29),(3,1,.t 30)])::fI 32 (.bsl 4 [.t 31])::xJ 33 4 26 32::Qwh) [2] Qaqk
def Qaqm:SC:=.seq (.dreg 11 [0,1,2,3,4,5,6,7,8,9,10] ( mJ 12 0::kJ 13 12::fJ 14 1 13::fJ 15 2 14::lJ 16 15::mJ 17 0::kJ 18 17::fJ 19 4 18::lJ 20 19::iJ 21 5 16 20::mJ 11 21::[]) [1,2,3,4,11]) Qaql
def Qa7q:SC:=sR [zJ 10 0] [0,1,2,3,4] Qaqm
def Qabc:List RS:=[.tmp 10]
theorem Qa1m:mFn prog Qat 5 37 Qa7q Qabc=true:=by kernel_rfl
def Qafy:SC:=sR [mJ 13 0,kJ 14 13,fJ 15 1 14,fJ 16 1 15,lJ 17 16,cJ 18 .sub 17 1,mJ 2 18] [2] .ret
def Qafz:SC:=sR [mJ 3 0,mJ 4 0,kJ 5 4,fJ 6 1 5,fJ 7 1 6,lJ 8 7,cJ 9 .add 8 1,kJ 10 3,fJ 11 1 10,fJ 12 1 11,sJ 1 12 9] [0] Qafy
def Qaqj:SC:=sR [zJ 2 0] [0] Qafz
def Qyz:List RS:=[.tmp 2]
theorem Qank:mFn prog Qa5 1 19 Qaqj Qyz=true:=by kernel_rfl
def Qakj:SC:=.reg [mJ 33 0,mJ 34 4,kJ 35 33,fJ 36 4 35,sJ 1 36 34] []
def Qakk:SC:=sR [mJ 29 10,mJ 30 3,kJ 31 29,fJ 32 4 31,sJ 1 32 30] [0,4] Qakj
def Qakl:SC:=sR [mJ 25 10,mJ 26 2,kJ 27 25,fJ 28 3 27,sJ 1 28 26] [0,3,4,10] Qakk
def Qakm:SC:=sR [mJ 21 10,mJ 22 1,kJ 23 21,fJ 24 2 23,sJ 1 24 22] [0,2,3,4,10] Qakl
def Qazj:SC:=.seq (.dreg 11 [0,1,2,3,4,5,6,7,8,9,10] ( mJ 11 0::kJ 12 11::fJ 13 1 12::fJ 14 2 13::lJ 15 14::mJ 16 0::kJ 17 16::fJ 18 4 17::lJ 19 18::iJ 20 5 15 19::mJ 10 20::[]) [0,1,2,3,4,10]) Qakm
def Q3k:List RS:=[]
theorem Qasn:mFn prog Qa1 5 37 Qazj Q3k=true:=by kernel_rfl
def Qni:List Item:=[mJ 7 18]
def Qnj:List Item:=[mJ 6 34]
def Qnk:List Item:=xJ 34 5 30 33::Qnj
def Qacz:SC:=.reg [mJ 28 7,cJ 29 .sub 28 1,mJ 7 29] [0,1,5,6,7]
def Qac0:SC:=.seq (.block 1 (.reg (mJ 30 6::mJ 31 0::mJ 32 1::aJ 33 Qly [.t 31,.t 32]::Qnk) [0,1,5,6,7])) Qacz
def Q7v:SC:=.seq (sR [mJ 19 7,cJ 20 .gtr 19 0,mJ 21 20,gTm 22 21 0,gT 23 21 (.nck (.t 22)),gTf 24 21 4 23,gTl 25 21 24,gT 26 21 (.bin 0 .gtr (.t 25) (kI 0)),pF 27 21 26] [0,1,5,6,7,27] (cT 27 .skip (.exit 0))) Qac0
def Qac1:SC:=sR [mJ 39 6,mJ 4 39] [4] .ret
def Qac2:SC:=sR [mJ 35 0,mJ 36 5,kJ 37 35,fJ 38 2 37,sJ 1 38 36] [6] Qac1
def Qac3:SC:=.seq (sR (mJ 13 0::kJ 14 13::fJ 15 0 14::lJ 16 15::fI 17 (.bsl 1 [kI 2,kI 3,kI 1,kI 4])::aJ 18 Qad [.t 16,.t 17]::Qni) [0,1,5,6,7] (bL 0 Q7v)) Qac2
def Qac4:SC:=sR [fI 12 (.bsl 5 []),mJ 6 12] [0,1,5,6] Qac3
def Q7u:SC:=sR [mJ 8 0,kJ 9 8,fJ 10 2 9,lJ 11 10,mJ 5 11] [0,1,5] Qac4
def Qap1:SC:=sR [fI 4 (.mv (.k (.c (.sl true 5 []))))] [0,1] Q7u
def Qyv:List RS:=[.tmp 4]
theorem Qanf:mFn prog Qch 2 40 Qap1 Qyv=true:=by kernel_rfl
def Qr2:List Item:=[hJ 12 11,hJ 16 15,sJ 4 5 18]
def Qr3:List Item:=eI 5 (.alloc [.int .i64 0,.int .i64 0,.str [],.sl true 4 []])::Qr2
def Qia:List Item:=[gF 31 25 (.bin 0 .gtr (.t 30) (kI 0)),pT 32 25 31]
def s_l3Gen_expr_3:SC:=cT 32 (sR [tJ 33 4 5,sJ 4 4 33] [4] .ret) .skip
def Qr4:List Item:=[hJ 37 36,hJ 41 40,hJ 45 44,.chk 46 none (.len (.t 45)),.chk 48 none (.iad 3 (.t 37) (.t 47)),.chk 49 none (.ld 3 true (.t 48)),sJ 3 6 49]
def Qr5:List Item:=hJ 37 36::iJ 48 3 37 47::tJ 49 3 48::eI 6 (.alloc [.str [],.sl true 1 [],.sl true 5 []])::Qr4
def Qr6:List Item:=[sJ 4 7 52]
def Qr7:List Item:=[fJ 73 3 7,sJ 1 73 72]
def Qr8:List Item:=hJ 61 60::fI 71 (.bsl 4 [.t 70])::xJ 72 4 61 71::Qr7
def Qajr:SC:=.reg [mJ 58 8,cJ 59 .add 58 1,mJ 8 59] [0,4,6,7,8]
def Qac5:SC:=.seq (.block 1 (.dreg 15 [0,1,2,3,4,5,6,7,8,9,10,1,11,12,13,14] ( fJ 60 3 7::lJ 61 60::mJ 62 0::kJ 63 62::fJ 64 0 63::lJ 65 64::mJ 66 0::kJ 67 66::fJ 68 2 67::lJ 69 68::aJ 70 Qfk [.t 65,.t 69,kI 2]::Qr8) [0,4,6,7,8])) Qajr
def Q7w:SC:=.seq (sR [mJ 53 8,fJ 54 1 6,lJ 55 54,nJ 56 55,bJ 57 .lss 53 56] [0,4,6,7,8,57] (cT 57 .skip (.exit 0))) Qac5
def Qnl:List Item:=[cJ 79 .eql 78 0]
def Qac6:SC:=cT 79 (sR [tJ 80 4 7,sJ 4 4 80] [4] .ret) .skip
def Qnm:List Item:=[.chk 87 none (.ld 4 true (.t 7)),fI 97 (.bsl 4 [.t 87,.t 96]),fI 98 (.bld [.int .i64 0,.int .i64 0,.str [],.sl true 4 []] [(0,1,.t 86),(3,1,.t 97)]),sJ 4 4 98]
def Qnn:List Item:=.chk 87 none (.ld 4 true (.t 7))::hJ 91 90::hJ 95 94::aJ 96 Qfk [.t 91,.t 95,kI 2]::Qnm
def Qac7:SC:=.seq (.dreg 19 [0,1,2,3,4,6,7,8,9,10,11,12,13,14,5,6,10,14,15,6,16,17,18] ( mJ 81 0::kJ 82 81::fJ 83 0 82::lJ 84 83::fI 85 (.bsl 1 [kI 3,kI 4,kI 8,kI 10])::tJ 87 4 7::mJ 88 0::kJ 89 88::fJ 90 0 89::lJ 91 90::mJ 92 0::kJ 93 92::fJ 94 2 93::lJ 95 94::aJ 86 Qad [.t 84,.t 85]::Qnn) [4]) .ret
def Qac8:SC:=.seq (sR (mJ 74 0::kJ 75 74::fJ 76 0 75::lJ 77 76::aJ 78 Qt [.t 77,kI 2]::Qnl) [0,4,7,79] Qac6) Qac7
def Qac9:SC:=.seq (sR [zJ 8 0] [0,4,6,7,8] (bL 0 Q7w)) Qac8
def Qada:SC:=sR (fJ 50 0 6::lJ 51 50::fI 52 (.bld [.int .i64 0,.int .i64 0,.str [],.sl true 4 []] [(0,1,kI 13),(2,1,.t 51)])::eI 7 (.alloc [.int .i64 0,.int .i64 0,.str [],.sl true 4 []])::Qr6) [0,4,6,7] Qac9
def Qr1:SC:=.seq (.dreg 16 [0,1,2,3,4,5,6,7,8,9,10,11,12,13,3,14,15,16,3,7,11,12,14,15,17] ( mJ 34 0::kJ 35 34::fJ 36 1 35::lJ 37 36::mJ 38 0::kJ 39 38::fJ 40 0 39::lJ 41 40::mJ 42 0::kJ 43 42::fJ 44 1 43::lJ 45 44::nJ 46 45::aJ 47 Qt [.t 41,.t 46]::Qr5) [0,4,6]) Qada
def Qadb:SC:=.seq (sR (mJ 19 0::kJ 20 19::fJ 21 1 20::lJ 22 21::nJ 23 22::cJ 24 .eql 23 0::mJ 25 24::gFm 26 25 0::gF 27 25 (.nck (.t 26))::gFf 28 25 0 27::gFl 29 25 28::.e (some 30) (some (25,false)) (.call Qt [.t 29,kI 4])::Qia) [0,4,5,32] s_l3Gen_expr_3) Qr1
def Qadc:SC:=.seq (.dreg 10 [0,1,2,3,4,5,6,7,8,9,10,3,7,11] ( mJ 9 0::kJ 10 9::fJ 11 0 10::lJ 12 11::mJ 13 0::kJ 14 13::fJ 15 2 14::lJ 16 15::mJ 17 1::aJ 18 Qfk [.t 12,.t 16,.t 17]::Qr3) [0,4,5]) Qadb
def Qayb:SC:=sR [eI 4 (.alloc [.int .i64 0,.int .i64 0,.str [],.sl true 4 []])] [0,1,4] Qadc
def Qiw:List RS:=[.cell 4 4 true]
theorem Qash:mFn prog Qbc 2 99 Qayb Qiw=true:=by kernel_rfl
def Qax8:List Item:=[oJ 17 16]
def Qbms:SC:=cT 17 (sR [fB 2 false] [2] .ret) .skip
def Qbmt:SC:=.reg [mJ 9 3,cJ 10 .add 9 1,mJ 3 10] [1,3]
def Qbmu:SC:=.seq (.block 1 (sR (fJ 11 1 1::lJ 12 11::mJ 13 3::iJ 14 1 12 13::lJ 15 14::aJ 16 Qds [.t 15]::Qax8) [1,3,17] Qbms)) Qbmt
def Qbiq:SC:=.seq (sR [mJ 4 3,fJ 5 1 1,lJ 6 5,nJ 7 6,bJ 8 .lss 4 7] [1,3,8] (cT 8 .skip (.exit 0))) Qbmu
def Qacy:List Item:=[pF 31 27 30,mJ 2 31]
def Qax9:List Item:=mJ 21 20::gTf 22 21 1 1::gTl 23 21 22::gT 24 21 (.len (.t 23))::gT 25 21 (.bin 0 .leq (.t 24) (kI 3))::pF 26 21 25::mJ 27 26::gTf 28 27 2 1::gTl 29 27 28::.e (some 30) (some (27,true)) (.call Qj6 [.t 29,kI 4])::Qacy
def Qbmv:SC:=sR (fJ 18 0 1::lJ 19 18::aJ 20 Qds [.t 19]::Qax9) [2] .ret
def Qbmw:SC:=.seq (sR [zJ 3 0] [1,3] (bL 0 Qbiq)) Qbmv
def Qbss:SC:=sR [vJ 1 0,fB 2 false] [1] Qbmw
def Qbg5:List RS:=[.tmp 2]
theorem Qbsh:mFn prog Qa00 1 32 Qbss Qbg5=true:=by kernel_rfl
def Qal3:List Item:=[bJ 20 .add 12 19,mJ 3 20]
def Qbik:SC:=.reg [mJ 10 4,cJ 11 .add 10 1,mJ 4 11] [1,3,4]
def Qbil:SC:=.seq (.block 1 (.reg (mJ 12 3::fJ 13 0 1::lJ 14 13::mJ 15 4::iJ 16 3 14 15::fJ 17 2 16::lJ 18 17::aJ 19 Qj5 [.t 18]::Qal3) [1,3,4])) Qbik
def Qbb7:SC:=.seq (sR [mJ 5 4,fJ 6 0 1,lJ 7 6,nJ 8 7,bJ 9 .lss 5 8] [1,3,4,9] (cT 9 .skip (.exit 0))) Qbil
def Qbim:SC:=sR [mJ 21 3,mJ 2 21] [2] .ret
def Qbin:SC:=.seq (sR [zJ 4 0] [1,3,4] (bL 0 Qbb7)) Qbim
def Qbio:SC:=sR [zJ 3 0] [1,3] Qbin
def Qbqz:SC:=sR [vJ 1 0,zJ 2 0] [1] Qbio
def Qbg4:List RS:=[.tmp 2]
theorem Qbqg:mFn prog Qamr 1 22 Qbqz Qbg4=true:=by kernel_rfl
def Q56:List Item:=[mJ 5 4,gTm 6 5 0,gT 7 5 (.bin 0 .neq (.t 6) (kI 12)),pF 8 5 7,mJ 9 8,gTm 10 9 0,gT 11 9 (.bin 0 .neq (.t 10) (kI 13)),pF 12 9 11,mJ 2 12]
def Qa6u:SC:=sR (mJ 3 0::aJ 4 Qbq [.t 3,kI 1,kI 14]::Q56) [2] .ret
def Qbiv:SC:=sR [fB 2 false] [0] Qa6u
def Qas7:List RS:=[.tmp 2]
theorem Qbgo:mFn prog Qew 1 13 Qbiv Qas7=true:=by kernel_rfl
def Qad5:List Item:=[mJ 24 23,gFm 25 24 0,gF 26 24 (.bin 0 .eql (.t 25) (kI 12)),pT 27 24 26,mJ 21 27]
def Qbcq:SC:=cT 21 (sR [zJ 2 2] [2] .ret) .skip
def Qbcr:SC:=cT 6 (sR [zJ 2 1] [2] .ret) (sR (mJ 22 0::aJ 23 Qbq [.t 22,kI 3,kI 9]::Qad5) [21] Qbcq)
def Qbcs:SC:=cT 3 (sR [zJ 2 0] [2] .ret) (sR [mJ 7 0,cJ 8 .eql 7 2,mJ 9 8,gFm 10 9 0,gF 11 9 (.bin 0 .eql (.t 10) (kI 10)),pT 12 9 11,mJ 13 12,gFm 14 13 0,gF 15 13 (.bin 0 .eql (.t 14) (kI 11)),pT 16 13 15,mJ 17 16,gFm 18 17 0,gF 19 17 (.bin 0 .eql (.t 18) (kI 13)),pT 20 17 19,mJ 6 20] [0,6] Qbcr)
def Qbct:SC:=sR [zJ 2 (-1)] [2] .ret
def Qbcu:SC:=.seq (.block 0 (sR [mJ 4 0,cJ 5 .eql 4 1,mJ 3 5] [0,3] Qbcs)) Qbct
def Qbm0:SC:=sR [zJ 2 0] [0] Qbcu
def Qanv:List RS:=[.tmp 2]
theorem Qblr:mFn prog Qpa 1 28 Qbm0 Qanv=true:=by kernel_rfl
def Qa5n:SC:=cT 3 (sR [zJ 2 1] [2] .ret) .skip
def Qa5o:SC:=sR [zJ 2 0] [2] .ret
def Qa5p:SC:=.seq (sR [mJ 3 0] [3] Qa5n) Qa5o
def Qbis:SC:=sR [zJ 2 0] [0] Qa5p
def Qaa8:List RS:=[.tmp 2]
theorem Qbgm:mFn prog Q1h 1 4 Qbis Qaa8=true:=by kernel_rfl
def Qaku:SC:=cT 11 (sR [mJ 12 0,tJ 13 5 3,aJ 14 Ql1 [.t 12,.t 13]] [] .ret) .skip
def Qs8:List Item:=[mJ 4 32]
def Qs9:List Item:=fI 31 (.bsl 1 [.t 30])::xJ 32 1 23 31::Qs8
def Qakv:SC:=.reg [mJ 21 5,cJ 22 .add 21 1,mJ 5 22] [0,3,4,5]
def Qakw:SC:=.seq (.block 1 (.reg (mJ 23 4::mJ 24 0::fJ 25 2 3::lJ 26 25::mJ 27 5::iJ 28 4 26 27::tJ 29 4 28::aJ 30 Qb9 [.t 24,.t 29]::Qs9) [0,3,4,5])) Qakv
def Qagk:SC:=.seq (sR [mJ 16 5,fJ 17 2 3,lJ 18 17,nJ 19 18,bJ 20 .lss 16 19] [0,3,4,5,20] (cT 20 .skip (.exit 0))) Qakw
def Qta:List Item:=[kJ 58 44,fJ 59 5 58,sJ 1 59 57]
def Qakx:SC:=.reg [mJ 60 0,mJ 61 0,kJ 62 61,fJ 63 6 62,lJ 64 63,cJ 65 .add 64 1,kJ 66 60,fJ 67 6 66,sJ 1 67 65] []
def Qaky:SC:=.seq (.dreg 17 [0,1,2,3,4,5,6,7,8,9,10,11,12,13,14,15,16] ( mJ 44 0::mJ 45 0::kJ 46 45::fJ 47 5 46::lJ 48 47::fJ 49 1 3::lJ 50 49::mJ 51 0::kJ 52 51::fJ 53 6 52::lJ 54 53::fI 55 (.bld [.str [],.int .i64 0,.int .i64 0] [(0,1,.t 50),(1,1,.t 54),(2,1,kI 0)])::fI 56 (.bsl 3 [.t 55])::xJ 57 3 48 56::Qta) [0]) Qakx
def Qtb:List Item:=[mJ 75 4,aJ 76 Qat [.t 70,kI 2,.t 74,kI 0,.t 75]]
def Qoi:List Item:=[.chk 91 none (.iad 1 (.t 90) (kI 0)),hJ 92 91,aJ 96 Qa1 [.t 89,kI 3,.t 92,.t 93,.t 95]]
def Qoj:List Item:=[mJ 6 100]
def Qok:List Item:=[mJ 7 102]
def Qol:List Item:=[mJ 8 104]
def Qaf2:SC:=.reg [mJ 127 0,mJ 128 8,fI 129 (.bsl 1 [.t 128]),mJ 130 8,aJ 131 Qa1 [.t 127,kI 1,kI 0,.t 129,.t 130]] []
def Qaf3:SC:=sR [mJ 123 0,fJ 124 4 3,lJ 125 124,aJ 126 Qcj [.t 123,.t 125]] [0,8] Qaf2
def Qaf4:SC:=sR [mJ 118 0,mJ 119 8,fI 120 (.bsl 1 [.t 119]),mJ 121 7,aJ 122 Qa1 [.t 118,kI 1,kI 0,.t 120,.t 121]] [0,3,8] Qaf3
def Qaf5:SC:=sR [mJ 114 0,fJ 115 3 3,lJ 116 115,aJ 117 Qcj [.t 114,.t 116]] [0,3,7,8] Qaf4
def Qaf6:SC:=sR [mJ 105 0,mJ 106 4,fI 107 (.iad 1 (.t 106) (kI 0)),lJ 108 107,mJ 109 6,mJ 110 7,fI 111 (.bsl 1 [.t 109,.t 110]),mJ 112 6,aJ 113 Qa1 [.t 105,kI 2,.t 108,.t 111,.t 112]] [0,3,7,8] Qaf5
def Qaf7:SC:=sR (mJ 103 0::aJ 104 Qap [.t 103]::Qol) [0,3,4,6,7,8] Qaf6
def Qaf8:SC:=sR (mJ 101 0::aJ 102 Qap [.t 101]::Qok) [0,3,4,6,7] Qaf7
def Qaf9:SC:=cT 97 (sR (mJ 99 0::aJ 100 Qap [.t 99]::Qoj) [0,3,4,6] Qaf8) .skip
def Qaga:SC:=cT 87 (.dreg 8 [0,1,2,3,4,5,6,2,3,7] ( mJ 89 0::mJ 90 4::fI 91 (.iad 1 (.t 90) (kI 0))::lJ 92 91::fI 93 (.bsl 1 [])::mJ 94 0::aJ 95 Qap [.t 94]::Qoi) []) (sR [cJ 98 .eql 34 5,mJ 97 98] [0,3,4,97] Qaf9)
def Qagb:SC:=cT 82 (.reg [mJ 84 0,mJ 85 4,aJ 86 Qat [.t 84,kI 12,kI (-1),kI 0,.t 85]] []) (sR [cJ 88 .eql 34 7,mJ 87 88] [0,3,4,34,87] Qaga)
def Qagc:SC:=cT 77 (.reg [mJ 79 0,mJ 80 4,aJ 81 Qat [.t 79,kI 13,kI (-1),kI 0,.t 80]] []) (sR [cJ 83 .eql 34 4,mJ 82 83] [0,3,4,34,82] Qagb)
def Qagd:SC:=cT 68 (.reg (mJ 70 0::mJ 71 0::fJ 72 1 3::lJ 73 72::aJ 74 Qim [.t 71,.t 73]::Qtb) []) (sR [cJ 78 .eql 34 3,mJ 77 78] [0,3,4,34,77] Qagc)
def Qage:SC:=cT 35 (sR [mJ 37 0,mJ 38 0,kJ 39 38,fJ 40 6 39,lJ 41 40,mJ 42 4,aJ 43 Qat [.t 37,kI 2,.t 41,kI 0,.t 42]] [0,3] Qaky) (sR [cJ 69 .eql 34 2,mJ 68 69] [0,3,4,34,68] Qagd)
def Qagf:SC:=.block 2 (sR [cJ 36 .eql 34 1,mJ 35 36] [0,3,4,34,35] Qage)
def Qagg:SC:=.seq (.seq .gh (.reg [fJ 33 0 3,lJ 34 33] [0,3,4,34])) Qagf
def Qagh:SC:=.seq (sR [zJ 5 0] [0,3,4,5] (bL 0 Qagk)) Qagg
def Qagi:SC:=sR [fI 15 (.bsl 1 []),mJ 4 15] [0,3,4] Qagh
def Qagj:SC:=.seq (sR [fJ 9 0 3,lJ 10 9,cJ 11 .eql 10 6] [0,3,11] Qaku) Qagi
def Qazl:SC:=sR [vJ 3 1] [0,3] Qagj
def Qpu:List RS:=[]
theorem Qasp:mFn prog Ql2 2 132 Qazl Qpu=true:=by kernel_rfl
def Qsj:List Item:=[mJ 5 19]
def Qsk:List Item:=[fI 42 (.bsl 4 [.t 41]),fI 43 (.bld [.int .i64 0,.str [],.sl true 4 [],.sl true 5 [],.sl true 5 []] [(0,1,kI 2),(1,1,.t 39),(2,1,.t 42)]),fI 44 (.bsl 5 [.t 43]),mJ 4 44]
def Qsl:List Item:=aJ 41 Qbc [.t 40,kI 3]::Qsk
def Qsm:List Item:=[fI 52 (.bsl 5 [.t 51]),mJ 4 52]
def Qsn:List Item:=aJ 51 Qil [.t 48,.t 50]::Qsm
def Qso:List Item:=[fI 62 (.bsl 4 [.t 61]),fI 63 (.bld [.int .i64 0,.str [],.sl true 4 [],.sl true 5 [],.sl true 5 []] [(0,1,kI 3),(2,1,.t 62)]),fI 64 (.bsl 5 [.t 63]),mJ 4 64]
def Qsp:List Item:=[fI 72 (.bsl 4 [.t 69,.t 71]),fI 73 (.bld [.int .i64 0,.str [],.sl true 4 [],.sl true 5 [],.sl true 5 []] [(0,1,kI 4),(2,1,.t 72)]),fI 74 (.bsl 5 [.t 73]),mJ 4 74]
def Qsq:List Item:=mJ 70 0::aJ 71 Qbc [.t 70,kI 2]::Qsp
def Qsr:List Item:=[fI 80 (.bsl 4 [.t 79]),fI 81 (.bld [.int .i64 0,.int .i64 0,.str [],.sl true 4 []] [(0,1,kI 12),(3,1,.t 80)]),fI 82 (.bsl 4 [.t 81]),fI 83 (.bld [.int .i64 0,.str [],.sl true 4 [],.sl true 5 [],.sl true 5 []] [(0,1,kI 3),(2,1,.t 82)]),fI 84 (.bsl 5 [.t 83]),mJ 4 84]
def Qss:List Item:=[sJ 5 6 95]
def Qnq:List Item:=fI 95 (.bld [.int .i64 0,.str [],.sl true 4 [],.sl true 5 [],.sl true 5 []] [(0,1,kI 5),(2,1,.t 90),(3,1,.t 94)])::eI 6 (.alloc [.int .i64 0,.str [],.sl true 4 [],.sl true 5 [],.sl true 5 []])::Qss
def Qnr:List Item:=fI 90 (.bsl 4 [.t 89])::mJ 91 0::mJ 92 1::cJ 93 .sub 92 1::aJ 94 Qch [.t 91,.t 93]::Qnq
def Qns:List Item:=[cJ 101 .eql 100 0]
def Qnt:List Item:=[fJ 106 4 6,sJ 1 106 105]
def Qadk:SC:=cT 101 (.reg (mJ 102 0::mJ 103 1::cJ 104 .sub 103 1::aJ 105 Qch [.t 102,.t 104]::Qnt) [6]) .skip
def Qsh:SC:=sR [tJ 107 5 6,fI 108 (.bsl 5 [.t 107]),mJ 4 108] [4] .ret
def Qadl:SC:=.seq (sR (mJ 96 0::kJ 97 96::fJ 98 0 97::lJ 99 98::aJ 100 Qt [.t 99,kI 2]::Qns) [0,1,6,101] Qadk) Qsh
def Qf8:List Item:=[gT 118 112 (.bin 0 .eql (.t 117) (kI 0)),pF 119 112 118,mJ 109 119]
def Qnu:List Item:=[fI 122 (.bsl 4 [.t 121]),fI 123 (.bld [.int .i64 0,.str [],.sl true 4 [],.sl true 5 [],.sl true 5 []] [(0,1,kI 7),(2,1,.t 122)]),fI 124 (.bsl 5 [.t 123]),mJ 4 124]
def Qsi:SC:=cT 109 (sR (mJ 120 0::aJ 121 Qbc [.t 120,kI 2]::Qnu) [4] .ret) .skip
def Qadm:SC:=cT 85 (sR (mJ 88 0::aJ 89 Qbc [.t 88,kI 3]::Qnr) [0,1,6] Qadl) (sR (mJ 110 5::cJ 111 .eql 110 11::mJ 112 111::gTm 113 112 0::gT 114 112 (.nck (.t 113))::gTf 115 112 0 114::gTl 116 112 115::.e (some 117) (some (112,true)) (.call Qt [.t 116,kI 3])::Qf8) [0,1,109] Qsi)
def Qadn:SC:=cT 75 (sR (mJ 78 0::aJ 79 Qgy [.t 78]::Qsr) [4] .ret) (sR [mJ 86 5,cJ 87 .lss 86 11,mJ 85 87] [0,1,5,85] Qadm)
def Qado:SC:=cT 65 (sR (mJ 68 0::aJ 69 Qgy [.t 68]::Qsq) [4] .ret) (sR [mJ 76 5,cJ 77 .eql 76 8,mJ 75 77] [0,1,5,75] Qadn)
def Qadp:SC:=cT 53 (sR (mJ 60 0::aJ 61 Qbc [.t 60,kI 3]::Qso) [4] .ret) (sR [mJ 66 5,cJ 67 .eql 66 7,mJ 65 67] [0,1,5,65] Qado)
def Qadq:SC:=cT 45 (sR (mJ 48 0::mJ 49 0::aJ 50 Qbc [.t 49,kI 3]::Qsn) [4] .ret) (sR [mJ 54 5,cJ 55 .lss 54 7,mJ 56 55,gFm 57 56 1,gF 58 56 (.bin 0 .lss (.t 57) (kI 2)),pT 59 56 58,mJ 53 59] [0,1,5,53] Qadp)
def Qadr:SC:=cT 20 (.seq (.dreg 15 [0,1,2,3,4,5,6,7,9,8,10,11,12,13,14] ( mJ 31 0::kJ 32 31::fJ 33 0 32::lJ 34 33::mJ 35 0::kJ 36 35::fJ 37 2 36::lJ 38 37::mJ 40 0::aJ 39 Qhm [.t 34,.t 38]::Qsl) [4]) .ret) (sR [mJ 46 5,cJ 47 .lss 46 5,mJ 45 47] [0,1,5,45] Qadq)
def Qnv:List Item:=[mJ 4 127]
def Qib:SC:=sR (mJ 125 0::mJ 126 1::aJ 127 Qlx [.t 125,.t 126]::Qnv) [4] .ret
def Qads:SC:=.seq (.block 0 (sR [mJ 21 5,cJ 22 .lss 21 3,mJ 23 22,gTm 24 23 0,gT 25 23 (.nck (.t 24)),gTf 26 23 2 25,gTl 27 23 26,gT 28 23 (.len (.t 27)),gT 29 23 (.bin 0 .gtr (.t 28) (kI 0)),pF 30 23 29,mJ 20 30] [0,1,5,20] Qadr)) Qib
def Qadt:SC:=sR (mJ 15 0::kJ 16 15::fJ 17 0 16::lJ 18 17::aJ 19 Qt [.t 18,kI 13]::Qsj) [0,1,5] Qads
def Qadu:SC:=sR [mJ 7 0,mJ 8 0,kJ 9 8,fJ 10 4 9,lJ 11 10,cJ 12 .sub 11 1,kJ 13 7,fJ 14 4 13,sJ 1 14 12] [0,1] Qadt
def Qayf:SC:=sR [fI 4 (.mv (.k (.c (.sl true 5 []))))] [0,1] Qadu
def Qbe:List RS:=[.tmp 4]
theorem Qasj:mFn prog Qly 2 128 Qayf Qbe=true:=by kernel_rfl
def Qxr:List Item:=[gF 13 10 (.bin 0 .eql (.t 12) (kI 0)),pT 14 10 13]
def Qacj:List Item:=[sJ 4 6 17]
def s_l2Expr_2:SC:=cT 14 (sR (mJ 15 0::mJ 16 1::aJ 17 Q9z [.t 15,.t 16]::Qacj) [6] .ret) .skip
def Qack:List Item:=[cJ 20 .eql 19 0]
def Qacl:List Item:=[fI 29 (.bsl 4 [.t 28]),fI 30 (.bld [.int .i64 0,.int .i64 0,.str [],.sl true 4 []] [(0,1,.t 23),(3,1,.t 29)]),sJ 4 6 30]
def Qacm:List Item:=mJ 24 0::mJ 25 1::mJ 26 2::cJ 27 .sub 26 1::aJ 28 Qfk [.t 24,.t 25,.t 27]::Qacl
def Qbbx:SC:=cT 20 (sR (mJ 21 0::fI 22 (.bsl 1 [kI 11,kI 12,kI 11])::aJ 23 Qad [.t 21,.t 22]::Qacm) [6] .ret) .skip
def Qacn:List Item:=[mJ 7 33]
def Qaco:List Item:=[fI 45 (.bsl 4 [.t 39,.t 44]),fI 46 (.bld [.int .i64 0,.int .i64 0,.str [],.sl true 4 []] [(0,1,.t 34),(3,1,.t 45)]),sJ 4 6 46]
def Qacp:List Item:=mJ 40 0::mJ 41 1::mJ 42 2::cJ 43 .sub 42 1::aJ 44 Qfk [.t 40,.t 41,.t 43]::Qaco
def Qa4a:SC:=sR (mJ 34 7::mJ 35 0::mJ 36 1::mJ 37 2::cJ 38 .sub 37 1::aJ 39 Qfk [.t 35,.t 36,.t 38]::Qacp) [6] .ret
def Qa4b:SC:=sR (mJ 31 0::fI 32 (.bsl 1 [kI 3,kI 3,kI 4,kI 5,kI 6,kI 7,kI 8,kI 9,kI 10])::aJ 33 Qad [.t 31,.t 32]::Qacn) [0,1,2,6,7] Qa4a
def Qaci:SC:=.seq (sR (mJ 18 0::aJ 19 Qt [.t 18,kI 7]::Qack) [0,1,2,6,20] Qbbx) Qa4b
def Qa4c:SC:=.seq (sR (mJ 8 2::cJ 9 .lss 8 2::mJ 10 9::gFm 11 10 0::.e (some 12) (some (10,false)) (.call Qt [.t 11,kI 4])::Qxr) [0,1,2,6,14] s_l2Expr_2) Qaci
def Qbmn:SC:=sR [eI 6 (.alloc [.int .i64 0,.int .i64 0,.str [],.sl true 4 []])] [0,1,2,6] Qa4c
def Q9b:List RS:=[.cell 6 4 true]
theorem Qblj:mFn prog Qfk 3 47 Qbmn Q9b=true:=by kernel_rfl
def Qj0:List Item:=[gT 13 10 (.not (.t 12)),pF 14 10 13,mJ 2 14]
def Qwi:List Item:=mJ 5 4::gTm 6 5 0::gT 7 5 (.lens (.t 6))::gT 8 5 (.bin 0 .leq (.t 7) (kI 4))::pF 9 5 8::mJ 10 9::gTm 11 10 0::.e (some 12) (some (10,true)) (.call Qamq [.t 11])::Qj0
def Qaqx:SC:=sR (mJ 3 0::aJ 4 Qamp [.t 3,kI 1]::Qwi) [2] .ret
def Qa7y:SC:=sR [fB 2 false] [0] Qaqx
def Qww:List RS:=[.tmp 2]
theorem Qa1o:mFn prog Qds 1 15 Qa7y Qww=true:=by kernel_rfl
def Q5m:List Item:=[oJ 18 17]
def Qa5h:SC:=cT 18 (sR [fB 4 false] [4] .ret) .skip
def Qa5i:SC:=.reg [mJ 10 5,cJ 11 .add 10 1,mJ 5 11] [0,1,5]
def Qa5j:SC:=.seq (.block 1 (sR (mJ 12 0::mJ 13 5::iJ 14 5 12 13::tJ 15 5 14::mJ 16 1::aJ 17 Q92 [.t 15,.t 16]::Q5m) [0,1,5,18] Qa5h)) Qa5i
def Qayh:SC:=.seq (sR [mJ 6 5,mJ 7 0,nJ 8 7,bJ 9 .lss 6 8] [0,1,5,9] (cT 9 .skip (.exit 0))) Qa5j
def Qa5k:SC:=sR [fB 4 true] [4] .ret
def Qa5l:SC:=.seq (sR [zJ 5 0] [0,1,5] (bL 0 Qayh)) Qa5k
def Qbir:SC:=sR [fB 4 false] [0,1] Qa5l
def Qaa7:List RS:=[.tmp 4]
theorem Qbgl:mFn prog Qj6 2 19 Qbir Qaa7=true:=by kernel_rfl
def Q5c:List Item:=[bJ 27 .add 20 26,mJ 3 27]
def Q5d:List Item:=.chk 23 none (.iad 5 (.t 21) (.t 22))::hJ 25 24::bJ 20 .add 13 19::aJ 26 Qj5 [.t 25]::Q5c
def Qa4v:SC:=.reg [mJ 11 4,cJ 12 .add 11 1,mJ 4 12] [0,3,4]
def Qa4w:SC:=.seq (.block 1 (.dreg 16 [0,1,2,3,4,5,8,9,10,11,12,6,10,12,7,13,14,15] ( mJ 13 3::mJ 14 0::mJ 15 4::iJ 16 5 14 15::fJ 17 3 16::lJ 18 17::mJ 21 0::mJ 22 4::iJ 23 5 21 22::fJ 24 4 23::lJ 25 24::aJ 19 Qj5 [.t 18]::Q5d) [0,3,4])) Qa4v
def Qax7:SC:=.seq (sR [mJ 7 4,mJ 8 0,nJ 9 8,bJ 10 .lss 7 9] [0,3,4,10] (cT 10 .skip (.exit 0))) Qa4w
def Qa4x:SC:=sR [mJ 28 3,mJ 2 28] [2] .ret
def Qa4y:SC:=.seq (sR [zJ 4 0] [0,3,4] (bL 0 Qax7)) Qa4x
def Qa4z:SC:=sR [mJ 5 0,nJ 6 5,mJ 3 6] [0,3] Qa4y
def Qbip:SC:=sR [zJ 2 0] [0] Qa4z
def Qas6:List RS:=[.tmp 2]
theorem Qbgk:mFn prog Qj5 1 29 Qbip Qas6=true:=by kernel_rfl
def Qs4:List Item:=[mJ 4 9]
def Qs5:List Item:=[mJ 5 11]
def Qs6:List Item:=[mJ 6 13]
def Qs7:List Item:=[mJ 7 24]
def Qakn:SC:=.reg [mJ 36 0,mJ 37 4,fI 38 (.bsl 1 [.t 37]),mJ 39 6,aJ 40 Qa1 [.t 36,kI 1,kI 0,.t 38,.t 39]] []
def Qako:SC:=sR [mJ 32 0,fJ 33 3 3,lJ 34 33,aJ 35 Qcj [.t 32,.t 34]] [0,4,6] Qakn
def Qakp:SC:=sR [mJ 25 0,mJ 26 7,mJ 27 5,mJ 28 6,fI 29 (.bsl 1 [.t 27,.t 28]),mJ 30 5,aJ 31 Qa1 [.t 25,kI 2,.t 26,.t 29,.t 30]] [0,3,4,6] Qako
def Qakq:SC:=sR (mJ 19 0::fJ 20 2 3::lJ 21 20::fI 22 (.iad 4 (.t 21) (kI 0))::tJ 23 4 22::aJ 24 Qb9 [.t 19,.t 23]::Qs7) [0,3,4,5,6,7] Qakp
def Qakr:SC:=sR [mJ 14 0,mJ 15 4,fI 16 (.bsl 1 [.t 15]),mJ 17 4,aJ 18 Qa1 [.t 14,kI 1,kI 0,.t 16,.t 17]] [0,3,4,5,6] Qakq
def Qaks:SC:=sR (mJ 12 0::aJ 13 Qap [.t 12]::Qs6) [0,3,4,5,6] Qakr
def Qaf0:SC:=sR (mJ 10 0::aJ 11 Qap [.t 10]::Qs5) [0,3,4,5] Qaks
def Qaf1:SC:=sR (mJ 8 0::aJ 9 Qap [.t 8]::Qs4) [0,3,4] Qaf0
def Qazk:SC:=sR [vJ 3 1] [0,3] Qaf1
def Q3l:List RS:=[]
theorem Qaso:mFn prog Ql1 2 41 Qazk Q3l=true:=by kernel_rfl
def Qsy:List Item:=[mJ 4 17]
def Qsz:List Item:=hJ 15 14::aJ 17 Qat [.t 11,kI 1,.t 13,.t 15,.t 16]::Qsy
def Qs0:List Item:=[mJ 4 23]
def Qs1:List Item:=[mJ 4 28]
def Qakf:SC:=cT 24 (sR (mJ 26 0::tJ 27 4 3::aJ 28 Qpc [.t 26,.t 27]::Qs1) [4] .ret) .skip
def Qakg:SC:=cT 18 (sR (mJ 20 0::fJ 21 2 3::lJ 22 21::aJ 23 Qim [.t 20,.t 22]::Qs0) [4] .ret) (sR [cJ 25 .eql 8 10,mJ 24 25] [0,3,24] Qakf)
def Qakh:SC:=cT 9 (.seq (.dreg 8 [0,1,3,4,5,2,4,6,7] ( mJ 11 0::mJ 12 0::fJ 14 1 3::lJ 15 14::fI 16 (.bsl 1 [])::aJ 13 Qa5 [.t 12]::Qsz) [4]) .ret) (sR [cJ 19 .eql 8 2,mJ 18 19] [0,3,8,18] Qakg)
def Qaki:SC:=.block 0 (sR [cJ 10 .eql 8 1,mJ 9 10] [0,3,8,9] Qakh)
def Qs2:List Item:=[mJ 5 46]
def Qs3:List Item:=fI 45 (.bsl 1 [.t 44])::xJ 46 1 37 45::Qs2
def Qafn:SC:=.reg [mJ 35 6,cJ 36 .add 35 1,mJ 6 36] [0,3,5,6]
def Qafo:SC:=.seq (.block 2 (.reg (mJ 37 5::mJ 38 0::fJ 39 3 3::lJ 40 39::mJ 41 6::iJ 42 4 40 41::tJ 43 4 42::aJ 44 Qb9 [.t 38,.t 43]::Qs3) [0,3,5,6])) Qafn
def Q8f:SC:=.seq (sR [mJ 30 6,fJ 31 3 3,lJ 32 31,nJ 33 32,bJ 34 .lss 30 33] [0,3,5,6,34] (cT 34 .skip (.exit 1))) Qafo
def Qn9:List Item:=[mJ 4 55]
def Qoa:List Item:=mJ 54 5::aJ 55 Qat [.t 51,kI 10,.t 53,kI 0,.t 54]::Qn9
def Qob:List Item:=[mJ 4 62]
def Qoc:List Item:=mJ 61 5::aJ 62 Qat [.t 58,kI 11,.t 60,kI 0,.t 61]::Qob
def Qod:List Item:=[mJ 4 76]
def Qoe:List Item:=aJ 76 Qat [.t 65,kI 14,.t 67,.t 74,.t 75]::Qod
def Qof:List Item:=.chk 71 none (.ld 1 true (.t 70))::hJ 73 72::aJ 74 Q1j [.t 71,.t 73]::Qoe
def Qafp:SC:=cT 63 (.seq (.dreg 13 [0,1,3,4,5,6,7,8,10,2,6,8,9,11,12] ( mJ 65 0::mJ 66 0::mJ 68 0::kJ 69 68::fJ 70 0 69::tJ 71 1 70::fJ 72 2 3::lJ 73 72::mJ 75 5::aJ 67 Qa5 [.t 66]::Qof) [4]) .ret) .skip
def Qafq:SC:=cT 56 (sR (mJ 58 0::mJ 59 0::aJ 60 Qa5 [.t 59]::Qoc) [4] .ret) (sR [cJ 64 .eql 48 13,mJ 63 64] [0,3,5,63] Qafp)
def Qafr:SC:=cT 49 (sR (mJ 51 0::mJ 52 0::aJ 53 Qa5 [.t 52]::Qoa) [4] .ret) (sR [cJ 57 .eql 48 12,mJ 56 57] [0,3,5,48,56] Qafq)
def Qafs:SC:=.block 3 (sR [cJ 50 .eql 48 11,mJ 49 50] [0,3,5,48,49] Qafr)
def Qog:List Item:=[mJ 4 83]
def Qoh:List Item:=hJ 79 78::aJ 83 Qat [.t 77,.t 79,.t 81,kI 0,.t 82]::Qog
def Qaft:SC:=.seq (.dreg 8 [0,1,2,3,5,4,2,6,7] ( mJ 77 0::fJ 78 0 3::lJ 79 78::mJ 80 0::mJ 82 5::aJ 81 Qa5 [.t 80]::Qoh) [4]) .ret
def Qafu:SC:=.seq (.seq (.seq .gh (.reg [fJ 47 0 3,lJ 48 47] [0,3,5,48])) Qafs) Qaft
def Qafv:SC:=.seq (sR [zJ 6 0] [0,3,5,6] (bL 1 Q8f)) Qafu
def Qafw:SC:=sR [fI 29 (.bsl 1 []),mJ 5 29] [0,3,5] Qafv
def Qafx:SC:=.seq (sR [fJ 7 0 3,lJ 8 7] [0,3,8] Qaki) Qafw
def Qazi:SC:=sR [vJ 3 1,zJ 4 0] [0,3] Qafx
def Qpt:List RS:=[.tmp 4]
theorem Qasm:mFn prog Qb9 2 84 Qazi Qpt=true:=by kernel_rfl
def Qaqn:SC:=cT 25 (sR [mJ 26 0,kJ 27 26,fJ 28 5 27,lJ 29 28,mJ 30 5,iJ 31 3 29 30,fJ 32 1 31,lJ 33 32,mJ 4 33] [4] .ret) .skip
def Qaqo:SC:=.reg [mJ 14 5,cJ 15 .sub 14 1,mJ 5 15] [0,1,5]
def Qaqp:SC:=.seq (.block 1 (sR [mJ 16 0,kJ 17 16,fJ 18 5 17,lJ 19 18,mJ 20 5,iJ 21 3 19 20,fJ 22 0 21,lJ 23 22,mJ 24 1,bJ 25 .eql 23 24] [0,1,5,25] Qaqn)) Qaqo
def Qakt:SC:=.seq (sR [mJ 12 5,cJ 13 .geq 12 0] [0,1,5,13] (cT 13 .skip (.exit 0))) Qaqp
def Qaqq:SC:=sR [zJ 4 (-1)] [4] .ret
def Qaqr:SC:=.seq (sR [mJ 6 0,kJ 7 6,fJ 8 5 7,lJ 9 8,nJ 10 9,cJ 11 .sub 10 1,mJ 5 11] [0,1,5] (bL 0 Qakt)) Qaqq
def Qa7r:SC:=sR [zJ 4 0] [0,1] Qaqr
def Qwv:List RS:=[.tmp 4]
theorem Qa1n:mFn prog Qim 2 34 Qa7r Qwv=true:=by kernel_rfl
def Q0g:List Item:=[iJ 10 1 5 9,lJ 11 10,mJ 4 11]
def Qax5:SC:=sR (mJ 5 1::mJ 6 0::mJ 7 1::nJ 8 7::aJ 9 Qt [.t 6,.t 8]::Q0g) [4] .ret
def Qbb6:SC:=sR [fI 4 (.mv (.k (.c (.str []))))] [0,1] Qax5
def Qalv:List RS:=[.tmp 4]
theorem Qba2:mFn prog Qhm 2 12 Qbb6 Qalv=true:=by kernel_rfl
def Qv6:List Item:=[mJ 5 7]
def Qv7:List Item:=[kJ 18 8,fJ 19 2 18,sJ 1 19 17]
def Qv8:List Item:=mJ 15 5::fI 16 (.bsl 1 [.t 15])::xJ 17 1 14 16::Qv7
def Qap7:SC:=sR [mJ 20 5,tJ 21 4 3,fI 22 (.bsl 4 [.t 21]),fI 23 (.bld [.int .i64 0,.str [],.sl true 4 [],.sl true 5 [],.sl true 5 []] [(0,1,kI 1),(1,1,.t 20),(2,1,.t 22)]),sJ 5 4 23] [4] .ret
def Qap8:SC:=sR (mJ 8 0::fI 9 (.bsl 1 [])::mJ 10 0::kJ 11 10::fJ 12 2 11::lJ 13 12::xJ 14 1 9 13::Qv8) [3,4,5] Qap7
def Qap9:SC:=sR (mJ 6 0::aJ 7 Qjh [.t 6]::Qv6) [0,3,4,5] Qap8
def Qa40:SC:=sR [vJ 3 1,eI 4 (.alloc [.int .i64 0,.str [],.sl true 4 [],.sl true 5 [],.sl true 5 []])] [0,3,4] Qap9
def Qaa6:List RS:=[.cell 4 5 true]
theorem Qa1k:mFn prog Qil 2 24 Qa40 Qaa6=true:=by kernel_rfl
def Qrz:List Item:=[fI 11 (.bld [.int .i64 0,.int .i64 0,.str [],.sl true 4 []] [(0,1,kI 1),(1,1,.t 10)]),fI 12 (.bsl 4 [.t 4,.t 11]),fI 13 (.bld [.int .i64 0,.int .i64 0,.str [],.sl true 4 []] [(0,1,kI 7),(3,1,.t 12)]),sJ 4 2 13]
def Qr0:List Item:=hJ 8 7::aJ 10 Qad [.t 8,.t 9]::Qrz
def Qajq:SC:=.seq (.dreg 12 [0,2,3,4,5,6,1,5,7,8,9,10,11] ( mJ 3 0::mJ 5 0::kJ 6 5::fJ 7 0 6::lJ 8 7::fI 9 (.bsl 1 [kI 16,kI 16,kI 16,kI 8,kI 17,kI 0])::aJ 4 Qbc [.t 3,kI 2]::Qr0) [2]) .ret
def Qaya:SC:=sR [eI 2 (.alloc [.int .i64 0,.int .i64 0,.str [],.sl true 4 []])] [0,2] Qajq
def Q3g:List RS:=[.cell 2 4 true]
theorem Qasg:mFn prog Qgy 1 14 Qaya Q3g=true:=by kernel_rfl
def Qsa:List Item:=[sJ 5 5 17]
def Qsb:List Item:=eI 5 (.alloc [.int .i64 0,.str [],.sl true 4 [],.sl true 5 [],.sl true 5 []])::Qsa
def Qsc:List Item:=fI 16 (.bld [.int .i64 0,.int .i64 0,.str [],.sl true 4 []] [(0,1,kI 1),(1,1,.t 15)])::aJ 17 Qil [.t 9,.t 16]::Qsb
def Qsd:List Item:=[sJ 4 6 20]
def Qse:List Item:=[mJ 7 24]
def Qsf:List Item:=[sJ 5 8 32]
def Qsg:List Item:=[.chk 41 none (.ld 5 true (.t 5)),.chk 42 none (.ld 4 true (.t 6)),fI 48 (.bld [.int .i64 0,.str [],.sl true 4 [],.sl true 5 [],.sl true 5 []] [(0,1,kI 6),(2,1,.t 43),(3,1,.t 47)]),fI 49 (.bsl 5 [.t 41,.t 48]),mJ 4 49]
def Qajs:SC:=.seq (.dreg 10 [0,1,2,3,4,5,6,0,1,7,8,9] ( tJ 41 5 5::tJ 42 4 6::fI 43 (.bsl 4 [.t 42])::mJ 44 7::tJ 45 5 8::fI 46 (.bsl 5 [.t 45])::xJ 47 5 44 46::Qsg) [4]) .ret
def Qajt:SC:=sR [mJ 33 0,mJ 34 0,kJ 35 34,fJ 36 4 35,lJ 37 36,cJ 38 .sub 37 2,kJ 39 33,fJ 40 4 39,sJ 1 40 38] [5,6,7,8] Qajs
def Qaju:SC:=sR (fJ 25 1 5::lJ 26 25::tJ 27 4 6::fI 28 (.bld [.int .i64 0,.int .i64 0,.str [],.sl true 4 []] [(0,1,kI 1),(1,1,kI 1)])::fI 29 (.bsl 4 [.t 27,.t 28])::fI 30 (.bld [.int .i64 0,.int .i64 0,.str [],.sl true 4 []] [(0,1,kI 4),(3,1,.t 29)])::fI 31 (.bsl 4 [.t 30])::fI 32 (.bld [.int .i64 0,.str [],.sl true 4 [],.sl true 5 [],.sl true 5 []] [(0,1,kI 2),(1,1,.t 26),(2,1,.t 31)])::eI 8 (.alloc [.int .i64 0,.str [],.sl true 4 [],.sl true 5 [],.sl true 5 []])::Qsf) [0,5,6,7,8] Qajt
def Qadh:SC:=sR (mJ 21 0::mJ 22 1::cJ 23 .sub 22 1::aJ 24 Qch [.t 21,.t 23]::Qse) [0,5,6,7] Qaju
def Qadi:SC:=sR (fJ 18 1 5::lJ 19 18::fI 20 (.bld [.int .i64 0,.int .i64 0,.str [],.sl true 4 []] [(0,1,kI 2),(2,1,.t 19)])::eI 6 (.alloc [.int .i64 0,.int .i64 0,.str [],.sl true 4 []])::Qsd) [0,1,5,6] Qadh
def Qadj:SC:=sR (mJ 9 0::mJ 10 0::kJ 11 10::fJ 12 0 11::lJ 13 12::fI 14 (.bsl 1 [kI 2,kI 3,kI 1,kI 0,kI 5])::aJ 15 Qad [.t 13,.t 14]::Qsc) [0,1,5] Qadi
def Qaye:SC:=sR [fI 4 (.mv (.k (.c (.sl true 5 []))))] [0,1] Qadj
def Q3h:List RS:=[.tmp 4]
theorem Qasi:mFn prog Qlx 2 50 Qaye Q3h=true:=by kernel_rfl
def Qxu:List Item:=[gF 11 8 (.bin 0 .eql (.t 10) (kI 0)),pT 12 8 11]
def Qacv:List Item:=[fI 16 (.bld [.int .i64 0,.int .i64 0,.str [],.sl true 4 []] [(0,1,kI 1),(1,1,.t 15)]),sJ 4 4 16]
def s_l2Leaf_2:SC:=cT 12 (sR (mJ 13 0::fI 14 (.bsl 1 [kI 0,kI 1,kI 2,kI 3,kI 5,kI 7,kI 15,kI 16,kI 100,kI 255])::aJ 15 Qad [.t 13,.t 14]::Qacv) [4] .ret) .skip
def Qacw:List Item:=[fI 20 (.bld [.int .i64 0,.int .i64 0,.str [],.sl true 4 []] [(0,1,kI 2),(2,1,.t 19)]),sJ 4 4 20]
def Qal2:SC:=sR (mJ 17 0::mJ 18 1::aJ 19 Qhm [.t 17,.t 18]::Qacw) [4] .ret
def Qbb5:SC:=.seq (sR (mJ 5 1::nJ 6 5::cJ 7 .eql 6 0::mJ 8 7::gFm 9 8 0::.e (some 10) (some (8,false)) (.call Qt [.t 9,kI 3])::Qxu) [0,1,4,12] s_l2Leaf_2) Qal2
def Qbmq:SC:=sR [eI 4 (.alloc [.int .i64 0,.int .i64 0,.str [],.sl true 4 []])] [0,1,4] Qbb5
def Q9c:List RS:=[.cell 4 4 true]
theorem Qblm:mFn prog Q9z 2 21 Qbmq Q9c=true:=by kernel_rfl
def Qaly:List Item:=[mJ 16 1,bJ 17 .neq 15 16]
def Qbh5:SC:=cT 17 (sR [fB 4 false] [4] .ret) .skip
def Qbh6:SC:=.reg [mJ 10 5,cJ 11 .add 10 1,mJ 5 11] [0,1,5]
def Qbh7:SC:=.seq (.block 1 (sR (mJ 12 0::mJ 13 5::fI 14 (.idx (.t 12) (.t 13))::aJ 15 Q1e [.t 14]::Qaly) [0,1,5,17] Qbh5)) Qbh6
def Qbbv:SC:=.seq (sR [mJ 6 5,mJ 7 0,fI 8 (.lens (.t 7)),bJ 9 .lss 6 8] [0,1,5,9] (cT 9 .skip (.exit 0))) Qbh7
def Qbh8:SC:=sR [mJ 18 0,fI 19 (.lens (.t 18)),cJ 20 .gtr 19 0,mJ 4 20] [4] .ret
def Qbh9:SC:=.seq (sR [zJ 5 0] [0,1,5] (bL 0 Qbbv)) Qbh8
def Qbqx:SC:=sR [fB 4 false] [0,1] Qbh9
def Qa1x:List RS:=[.tmp 4]
theorem Qbqe:mFn prog Qamp 2 21 Qbqx Qa1x=true:=by kernel_rfl
def Qalz:List Item:=[mJ 3 5]
def Qbib:SC:=cT 17 (sR [fB 2 true] [2] .ret) .skip
def Qbic:SC:=.reg [mJ 10 4,cJ 11 .add 10 1,mJ 4 11] [0,3,4]
def Qbid:SC:=.seq (.block 1 (sR [mJ 12 3,mJ 13 4,iJ 14 1 12 13,lJ 15 14,mJ 16 0,bJ 17 .eql 15 16] [0,3,4,17] Qbib)) Qbic
def Qbbw:SC:=.seq (sR [mJ 6 4,mJ 7 3,nJ 8 7,bJ 9 .lss 6 8] [0,3,4,9] (cT 9 .skip (.exit 0))) Qbid
def Qbie:SC:=sR [fB 2 false] [2] .ret
def Qbif:SC:=.seq (sR [zJ 4 0] [0,3,4] (bL 0 Qbbw)) Qbie
def Qbig:SC:=sR (aJ 5 Qjk []::Qalz) [0,3] Qbif
def Qbqy:SC:=sR [fB 2 false] [0] Qbig
def Qa1y:List RS:=[.tmp 2]
theorem Qbqf:mFn prog Qamq 1 18 Qbqy Qa1y=true:=by kernel_rfl
def Qmr:List Item:=[.chk 17 (some (15,false)) (.ld 1 false (.t 16)),.chk 18 (some (15,false)) (.len (.t 17)),gF 22 15 (.bin 0 .neq (.t 18) (.t 21)),pT 23 15 22]
def Qxv:List Item:=gF 13 9 (.not (.t 12))::pT 14 9 13::mJ 15 14::gFf 16 15 2 2::gFl 17 15 16::gF 18 15 (.len (.t 17))::gFf 19 15 0 2::gFl 20 15 19::.e (some 21) (some (15,false)) (.call Q90 [.t 20])::Qmr
def s_l3Stmt_2:SC:=cT 23 (sR [fB 4 false] [4] .ret) .skip
def Qad3:List Item:=[fI 36 (.bin 1 .neq (.t 32) (.t 35)),mJ 37 36,gFm 38 37 5,gF 39 37 (.not (.t 38)),gFm 40 37 39,gTf 41 40 1 2,gTl 42 40 41,gT 43 40 (.bin 0 .neq (.t 42) (.k (.c (.str [])))),gF 44 37 (.pick (.t 40) (.t 43) (.k (.c (.bool false)))),pT 45 37 44]
def Qbcf:SC:=cT 45 (sR [fB 4 false] [4] .ret) .skip
def Qad4:List Item:=[oJ 59 58]
def Qbcg:SC:=cT 59 (sR [fB 4 false] [4] .ret) .skip
def Qbch:SC:=.reg [mJ 51 6,cJ 52 .add 51 1,mJ 6 52] [1,2,6]
def Qbci:SC:=.seq (.block 1 (sR (fJ 53 2 2::lJ 54 53::mJ 55 6::iJ 56 4 54 55::tJ 57 4 56::aJ 58 Qhp [.t 57]::Qad4) [1,2,6,59] Qbcg)) Qbch
def Qa5g:SC:=.seq (sR [mJ 46 6,fJ 47 2 2,lJ 48 47,nJ 49 48,bJ 50 .lss 46 49] [1,2,6,50] (cT 50 .skip (.exit 0))) Qbci
def Qa48:SC:=cT 70 (sR [fB 4 false] [4] .ret) .skip
def Qa49:SC:=cT 95 (sR [fB 4 false] [4] .ret) .skip
def Qst:List Item:=[pF 107 101 106,mJ 4 107]
def Q5l:List Item:=mJ 101 100::gTf 102 101 4 2::gTl 103 101 102::gTm 104 101 1::gT 105 101 (.bin 0 .sub (.t 104) (kI 1))::.e (some 106) (some (101,true)) (.call Qj6 [.t 103,.t 105])::Qst
def Qa5a:SC:=sR (fJ 96 3 2::lJ 97 96::mJ 98 1::cJ 99 .sub 98 1::aJ 100 Qj6 [.t 97,.t 99]::Q5l) [4] .ret
def Qa5b:SC:=.seq (sR [fJ 71 4 2,lJ 72 71,nJ 73 72,cJ 74 .gtr 73 0,mJ 75 74,gTf 76 75 0 2,gTl 77 75 76,gT 78 75 (.bin 0 .neq (.t 77) (kI 5)),pF 79 75 78,mJ 80 79,gFf 81 80 3 2,gFl 82 80 81,gF 83 80 (.len (.t 82)),gF 84 80 (.bin 0 .gtr (.t 83) (kI 0)),gFm 85 80 84,gTf 86 85 0 2,gTl 87 85 86,gT 88 85 (.bin 0 .neq (.t 87) (kI 5)),gF 89 80 (.pick (.t 85) (.t 88) (.k (.c (.bool false)))),gFm 90 80 89,gTf 91 90 0 2,gTl 92 90 91,gT 93 90 (.bin 0 .neq (.t 92) (kI 6)),gF 94 80 (.pick (.t 90) (.t 93) (.k (.c (.bool false)))),pT 95 80 94] [1,2,95] Qa49) Qa5a
def Qa5c:SC:=.seq (sR [fJ 60 0 2,lJ 61 60,cJ 62 .eql 61 8,mJ 63 62,gTf 64 63 2 2,gTl 65 63 64,gT 66 63 (.iad 4 (.t 65) (kI 0)),gTf 67 63 0 66,gTl 68 63 67,gT 69 63 (.bin 0 .neq (.t 68) (kI 13)),pF 70 63 69] [1,2,70] Qa48) Qa5b
def Qa5d:SC:=.seq (sR [zJ 6 0] [1,2,6] (bL 0 Qa5g)) Qa5c
def Qa5e:SC:=.seq (sR (mJ 32 5::fJ 33 1 2::lJ 34 33::aJ 35 Qds [.t 34]::Qad3) [1,2,45] Qbcf) Qa5d
def Qad2:SC:=sR [fJ 24 0 2,lJ 25 24,cJ 26 .eql 25 1,mJ 27 26,gFf 28 27 0 2,gFl 29 27 28,gF 30 27 (.bin 0 .eql (.t 29) (kI 2)),pT 31 27 30,mJ 5 31] [1,2,5] Qa5e
def Qa5f:SC:=.seq (.seq (.dreg 17 [0,1,2,3,4,5,6,7,8,9,10,11,12,13,14,10,11,15,16] ( mJ 7 1::cJ 8 .lss 7 1::mJ 9 8::gFf 10 9 0 2::gFl 11 9 10::.e (some 12) (some (9,false)) (.call Qbq [.t 11,kI 1,kI 8])::Qxv) [1,2,23]) s_l3Stmt_2) Qad2
def Qbmy:SC:=sR [vJ 2 0,fB 4 false] [1,2] Qa5f
def Q9d:List RS:=[.tmp 4]
theorem Qblp:mFn prog Q92 2 108 Qbmy Q9d=true:=by kernel_rfl
def Qv9:List Item:=[mJ 5 16]
def Qwa:List Item:=[mJ 6 21]
def Qwb:List Item:=fI 20 (.bsl 1 [])::aJ 21 Qat [.t 17,kI 1,.t 19,kI 0,.t 20]::Qwa
def Qwc:List Item:=[mJ 7 23]
def Qwd:List Item:=[mJ 8 25]
def Qwe:List Item:=[mJ 9 38]
def Qwf:List Item:=[mJ 10 44]
def Qwg:List Item:=mJ 42 9::fI 43 (.bsl 1 [.t 42])::aJ 44 Qat [.t 39,kI 10,.t 41,kI 0,.t 43]::Qwf
def Qaqg:SC:=sR [mJ 55 6,mJ 4 55] [4] .ret
def Qaqh:SC:=sR [mJ 50 0,mJ 51 8,fI 52 (.bsl 1 [.t 51]),mJ 53 8,aJ 54 Qa1 [.t 50,kI 1,kI 0,.t 52,.t 53]] [6] Qaqg
def Qaj7:SC:=sR [mJ 45 0,mJ 46 6,mJ 47 10,fI 48 (.bsl 1 [.t 47]),aJ 49 Qat [.t 45,kI 10,.t 46,kI 0,.t 48]] [0,6,8] Qaqh
def Qaj8:SC:=sR (mJ 39 0::mJ 40 0::aJ 41 Qa5 [.t 40]::Qwg) [0,6,8,10] Qaj7
def Qaj9:SC:=sR (mJ 33 0::fJ 34 3 3::lJ 35 34::fI 36 (.iad 4 (.t 35) (kI 1))::tJ 37 4 36::aJ 38 Qb9 [.t 33,.t 37]::Qwe) [0,6,8,9] Qaj8
def Qaka:SC:=sR [mJ 26 0,mJ 27 5,mJ 28 7,mJ 29 8,fI 30 (.bsl 1 [.t 28,.t 29]),mJ 31 7,aJ 32 Qa1 [.t 26,kI 2,.t 27,.t 30,.t 31]] [0,3,6,8] Qaj9
def Qakb:SC:=sR (mJ 24 0::aJ 25 Qap [.t 24]::Qwd) [0,3,5,6,7,8] Qaka
def Qakc:SC:=sR (mJ 22 0::aJ 23 Qap [.t 22]::Qwc) [0,3,5,6,7] Qakb
def Qakd:SC:=sR (mJ 17 0::mJ 18 0::aJ 19 Qa5 [.t 18]::Qwb) [0,3,5,6] Qakc
def Qake:SC:=sR (mJ 11 0::fJ 12 3 3::lJ 13 12::fI 14 (.iad 4 (.t 13) (kI 0))::tJ 15 4 14::aJ 16 Qb9 [.t 11,.t 15]::Qv9) [0,3,5] Qakd
def Qa7p:SC:=sR [vJ 3 1,zJ 4 0] [0,3] Qake
def Qabb:List RS:=[.tmp 4]
theorem Qa1l:mFn prog Qpc 2 56 Qa7p Qabb=true:=by kernel_rfl
def Qa7t:SC:=cT 20 (sR [mJ 21 5,mJ 4 21] [4] .ret) .skip
def Qa7u:SC:=.reg [mJ 11 5,cJ 12 .add 11 1,mJ 5 12] [1,2,5]
def Qa7v:SC:=.seq (.block 1 (sR [fJ 13 0 2,lJ 14 13,mJ 15 5,iJ 16 3 14 15,fJ 17 0 16,lJ 18 17,mJ 19 1,bJ 20 .eql 18 19] [1,2,5,20] Qa7t)) Qa7u
def Qaz8:SC:=.seq (sR [mJ 6 5,fJ 7 0 2,lJ 8 7,nJ 9 8,bJ 10 .lss 6 9] [1,2,5,10] (cT 10 .skip (.exit 0))) Qa7v
def Qa7w:SC:=sR [zJ 4 (-1)] [4] .ret
def Qa7x:SC:=.seq (sR [zJ 5 0] [1,2,5] (bL 0 Qaz8)) Qa7w
def Qbi8:SC:=sR [vJ 2 0,zJ 4 0] [1,2] Qa7x
def Qabd:List RS:=[.tmp 4]
theorem Qbgq:mFn prog Q1j 2 22 Qbi8 Qabd=true:=by kernel_rfl
def Qno:List Item:=[cJ 16 .eql 15 0,mJ 17 16,gTm 18 17 0,gT 19 17 (.nck (.t 18)),gTf 20 17 2 19,gTl 21 17 20,gT 22 17 (.len (.t 21)),gT 23 17 (.bin 0 .gtr (.t 22) (kI 0)),pF 24 17 23]
def Qnp:List Item:=[mJ 2 33]
def Qadd:SC:=cT 24 (.seq (.dreg 10 [0,1,2,3,4,5,6,7,8,9] ( mJ 25 0::kJ 26 25::fJ 27 0 26::lJ 28 27::mJ 29 0::kJ 30 29::fJ 31 2 30::lJ 32 31::aJ 33 Qhm [.t 28,.t 32]::Qnp) [2]) .ret) .skip
def Qade:SC:=.seq (.dreg 13 [0,1,2,3,4,5,6,7,8,9,10,11,12] ( mJ 34 0::kJ 35 34::fJ 36 3 35::lJ 37 36::cJ 38 .rem 37 24::mJ 39 0::kJ 40 39::fJ 41 3 40::lJ 42 41::cJ 43 .rem 42 24::cJ 44 .add 43 1::fI 45 (.slis (.k (.c (.str [97,98,99,100,101,103,104,105,106,107,108,109,110,112,113,114,115,116,117,118,119,120,121,122]))) (some (.t 38)) (some (.t 44)))::mJ 2 45::[]) [2]) .ret
def Qadf:SC:=.seq (sR (mJ 11 0::kJ 12 11::fJ 13 0 12::lJ 14 13::aJ 15 Qt [.t 14,kI 9]::Qno) [0,24] Qadd) Qade
def Qadg:SC:=sR [mJ 3 0,mJ 4 0,kJ 5 4,fJ 6 3 5,lJ 7 6,cJ 8 .add 7 1,kJ 9 3,fJ 10 3 9,sJ 1 10 8] [0] Qadf
def Qap6:SC:=sR [fI 2 (.mv (.k (.c (.str []))))] [0] Qadg
def Ql8:List RS:=[.tmp 2]
theorem Qang:mFn prog Qjh 1 46 Qap6 Ql8=true:=by kernel_rfl
def Q49:List Item:=[cJ 20 .geq 19 0,mJ 17 20]
def Qa34:SC:=cT 21 (sR [zJ 2 4] [2] .ret) .skip
def Qa35:SC:=cT 17 (sR [zJ 2 3] [2] .ret) (sR [mJ 22 0,fI 23 (.bin 0 .eql (.t 22) (.k (.c (.int .u8 32)))),mJ 24 23,gFm 25 24 0,gF 26 24 (.bin 0 .eql (.t 25) (.k (.c (.int .u8 10)))),pT 27 24 26,mJ 21 27] [21] Qa34)
def Qa36:SC:=cT 10 (sR [zJ 2 2] [2] .ret) (sR (mJ 18 0::eI 19 (.call Q1f [.k (.c (.str [40,41,123,125,59,44,43,45,42,47,37,60,61,38,33,64])),.t 18])::Q49) [0,17] Qa35)
def Qa37:SC:=cT 3 (sR [zJ 2 1] [2] .ret) (sR [mJ 11 0,fI 12 (.bin 0 .geq (.t 11) (.k (.c (.int .u8 48)))),mJ 13 12,gTm 14 13 0,gT 15 13 (.bin 0 .leq (.t 14) (.k (.c (.int .u8 57)))),pF 16 13 15,mJ 10 16] [0,10] Qa36)
def Qa38:SC:=sR [zJ 2 0] [2] .ret
def Qa39:SC:=.seq (.block 0 (sR [mJ 4 0,fI 5 (.bin 0 .geq (.t 4) (.k (.c (.int .u8 97)))),mJ 6 5,gTm 7 6 0,gT 8 6 (.bin 0 .leq (.t 7) (.k (.c (.int .u8 122)))),pF 9 6 8,mJ 3 9] [0,3] Qa37)) Qa38
def Qbia:SC:=sR [zJ 2 0] [0] Qa39
def Qkj:List RS:=[.tmp 2]
theorem Qbgg:mFn prog Q1e 1 28 Qbia Qkj=true:=by kernel_rfl
def Qagt:SC:=sR [fI 1 (.bsl 1 [.k (.c (.str [102,110])),.k (.c (.str [108,101,116])),.k (.c (.str [115,97,121])),.k (.c (.str [112,117,116])),.k (.c (.str [105,102])),.k (.c (.str [101,108,115,101])),.k (.c (.str [108,111,111,112])),.k (.c (.str [98,97,99,107])),.k (.c (.str [100,111]))]),mJ 0 1] [0] .ret
def Qaqy:SC:=sR [fI 0 (.mv (.k (.c (.sl true 1 []))))] [] Qagt
def Qy1:List RS:=[.tmp 0]
theorem Qann:mFn prog Qjk 0 2 Qaqy Qy1=true:=by kernel_rfl
def Qbb8:SC:=cT 4 (sR [zJ 2 2] [2] .ret) .skip
def Qbb9:SC:=sR [zJ 2 1] [2] .ret
def Qbca:SC:=.seq (sR [mJ 3 0,cJ 4 .eql 3 4] [4] Qbb8) Qbb9
def Qbmr:SC:=sR [zJ 2 0] [0] Qbca
def Qant:List RS:=[.tmp 2]
theorem Qbln:mFn prog Q90 1 5 Qbmr Qant=true:=by kernel_rfl
def Qe1:List Item:=[gT 8 5 (.bin 0 .leq (.t 7) (kI 30)),pF 9 5 8,mJ 2 9]
def Qlb:List Item:=mJ 5 4::gT 6 5 (.ld 4 true (.t 1))::.e (some 7) (some (5,true)) (.call Qtq [.t 6])::Qe1
def Q8o:SC:=sR (tJ 3 4 1::aJ 4 Qya [.t 3,kI 6]::Qlb) [2] .ret
def Qak1:SC:=sR [vJ 1 0,fB 2 false] [1] Q8o
def Qjq:List RS:=[.tmp 2]
theorem Qahj:mFn prog Qhp 1 10 Qak1 Qjq=true:=by kernel_rfl
def Qa4n:SC:=cT 16 (sR [mJ 17 5,mJ 4 17] [4] .ret) .skip
def Qa4o:SC:=.reg [mJ 10 5,cJ 11 .add 10 1,mJ 5 11] [0,1,5]
def Qa4p:SC:=.seq (.block 1 (sR [mJ 12 0,mJ 13 5,fI 14 (.idx (.t 12) (.t 13)),mJ 15 1,bJ 16 .eql 14 15] [0,1,5,16] Qa4n)) Qa4o
def Qax4:SC:=.seq (sR [mJ 6 5,mJ 7 0,fI 8 (.lens (.t 7)),bJ 9 .lss 6 8] [0,1,5,9] (cT 9 .skip (.exit 0))) Qa4p
def Qa4q:SC:=sR [zJ 4 (-1)] [4] .ret
def Qa4r:SC:=.seq (sR [zJ 5 0] [0,1,5] (bL 0 Qax4)) Qa4q
def Qbii:SC:=sR [zJ 4 0] [0,1] Qa4r
def Qaa3:List RS:=[.tmp 4]
theorem Qbgi:mFn prog Q1f 2 18 Qbii Qaa3=true:=by kernel_rfl
def Qacs:List Item:=[mJ 9 12,fI 13 (.ext (.t 9) 0),fI 14 (.ext (.t 9) 1),mJ 5 13,mJ 6 14]
def Qmp:List Item:=[gF 30 23 (.not (.t 29)),pT 31 23 30]
def Qxs:List Item:=gF 21 17 (.not (.t 20))::pT 22 17 21::mJ 23 22::gFf 24 23 3 2::gFl 25 23 24::gF 26 23 (.len (.t 25))::gFm 27 23 5::gFm 28 23 6::.e (some 29) (some (23,false)) (.call Qbq [.t 26,.t 27,.t 28])::Qmp
def s_l2Form_3:SC:=cT 31 (sR [fB 4 false] [4] .ret) .skip
def Qxt:List Item:=[gF 58 54 (.not (.t 57)),pT 59 54 58,mJ 60 59,gFf 61 60 0 2,gFl 62 60 61,gF 63 60 (.bin 0 .neq (.t 62) (kI 1)),gFm 64 60 63,gTf 65 64 1 2,gTl 66 64 65,gT 67 64 (.bin 0 .neq (.t 66) (kI 0)),gF 68 60 (.pick (.t 64) (.t 67) (.k (.c (.bool false)))),pT 69 60 68]
def Qact:List Item:=fI 44 (.bin 1 .neq (.t 40) (.t 43))::mJ 45 44::gFm 46 45 7::gF 47 45 (.not (.t 46))::gFm 48 45 47::gTf 49 48 2 2::gTl 50 48 49::gT 51 48 (.bin 0 .neq (.t 50) (.k (.c (.str []))))::gF 52 45 (.pick (.t 48) (.t 51) (.k (.c (.bool false))))::pT 53 45 52::mJ 54 53::gFf 55 54 1 2::gFl 56 54 55::.e (some 57) (some (54,false)) (.call Qbq [.t 56,kI 0,kI 255])::Qxt
def s_l2Form_6:SC:=cT 69 (sR [fB 4 false] [4] .ret) .skip
def Qacu:List Item:=[oJ 85 84]
def Qbby:SC:=cT 85 (sR [fB 4 false] [4] .ret) .skip
def Qbbz:SC:=.reg [mJ 75 8,cJ 76 .add 75 1,mJ 8 76] [1,2,8]
def Qa4d:SC:=.seq (.block 1 (sR (fJ 77 3 2::lJ 78 77::mJ 79 8::iJ 80 4 78 79::tJ 81 4 80::mJ 82 1::cJ 83 .sub 82 1::aJ 84 Qya [.t 81,.t 83]::Qacu) [1,2,8,85] Qbby)) Qbbz
def Qax2:SC:=.seq (sR [mJ 70 8,fJ 71 3 2,lJ 72 71,nJ 73 72,bJ 74 .lss 70 73] [1,2,8,74] (cT 74 .skip (.exit 0))) Qa4d
def Qa4e:SC:=sR [fB 4 true] [4] .ret
def Qacq:SC:=.seq (sR [zJ 8 0] [1,2,8] (bL 0 Qax2)) Qa4e
def Qa4f:SC:=.seq (sR (mJ 40 7::fJ 41 2 2::lJ 42 41::aJ 43 Qds [.t 42]::Qact) [1,2,69] s_l2Form_6) Qacq
def Qacr:SC:=sR [fJ 32 0 2,lJ 33 32,cJ 34 .eql 33 2,mJ 35 34,gFf 36 35 0 2,gFl 37 35 36,gF 38 35 (.bin 0 .eql (.t 37) (kI 13)),pT 39 35 38,mJ 7 39] [1,2,7] Qa4f
def Qa4g:SC:=.seq (sR (mJ 15 1::cJ 16 .lss 15 1::mJ 17 16::gFf 18 17 0 2::gFl 19 17 18::.e (some 20) (some (17,false)) (.call Qbq [.t 19,kI 1,kI 13])::Qxs) [1,2,31] s_l2Form_3) Qacr
def Qa4h:SC:=sR (fJ 10 0 2::lJ 11 10::aJ 12 Q9y [.t 11]::Qacs) [1,2,5,6] Qa4g
def Qbmo:SC:=sR [vJ 2 0,fB 4 false] [1,2] Qa4h
def Qyt:List RS:=[.tmp 4]
theorem Qblk:mFn prog Qya 2 86 Qbmo Qyt=true:=by kernel_rfl
def Q5a:List Item:=[bJ 19 .add 12 18,mJ 3 19]
def Qa4i:SC:=.reg [mJ 10 4,cJ 11 .add 10 1,mJ 4 11] [1,3,4]
def Qa4j:SC:=.seq (.block 1 (.reg (mJ 12 3::fJ 13 3 1::lJ 14 13::mJ 15 4::iJ 16 4 14 15::tJ 17 4 16::aJ 18 Qtq [.t 17]::Q5a) [1,3,4])) Qa4i
def Qax3:SC:=.seq (sR [mJ 5 4,fJ 6 3 1,lJ 7 6,nJ 8 7,bJ 9 .lss 5 8] [1,3,4,9] (cT 9 .skip (.exit 0))) Qa4j
def Qa4k:SC:=sR [mJ 20 3,mJ 2 20] [2] .ret
def Qa4l:SC:=.seq (sR [zJ 4 0] [1,3,4] (bL 0 Qax3)) Qa4k
def Qa4m:SC:=sR [zJ 3 1] [1,3] Qa4l
def Qbih:SC:=sR [vJ 1 0,zJ 2 0] [1] Qa4m
def Qas5:List RS:=[.tmp 2]
theorem Qbgh:mFn prog Qtq 1 21 Qbih Qas5=true:=by kernel_rfl
def Qbb0:SC:=cT 5 .skip (.reg [cJ 7 .eql 4 2,mJ 5 7] [4,5])
def Qbb1:SC:=cT 8 .skip (.reg [cJ 10 .eql 4 12,mJ 8 10] [4,8])
def Qbb2:SC:=cT 11 (sR [zJ 2 0,zJ 3 3] [2,3] .ret) .skip
def Qal0:SC:=cT 8 (sR [zJ 2 1,zJ 3 1] [2,3] .ret) (sR [cJ 12 .eql 4 13,mJ 11 12] [11] Qbb2)
def Qal1:SC:=cT 5 (sR [zJ 2 0,zJ 3 0] [2,3] .ret) (.seq (sR [cJ 9 .eql 4 11,mJ 8 9] [4,8] Qbb1) Qal0)
def Qbb3:SC:=.block 0 (.seq (sR [cJ 6 .eql 4 1,mJ 5 6] [4,5] Qbb0) Qal1)
def Q2o:SC:=sR [zJ 2 2,zJ 3 2] [2,3] .ret
def Qbb4:SC:=.seq (sR [mJ 4 0] [4] Qbb3) Q2o
def Qbmp:SC:=sR [zJ 2 0,zJ 3 0] [0] Qbb4
def Qyu:List RS:=[.tmp 2,.tmp 3]
theorem Qbll:mFn prog Q9y 1 13 Qbmp Qyu=true:=by kernel_rfl
def Qom:List Item:=[cJ 8 .geq 7 0,mJ 4 8]
def Qags:SC:=sR (mJ 5 0::mJ 6 1::aJ 7 Ql4 [.t 5,.t 6]::Qom) [4] .ret
def Qaqu:SC:=sR [fB 4 false] [0,1] Qags
def Qy0:List RS:=[.tmp 4]
theorem Qanm:mFn prog Qjj 2 9 Qaqu Qy0=true:=by kernel_rfl
def Qbhj:SC:=cT 17 (sR [mJ 18 5,mJ 4 18] [4] .ret) .skip
def Qbhk:SC:=.reg [mJ 10 5,cJ 11 .add 10 1,mJ 5 11] [0,1,5]
def Qbhl:SC:=.seq (.block 1 (sR [mJ 12 0,mJ 13 5,iJ 14 1 12 13,lJ 15 14,mJ 16 1,bJ 17 .eql 15 16] [0,1,5,17] Qbhj)) Qbhk
def Qbbp:SC:=.seq (sR [mJ 6 5,mJ 7 0,nJ 8 7,bJ 9 .lss 6 8] [0,1,5,9] (cT 9 .skip (.exit 0))) Qbhl
def Qbhm:SC:=sR [zJ 4 (-1)] [4] .ret
def Qbhn:SC:=.seq (sR [zJ 5 0] [0,1,5] (bL 0 Qbbp)) Qbhm
def Qbqw:SC:=sR [zJ 4 0] [0,1] Qbhn
def Qa1w:List RS:=[.tmp 4]
theorem Qbqd:mFn prog Qtj 2 19 Qbqw Qa1w=true:=by kernel_rfl
def Q38:List Item:=[mJ 5 15]
def Q39:List Item:=[mJ 7 26]
def Qa2t:SC:=.reg [mJ 36 7,mJ 37 6,iJ 38 1 36 37,.e none none (.sto 1 (.t 38) (.k (.c (.bool false))))] [1,3,4,5,6,7]
def Qa2u:SC:=cT 31 (sR [tJ 32 3 1,mJ 33 7,fI 34 (.bsl 1 []),aJ 35 Qeu [.t 32,kI 0,.t 33,.t 34]] [1,3,4,5,6,7] Qa2t) (.reg [mJ 39 7,mJ 40 6,iJ 41 1 39 40,.e none none (.sto 1 (.t 41) (.k (.c (.bool false))))] [1,3,4,5,6,7])
def Q4a:List Item:=[mJ 8 43]
def Qa2v:SC:=.reg [mJ 47 9,cJ 48 .add 47 1,mJ 9 48] [1,3,4,5,6,7,8,9]
def Qa2w:SC:=.seq (.block 3 (.reg [mJ 49 8,mJ 50 9,mJ 51 5,mJ 52 6,iJ 53 1 51 52,lJ 54 53,mJ 55 54,gTm 56 55 5,gTm 57 55 9,gT 58 55 (.iad 1 (.t 56) (.t 57)),gTl 59 55 58,pF 60 55 59,mJ 61 60,gTm 62 61 7,gTm 63 61 9,gT 64 61 (.iad 1 (.t 62) (.t 63)),gTl 65 61 64,gT 66 61 (.not (.t 65)),pF 67 61 66,iJ 68 1 49 50,sJ 1 68 67] [1,3,4,5,6,7,8,9])) Qa2v
def Qav3:SC:=.seq (sR [mJ 44 9,mJ 45 3,bJ 46 .lss 44 45] [1,3,4,5,6,7,8,9,46] (cT 46 .skip (.exit 2))) Qa2w
def Q4b:List Item:=[mJ 4 72]
def Qa2x:SC:=.reg (mJ 69 4::mJ 70 8::fI 71 (.bsl 1 [.t 70])::xJ 72 1 69 71::Q4b) [1,3,4,5,6]
def Qavs:SC:=.seq (sR [zJ 9 0] [1,3,4,5,6,7,8,9] (bL 2 Qav3)) Qa2x
def Q37:SC:=sR (mJ 42 3::eI 43 (.mks 1 [.bool false] (.t 42))::Q4a) [1,3,4,5,6,7,8] Qavs
def Qavt:SC:=.seq (sR [mJ 30 6,cJ 31 .neq 30 0] [1,3,4,5,6,7,31] Qa2u) Q37
def Qavu:SC:=sR [mJ 27 7,mJ 28 6,iJ 29 1 27 28,.e none none (.sto 1 (.t 29) (.k (.c (.bool true))))] [1,3,4,5,6,7] Qavt
def Qavv:SC:=.reg [mJ 23 6,cJ 24 .add 23 1,mJ 6 24] [1,3,4,5,6]
def Qavw:SC:=.seq (.block 1 (sR (mJ 25 3::eI 26 (.mks 1 [.bool false] (.t 25))::Q39) [1,3,4,5,6,7] Qavu)) Qavv
def Qao3:SC:=.seq (sR [mJ 20 6,mJ 21 3,bJ 22 .lss 20 21] [1,3,4,5,6,22] (cT 22 .skip (.exit 0))) Qavw
def Qavx:SC:=sR [mJ 73 4,mJ 2 73] [2] .ret
def Qavy:SC:=.seq (sR [zJ 6 0] [1,3,4,5,6] (bL 0 Qao3)) Qavx
def Qavz:SC:=sR [tJ 16 3 1,mJ 17 5,fI 18 (.bsl 1 []),aJ 19 Qeu [.t 16,kI 0,.t 17,.t 18]] [1,3,4,5] Qavy
def Qav0:SC:=sR (mJ 14 3::eI 15 (.mks 1 [.bool false] (.t 14))::Q38) [1,3,4,5] Qavz
def Qav1:SC:=sR [fI 13 (.bsl 1 []),mJ 4 13] [1,3,4] Qav0
def Qav2:SC:=sR [fJ 10 2 1,lJ 11 10,nJ 12 11,mJ 3 12] [1,3] Qav1
def Qbhv:SC:=sR [vJ 1 0,fI 2 (.mv (.k (.c (.sl true 1 []))))] [1] Qav2
def Qasy:List RS:=[.tmp 2]
theorem Qbf6:mFn prog Qto 1 74 Qbhv Qasy=true:=by kernel_rfl
def Qa4s:SC:=cT 5 (.reg [mJ 6 0,fI 7 (.sli 1 (.t 6) none (some (kI 2000))),mJ 0 7] [0]) .skip
def Q5b:List Item:=[mJ 2 10]
def Qacx:SC:=sR (mJ 8 0::fI 9 (.bld [.sl true 1 [],.int .i64 0] [(0,1,.t 8)])::eI 10 (.boxm (.t 9))::Q5b) [2] .ret
def Qa4t:SC:=.seq (sR [mJ 3 0,nJ 4 3,cJ 5 .gtr 4 2000] [0,5] Qa4s) Qacx
def Qbij:SC:=sR [fI 2 (.mv (.k (.c .pnil)))] [0] Qa4t
def Qaa4:List RS:=[.tmp 2]
theorem Qbgj:mFn prog Q1g 1 11 Qbij Qaa4=true:=by kernel_rfl
def Qaz2:SC:=cT 16 (sR [mJ 17 5,mJ 4 17] [4] .ret) .skip
def Qaz3:SC:=sR [mJ 11 1,mJ 12 0,mJ 13 5,iJ 14 1 12 13,lJ 15 14,bJ 16 .eql 11 15] [0,1,5,7,8,16] Qaz2
def Qaz4:SC:=.reg [cJ 18 .add 8 1,mJ 8 18] [0,1,7,8]
def Qaz5:SC:=.seq (.block 1 (sR [mJ 10 8,mJ 5 10] [0,1,5,7,8] Qaz3)) Qaz4
def Qaqw:SC:=sR [bJ 9 .lss 8 7] [0,1,7,8,9] (cX 9 0 Qaz5)
def Qaz6:SC:=sR [zJ 4 (-1)] [4] .ret
def Qaz7:SC:=.seq (sR [mJ 6 0,nJ 7 6,zJ 8 0] [0,1,7,8] (bL 0 Qaqw)) Qaz6
def Qbdv:SC:=sR [zJ 4 0] [0,1] Qaz7
def Q1z:List RS:=[.tmp 4]
theorem Qba7:mFn prog Ql4 2 19 Qbdv Q1z=true:=by kernel_rfl
def Qpx:List Item:=[oJ 14 13]
def Qahq:SC:=cT 14 (sR [fI 4 (.mv (.k (.c (.sl true 1 []))))] [4] .ret) .skip
def Qpy:List Item:=[mJ 6 20,sJ 5 7 22]
def Qpz:List Item:=[mJ 5 30]
def Qahr:SC:=cT 26 (.reg (mJ 27 5::mJ 28 6::fI 29 (.bsl 1 [.t 28])::xJ 30 1 27 29::Qpz) [1,5,16,17,18]) .skip
def Qahs:SC:=sR [fJ 23 4 7,lJ 24 23,mJ 25 1,aJ 26 Qjj [.t 24,.t 25]] [1,5,6,16,17,18,26] Qahr
def Qaht:SC:=.reg [cJ 31 .add 18 1,mJ 18 31] [1,5,16,17,18]
def Qahu:SC:=.seq (.block 1 (sR (mJ 20 18::iJ 21 5 16 18::tJ 22 5 21::eI 7 (.alloc [.sl true 2 [],.sl true 4 [],.int .i64 0,.int .i64 0,.sl true 1 []])::Qpy) [1,5,6,7,16,17,18] Qahs)) Qaht
def Qabm:SC:=sR [bJ 19 .lss 18 17] [1,5,16,17,18,19] (cX 19 0 Qahu)
def Qahv:SC:=sR [mJ 32 5,mJ 4 32] [4] .ret
def Qabj:SC:=.seq (sR [fJ 15 2 2,lJ 16 15,nJ 17 16,zJ 18 0] [1,5,16,17,18] (bL 0 Qabm)) Qahv
def Qabk:SC:=.seq (sR (mJ 8 1::fJ 9 2 2::lJ 10 9::nJ 11 10::cJ 12 .sub 11 1::aJ 13 Qax [.t 8,kI 0,.t 12]::Qpx) [1,2,5,14] Qahq) Qabj
def Qabl:SC:=sR [fI 5 (.mv (.k (.c (.sl true 1 []))))] [1,2,5] Qabk
def Qate:SC:=sR [vJ 2 0,fI 4 (.mv (.k (.c (.sl true 1 []))))] [1,2] Qabl
def Qpn:List RS:=[.tmp 4]
theorem Qar6:mFn prog Qgw 2 33 Qate Qpn=true:=by kernel_rfl
def Qgp:List Item:=[cJ 8 .geq 7 0,mJ 4 8]
def Qxy:SC:=sR (mJ 5 0::mJ 6 1::aJ 7 Qhn [.t 5,.t 6]::Qgp) [4] .ret
def Q2t:SC:=sR [fB 4 false] [0,1] Qxy
def Qkm:List RS:=[.tmp 4]
theorem Q1q:mFn prog Qbf 2 9 Q2t Qkm=true:=by kernel_rfl
def Q3t:List Item:=[oJ 37 36]
def Qa2d:SC:=cT 37 (sR [fB 2 false] [2] .ret) .skip
def Qa2e:SC:=.reg [mJ 21 4,cJ 22 .add 21 1,mJ 4 22] [1,3,4]
def Qa2f:SC:=.seq (.block 3 (.seq (.dreg 15 [0,1,2,3,4,5,6,7,8,9,10,11,12,13,14] ( fJ 23 2 1::lJ 24 23::mJ 25 3::iJ 26 5 24 25::fJ 27 4 26::lJ 28 27::mJ 29 4::iJ 30 1 28 29::lJ 31 30::fJ 32 2 1::lJ 33 32::nJ 34 33::cJ 35 .sub 34 1::aJ 36 Qbq [.t 31,kI 0,.t 35]::Q3t) [1,3,4,37]) Qa2d)) Qa2e
def Qat4:SC:=.seq (sR [mJ 12 4,fJ 13 2 1,lJ 14 13,mJ 15 3,iJ 16 5 14 15,fJ 17 4 16,lJ 18 17,nJ 19 18,bJ 20 .lss 12 19] [1,3,4,20] (cT 20 .skip (.exit 2))) Qa2f
def Qa2g:SC:=.reg [mJ 10 3,cJ 11 .add 10 1,mJ 3 11] [1,3]
def Qa2h:SC:=.seq (.block 1 (sR [zJ 4 0] [1,3,4] (bL 2 Qat4))) Qa2g
def Qat5:SC:=.seq (sR [mJ 5 3,fJ 6 2 1,lJ 7 6,nJ 8 7,bJ 9 .lss 5 8] [1,3,9] (cT 9 .skip (.exit 0))) Qa2h
def Qa2i:SC:=sR [fJ 38 2 1,lJ 39 38,nJ 40 39,cJ 41 .gtr 40 0,mJ 2 41] [2] .ret
def Qa2j:SC:=.seq (sR [zJ 3 0] [1,3] (bL 0 Qat5)) Qa2i
def Qbhr:SC:=sR [vJ 1 0,fB 2 false] [1] Qa2j
def Qaav:List RS:=[.tmp 2]
theorem Qbf3:mFn prog Q05 1 42 Qbhr Qaav=true:=by kernel_rfl
def Qayz:SC:=.block 1 (.reg [mJ 19 5,cJ 20 .add 19 1,mJ 5 20] [0,1,5])
def Qaqe:SC:=.seq (sR [mJ 7 5,mJ 8 0,nJ 9 8,bJ 10 .lss 7 9,mJ 11 10,gTm 12 11 0,gTm 13 11 5,gT 14 11 (.iad 1 (.t 12) (.t 13)),gTl 15 11 14,gTm 16 11 1,gT 17 11 (.bin 0 .lss (.t 15) (.t 16)),pF 18 11 17] [0,1,5,18] (cT 18 .skip (.exit 0))) Qayz
def Qay0:SC:=cT 32 (sR [mJ 33 0,mJ 4 33] [4] .ret) .skip
def Q0o:List Item:=[mJ 6 38]
def Q0p:List Item:=[mJ 4 46]
def Q0q:List Item:=.chk 45 none (.sli 1 (.t 43) (some (.t 44)) none)::xJ 46 1 42 45::Q0p
def Qay1:SC:=.seq (.dreg 9 [0,1,2,4,5,6,3,6,7,8] ( mJ 39 6::mJ 40 1::fI 41 (.bsl 1 [.t 40])::mJ 43 0::mJ 44 5::fI 45 (.sli 1 (.t 43) (some (.t 44)) none)::xJ 42 1 39 41::Q0q) [4]) .ret
def Q54:SC:=sR (fI 34 (.bsl 1 [])::mJ 35 0::mJ 36 5::fI 37 (.sli 1 (.t 35) none (some (.t 36)))::xJ 38 1 34 37::Q0o) [0,1,5,6] Qay1
def Q55:SC:=.seq (sR [mJ 21 5,mJ 22 0,nJ 23 22,bJ 24 .lss 21 23,mJ 25 24,gTm 26 25 0,gTm 27 25 5,gT 28 25 (.iad 1 (.t 26) (.t 27)),gTl 29 25 28,gTm 30 25 1,gT 31 25 (.bin 0 .eql (.t 29) (.t 30)),pF 32 25 31] [0,1,5,32] Qay0) Q54
def Qay2:SC:=sR [zJ 5 0] [0,1,5] (.seq (bL 0 Qaqe) Q55)
def Qbc7:SC:=sR [fI 4 (.mv (.k (.c (.sl true 1 []))))] [0,1] Qay2
def Qkl:List RS:=[.tmp 4]
theorem Qba4:mFn prog Qev 2 47 Qbc7 Qkl=true:=by kernel_rfl
def Qzr:List Item:=[mJ 3 49]
def Qavm:SC:=cT 36 (.dreg 14 [0,1,2,3,4,5,6,7,8,9,10,11,12,13] ( tJ 37 3 4::fJ 38 2 4::lJ 39 38::mJ 40 1::iJ 41 5 39 40::fJ 42 4 41::lJ 43 42::mJ 44 9::iJ 45 1 43 44::lJ 46 45::mJ 47 2::mJ 48 3::aJ 49 Qeu [.t 37,.t 46,.t 47,.t 48]::Qzr) [1,2,3,4,9]) .skip
def Qavn:SC:=.reg [mJ 22 9,cJ 23 .add 22 1,mJ 9 23] [1,2,3,4,9]
def Qavo:SC:=.seq (.block 1 (sR [mJ 24 2,fJ 25 2 4,lJ 26 25,mJ 27 1,iJ 28 5 26 27,fJ 29 4 28,lJ 30 29,mJ 31 9,iJ 32 1 30 31,lJ 33 32,iJ 34 1 24 33,lJ 35 34,oJ 36 35] [1,2,3,4,9,36] Qavm)) Qavn
def Qao2:SC:=.seq (sR [mJ 13 9,fJ 14 2 4,lJ 15 14,mJ 16 1,iJ 17 5 15 16,fJ 18 4 17,lJ 19 18,nJ 20 19,bJ 21 .lss 13 20] [1,2,3,4,9,21] (cT 21 .skip (.exit 0))) Qavo
def Qzs:List Item:=[mJ 8 53]
def Qavp:SC:=sR (mJ 50 3::mJ 51 1::fI 52 (.bsl 1 [.t 51])::xJ 53 1 50 52::Qzs) [8] .ret
def Qavq:SC:=.seq (sR [zJ 9 0] [1,2,3,4,9] (bL 0 Qao2)) Qavp
def Qavr:SC:=sR [mJ 10 2,mJ 11 1,iJ 12 1 10 11,.e none none (.sto 1 (.t 12) (.k (.c (.bool true))))] [1,2,3,4] Qavq
def Qbbs:SC:=sR [vJ 4 0,fI 8 (.mv (.k (.c (.sl true 1 []))))] [1,2,3,4] Qavr
def Qals:List RS:=[.tmp 8]
theorem Qbaz:mFn prog Qeu 4 54 Qbbs Qals=true:=by kernel_rfl
def Qazr:SC:=cT 4 (sR [fI 2 (.mv (.k (.c (.sl true 1 []))))] [2] .ret) .skip
def Q0r:List Item:=[mJ 2 7]
def Qazs:SC:=sR (fI 5 (.bsl 1 [])::mJ 6 0::xJ 7 1 5 6::Q0r) [2] .ret
def Qazt:SC:=.seq (sR [mJ 3 0,eI 4 (.nilq (.t 3))] [0,4] Qazr) Qazs
def Qbdt:SC:=sR [fI 2 (.mv (.k (.c (.sl true 1 []))))] [0] Qazt
def Q1y:List RS:=[.tmp 2]
theorem Qba5:mFn prog Qdj 1 8 Qbdt Q1y=true:=by kernel_rfl
def Qaol:SC:=sR [mJ 7 1,mJ 8 0,bJ 9 .leq 7 8,mJ 10 9,gTm 11 10 0,gTm 12 10 2,gT 13 10 (.bin 0 .leq (.t 11) (.t 12)),pF 14 10 13,mJ 6 14] [6] .ret
def Qa15:SC:=sR [fB 6 false] [0,1,2] Qaol
def Qaat:List RS:=[.tmp 6]
theorem Qa1f:mFn prog Qax 3 15 Qa15 Qaat=true:=by kernel_rfl
def Q8h:SC:=cT 16 (sR [mJ 17 5,mJ 4 17] [4] .ret) .skip
def Q8i:SC:=sR [mJ 11 1,mJ 12 0,mJ 13 5,iJ 14 1 12 13,lJ 15 14,eI 16 (.callv (.t 11) [.t 15])] [0,1,5,7,8,16] Q8h
def Q8j:SC:=.reg [cJ 18 .add 8 1,mJ 8 18] [0,1,7,8]
def Q8k:SC:=.seq (.block 1 (sR [mJ 10 8,mJ 5 10] [0,1,5,7,8] Q8i)) Q8j
def Q2u:SC:=sR [bJ 9 .lss 8 7] [0,1,7,8,9] (cX 9 0 Q8k)
def Q8l:SC:=sR [zJ 4 (-1)] [4] .ret
def Q8m:SC:=.seq (sR [mJ 6 0,nJ 7 6,zJ 8 0] [0,1,7,8] (bL 0 Q2u)) Q8l
def Qakz:SC:=sR [zJ 4 0] [0,1] Q8m
def Qjp:List RS:=[.tmp 4]
theorem Qahh:mFn prog Qhn 2 19 Qakz Qjp=true:=by kernel_rfl
def Qkr:List Item:=[oJ 10 9]
def Q6u:SC:=cT 10 (sR [fB 2 false] [2] .ret) .skip
def Qks:List Item:=[mJ 4 16,sJ 3 5 18]
def Qkt:List Item:=[oJ 22 21]
def Q6v:SC:=cT 22 (sR [fB 2 false] [2] .ret) .skip
def Qku:List Item:=[bJ 26 .add 23 25,mJ 3 26]
def Q6w:SC:=.reg (mJ 23 3::tJ 24 3 5::aJ 25 Qhf [.t 24]::Qku) [1,3,12,13,14]
def Q6x:SC:=.seq (sR (tJ 19 1 1::mJ 20 4::aJ 21 Qo5 [.t 19,.t 20]::Qkt) [1,3,5,12,13,14,22] Q6v) Q6w
def Q6y:SC:=.reg [cJ 27 .add 14 1,mJ 14 27] [1,3,12,13,14]
def Q6z:SC:=.seq (.block 1 (sR (mJ 16 14::iJ 17 3 12 14::tJ 18 3 17::eI 5 (.alloc [.int .i64 0,.int .i64 0,.sl true 5 []])::Qks) [1,3,4,5,12,13,14] Q6x)) Q6y
def Qy3:SC:=sR [bJ 15 .lss 14 13] [1,3,12,13,14,15] (cX 15 0 Q6z)
def Q14:SC:=sR [mJ 28 3,cJ 29 .leq 28 800,mJ 2 29] [2] .ret
def Q15:SC:=.seq (sR [fJ 11 0 1,lJ 12 11,nJ 13 12,zJ 14 0] [1,3,12,13,14] (bL 0 Qy3)) Q14
def Q16:SC:=sR [zJ 3 0] [1,3] Q15
def Q17:SC:=.seq (sR (fJ 6 0 1::lJ 7 6::nJ 8 7::aJ 9 Qax [.t 8,kI 1,kI 4]::Qkr) [1,10] Q6u) Q16
def Qahz:SC:=sR [vJ 1 0,fB 2 false] [1] Q17
def Qjn:List RS:=[.tmp 2]
theorem Qag8:mFn prog Qb4 1 30 Qahz Qjn=true:=by kernel_rfl
def Qm9:List Item:=[hJ 4 3,fI 8 (.bld [.int .i64 0,.sl true 1 []] [(0,1,.t 4),(1,1,.t 7)]),sJ 2 2 8]
def Qabx:SC:=.seq (.dreg 7 [0,1,2,3,4,1,5,6] ( fJ 3 0 1::lJ 4 3::fJ 5 1 1::lJ 6 5::aJ 7 Qdj [.t 6]::Qm9) [2]) .ret
def Qan8:SC:=sR [vJ 1 0,eI 2 (.alloc [.int .i64 0,.sl true 1 []])] [1,2] Qabx
def Qyn:List RS:=[.cell 2 2 true]
theorem Qana:mFn prog Qcg 1 9 Qan8 Qyn=true:=by kernel_rfl
def Qkw:List Item:=[sJ 5 5 12]
def Q63:SC:=.reg [mJ 13 3,fJ 14 0 5,lJ 15 14,nJ 16 15,fJ 17 1 5,lJ 18 17,nJ 19 18,bJ 20 .add 16 19,bJ 21 .add 13 20,mJ 3 21] [3,7,8,9]
def Q64:SC:=.reg [cJ 22 .add 9 1,mJ 9 22] [3,7,8,9]
def Q65:SC:=.seq (.block 1 (sR (iJ 11 5 7 9::tJ 12 5 11::eI 5 (.alloc [.sl true 2 [],.sl true 4 [],.int .i64 0,.int .i64 0,.sl true 1 []])::Qkw) [3,5,7,8,9] Q63)) Q64
def Q2b:SC:=sR [bJ 10 .lss 9 8] [3,7,8,9,10] (cX 10 0 Q65)
def Q66:SC:=sR [mJ 23 3,mJ 2 23] [2] .ret
def Q67:SC:=.seq (sR [fJ 6 2 1,lJ 7 6,nJ 8 7,zJ 9 0] [3,7,8,9] (bL 0 Q2b)) Q66
def Q68:SC:=sR [zJ 3 0] [1,3] Q67
def Qah2:SC:=sR [vJ 1 0,zJ 2 0] [1] Q68
def Qu8:List RS:=[.tmp 2]
theorem Qaha:mFn prog Qhf 1 24 Qah2 Qu8=true:=by kernel_rfl
def Qvn:List Item:=[sJ 3 5 16]
def Qfd:List Item:=[gF 35 30 (.not (.t 34)),pT 36 30 35]
def Qfe:List Item:=gF 28 21 (.not (.t 27))::pT 29 21 28::mJ 30 29::gFf 31 30 2 5::gFl 32 30 31::gF 33 30 (.len (.t 32))::.e (some 34) (some (30,false)) (.call Qax [.t 33,kI 1,kI 160])::Qfd
def Qjs:List Item:=oJ 20 19::mJ 21 20::gFf 22 21 0 5::gFl 23 21 22::gFf 24 21 1 5::gFl 25 21 24::gF 26 21 (.mn (kI 3) (.t 25))::.e (some 27) (some (21,false)) (.call Qax [.t 23,kI 0,.t 26])::Qfe
def s_im_codeOk_4:SC:=cT 36 (sR [fB 4 false] [4] .ret) .skip
def Qvo:List Item:=[sJ 1 6 37]
def Qvp:List Item:=[mJ 7 43,sJ 5 8 45]
def Qdc:List Item:=[gF 69 65 (.not (.t 68)),gFm 70 65 69,gTf 71 70 3 8,gTl 72 70 71,gT 73 70 (.bin 0 .neq (.t 72) (kI 0)),gF 74 65 (.pick (.t 70) (.t 73) (.k (.c (.bool false)))),pT 75 65 74]
def Qdd:List Item:=gT 62 57 (.not (.t 61))::gF 63 53 (.pick (.t 57) (.t 62) (.k (.c (.bool false))))::pT 64 53 63::mJ 65 64::gFf 66 65 2 8::gFl 67 65 66::.e (some 68) (some (65,false)) (.call Qik [.t 67])::Qdc
def Qff:List Item:=gFm 57 53 56::gTl 58 57 6::gTf 59 57 3 8::gTl 60 57 59::.e (some 61) (some (57,true)) (.callv (.t 58) [.t 60])::Qdd
def Qh3:List Item:=hJ 47 46::.chk 48 none (.len (.t 47))::bJ 52 .neq 48 51::mJ 53 52::gFf 54 53 2 8::gFl 55 53 54::.e (some 56) (some (53,false)) (.call Qik [.t 55])::Qff
def s_im_codeOk_11:SC:=cT 75 (sR [fB 4 false] [4] .ret) .skip
def Qh4:List Item:=[pT 85 80 84]
def Qh5:List Item:=mJ 80 79::gFf 81 80 1 8::gFl 82 80 81::gF 83 80 (.mkf Qhh [.t 2,.t 3])::.e (some 84) (some (80,false)) (.call Qcl [.t 82,.t 83])::Qh4
def s_im_codeOk_14:SC:=cT 85 (sR [fB 4 false] [4] .ret) .skip
def Qp7:List Item:=[nJ 89 88,mJ 9 89]
def Qp8:List Item:=[sJ 2 11 96]
def Qct:List Item:=[pT 118 113 117]
def Qcu:List Item:=gF 104 99 (.not (.t 103))::pT 105 99 104::mJ 106 105::gFf 107 106 1 11::gFl 108 106 107::gF 109 106 (.len (.t 108))::gFm 110 106 9::gF 111 106 (.bin 0 .neq (.t 109) (.t 110))::pT 112 106 111::mJ 113 112::gFf 114 113 1 11::gFl 115 113 114::gF 116 113 (.mkf Qhi [.t 6])::.e (some 117) (some (113,false)) (.call Qbf [.t 115,.t 116])::Qct
def Qvj:SC:=cT 118 (sR [fB 4 false] [4] .ret) .skip
def Qah3:SC:=sR (mJ 97 7::cJ 98 .eql 97 0::mJ 99 98::gFl 100 99 6::gFf 101 99 0 11::gFl 102 99 101::.e (some 103) (some (99,false)) (.callv (.t 100) [.t 102])::Qcu) [2,3,5,6,7,9,39,40,41,91,92,93,118] Qvj
def Qvk:SC:=.reg [cJ 119 .add 93 1,mJ 93 119] [2,3,5,6,7,9,39,40,41,91,92,93]
def Qah4:SC:=.seq (.block 3 (sR (iJ 95 2 91 93::tJ 96 2 95::eI 11 (.alloc [.int .i64 0,.sl true 1 []])::Qp8) [2,3,5,6,7,9,11,39,40,41,91,92,93] Qah3)) Qvk
def Qaby:SC:=sR [bJ 94 .lss 93 92] [2,3,5,6,7,9,39,40,41,91,92,93,94] (cX 94 2 Qah4)
def Qah5:SC:=sR [fJ 90 0 8,lJ 91 90,nJ 92 91,zJ 93 0] [2,3,5,6,7,9,39,40,41,91,92,93] (bL 2 Qaby)
def Qjr:SC:=sR (tJ 86 3 5::mJ 87 7::aJ 88 Qgw [.t 86,.t 87]::Qp7) [2,3,5,6,7,8,9,39,40,41] Qah5
def Qvl:SC:=.seq (sR (fJ 76 4 8::lJ 77 76::fI 78 (.mkf Qhg [.t 5])::aJ 79 Qbf [.t 77,.t 78]::Qh5) [2,3,5,6,7,8,39,40,41,85] s_im_codeOk_14) Qjr
def Qah6:SC:=.seq (.seq (.dreg 30 [0,1,2,3,4,5,1,2,6,7,8,9,10,11,12,13,14,15,16,17,18,19,20,21,22,23,24,25,26,27,28,29] ( fJ 46 4 8::lJ 47 46::nJ 48 47::fJ 49 2 8::lJ 50 49::aJ 51 Qhj [.t 50]::Qh3) [2,3,5,6,7,8,39,40,41,75]) s_im_codeOk_11) Qvl
def Qah7:SC:=.reg [cJ 120 .add 41 1,mJ 41 120] [2,3,5,6,39,40,41]
def Qah8:SC:=.seq (.block 1 (sR (mJ 43 41::iJ 44 5 39 41::tJ 45 5 44::eI 8 (.alloc [.sl true 2 [],.sl true 4 [],.int .i64 0,.int .i64 0,.sl true 1 []])::Qvp) [2,3,5,6,7,8,39,40,41] Qah6)) Qah7
def Qabz:SC:=sR [bJ 42 .lss 41 40] [2,3,5,6,39,40,41,42] (cX 42 0 Qah8)
def Qah9:SC:=sR [fB 4 true] [4] .ret
def Qaia:SC:=.seq (sR [fJ 38 2 5,lJ 39 38,nJ 40 39,zJ 41 0] [2,3,5,6,39,40,41] (bL 0 Qabz)) Qah9
def Qvm:SC:=sR (fI 37 (.mkf Qak [.t 5])::eI 6 (.alloc [.fnil])::Qvo) [2,3,5,6] Qaia
def Qaib:SC:=.seq (sR (fJ 17 1 5::lJ 18 17::aJ 19 Qax [.t 18,kI 0,kI 300]::Qjs) [2,3,5,36] s_im_codeOk_4) Qvm
def Qaic:SC:=sR (fJ 12 0 2::lJ 13 12::lJ 14 3::iJ 15 3 13 14::tJ 16 3 15::eI 5 (.alloc [.int .i64 0,.int .i64 0,.sl true 5 []])::Qvn) [2,3,5] Qaib
def Qa11:SC:=sR [vJ 2 0,vJ 3 1,fB 4 false] [2,3] Qaic
def Qht:List RS:=[.tmp 4]
theorem Qa1c:mFn prog Qo5 2 121 Qa11 Qht=true:=by kernel_rfl
def Qkx:List Item:=[mJ 3 8]
def Q69:SC:=sR (mJ 4 0::fJ 5 1 1::lJ 6 5::cJ 7 .sub 6 1::aJ 8 Qax [.t 4,kI 0,.t 7]::Qkx) [3] .ret
def Qaid:SC:=sR [fB 3 false] [0,1] Q69
def Qu9:List RS:=[.tmp 3]
theorem Qahb:mFn prog Qak 2 9 Qaid Qu9=true:=by kernel_rfl
def Qky:List Item:=[oJ 10 9,mJ 3 10]
def Q7a:SC:=sR (mJ 4 0::fJ 5 2 1::lJ 6 5::nJ 7 6::cJ 8 .sub 7 1::aJ 9 Qax [.t 4,kI 1,.t 8]::Qky) [3] .ret
def Qaie:SC:=sR [fB 3 false] [0,1] Q7a
def Qva:List RS:=[.tmp 3]
theorem Qahc:mFn prog Qhg 2 11 Qaie Qva=true:=by kernel_rfl
def Qkz:List Item:=[oJ 9 8,mJ 4 9]
def Q7b:SC:=sR (tJ 5 1 1::lJ 6 2::tJ 7 4 3::aJ 8 Qwo [.t 5,.t 6,.t 7]::Qkz) [4] .ret
def Qaif:SC:=sR [vJ 3 0,fB 4 false] [1,2,3] Q7b
def Qvb:List RS:=[.tmp 4]
theorem Qahd:mFn prog Qhh 3 10 Qaif Qvb=true:=by kernel_rfl
def Qk0:List Item:=[oJ 7 6,mJ 3 7]
def Q7c:SC:=sR (lJ 4 1::mJ 5 0::eI 6 (.callv (.t 4) [.t 5])::Qk0) [3] .ret
def Qaig:SC:=sR [fB 3 false] [0,1] Q7c
def Qvc:List RS:=[.tmp 3]
theorem Qahe:mFn prog Qhi 2 8 Qaig Qvc=true:=by kernel_rfl
def Qaih:SC:=cT 6 .skip (.reg [cJ 10 .eql 3 13,mJ 6 10] [6])
def Qaii:SC:=cT 6 .skip (sR [cJ 9 .eql 3 11,mJ 6 9] [3,6] Qaih)
def Qaij:SC:=cT 6 .skip (sR [cJ 8 .eql 3 10,mJ 6 8] [3,6] Qaii)
def Qvq:SC:=cT 6 (sR [zJ 2 1] [2] .ret) .skip
def Qaik:SC:=cT 4 (sR [zJ 2 0] [2] .ret) (.seq (sR [cJ 7 .eql 3 2,mJ 6 7] [3,6] Qaij) Qvq)
def Qail:SC:=.block 0 (sR [cJ 5 .eql 3 1,mJ 4 5] [3,4] Qaik)
def Qvr:SC:=sR [zJ 2 2] [2] .ret
def Qaim:SC:=.seq (sR [mJ 3 0] [3] Qail) Qvr
def Qato:SC:=sR [zJ 2 0] [0] Qaim
def Qiu:List RS:=[.tmp 2]
theorem Qar9:mFn prog Qlr 1 11 Qato Qiu=true:=by kernel_rfl
def Qze:List Item:=[sJ 3 7 13]
def Qzf:List Item:=[sJ 1 8 14]
def Qmb:List Item:=[pT 24 19 23]
def Qzg:List Item:=oJ 18 17::mJ 19 18::gFf 20 19 2 5::gFl 21 19 20::gF 22 19 (.mkf Qje [.t 8])::.e (some 23) (some (19,false)) (.call Qbf [.t 21,.t 22])::Qmb
def s_im_insOk_4:SC:=cT 24 (sR [fB 6 false] [6] .ret) .skip
def Qg3:List Item:=[gF 39 35 (.not (.t 38)),gFm 40 35 39,gTf 41 40 1 5,gTl 42 40 41,gT 43 40 (.bin 0 .neq (.t 42) (kI (-1))),gF 44 35 (.pick (.t 40) (.t 43) (.k (.c (.bool false)))),pT 45 35 44]
def Qg4:List Item:=gT 33 28 (.not (.t 32))::pF 34 28 33::mJ 35 34::gFf 36 35 0 5::gFl 37 35 36::.e (some 38) (some (35,false)) (.call Qti [.t 37])::Qg3
def Qmc:List Item:=mJ 28 27::gTl 29 28 8::gTf 30 28 1 5::gTl 31 28 30::.e (some 32) (some (28,true)) (.callv (.t 29) [.t 31])::Qg4
def s_im_insOk_8:SC:=cT 45 (sR [fB 6 false] [6] .ret) .skip
def Qmd:List Item:=[pF 58 54 57,mJ 6 58]
def Qfg:List Item:=[mJ 66 65,gTf 67 66 2 5,gTl 68 66 67,gT 69 66 (.len (.t 68)),gTf 70 66 0 3,gTl 71 66 70,gTf 72 66 3 5,gTl 73 66 72,gT 74 66 (.iad 3 (.t 71) (.t 73)),gTf 75 66 0 74,gTl 76 66 75,gT 77 66 (.bin 0 .eql (.t 69) (.t 76)),pF 78 66 77,mJ 6 78]
def Qan9:SC:=cT 59 (.seq (.dreg 19 [0,1,2,3,4,5,6,7,8,9,10,11,12,13,14,15,16,17,18] ( fJ 61 3 5::lJ 62 61::mJ 63 1::cJ 64 .sub 63 1::aJ 65 Qax [.t 62,kI 0,.t 64]::Qfg) [6]) .ret) .skip
def Qaoa:SC:=cT 48 (sR (fJ 50 2 5::lJ 51 50::nJ 52 51::cJ 53 .eql 52 0::mJ 54 53::gTf 55 54 3 5::gTl 56 54 55::.e (some 57) (some (54,true)) (.call Qij [.t 56])::Qmd) [6] .ret) (sR [cJ 60 .eql 47 14,mJ 59 60] [1,3,5,59] Qan9)
def Qaob:SC:=.block 0 (sR [cJ 49 .eql 47 1,mJ 48 49] [1,3,5,47,48] Qaoa)
def Qjt:List Item:=[.chk 84 (some (82,true)) (.ld 1 false (.t 83)),.chk 85 (some (82,true)) (.len (.t 84)),gT 89 82 (.bin 0 .eql (.t 85) (.t 88)),pF 90 82 89,mJ 6 90]
def Qaoc:SC:=.seq (.dreg 13 [0,1,2,3,4,5,6,7,8,9,5,6,10,11,12] ( fJ 79 3 5::lJ 80 79::cJ 81 .eql 80 0::mJ 82 81::gTf 83 82 2 5::gTl 84 82 83::gT 85 82 (.len (.t 84))::gTf 86 82 0 5::gTl 87 82 86::.e (some 88) (some (82,true)) (.call Qlr [.t 87])::Qjt) [6]) .ret
def Qzc:SC:=.seq (sR [fJ 46 0 5,lJ 47 46] [1,3,5,47] Qaob) Qaoc
def Qzd:SC:=.seq (sR (fJ 25 0 5::lJ 26 25::aJ 27 Qti [.t 26]::Qmc) [1,3,5,45] s_im_insOk_8) Qzc
def Qaod:SC:=.seq (sR (fJ 15 0 5::lJ 16 15::aJ 17 Qls [.t 16]::Qzg) [1,3,5,8,24] s_im_insOk_4) Qzd
def Qaoe:SC:=sR (fI 14 (.mkf Qc8 [.t 7])::eI 8 (.alloc [.fnil])::Qzf) [1,3,5,8] Qaod
def Qaof:SC:=sR (fJ 9 0 3::lJ 10 9::mJ 11 1::iJ 12 3 10 11::tJ 13 3 12::eI 7 (.alloc [.int .i64 0,.int .i64 0,.sl true 5 []])::Qze) [1,3,5,7] Qaoe
def Qbbn:SC:=sR [vJ 3 0,vJ 5 2,fB 6 false] [1,3,5] Qaof
def Qkf:List RS:=[.tmp 6]
theorem Qbav:mFn prog Qwo 3 91 Qbbn Qkf=true:=by kernel_rfl
def Qna:List Item:=[mJ 3 8]
def Qab0:SC:=sR (mJ 4 0::fJ 5 1 1::lJ 6 5::cJ 7 .sub 6 1::aJ 8 Qax [.t 4,kI 0,.t 7]::Qna) [3] .ret
def Qaog:SC:=sR [fB 3 false] [0,1] Qab0
def Qyo:List RS:=[.tmp 3]
theorem Qanb:mFn prog Qc8 2 9 Qaog Qyo=true:=by kernel_rfl
def Qnb:List Item:=[oJ 7 6,mJ 3 7]
def Qab1:SC:=sR (lJ 4 1::mJ 5 0::eI 6 (.callv (.t 4) [.t 5])::Qnb) [3] .ret
def Qaoh:SC:=sR [fB 3 false] [0,1] Qab1
def Qyp:List RS:=[.tmp 3]
theorem Qanc:mFn prog Qje 2 8 Qaoh Qyp=true:=by kernel_rfl
def Qvs:List Item:=[mJ 2 4]
def Qaoi:SC:=sR (mJ 3 0::aJ 4 Qax [.t 3,kI 0,kI 255]::Qvs) [2] .ret
def Qa12:SC:=sR [fB 2 false] [0] Qaoi
def Qaar:List RS:=[.tmp 2]
theorem Qa1d:mFn prog Qij 1 5 Qa12 Qaar=true:=by kernel_rfl
def Qzh:List Item:=[mJ 2 4]
def Qatp:SC:=sR (mJ 3 0::aJ 4 Qax [.t 3,kI 1,kI 14]::Qzh) [2] .ret
def Qbbo:SC:=sR [fB 2 false] [0] Qatp
def Qalp:List RS:=[.tmp 2]
theorem Qbaw:mFn prog Qls 1 5 Qbbo Qalp=true:=by kernel_rfl
def Qc1:List Item:=[sJ 5 7 13]
def Qc2:List Item:=[mJ 5 19]
def Qc3:List Item:=fI 18 (.bsl 5 [.t 17])::xJ 19 5 14 18::Qc2
def Qju:SC:=.reg (mJ 14 5::mJ 15 1::tJ 16 5 7::eI 17 (.callv (.t 15) [.t 16])::Qc3) [1,5,8,9,10]
def Qjv:SC:=.reg [cJ 20 .add 10 1,mJ 10 20] [1,5,8,9,10]
def Qjw:SC:=.seq (.block 1 (sR (iJ 12 5 8 10::tJ 13 5 12::eI 7 (.alloc [.sl true 2 [],.sl true 4 [],.int .i64 0,.int .i64 0,.sl true 1 []])::Qc1) [1,5,7,8,9,10] Qju)) Qjv
def Qig:SC:=sR [bJ 11 .lss 10 9] [1,5,8,9,10,11] (cX 11 0 Qjw)
def Qjx:SC:=sR [mJ 21 5,mJ 4 21] [4] .ret
def Qjy:SC:=.seq (sR [mJ 8 0,nJ 9 8,zJ 10 0] [1,5,8,9,10] (bL 0 Qig)) Qjx
def Qjz:SC:=sR [fI 5 (.mv (.k (.c (.sl true 5 []))))] [0,1,5] Qjy
def Qme:SC:=sR [fI 4 (.mv (.k (.c (.sl true 5 []))))] [0,1] Qjz
def Qd8:List RS:=[.tmp 4]
theorem Ql6:mFn prog Qb5 2 22 Qme Qd8=true:=by kernel_rfl
def Qdx:List Item:=[sJ 3 7 13]
def Qdy:List Item:=[mJ 5 19]
def Qdz:List Item:=fI 18 (.bsl 3 [.t 17])::xJ 19 3 14 18::Qdy
def Qmf:SC:=.reg (mJ 14 5::mJ 15 1::tJ 16 3 7::eI 17 (.callv (.t 15) [.t 16])::Qdz) [1,5,8,9,10]
def Qmg:SC:=.reg [cJ 20 .add 10 1,mJ 10 20] [1,5,8,9,10]
def Qmh:SC:=.seq (.block 1 (sR (iJ 12 3 8 10::tJ 13 3 12::eI 7 (.alloc [.int .i64 0,.int .i64 0,.sl true 5 []])::Qdx) [1,5,7,8,9,10] Qmf)) Qmg
def Qk1:SC:=sR [bJ 11 .lss 10 9] [1,5,8,9,10,11] (cX 11 0 Qmh)
def Qmi:SC:=sR [mJ 21 5,mJ 4 21] [4] .ret
def Qmj:SC:=.seq (sR [mJ 8 0,nJ 9 8,zJ 10 0] [1,5,8,9,10] (bL 0 Qk1)) Qmi
def Qmk:SC:=sR [fI 5 (.mv (.k (.c (.sl true 3 []))))] [0,1,5] Qmj
def Qp9:SC:=sR [fI 4 (.mv (.k (.c (.sl true 3 []))))] [0,1] Qmk
def Qfo:List RS:=[.tmp 4]
theorem Qph:mFn prog Qck 2 22 Qp9 Qfo=true:=by kernel_rfl
def Qea:List Item:=[sJ 4 7 13]
def Qeb:List Item:=[mJ 5 19]
def Qec:List Item:=fI 18 (.bsl 4 [.t 17])::xJ 19 4 14 18::Qeb
def Qqa:SC:=.reg (mJ 14 5::mJ 15 1::tJ 16 4 7::eI 17 (.callv (.t 15) [.t 16])::Qec) [1,5,8,9,10]
def Qqb:SC:=.reg [cJ 20 .add 10 1,mJ 10 20] [1,5,8,9,10]
def Qqc:SC:=.seq (.block 1 (sR (iJ 12 4 8 10::tJ 13 4 12::eI 7 (.alloc [.int .i64 0,.int .i64 0,.sl true 1 [],.int .i64 0])::Qea) [1,5,7,8,9,10] Qqa)) Qqb
def Qot:SC:=sR [bJ 11 .lss 10 9] [1,5,8,9,10,11] (cX 11 0 Qqc)
def Qqd:SC:=sR [mJ 21 5,mJ 4 21] [4] .ret
def Qqe:SC:=.seq (sR [mJ 8 0,nJ 9 8,zJ 10 0] [1,5,8,9,10] (bL 0 Qot)) Qqd
def Qqf:SC:=sR [fI 5 (.mv (.k (.c (.sl true 4 []))))] [0,1,5] Qqe
def Qwz:SC:=sR [fI 4 (.mv (.k (.c (.sl true 4 []))))] [0,1] Qqf
def Qhu:List RS:=[.tmp 4]
theorem Qws:mFn prog Qc4 2 22 Qwz Qhu=true:=by kernel_rfl
def Qed:List Item:=[sJ 2 7 13]
def Qee:List Item:=[mJ 5 19]
def Qef:List Item:=fI 18 (.bsl 2 [.t 17])::xJ 19 2 14 18::Qee
def Qqg:SC:=.reg (mJ 14 5::mJ 15 1::tJ 16 2 7::eI 17 (.callv (.t 15) [.t 16])::Qef) [1,5,8,9,10]
def Qqh:SC:=.reg [cJ 20 .add 10 1,mJ 10 20] [1,5,8,9,10]
def Qqi:SC:=.seq (.block 1 (sR (iJ 12 2 8 10::tJ 13 2 12::eI 7 (.alloc [.int .i64 0,.sl true 1 []])::Qed) [1,5,7,8,9,10] Qqg)) Qqh
def Qou:SC:=sR [bJ 11 .lss 10 9] [1,5,8,9,10,11] (cX 11 0 Qqi)
def Qqj:SC:=sR [mJ 21 5,mJ 4 21] [4] .ret
def Qqk:SC:=.seq (sR [mJ 8 0,nJ 9 8,zJ 10 0] [1,5,8,9,10] (bL 0 Qou)) Qqj
def Qql:SC:=sR [fI 5 (.mv (.k (.c (.sl true 2 []))))] [0,1,5] Qqk
def Qw0:SC:=sR [fI 4 (.mv (.k (.c (.sl true 2 []))))] [0,1] Qql
def Qhv:List RS:=[.tmp 4]
theorem Qwt:mFn prog Qb0 2 22 Qw0 Qhv=true:=by kernel_rfl
def Q7d:SC:=cT 8 (sR [zJ 2 0] [2] .ret) .skip
def Q7e:SC:=cT 6 (sR [zJ 2 2] [2] .ret) (sR [cJ 9 .eql 3 3,mJ 8 9] [8] Q7d)
def Q7f:SC:=cT 4 (sR [zJ 2 1] [2] .ret) (sR [cJ 7 .eql 3 2,mJ 6 7] [3,6] Q7e)
def Q7g:SC:=.block 0 (sR [cJ 5 .eql 3 1,mJ 4 5] [3,4] Q7f)
def Q7h:SC:=sR [zJ 2 (-1)] [2] .ret
def Q7i:SC:=.seq (sR [mJ 3 0] [3] Q7g) Q7h
def Qain:SC:=sR [zJ 2 0] [0] Q7i
def Qjo:List RS:=[.tmp 2]
theorem Qahf:mFn prog Qhj 1 10 Qain Qjo=true:=by kernel_rfl
def Qqs:List Item:=[fB 5 false]
def Qqt:List Item:=[oJ 8 7]
def Qqu:List Item:=[fB 5 false]
def Qaio:SC:=cT 8 (sR (fI 9 (.bld [.sl true 3 []] [])::sJ 1 4 9::Qqu) [4,5] .ret) .skip
def Qqv:List Item:=[fB 5 true]
def Qqw:List Item:=fI 14 (.bld [.sl true 3 []] [(0,1,.t 13)])::sJ 1 4 14::Qqv
def Qaip:SC:=sR (fJ 10 0 2::lJ 11 10::mJ 12 1::aJ 13 Qck [.t 11,.t 12]::Qqw) [4,5] .ret
def Qaiq:SC:=.seq (sR (tJ 6 1 2::aJ 7 Qb4 [.t 6]::Qqt) [1,2,4,8] Qaio) Qaip
def Qatq:SC:=sR (vJ 2 0::eI 4 (.alloc [.sl true 3 []])::Qqs) [1,2,4] Qaiq
def Qpr:List RS:=[.cell 4 1 true,.tmp 5]
theorem Qasa:mFn prog Qlt 2 15 Qatq Qpr=true:=by kernel_rfl
def Q3n:List Item:=[mJ 5 4,gTm 6 5 0,gT 7 5 (.bin 0 .neq (.t 6) (kI 12)),pF 8 5 7,mJ 9 8,gTm 10 9 0,gT 11 9 (.bin 0 .neq (.t 10) (kI 13)),pF 12 9 11,mJ 2 12]
def Qa13:SC:=sR (mJ 3 0::aJ 4 Qls [.t 3]::Q3n) [2] .ret
def Qbhe:SC:=sR [fB 2 false] [0] Qa13
def Qasv:List RS:=[.tmp 2]
theorem Qbf0:mFn prog Qti 1 13 Qbhe Qasv=true:=by kernel_rfl
def Qaok:SC:=sR [mJ 3 0,cJ 4 .eql 3 2,mJ 5 4,gFm 6 5 0,gF 7 5 (.bin 0 .eql (.t 6) (kI 3)),pT 8 5 7,mJ 2 8] [2] .ret
def Qa14:SC:=sR [fB 2 false] [0] Qaok
def Qaas:List RS:=[.tmp 2]
theorem Qa1e:mFn prog Qik 1 9 Qa14 Qaas=true:=by kernel_rfl
def Qvu:List Item:=[mJ 9 20]
def Qvv:List Item:=[sJ 5 10 25]
def Qapa:SC:=cT 28 (.reg [mJ 29 9,fJ 30 3 10,lJ 31 30,iJ 32 1 29 31,.e none none (.sto 1 (.t 32) (.k (.c (.bool true))))] [3,9,10]) .skip
def Qvw:List Item:=[mJ 12 47]
def Qapb:SC:=cT 49 (.reg [mJ 50 9,mJ 51 12,iJ 52 1 50 51,.e none none (.sto 1 (.t 52) (.k (.c (.bool false))))] [3,9,10,11]) .skip
def Qapc:SC:=.reg [mJ 62 13,cJ 63 .add 62 1,mJ 13 63] [3,9,10,11,13]
def Qapd:SC:=.seq (.block 3 (.reg [mJ 64 9,fJ 65 1 10,lJ 66 65,mJ 67 11,iJ 68 4 66 67,fJ 69 2 68,lJ 70 69,mJ 71 13,iJ 72 1 70 71,lJ 73 72,iJ 74 1 64 73,.e none none (.sto 1 (.t 74) (.k (.c (.bool true))))] [3,9,10,11,13])) Qapc
def Qai9:SC:=.seq (sR [mJ 53 13,fJ 54 1 10,lJ 55 54,mJ 56 11,iJ 57 4 55 56,fJ 58 2 57,lJ 59 58,nJ 60 59,bJ 61 .lss 53 60] [3,9,10,11,13,61] (cT 61 .skip (.exit 2))) Qapd
def Qape:SC:=sR [zJ 13 0] [3,9,10,11,13] (bL 2 Qai9)
def Qapf:SC:=.seq (sR [mJ 48 12,cJ 49 .geq 48 0] [3,9,10,11,12,49] Qapb) Qape
def Qai2:SC:=.reg [mJ 40 11,cJ 41 .sub 40 1,mJ 11 41] [3,9,10,11]
def Qai3:SC:=.seq (.block 1 (sR (fJ 42 1 10::lJ 43 42::mJ 44 11::iJ 45 4 43 44::tJ 46 4 45::aJ 47 Qin [.t 46]::Qvw) [3,9,10,11,12] Qapf)) Qai2
def Qacf:SC:=.seq (sR [mJ 37 11,mJ 38 3,bJ 39 .gtr 37 38] [3,9,10,11,39] (cT 39 .skip (.exit 0))) Qai3
def Qai4:SC:=sR [mJ 75 9,mJ 8 75] [8] .ret
def Qai5:SC:=.seq (sR [fJ 33 1 10,lJ 34 33,nJ 35 34,cJ 36 .sub 35 1,mJ 11 36] [3,9,10,11] (bL 0 Qacf)) Qai4
def Qai6:SC:=.seq (sR [fJ 26 2 10,lJ 27 26,cJ 28 .neq 27 1] [3,9,10,28] Qapa) Qai5
def Qai7:SC:=sR (fJ 21 2 4::lJ 22 21::mJ 23 2::iJ 24 5 22 23::tJ 25 5 24::eI 10 (.alloc [.sl true 2 [],.sl true 4 [],.int .i64 0,.int .i64 0,.sl true 1 []])::Qvv) [3,9,10] Qai6
def Qai8:SC:=sR (fI 14 (.bsl 1 [])::fJ 15 1 5::lJ 16 15::mJ 17 2::iJ 18 1 16 17::lJ 19 18::xJ 20 1 14 19::Qvu) [2,3,4,9] Qai7
def Qa24:SC:=sR [vJ 4 0,vJ 5 1,fI 8 (.mv (.k (.c (.sl true 1 []))))] [2,3,4,5] Qai8
def Qaay:List RS:=[.tmp 8]
theorem Qa1h:mFn prog Qo7 4 76 Qa24 Qaay=true:=by kernel_rfl
def Q4d:List Item:=[mJ 9 20]
def Q4e:List Item:=[mJ 10 25]
def Q4f:List Item:=mJ 24 2::aJ 25 Qtj [.t 23,.t 24]::Q4e
def Qa25:SC:=.reg [mJ 35 11,cJ 36 .add 35 1,mJ 11 36] [2,3,4,5,9,10,11]
def Qa26:SC:=.seq (.block 1 (.reg [mJ 37 9,fJ 38 2 4,lJ 39 38,mJ 40 3,iJ 41 5 39 40,fJ 42 0 41,lJ 43 42,mJ 44 11,iJ 45 2 43 44,fJ 46 1 45,lJ 47 46,mJ 48 10,iJ 49 1 47 48,lJ 50 49,iJ 51 1 37 50,.e none none (.sto 1 (.t 51) (.k (.c (.bool true))))] [2,3,4,5,9,10,11])) Qa25
def Qawi:SC:=.seq (sR [mJ 26 11,fJ 27 2 4,lJ 28 27,mJ 29 3,iJ 30 5 28 29,fJ 31 0 30,lJ 32 31,nJ 33 32,bJ 34 .lss 26 33] [2,3,4,5,9,10,11,34] (cT 34 .skip (.exit 0))) Qa26
def Qacg:SC:=.reg [fJ 74 1 5,lJ 75 74,mJ 76 2,iJ 77 1 75 76,lJ 78 77,mJ 79 13,iJ 80 1 78 79,.e none none (.sto 1 (.t 80) (.k (.c (.bool true))))] [2,4,5,9,12,13]
def Qa27:SC:=cT 61 (sR [mJ 62 12,mJ 63 62,gFf 64 63 1 5,gFl 65 63 64,gFm 66 63 2,gF 67 63 (.iad 1 (.t 65) (.t 66)),gFl 68 63 67,gFm 69 63 13,gF 70 63 (.iad 1 (.t 68) (.t 69)),gFl 71 63 70,gF 72 63 (.not (.t 71)),pT 73 63 72,mJ 12 73] [2,4,5,9,12,13] Qacg) .skip
def Qa28:SC:=.reg [mJ 56 13,cJ 57 .add 56 1,mJ 13 57] [2,4,5,9,12,13]
def Qa29:SC:=.seq (.block 3 (sR [mJ 58 9,mJ 59 13,iJ 60 1 58 59,lJ 61 60] [2,4,5,9,12,13,61] Qa27)) Qa28
def Qapg:SC:=.seq (sR [mJ 52 13,fJ 53 1 4,lJ 54 53,bJ 55 .lss 52 54] [2,4,5,9,12,13,55] (cT 55 .skip (.exit 2))) Qa29
def Qawc:SC:=sR [mJ 81 12,mJ 8 81] [8] .ret
def Qawd:SC:=.seq (sR [zJ 13 0] [2,4,5,9,12,13] (bL 2 Qapg)) Qawc
def Qawe:SC:=sR [fB 12 false] [2,4,5,9,12] Qawd
def Qawf:SC:=.seq (sR [zJ 11 0] [2,3,4,5,9,10,11] (bL 0 Qawi)) Qawe
def Qawg:SC:=sR (tJ 21 3 4::mJ 22 3::aJ 23 Qci [.t 21,.t 22]::Q4f) [2,3,4,5,9,10] Qawf
def Qawh:SC:=sR (fI 14 (.bsl 1 [])::fJ 15 0 5::lJ 16 15::mJ 17 3::iJ 18 1 16 17::lJ 19 18::xJ 20 1 14 19::Q4d) [2,3,4,5,9] Qawg
def Qbhx:SC:=sR [vJ 4 0,vJ 5 1,fB 8 false] [2,3,4,5] Qawh
def Qas0:List RS:=[.tmp 8]
theorem Qbf8:mFn prog Q07 4 82 Qbhx Qas0=true:=by kernel_rfl
def Q4g:List Item:=[sJ 2 3 12]
def Q4h:List Item:=[fJ 28 0 3,sJ 1 28 27]
def Q4i:List Item:=hJ 22 21::fI 26 (.bsl 1 [.t 25])::xJ 27 1 22 26::Q4h
def Q4j:List Item:=[fJ 36 1 3,sJ 1 36 35]
def Q4k:List Item:=hJ 30 29::fI 34 (.bsl 1 [.t 33])::xJ 35 1 30 34::Q4j
def Qa3a:SC:=.dreg 9 [0,1,2,3,4,1,5,6,7,8] ( fJ 29 1 3::lJ 30 29::fJ 31 1 1::lJ 32 31::eI 33 (.mks 1 [.bool false] (.t 32))::Q4k) [1,2,3,4,5]
def Qa3b:SC:=.reg [mJ 19 5,cJ 20 .add 19 1,mJ 5 20] [1,2,3,4,5]
def Qa3c:SC:=.seq (.block 1 (.seq (.dreg 9 [0,1,2,3,4,1,5,6,7,8] ( fJ 21 0 3::lJ 22 21::fJ 23 1 1::lJ 24 23::eI 25 (.mks 1 [.bool false] (.t 24))::Q4i) [1,2,3,4,5]) Qa3a)) Qa3b
def Qaw2:SC:=.seq (sR [mJ 16 5,mJ 17 4,bJ 18 .lss 16 17] [1,2,3,4,5,18] (cT 18 .skip (.exit 0))) Qa3c
def Qry:List Item:=[mJ 68 67,gFm 69 68 6,pT 70 68 69,mJ 6 70]
def Qawj:SC:=.reg [mJ 53 8,cJ 54 .add 53 1,mJ 8 54] [1,2,3,4,6,7,8]
def Qawk:SC:=.seq (.block 7 (.dreg 17 [0,1,2,3,4,5,6,7,8,9,10,11,12,13,14,15,16] ( tJ 55 3 1::tJ 56 2 3::mJ 57 7::fJ 58 2 1::lJ 59 58::mJ 60 7::iJ 61 5 59 60::fJ 62 4 61::lJ 63 62::mJ 64 8::iJ 65 1 63 64::lJ 66 65::aJ 67 Q07 [.t 55,.t 56,.t 57,.t 66]::Qry) [1,2,3,4,6,7,8])) Qawj
def Qaph:SC:=.seq (sR [mJ 44 8,fJ 45 2 1,lJ 46 45,mJ 47 7,iJ 48 5 46 47,fJ 49 4 48,lJ 50 49,nJ 51 50,bJ 52 .lss 44 51] [1,2,3,4,6,7,8,52] (cT 52 .skip (.exit 6))) Qawk
def Qzw:List Item:=[mJ 9 74]
def Qawl:SC:=.reg [mJ 84 10,cJ 85 .add 84 1,mJ 10 85] [1,2,3,4,6,7,9,10]
def Qawm:SC:=.seq (.block 9 (.reg [mJ 86 9,fJ 87 2 1,lJ 88 87,mJ 89 7,iJ 90 5 88 89,fJ 91 0 90,lJ 92 91,mJ 93 10,iJ 94 2 92 93,fJ 95 0 94,lJ 96 95,iJ 97 1 86 96,.e none none (.sto 1 (.t 97) (.k (.c (.bool false))))] [1,2,3,4,6,7,9,10])) Qawl
def Qapi:SC:=.seq (sR [mJ 75 10,fJ 76 2 1,lJ 77 76,mJ 78 7,iJ 79 5 77 78,fJ 80 0 79,lJ 81 80,nJ 82 81,bJ 83 .lss 75 82] [1,2,3,4,6,7,9,10,83] (cT 83 .skip (.exit 8))) Qawm
def Qawn:SC:=.reg [mJ 102 11,cJ 103 .add 102 1,mJ 11 103] [1,2,3,4,6,7,9,11]
def Qawo:SC:=.seq (.block 11 (.dreg 17 [0,1,2,3,4,5,6,7,8,9,10,11,12,13,14,15,16] ( mJ 104 6::mJ 105 104::gFm 106 105 9::gFm 107 105 11::gF 108 105 (.iad 1 (.t 106) (.t 107))::gFl 109 105 108::gFf 110 105 0 3::gFl 111 105 110::gFm 112 105 7::gF 113 105 (.iad 1 (.t 111) (.t 112))::gFl 114 105 113::gFm 115 105 11::gF 116 105 (.iad 1 (.t 114) (.t 115))::gFl 117 105 116::gF 118 105 (.bin 1 .neq (.t 109) (.t 117))::pT 119 105 118::mJ 6 119::[]) [1,2,3,4,6,7,9,11])) Qawn
def Qapj:SC:=.seq (sR [mJ 98 11,fJ 99 1 1,lJ 100 99,bJ 101 .lss 98 100] [1,2,3,4,6,7,9,11,101] (cT 101 .skip (.exit 10))) Qawo
def Qawp:SC:=.reg [fJ 120 0 3,lJ 121 120,mJ 122 7,mJ 123 9,iJ 124 1 121 122,sJ 1 124 123] [1,2,3,4,6,7]
def Qawq:SC:=.seq (sR [zJ 11 0] [1,2,3,4,6,7,9,11] (bL 10 Qapj)) Qawp
def Qawr:SC:=.seq (sR [zJ 10 0] [1,2,3,4,6,7,9,10] (bL 8 Qapi)) Qawq
def Qaws:SC:=sR (tJ 71 3 1::tJ 72 2 3::mJ 73 7::aJ 74 Qo7 [.t 71,.t 72,.t 73,kI (-1)]::Qzw) [1,2,3,4,6,7,9] Qawr
def Qawt:SC:=.reg [mJ 42 7,cJ 43 .sub 42 1,mJ 7 43] [1,2,3,4,6,7]
def Qawu:SC:=.seq (.block 5 (.seq (sR [zJ 8 0] [1,2,3,4,6,7,8] (bL 6 Qaph)) Qaws)) Qawt
def Qapk:SC:=.seq (sR [mJ 40 7,cJ 41 .geq 40 0] [1,2,3,4,6,7,41] (cT 41 .skip (.exit 4))) Qawu
def Qawv:SC:=sR [mJ 38 4,cJ 39 .sub 38 1,mJ 7 39] [1,2,3,4,6,7] (bL 4 Qapk)
def Qaww:SC:=.block 3 (sR [fB 6 false] [1,2,3,4,6] Qawv)
def Qapl:SC:=.seq (sR [mJ 37 6] [1,2,3,4,37] (cT 37 .skip (.exit 2))) Qaww
def Qawx:SC:=sR [tJ 125 2 3,sJ 2 2 125] [2] .ret
def Qawy:SC:=.seq (sR [fB 6 true] [1,2,3,4,6] (bL 2 Qapl)) Qawx
def Qawz:SC:=.seq (sR [zJ 5 0] [1,2,3,4,5] (bL 0 Qaw2)) Qawy
def Qaw0:SC:=sR [fJ 13 2 1,lJ 14 13,nJ 15 14,mJ 4 15] [1,2,3,4] Qawz
def Qaw1:SC:=sR (fI 12 (.bld [.sl true 1 [],.sl true 1 []] [])::eI 3 (.alloc [.sl true 1 [],.sl true 1 []])::Q4g) [1,2,3] Qaw0
def Qbhy:SC:=sR [vJ 1 0,eI 2 (.alloc [.sl true 1 [],.sl true 1 []])] [1,2] Qaw1
def Qas1:List RS:=[.cell 2 2 true]
theorem Qbf9:mFn prog Qtp 1 126 Qbhy Qas1=true:=by kernel_rfl
def Qd0:List Item:=[cJ 8 .geq 7 0,mJ 4 8]
def Qmt:SC:=sR (mJ 5 0::mJ 6 1::aJ 7 Qdk [.t 5,.t 6]::Qd0) [4] .ret
def Qtc:SC:=sR [fB 4 false] [0,1] Qmt
def Qfq:List RS:=[.tmp 4]
theorem Qpj:mFn prog Qcl 2 9 Qtc Qfq=true:=by kernel_rfl
def Quv:SC:=cT 16 (sR [mJ 17 5,mJ 4 17] [4] .ret) .skip
def Quw:SC:=sR [mJ 11 1,mJ 12 0,mJ 13 5,iJ 14 4 12 13,tJ 15 4 14,eI 16 (.callv (.t 11) [.t 15])] [0,1,5,7,8,16] Quv
def Qux:SC:=.reg [cJ 18 .add 8 1,mJ 8 18] [0,1,7,8]
def Quy:SC:=.seq (.block 1 (sR [mJ 10 8,mJ 5 10] [0,1,5,7,8] Quw)) Qux
def Qtd:SC:=sR [bJ 9 .lss 8 7] [0,1,7,8,9] (cX 9 0 Quy)
def Quz:SC:=sR [zJ 4 (-1)] [4] .ret
def Qu0:SC:=.seq (sR [mJ 6 0,nJ 7 6,zJ 8 0] [0,1,7,8] (bL 0 Qtd)) Quz
def Q0s:SC:=sR [zJ 4 0] [0,1] Qu0
def Qd9:List RS:=[.tmp 4]
theorem Qyj:mFn prog Qdk 2 19 Q0s Qd9=true:=by kernel_rfl
def Qaqz:SC:=cT 5 (sR [fJ 6 1 1,lJ 7 6,mJ 2 7] [2] .ret) .skip
def Qaq0:SC:=sR [zJ 2 (-1)] [2] .ret
def Qaq1:SC:=.seq (sR [fJ 3 0 1,lJ 4 3,aJ 5 Qew [.t 4]] [1,5] Qaqz) Qaq0
def Qa7z:SC:=sR [vJ 1 0,zJ 2 0] [1] Qaq1
def Qwx:List RS:=[.tmp 2]
theorem Qa1p:mFn prog Qin 1 8 Qa7z Qwx=true:=by kernel_rfl
end Go.AE.Y
attribute [go_sem_proc] reduceIte reduceEqDiff reduceAdd reduceLeDiff reduceLT reduceCtorEq
namespace Go.AE.Y
open Go.Proofs.Tryz
theorem Qaj:prog.follows .mixedOrders=true:=by kernel_rfl
theorem Qbqr (l : Nat) (fl : Bool) (bs : List UInt8) (k : Nat) (n : Int) (H : Heap) (K : V → Heap → Prop)
   (hH : H l = .st [.sl fl 1 (Qbp bs), .int .i64 k]) (hp' : k ≤ 2^40)
   (hK : ∀ v : Int, (if n < 1 then v = 0 else 0 ≤ v ∧ v < n) → K (.c (.int .i64 v)) (H.set l (.st [.sl fl 1 (Qbp bs), .int .i64 ((k + 1 : Nat) : Int)]))) :
   Qs prog Qt [.c (.ptr l 0), .c (.int .i64 n)] H K := by
  refine Qc Qaj Qasf ?_;refine Qa ?_;simp only [go_sem, Qav, Qgu, reduceIte, Nat.reduceEqDiff, Nat.reduceAdd];refine Qa ?_;simp only [go_sem, Qav, Qgu, reduceIte, Nat.reduceEqDiff, Nat.reduceAdd, Nat.reduceLeDiff, Nat.reduceLT, hH];refine ⟨Qr (by omega) (by omega), fun H2 hH2' => ?_⟩;have hH2 : H2 l = .st [C.sl fl 1 (Qbp bs), C.int IntKind.i64 (k + 1)] := by rw [hH2']; exact Heap.set_same _ _ _
  have hK2 : ∀ v : Int, (if n < 1 then v = 0 else 0 ≤ v ∧ v < n) → K (.c (.int .i64 v)) H2 := by
    intro v hv; rw [hH2']; exact hK v hv
  clear hK;refine Qy ?_;refine Qa ?_;simp only [go_sem, Qav, Qgu, reduceIte, Nat.reduceEqDiff, Nat.reduceAdd, Nat.reduceLeDiff, hH2];intro _;refine Qh (Qe rfl ?_ ?_)
  · intro hc;refine Qa ?_;simp only [go_sem, reduceIte, Nat.reduceEqDiff];refine Qk ?_;simp only [go_sem, Q3, Qab, Qiv, reduceIte, Jj, forall_eq, RS.op];refine hK2 0 ?_;split <;> omega
  · intro hc;refine Qi ?_;simp only [go_sem];have hn : 1 ≤ n ∧ bs.length ≠ 0 := by
      simp only [cond_eq_ite] at hc;split at hc
      · simp at hc
      · simp at hc; simp_all
    refine Qa ?_;simp only [go_sem, Qav, Qgu, reduceIte, Nat.reduceEqDiff, Nat.reduceAdd, Nat.reduceLeDiff, hH2];refine ⟨Qr (by omega) (by omega), ?_⟩;refine Qy ?_;refine Qa ?_;simp only [go_sem, Qav, Qgu, reduceIte, Nat.reduceEqDiff, Nat.reduceAdd, Nat.reduceLeDiff, hH2];intro hl;refine Qh (Qe rfl ?_ ?_)
    · intro hc2;have hk : k < bs.length := (by simpa using hc2);refine Qa ?_;simp only [go_sem, Qav, Qgu, reduceIte, Nat.reduceEqDiff, Nat.reduceAdd, Nat.reduceLeDiff, hH2, hk, Q26];refine ⟨by omega, ?_⟩;refine Qk ?_;simp only [go_sem, Q3, Qab, Qiv, reduceIte, Jj, forall_eq, RS.op];refine hK2 _ ?_;rw [if_neg (by omega)];exact ⟨Jao _ (by omega), Jaj _ (by omega)⟩
    · intro hc2;refine Qi ?_;simp only [go_sem];refine Qag ?_;have e1 : ((k : Int).tmod (bs.length : Int)) = ((k % bs.length : Nat) : Int) := rfl;have e2 : (((k : Int) * 7 + 3).tmod (bs.length : Int)) = (((k * 7 + 3) % bs.length : Nat) : Int) := rfl;have h1 : k % bs.length < bs.length := Nat.mod_lt _ (by omega);have h2 : (k * 7 + 3) % bs.length < bs.length := Nat.mod_lt _ (by omega);simp only [go_sem, Qav, Qgu, reduceIte, Nat.reduceEqDiff, Nat.reduceAdd, Nat.reduceLeDiff, hH2, e1, e2, h1, h2, Q26];have e3 : (k : Int).tdiv (bs.length : Int) = ((k / bs.length : Nat) : Int) := rfl;have h3 : k / bs.length ≤ k := Nat.div_le_self _ _;rw [e3];have h4 := (bs.getD (k % bs.length) 0).toNat_lt;have h5 := (bs.getD ((k * 7 + 3) % bs.length) 0).toNat_lt;generalize (bs.getD (k % bs.length) 0).toNat = b1 at *;generalize (bs.getD ((k * 7 + 3) % bs.length) 0).toNat = b2 at *;generalize k / bs.length = d at *;clear e1 e2 h1 h2 e3;refine ⟨by omega, Qr (by omega) (by omega), Qr (by omega) (by omega), Qr (by omega) (by omega), by omega, Qr (by omega) (by omega), Qr (by omega) (by omega),
        Qr (by omega) (by omega), Qr (by omega) (by omega), ⟨by omega, Qr (by omega) (by omega)⟩, Qr (by omega) (by omega), Qr (by omega) (by omega), ?_⟩
      have hx : 0 ≤ (b1 : Int) * 131 + b2 * 1117 + k * 29 + d * 53 := (by omega);have hx' : (b1 : Int) * 131 + b2 * 1117 + k * 29 + d * 53 < 2 ^ 62 := (by omega);generalize (b1 : Int) * 131 + b2 * 1117 + k * 29 + d * 53 = x at *;refine Qa ?_;simp only [go_sem, Qav, Qgu, reduceIte, Nat.reduceEqDiff, Nat.reduceAdd, Nat.reduceLeDiff];have hq : 0 ≤ x.tdiv 64 := Int.tdiv_nonneg hx (by omega);have hq' : x.tdiv 64 ≤ x := (by have := Int.tdiv_le_self (a := x) 64 hx; exact this);refine ⟨⟨by omega, Qr (by omega) (by omega)⟩, ?_⟩;have hy := Qbrk hx hq hx' (by omega);generalize Qa92 .xor .i64 x (x.tdiv 64) = y at *;refine Qa ?_;simp only [go_sem, Qav, Qgu, reduceIte, Nat.reduceEqDiff, Nat.reduceAdd, Nat.reduceLeDiff];refine ⟨by omega, ?_⟩;refine Qk ?_;simp only [go_sem, Q3, Qab, Qiv, reduceIte, Jj, forall_eq, RS.op];refine hK2 _ ?_;rw [if_neg (by omega)];exact ⟨Jao _ (by omega), Jaj _ (by omega)⟩
theorem Qba {R:Rdr}{k:Nat}{n:Int}{H:Heap}{K:V→Heap→Prop}(hH:H R.l=R.o k)(hk:k≤2^40)
  (hK:∀(v:Int) (H':Heap),(if n<1 then v=0 else 0≤v∧v<n)→Upd H H' [(R.l,R.o (k+1))]→K (.c (.int .i64 v)) H') :
  Qs prog Qt [.c (.ptr R.l 0),.c (.int .i64 n)] H K:=
 Qbqr R.l R.fl R.bs k n H K hH hk fun v hv=>hK v _ hv ⟨by simp[Heap.set_same,Rdr.o],fun m _ hm=>Heap.set_other _ _ (by simpa using hm)⟩
theorem Qkc {R:Rdr}{k:Nat}{fl:Bool}{ns:List Int}{H:Heap}{K:V→Heap→Prop}(hH:H R.l=R.o k)(hk:k≤2^40)(hns:0<ns.length)
  (hK:∀(v:Int) (H':Heap),v∈ns→Upd H H' [(R.l,R.o (k+1))]→K (.c (.int .i64 v)) H') :
  Qs prog Qad [.c (.ptr R.l 0),.c (.sl fl 1 (Qb ns))] H K:=by
 refine Qc Qaj Qa1j ?_;refine Qa ?_;simp only[go_sem];refine Qa ?_;simp only[go_sem,Qd];intro hl;refine Qba hH hk fun v H' hv hu=>?_;rw[if_neg (by omega)]at hv;obtain⟨i,rfl⟩:=Js hv.1;have hi:i<ns.length:=by omega
 simp only[go_sem,Qv5,Qd,Qn,hi];refine Qk ?_;simp only[go_sem,Q3,Qab,Qaa5,reduceIte,Jj,forall_eq,RS.op];refine hK _ H' ?_ hu;rw[Je,Jm hi];exact J0 hi
theorem of_c {R:Rdr}{k:Nat}{fl:Bool}{ss:List (List UInt8)}{H:Heap}{K:V→Heap→Prop}(hH:H R.l=R.o k)(hk:k≤2^40)(hns:0<ss.length)
  (hK:∀(v:List UInt8) (H':Heap),v∈ss→Upd H H' [(R.l,R.o (k+1))]→K (.c (.str v)) H') :
  Qs prog Qhm [.c (.ptr R.l 0),.c (.sl fl 1 (Qbm ss))] H K:=by
 refine Qc Qaj Qba2 ?_;refine Qa ?_;simp only[go_sem];refine Qa ?_;simp only[go_sem,Qas];intro hl;refine Qba hH hk fun v H' hv hu=>?_;rw[if_neg (by omega)]at hv;obtain⟨i,rfl⟩:=Js hv.1;have hi:i<ss.length:=by omega
 simp only[go_sem,Q0g,Qas,Qic,hi];refine Qk ?_;simp only[go_sem,Q3,Qab,Qalv,reduceIte,Jj,forall_eq,RS.op];refine hK _ H' ?_ hu;rw[Je,Jm hi];exact J0 hi
theorem Qbk6 {R:Rdr}{k:Nat}{fl:Bool}{ss:List (List UInt8)}{H:Heap}{K:V→Heap→Prop}(hH:H R.l=R.o k)(hk:k+2≤2^40)
  (hK:∀(x:Ex) (H':Heap) (k':Nat),k<k'→k'≤k+2→Upd H H' [(R.l,R.o k')]→x.ok→x.size=1→K (.ag x.cells) H') :
  Qs prog Q9z [.c (.ptr R.l 0),.c (.sl fl 1 (Qbm ss))] H K:=by
 refine Qx ?_;refine Qc Qaj Qblm ?_;refine Qa ?_;simp only[go_sem];intro x hx H1 h1;have kn:=(Kn.start1 hH (R.o_ne k)).al hx h1;refine Qy ?_;refine Qa ?_;simp only[go_sem,Qas];intro hl;have rest:∀(b:Bool) (H2:Heap) (k2:Nat),k≤k2→k2≤k+1→Kn H H2 [(R.l,R.o k2)] [(x,.st [.int .i64 0,.int .i64 0,.str [],.sl true 4 []])]→(b=false→0<ss.length)→
   Qah prog (s_l2Leaf_2.seq Qal2) (Q3 Q9c (unK H K)) [(0,V.c (C.ptr R.l 0)),(1,V.c (C.sl fl 1 (Qbm ss))),(4,V.c (C.ptr x 0)),(12,V.c (.bool b))] H2:=by
  intro b H2 k2 hk1 hk2 kn hb;refine Qh (Qe rfl ?_ ?_)
  ·intro hb';refine Qa ?_;simp only[go_sem];refine Qkc (ns:=[0,1,2,3,5,7,15,16,100,255]) (kn.e 0 rfl) (by omega) (by simp) fun v H3 hv hu=>?_;have kn:=kn.callE 0 rfl hu (R.o_ne _);have hx3:=kn.l 0 rfl;simp only[go_sem,Qacv,hx3];intro H4 h4;have kn:=kn.stL 0 rfl h4;have hx4:=kn.l 0 rfl;refine Qk ?_;simp only[go_sem,Q3,Qab,Q9c,reduceIte,Jj,forall_eq,RS.op,hx4];refine⟨_,(Ex.mk 1 v [] []).frz,hK _ _ (k2+1) (by omega) (by omega) kn.fin ?_ ?_⟩
   ·simp[Ex.ok,Qd3]
   ·simp[Ex.size,Qai]
  ·intro hb';refine Qi ?_;simp only[go_sem];refine Qa ?_;simp only[go_sem];refine of_c (kn.e 0 rfl) (by omega) (hb hb') fun v H3 hv hu=>?_;have kn:=kn.callE 0 rfl hu (R.o_ne _);have hx3:=kn.l 0 rfl;simp only[go_sem,Qacw,hx3];intro H4 h4;have kn:=kn.stL 0 rfl h4;have hx4:=kn.l 0 rfl;refine Qk ?_;simp only[go_sem,Q3,Qab,Q9c,reduceIte,Jj,forall_eq,RS.op,hx4];refine⟨_,(Ex.mk 2 0 v []).frz,hK _ _ (k2+1) (by omega) (by omega) kn.fin ?_ ?_⟩
   ·simp[Ex.ok,Qd3]
   ·simp[Ex.size,Qai]
 refine⟨fun hb=>?_,fun hb=>?_⟩
 ·refine Qba (kn.e 0 rfl) (by omega) fun v H2 hv hu=>?_;have kn:=kn.callE 0 rfl hu (R.o_ne _);simp only[go_sem,Qxu];refine rest _ H2 (k+1) (by omega) (by omega) kn ?_;intro h;have:¬ss.length=0:=by simpa using hb
  omega
 ·have hb2:decide ((ss.length:Int)=0)=true:=by simpa using hb
  simp only[go_sem,Qxu,hb2];exact rest true H1 k (by omega) (by omega) kn (fun h=>by simp at h)
end Go.AE.Y
