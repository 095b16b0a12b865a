/- Part 7 of the proof: the engine, codes, walks and plain laws, each named where it stands. -/
import Derived.Test.YtchjcdooknkfpaaGreatDoorZF
import Derived.Below
import Derived.Defers
import Derived.Laws.Pointers
import Derived.OpenShut
import Derived.ProofKit
import Derived.Recover
open Nat (reduceEqDiff reduceAdd reduceLeDiff reduceLT)
set_option linter.unusedVariables false
set_option linter.unusedSimpArgs false
set_option maxRecDepth 4000
set_option maxHeartbeats 32000000
open Array renaming getElem?_eq_none->Jx
open Bool renaming and_eq_true->Jh,false_eq_true->J0
open Int renaming natCast_nonneg->J1
open List renaming mem_singleton->Ja,getD_eq_getElem?_getD->Jb,take_of_length_le->Jd,getD_cons_zero->Je,getElem?_eq_getElem->Jf,getD_cons_succ->Jg,take_succ_eq_append_getElem->Ji,length_map->Jj,getElem_mem->Jk,getElem?_eq_none->Jl,length_cons->Jm,length_nil->Jn,drop_eq_nil_of_le->Jo,getElem?_map->Jp,perm_append_comm->Jq,length_take->Jr,mem_append_left->Js,length_append->Jt,getElem?_eq_some_iff->Jv,map_append->Jy,forall_mem_cons->Jz,flatMap_cons->J2,not_mem_nil->J4,mem_cons->J5
open Nat renaming zero_add->Jc,eq_zero_or_pos->Ju,le_refl->Jw,lt_or_ge->J6,zero_le->J7
open Option.some renaming injEq->J3
namespace Go.AE
variable{H H0:Heap}{K:Uk}{t:List Y.InsD}{R:List Int}{rl j f S:Nat}{fl:Bool}{bs:List UInt8}
namespace Y
attribute [local go_sem] cond_true cond_false Bool.not_true Bool.not_false
open Go.Proofs.Tryz
variable{H':Heap}{E A A' B Li:Ul}{X:Rn}{r r':Rs}
section
variable{cs:List CodeD}{k b:Nat}{x:InsD}{s c:List Int}{fs:List Fr}
theorem Qa75 (h:x.op=1):stI cs k b x t R fs s c=.go (⟨k,b,t,R.set x.to.toNat x.n⟩::fs) s c:=Zax
theorem Qa9l (h:x.op=11):stI cs k b x t R fs s c=if 16<=ar R x 0 then .dn 2 0 s c else .go (⟨k,b,t,R.set x.to.toNat (rg c (ar R x 0))⟩::fs) s c:=Zax
theorem Qa76 (h:x.op=12):stI cs k b x t R fs s c=if 16<=ar R x 0 then .dn 2 0 s c else .go (⟨k,b,t,R⟩::fs) s (c.set (ar R x 0).toNat (ar R x 1)):=Zax
theorem Qa77 (h:x.op=13):stI cs k b x t R fs s c=.go (⟨k,b,t,R⟩::fs) (s++[ar R x 0]) c:=Zax
theorem Qa5p (h:x.op=14):stI cs k b x t R fs s c=.go (fr0 cs x.n.toNat (x.args.map (rg R))::⟨k,b,x::t,R⟩::fs) s c:=Zax
theorem Qa5q (h:x.op=2):stI cs k b x t R fs s c=.go (⟨k,b,t,R.set x.to.toNat (ar R x 0)⟩::fs) s c:=Zax
theorem Qa74 (h:x.op=10):stI cs k b x t R fs s c=.go (⟨k,b,t,R.set x.to.toNat (trI (ar R x 0=0))⟩::fs) s c:=by rw[stI];simp[h,arR]
theorem Qa9k (h3:3<=x.op)(h9:x.op<=9):stI cs k b x t R fs s c=if (arP x.op (ar R x 0) (ar R x 1)).2=true then .go (⟨k,b,t,R.set x.to.toNat (arP x.op (ar R x 0) (ar R x 1)).1⟩::fs) s c else .dn 1 0 s c:=by
 rw[stI,arP];simp only[show ¬x.op=1 by omega,show ¬x.op=11 by omega,show ¬x.op=12 by omega,show ¬x.op=13 by omega,show ¬x.op=14 by omega,show ¬x.op=2 by omega,if_false];cases arR x.op (ar R x 0) (ar R x 1) <;> simp
end
theorem Qa6h {op a b:Int}(ha:byI a)(hb:byI b):byI (arP op a b).1:=by
 rw[arP]
 cases h:arR op a b with
 |none=>exact⟨ZC,ZC⟩
 |some v=>exact Qa6i ha hb h
structure InsW (cs:List CodeD)(k:Nat)(x:InsD):Prop where
 op:1<=x.op/\x.op<=14
 n1:x.op=1->byI x.n
 args:∀v∈x.args,0<=v/\v.toNat<(Qp cs k).ae.toNat
 to:D0 x.op=true->0<=x.to/\x.to.toNat<(Qp cs k).ae.toNat
 len:¬x.op=14->(x.args.length:Int)=Db x.op
 cal:x.op=14->0<=x.n/\x.n.toNat<k/\(x.args.length:Int)=(Qp cs x.n.toNat).params
 al:x.args.length<=3
def Rdb (Li:List (Nat×Obj))(rows:List (List C))(c:C):Prop:=(Li=[]/\∃fl,c=.sl fl 1 rows)\/Gr Li 1 rows c
theorem Rdb.slc {rows:List (List C)}{c:C}(h:Rdb Li rows c)(kn:Kn H0 H E (B++Li)):Slc H 1 rows c:=by
 rcases h with ⟨_,fl,rfl⟩|h
 ·exact .mk' _ _ _ _
 ·exact h.slc kn
theorem Rdb.ai {rows:List (List C)}{c:C}(h:Rdb Li rows c):c.ai=false:=by
 rcases h with ⟨_,fl,rfl⟩|h
 ·rfl
 ·exact h.ai
def FQ (X:Rn)(m:Nat):Prop:=∀(H0 H:Heap) (E B Li:List (Nat×Obj)) (r:Rs) (k:Nat) (l:List Int) (inc:C) (main:Bool) (fs:List Fr) (K:V->Heap->Prop),
 m<=r.u->Kn H0 H E (X.F r Li B)->r.ok X->k<X.cs.length->Rdb Li (Qb l) inc->(l.length:Int)=(Qp X.cs k).params->byL l->r.t.length<=r.u->
 (∀v r' H',Kn H0 H' E (X.F r' Li B)->r'.ok X->byI v->r'.t.length<=r'.u->(main=false->r'.t=r.t)->Goes X.cs X.S r.u (.go (fr0 X.cs k l::fs) r.s r.c) r'.u (rtn v fs r'.s r'.c)->K (.c (.int .i64 v)) H')->
 (∀e r' H',Kn H0 H' E (X.F r' Li B)->r'.ok X->(main=false->r'.t=r.t)->Halts X.cs X.S r.u (.go (fr0 X.cs k l::fs) r.s r.c) e r'.s r'.c->K (.pn (endV e)) H')->
 Qu prog Qit [.c (.ptr X.l 0),.c (.int .i64 k),.c inc,.c (.bool main)] H K
theorem Mw (R:List Int):(Qb R).take R.length=Qb R:=Jd (by rw[Qc];exact Jw _)
theorem DA {op to n:Int}{args:List Int}(i:Nat)(hR:H rl=.vec 1 (Qb R))(hi:i<args.length)(hv:0<=args.getD i 0/\(args.getD i 0).toNat<R.length)(hK:K (Uv (rg R (args.getD i 0))) H) :
  Qu prog To [Uv (i:Int),.c (.pp [.ah rl 1 0 R.length]),.c (.pp [Ui op,Ui to,.sl false 1 (Qb args),Ui n])] H K:=by
 refine Qd Co Qpd ?_;refine Za ?_;refine Cv ?_;obtain⟨v,jE⟩:∃v:Nat,args.getD i 0=v:=⟨(args.getD i 0).toNat,ZA⟩;rw[jE]at hv hK;have ji:v<R.length:=by simpa using hv.2
 simp only[go_sem,hR,hi,jE,ji,Qc,Qk _ _ hi,Qk _ _ ji,Mw,Jc];refine Zd ?_;exact hK
theorem F_g (k:Kn H0 H E (X.F r A (Li++B))):Kn H0 H E (([(X.l,X.o r)]++(A++((r.so++r.tl)++B)))++Li):=k.perm (Qi λf hf h0 hc hp=>by simp only[Ui,Rn.F,hf];omega)
theorem F_g' (k:Kn H0 H E (([(X.l,X.o r)]++(A++((r.so++r.tl)++B)))++Li)):Kn H0 H E (X.F r A (Li++B)):=k.perm (Qi λf hf h0 hc hp=>by simp only[Ui,Rn.F,hf];omega)
theorem F_sw (k:Kn H0 H E (X.F r A (A'++B))):Kn H0 H E (X.F r A' (A++B)):=k.perm (Qi λf hf h0 hc hp=>by simp only[Ui,Rn.F,hf];omega)
theorem Qa6k {b c d:C}{m:List C}:(b::c::d::m).drop (4+j)=m.drop (j+1):=by rw[show 4+j=(j+1)+3 by omega];rfl
theorem Qa3d {op to n:Int}{args:List Int}{k b:Nat}{fs:List Fr}(hx:InsW X.cs k ⟨op,to,args,n⟩)(cL:k<X.cs.length)(fF:R.length=(Qp X.cs k).ae.toNat)(hb:byL R)
  (kn:Kn H0 H E (X.F r [(rl,.vec 1 (Qb R))] B)) (hr:r.ok X) (xY:FQ X (r.u+1))
  (hK:∀R' r' H',Kn H0 H' E (X.F r' [(rl,.vec 1 (Qb R'))] B)->r'.ok X->R'.length=R.length->byL R'->r'.t=r.t->r.u<r'.u->
   Goes X.cs X.S r.u (.go (⟨k,b,⟨op,to,args,n⟩::t,R⟩::fs) r.s r.c) r'.u (.go (⟨k,b,t,R'⟩::fs) r'.s r'.c)->K (.tup []) H')
  (hP:∀e r' H',Kn H0 H' E (X.F r' [] B)->r'.ok X->r'.t=r.t->Halts X.cs X.S r.u (.go (⟨k,b,⟨op,to,args,n⟩::t,R⟩::fs) r.s r.c) e r'.s r'.c->K (.pn (endV e)) H') :
  Qu prog Qhm [.c (.ptr X.l 0),.ag [Ui op,Ui to,.sl false 1 (Qb args),Ui n],.c (.ah rl 1 0 R.length)] H K:=by
 obtain⟨⟨o1,o14⟩,dg,kL,mr,ak,vt,ee⟩:=hx;simp only at o1 o14 dg kL mr ak vt ee;rw[<-fF]at kL mr;have fT:∀i,i<args.length->0<=args.getD i 0/\(args.getD i 0).toNat<R.length:=λi hi=>by
  rw[Jb,Jf hi];exact kL _ (Jk hi)
 refine Qd Co Qxa ?_;have eA:∀e H',K (.tup []) H'->Q5 CQ K .nrm e H':=by
  intro e H' h;simp only[go_sem,Q5,Cn,CQ];exact h
 refine Wd ?_;refine O7 kn hr (λH1 hu kn cN=>?_) (λhu=>?_)
 rotate_left
 ·simp only[go_sem];refine hP 3 r H (Fy (A:=[]) kn) hr rfl ?_;rw[hu];exact .fuel
 obtain⟨r1,e1⟩:∃r1,({ r with u:=r.u+1 }:Rs)=r1:=⟨_,rfl⟩;have eu:r1.u=r.u+1:=by rw[<-e1]
 have es:r1.s=r.s:=by rw[<-e1]
 have ec:r1.c=r.c:=by rw[<-e1]
 have et:r1.t=r.t:=by rw[<-e1]
 rw[e1]at kn cN;clear e1;have i9:=kn.l 1 rfl;have hX:=F_o kn;have ju:=cN.mt;have one:∀Y,stI X.cs k b ⟨op,to,args,n⟩ t R fs r.s r.c=Y->Goes X.cs X.S r.u (.go (⟨k,b,⟨op,to,args,n⟩::t,R⟩::fs) r.s r.c) r1.u Y:=λY h=>by
  rw[eu];exact .one hu h
 have bad:∀e,¬e=3->stI X.cs k b ⟨op,to,args,n⟩ t R fs r.s r.c=.dn e 0 r.s r.c->Halts X.cs X.S r.u (.go (⟨k,b,⟨op,to,args,n⟩::t,R⟩::fs) r.s r.c) e r1.s r1.c:=λe he h=>by
  rw[es,ec];exact .one hu he h
 have knP:=Fy (A:=[]) kn;have i8:(Qb R).length=R.length:=Qc R;have setR:∀(j:Nat) (v:Int) (H2:Heap),to=(j:Int)->byI v->H2=H1.set rl (.vec 1 (Qb (R.set j v)))->stI X.cs k b ⟨op,to,args,n⟩ t R fs r.s r.c=.go (⟨k,b,t,R.set to.toNat v⟩::fs) r.s r.c->∀e,Q5 CQ K .nrm e H2:=by
  intro j v H2 hj hv h2 aI e;refine eA _ _ (hK (R.set j v) r1 H2 (kn.az 1 rfl h2) cN ZC (hb.set hv j) et ZA ?_);rw[es,ec];refine one _ ?_;rw[aI,hj];rfl
 refine Wd ?_;refine Wr ?_;refine Qf rfl (λhc=>?_) (λhc=>?_)
 ·
  have ho:op=1:=of_decide_eq_true hc;obtain⟨t0,t1⟩:=mr Zau;obtain⟨j,hj⟩:∃j:Nat,to=j:=⟨to.toNat,ZA⟩;have cR:j<R.length:=ZA
  refine Qt ?_;simp only[go_sem,i9,hj,cR,i8,Qk _ _ cR,G7,Jc];intro H2 h2;exact setR j n H2 hj (dg ho) h2 (Qa75 ho) _
 have n1:=of_decide_eq_false hc;refine Za ?_;refine Qf rfl (λhc=>?_) (λhc=>?_)
 ·
  have ho:op=11:=of_decide_eq_true hc;have hl:args.length=1:=by have:=ak ZA;rw[ho]at this;simp[Db]at this;omega
  obtain⟨t0,t1⟩:=mr Zau;obtain⟨j,hj⟩:∃j:Nat,to=j:=⟨to.toNat,ZA⟩;have cR:j<R.length:=ZA
  refine C7 ?_;simp only[go_sem,hj,Jc];refine DA 0 i9 ZA (fT 0 ZA) ?_;have pE:=hb.rg (args.getD 0 0);have aI:=Qa9l (cs:=X.cs) (k:=k) (b:=b) (x:=⟨op,to,args,n⟩) (t:=t) (R:=R) (fs:=fs) (s:=r.s) (c:=r.c) ho;have sC:ar R ⟨op,to,args,n⟩ 0=rg R (args.getD 0 0):=rfl;rw[sC]at aI;obtain⟨v,hv⟩:∃v,rg R (args.getD 0 0)=v:=⟨_,rfl⟩;rw[hv]at aI pE;rw[hv];simp only[go_sem,Qfx];refine OM pE.1 (λjM=>?_) (λjM=>?_)
  ·have hg:=cN.get (j:=v.toNat) ZA;have hd:=eq_true (show 1<=(r1.mt.drop v.toNat).length by rw[cN.dl];omega);simp only[go_sem,Qfw,hX,Qa8j,hg,hd,i9,cR,i8,Qk _ _ cR,G7,Jc];intro H2 h2;rw[ec]at h2;exact setR j _ H2 hj (hr.bc.get _) h2 (by rw[aI,if_neg (by omega)];rfl) _
  ·simp only[go_sem];exact hP 2 r1 H1 knP cN et (bad 2 ZA (by rw[aI,if_pos jM]))
 have n11:=of_decide_eq_false hc;refine Za ?_;refine Qf rfl (λhc=>?_) (λhc=>?_)
 ·
  have ho:op=12:=of_decide_eq_true hc;have hl:args.length=2:=by have:=ak ZA;rw[ho]at this;simp[Db]at this;omega
  refine Zh ?_;refine DA 0 i9 ZA (fT 0 ZA) ?_;have pE:=hb.rg (args.getD 0 0);have aI:=Qa76 (cs:=X.cs) (k:=k) (b:=b) (x:=⟨op,to,args,n⟩) (t:=t) (R:=R) (fs:=fs) (s:=r.s) (c:=r.c) ho;have sC:∀i,ar R ⟨op,to,args,n⟩ i=rg R (args.getD i 0):=λ_=>rfl;simp only[sC]at aI;obtain⟨v,hv⟩:∃v,rg R (args.getD 0 0)=v:=⟨_,rfl⟩;rw[hv]at aI pE;rw[hv];simp only[go_sem,Qf0];refine OM pE.1 (λjM=>?_) (λjM=>?_)
  ·simp only[go_sem,Qfz];refine DA 1 i9 ZA (fT 1 ZA) ?_;have lF:=hb.rg (args.getD 1 0);obtain⟨q,hq⟩:∃q,rg R (args.getD 1 0)=q:=⟨_,rfl⟩;rw[hq]at aI lF;rw[hq];have hp:=cN.put (j:=v.toNat) ZA q;simp only[go_sem,Qfy,hX,ju,cG,Qa6k,hp];refine⟨ZA,λH2 h2=>?_⟩;refine eA _ _ (hK R { r1 with c:=r1.c.set v.toNat q } H2 (kn.az 0 rfl h2) (cN.cells lF) rfl hb et (by show r.u<r1.u;omega) ?_);show Goes X.cs X.S r.u _ r1.u (.go (⟨k,b,t,R⟩::fs) r1.s (r1.c.set v.toNat q));rw[es,ec];exact one _ (by rw[aI,if_neg (by omega)])
  ·simp only[go_sem];exact hP 2 r1 H1 knP cN et (bad 2 ZA (by rw[aI,if_pos jM]))
 have n12:=of_decide_eq_false hc;refine Za ?_;refine Qf rfl (λhc=>?_) (λhc=>?_)
 ·
  have ho:op=13:=of_decide_eq_true hc;have hl:args.length=1:=by have:=ak ZA;rw[ho]at this;simp[Db]at this;omega
  have bq:=cN.gs.ai;refine C7 ?_;simp only[go_sem,hX,ju,bq];refine DA 0 i9 ZA (fT 0 ZA) ?_;have pE:=hb.rg (args.getD 0 0);have aI:=Qa77 (cs:=X.cs) (k:=k) (b:=b) (x:=⟨op,to,args,n⟩) (t:=t) (R:=R) (fs:=fs) (s:=r.s) (c:=r.c) ho;have sC:ar R ⟨op,to,args,n⟩ 0=rg R (args.getD 0 0):=rfl;rw[sC]at aI;obtain⟨v,hv⟩:∃v,rg R (args.getD 0 0)=v:=⟨_,rfl⟩;rw[hv]at aI pE;rw[hv];have hls:=cN.ls;have vY:=cN.uS;have hS:=cN.S;simp only[go_sem,Qf2,hX,ju,bq];refine (F_s kn).bk (new:=Qb [v]) cN.gs (.mk' _ _ _ _) (Qr _) (by simp only[Qc,LIM,Jm,Jn];omega) λt2 Lg2 H2 cS cQ kn2=>?_;have A0:H2 X.l=.st (.sl X.fl 3 (Qm X.cs)::Ui X.S::Ui r1.u::r1.sc::r1.mt):=kn2.l 0 rfl;simp only[go_sem,Qf1,A0,ju];intro H3 h3;have eE:Rs.ok X { r1 with s:=r1.s++[v],sc:=t2,so:=Lg2 }:=by
   refine⟨?_,cN.gt,cN.c,cN.bc,cN.bs.app pE,?_,cN.lt,vY,hS⟩
   ·show Gr Lg2 1 (Qb (r1.s++[v])) t2;rw[Ec];exact cS
   ·show (r1.s++[v]).length<=r1.u;have h1:=hr.ls;rw[es,Jt];simp;omega
  refine eA _ _ (hK R { r1 with s:=r1.s++[v],sc:=t2,so:=Lg2 } H3 (F_s' (r:=r1) rfl rfl (kn2.az 0 rfl h3)) eE rfl hb et (by show r.u<r1.u;omega) ?_);show Goes X.cs X.S r.u _ r1.u (.go (⟨k,b,t,R⟩::fs) (r1.s++[v]) r1.c);rw[es,ec];exact one _ aI
 have n13:=of_decide_eq_false hc;refine Za ?_;refine Qf rfl (λhc=>?_) (λhc=>?_)
 ·
  have ho:op=14:=of_decide_eq_true hc;obtain⟨c0,c1,c2⟩:=vt ho;obtain⟨t0,t1⟩:=mr Zau;obtain⟨j,hj⟩:∃j:Nat,to=j:=⟨to.toNat,ZA⟩;have cR:j<R.length:=ZA
  have aI:=Qa5p (cs:=X.cs) (k:=k) (b:=b) (x:=⟨op,to,args,n⟩) (t:=t) (R:=R) (fs:=fs) (s:=r.s) (c:=r.c) ho;simp only at aI;refine Wg ?_;simp only[go_sem,Qc];try intro _
  refine Qh (Qe (Qy (λm e1 H2=>∃(i:Nat) (c7:C) (Li:Ul),m=args.length-i/\i<=args.length/\Gr Li 1 (Qb ((args.take i).map (rg R))) c7/\Kn H0 H2 E (X.F r1 [(rl,.vec 1 (Qb R))] (Li++B))/\
   lk 0 e1=.c (.ptr X.l 0)/\lk 4 e1=.c (.pp [Ui op,Ui to,.sl false 1 (Qb args),Ui n])/\lk 5 e1=.c (.pp [.ah rl 1 0 R.length])/\
   lk 6 e1=.c (.fn To [.pp [.ah rl 1 0 R.length],.pp [Ui op,Ui to,.sl false 1 (Qb args),Ui n]])/\lk 7 e1=.c c7/\lk 80 e1=.c (Ui args.length)/\lk 81 e1=Uv i) args.length ?_ ?_))
  ·exact⟨0,_,[],ZA,ZA,.nil 1,kn,Rf0⟩
  ·clear kn i9 hX;rintro m e1 H2 ⟨i,c7,Li,hm,hi,ax,kn,l0,l4,l5,l6,l7,l80,l81⟩;have i9:=kn.l 1 rfl;have bq:=ax.ai;refine Qa ?_;simp only[go_sem,l0,l4,l5,l6,l7,l80,l81];refine Wt ?_ ?_
   ·intro hc;have af:i<args.length:=ZD;refine Zc ?_
    refine We ?_;refine Zh ?_;refine DA i i9 af (fT i af) ?_;have e9:args.getD i 0=args[i]:=(by simp[Jb,af]);simp only[go_sem,Qf4];refine (F_g kn).bk (new:=Qb [rg R (args.getD i 0)]) ax (.mk' _ _ _ _) (Qr _) (by simp only[Qc,LIM,Jm,Jn,Jj,Jr];omega) λt2 Lg2 H3 cS cQ kn2=>?_;simp only[go_sem,Qf3];refine Zh ?_;refine⟨Qv,?_⟩;show ∃m,_;refine⟨args.length-(i+1),ZA,i+1,t2,Lg2,rfl,ZA,?_,F_g' kn2,Rf0⟩;have:Qb ((args.take (i+1)).map (rg R))=Qb ((args.take i).map (rg R))++Qb [rg R (args.getD i 0)]:=by
     rw[Ji af,Jy,Ec,e9];rfl
    rw[this];exact cS
   ·intro hc;have bp:args.length<=i:=ZD;rw[Jd bp]at ax;have hX:=F_o kn;refine Zz ?_;refine C7 ?_;simp only[go_sem];obtain⟨nn,iV⟩:∃nn:Nat,n=nn:=⟨n.toNat,ZA⟩;have yH:n.toNat=nn:=(by rw[iV];rfl);rw[yH]at c1 c2 aI;rw[iV];have oN:=hr.lt;refine xY H0 H2 E ([(rl,.vec 1 (Qb R))]++B) Li r1 nn (args.map (rg R)) c7 false (⟨k,b,⟨op,to,args,n⟩::t,R⟩::fs) _ ZA (F_sw kn) cN ZA (.inr ax) (by rw[Jj];exact c2) (λv hv=>by
     obtain⟨a,_,rfl⟩:=List.mem_map.1 hv;exact hb.rg a) (by rw[et,eu];exact oN) (λv r2 H3 kn3 eE hv _ cQ cO=>?_) (λe r2 H3 kn3 eE cQ ql=>?_)
    ·have kn3:=F_sw kn3;have w9:=kn3.l 1 rfl;simp only[go_sem,Qel,w9,hj,cR,i8,Qk _ _ cR,G7,Jc];intro H4 h4;have kn4:Kn H0 H4 E (X.F r2 [(rl,.vec 1 (Qb (R.set j v)))] (Li++B)):=kn3.az 1 rfl h4;have eY:=cO.1;refine eA _ _ (hK (R.set j v) r2 H4 (HC kn4) eE ZC (hb.set hv j) (by rw[cQ rfl,et]) ZA ?_);refine (one _ aI).trans ?_;rw[<-es,<-ec];have ej:j=to.toNat:=ZA;rw[ej];exact cO
    ·simp only[go_sem];refine hP e r2 H3 (HC (Fy (A:=[]) (F_sw kn3))) eE (by rw[cQ rfl,et]) ?_;refine (one _ aI).halts ?_;rw[<-es,<-ec];exact ql
 have n14:=of_decide_eq_false hc;refine Za ?_;refine Qf rfl (λhc=>?_) (λhc=>?_)
 ·
  have ho:op=2:=of_decide_eq_true hc;have hl:args.length=1:=by have:=ak ZA;rw[ho]at this;simp[Db]at this;omega
  obtain⟨t0,t1⟩:=mr Zau;obtain⟨j,hj⟩:∃j:Nat,to=j:=⟨to.toNat,ZA⟩;have cR:j<R.length:=ZA
  refine C7 ?_;simp only[go_sem,hj,Jc];refine DA 0 i9 ZA (fT 0 ZA) ?_;simp only[go_sem,Qem,i9,cR,i8,Qk _ _ cR,G7,Jc];intro H2 h2;exact setR j _ H2 hj (hb.rg _) h2 (Qa5q ho) _
 have n2:=of_decide_eq_false hc;refine Za ?_;refine Qf rfl (λhc=>?_) (λhc=>?_)
 ·
  have ho:op=10:=of_decide_eq_true hc;have hl:args.length=1:=by have:=ak ZA;rw[ho]at this;simp[Db]at this;omega
  obtain⟨t0,t1⟩:=mr Zau;obtain⟨j,hj⟩:∃j:Nat,to=j:=⟨to.toNat,ZA⟩;have cR:j<R.length:=ZA
  refine C7 ?_;simp only[go_sem,hj,Jc];refine DA 0 i9 ZA (fT 0 ZA) ?_;simp only[go_sem,Qeo,Jc];refine Qap1 ?_;simp only[go_sem,Qen,i9,cR,i8,Qk _ _ cR,G7,Jc,Je];intro H2 h2;exact setR j _ H2 hj (Hj _) h2 (Qa74 ho) _
 have n10:=of_decide_eq_false hc;have h3:3<=op:=ZA
 have h9:op<=9:=ZA
 have hl:args.length=2:=by
  have:=ak ZA;rw[Db,if_neg ZA,if_neg ZA,if_pos (.inl ⟨h3,h9⟩)]at this;omega
 obtain⟨t0,t1⟩:=mr (by
  simp only[D0,Jh,decide_eq_true_eq,Bool.not_eq_true',decide_eq_false_iff_not];omega)
 obtain⟨j,hj⟩:∃j:Nat,to=j:=⟨to.toNat,ZA⟩;have cR:j<R.length:=ZA
 have aI:=Qa9k (cs:=X.cs) (k:=k) (b:=b) (x:=⟨op,to,args,n⟩) (t:=t) (R:=R) (fs:=fs) (s:=r.s) (c:=r.c) h3 h9;have sC:∀i,ar R ⟨op,to,args,n⟩ i=rg R (args.getD i 0):=λ_=>rfl;simp only[sC]at aI;have wk:=Qa6h (op:=op) (hb.rg (args.getD 0 0)) (hb.rg (args.getD 1 0));refine Zu ?_;refine DA 0 i9 ZA (fT 0 ZA) ?_;simp only[go_sem,Qer];refine DA 1 i9 ZA (fT 1 ZA) ?_;simp only[go_sem,Qeq];refine Qa23 (hb.rg _) (hb.rg _) h3 h9 ?_;obtain⟨pv,wj⟩:∃pv,arP op (rg R (args.getD 0 0)) (rg R (args.getD 1 0))=pv:=⟨_,rfl⟩;rw[wj]at aI wk;rw[wj];obtain⟨v,ok⟩:=pv;simp only at aI wk;simp only[go_sem,Qep,Je,Jg];refine Wa ?_;refine Qh (Qf rfl (λhc=>?_) (λhc=>?_))
 ·have aq:ok=false:=DE hc;refine Zh ?_;refine Ha ?_;simp only[go_sem];exact hP 1 r1 H1 knP cN et (bad 1 ZA (by rw[aI,if_neg (by rw[aq];simp)]))
 ·have aq:ok=true:=CS hc;refine Zc ?_
  refine Qt ?_;simp only[go_sem,i9,hj,cR,i8,Qk _ _ cR,G7,Jc];intro H2 h2;exact setR j _ H2 hj wk h2 (by rw[aI,if_pos aq]) _
theorem Qa0x {p:PhiD}{xr xa w:Nat}(h1:H xr=.st [.ah rl 1 0 R.length])(hR:H rl=.vec 1 (Qb R))(h2:H xa=.st [Ui w])(hw:w<p.args.length)
  (hv:0<=p.args.getD w 0/\(p.args.getD w 0).toNat<R.length) (hK:K (Uv (CL R w p)) H) :
  Qu prog Rj [.ag [Ui p.to,.sl false 1 (Qb p.args)],Up xr,Up xa] H K:=by
 refine Qd Co Qsq ?_;refine Za ?_;refine Cv ?_;rw[CL]at hK;obtain⟨v,jE⟩:∃v:Nat,p.args.getD w 0=v:=⟨(p.args.getD w 0).toNat,ZA⟩;rw[jE]at hv hK;have ji:v<R.length:=by simpa using hv.2
 simp only[go_sem,h1,h2,hR,hw,jE,ji,Qc,Qk _ _ hw,Qk _ _ ji,Mw,Jc];refine Zd ?_;exact hK
theorem Qa5d {ps:List PhiD}{xr xa w:Nat}{f:Bool}(h1:H xr=.st [.ah rl 1 0 R.length])(hR:H rl=.vec 1 (Qb R))(h2:H xa=.st [Ui w])(hl:ps.length<=1200)(hw:∀p∈ps,w<p.args.length)
  (hv:∀p∈ps,0<=p.args.getD w 0/\(p.args.getD w 0).toNat<R.length) (hK:∀(H':Heap),Upd H H' []->K (.c (.sl false 1 (Qb (ps.map (CL R w))))) H') :
  Qu prog Qgf [.c (.sl f 2 (Q3 ps)),.c (.fn Rj [.ptr xr 0,.ptr xa 0])] H K:=by
 refine Q0 ?_;refine Qd Co Qvq ?_;have kn:=Kn.an H;have n1:H xr≠.none:=by rw[h1];simp
 have n2:H rl≠.none:=by rw[hR];simp
 have n3:H xa≠.none:=Zad
 refine Wd ?_;refine Q1 (Qa ?_);simp only[go_sem,Qz];try intro _
 refine Qh (Qe (Qy (λm e1 H1=>∃(i:Nat) (t:C) (Lg:Ul),m=ps.length-i/\i<=ps.length/\Gr Lg 1 (Qb ((ps.take i).map (CL R w))) t/\Kn H H1 [] ([]++Lg)/\
  lk 1 e1=.c (.fn Rj [.ptr xr 0,.ptr xa 0])/\lk 5 e1=.c t/\lk 8 e1=.c (.sl f 2 (Q3 ps))/\lk 9 e1=.c (Ui ps.length)/\lk 10 e1=Uv i) ps.length ?_ ?_))
 ·exact⟨0,_,[],ZA,ZA,.nil 1,kn,Rf0⟩
 ·clear kn;rintro m e1 H1 ⟨i,t,Lg,hm,hi,ax,kn,l1,l5,l8,l9,l10⟩;have fU:=ax.ai;refine Qa ?_;simp only[go_sem,l1,l5,l8,l9,l10];refine Wt ?_ ?_
  ·intro hc;have af:i<ps.length:=ZD
   obtain⟨p,hp⟩:∃p,ps[i]=p:=⟨_,rfl⟩;have dD:p∈ps:=by rw[<-hp];exact Jk af
   refine Zc ?_
   refine Wc ?_;simp only[go_sem,af,Qz,D2 _ _ af,hp,PhiD.cells];intro x7 bz H2 tx;have kn:=kn.al bz tx;have bz:H2 x7=.st [Ui 0,.sl true 1 []]:=(kn.get (x7,.st [Ui 0,.sl true 1 []]) ZC).1;simp only[go_sem,Rg,bz];intro H3 h3;have kn:Kn H H2 [] ([(x7,.st [Ui 0,.sl true 1 []])]++Lg):=kn.perm ZC;have kn:Kn H H3 [] ([(x7,.st [Ui p.to,.sl false 1 (Qb p.args)])]++Lg):=kn.az 0 rfl h3;have bz:H3 x7=.st [Ui p.to,.sl false 1 (Qb p.args)]:=kn.l 0 rfl;refine Qt ?_;simp only[go_sem,bz];refine Qa0x (p:=p) (R:=R) (rl:=rl) (w:=w) (by rw[kn.chg xr n1 (by simp)];exact h1) (by rw[kn.chg rl n2 (by simp)];exact hR) (by rw[kn.chg xa n3 (by simp)];exact h2) (hw p dD) (hv p dD) ?_;simp only[go_sem,Rf];refine kn.bk (new:=Qb [CL R w p]) ax (.mk' _ _ _ _) (Qr _) (by simp only[Qc,Jj,Jr,LIM,Jm,Jn];omega) λt2 Lg2 H4 bY cQ kn=>?_;have kn:Kn H H4 [] Lg2:=Kn.drop (B:=[(x7,_)]) (kn.perm Jq);simp only[go_sem,EK];refine Zh ?_;refine⟨Qv,?_⟩;show ∃m,_;refine⟨ps.length-(i+1),ZA,i+1,t2,Lg2,rfl,ZA,?_,kn,Rf0⟩;have:Qb ((ps.take (i+1)).map (CL R w))=Qb ((ps.take i).map (CL R w))++Qb [CL R w p]:=by rw[Ji af,Jy,Ec,hp];rfl
   rw[this];exact bY
  ·intro hc;have bp:ps.length<=i:=ZD
   rw[Jd bp]at ax;refine Zz ?_;refine Wj ?_;exact⟨_,.c _ _ (ax.frz kn (Qr _)),hK _ kn.fin⟩
end Y
namespace Y
attribute [local go_sem] cond_true cond_false Bool.not_true Bool.not_false
attribute [local instance] Classical.propDecidable
open Go.Proofs.Tryz
variable{H':Heap}{E A A' B Li:Ul}{X:Rn}{r r':Rs}
structure RunW (cs:List CodeD):Prop where
 ro:RunOk cs
 ins:∀k b,k<cs.length->b<(Qp cs k).blocks.length->∀x∈(Qq (Qp cs k) b).ins,InsW cs k x
 par:∀k,k<cs.length->0<=(Qp cs k).params/\(Qp cs k).params<=3/\(Qp cs k).params<=(Qp cs k).ae
 n:cs.length<=4
theorem runW {cs:List CodeD}(h:C0 cs=true):RunW cs:=by
 have ro:=IJ h;obtain⟨h1,h2,h3⟩:=of_decide_eq_true h;refine⟨ro,λk b hk hb x hx=>?_,λk hk=>?_,ZA⟩
 ·have aq:=(ro.ok k hk).bs b hb;have bB:=ro.op k b hk x hx;rw[C3 hb]at hx;have ec:=Eh hk;have g:CG cs k x=true:=by
   have aW:b<cs[k].blocks.length:=by rw[<-ec];exact hb
   have g:=(h2 k hk).2 b aW;simp only[CP,Jh,List.all_eq_true]at g;refine g.1.2 x ?_;have:(Qp cs k).blocks[b]=cs[k].blocks[b]:=by simp only[ec]
   rw[<-this];exact hx
  simp only[CG,insL,Jh]at g;obtain⟨_,g3⟩:=g;refine⟨⟨bB.1,bB.2.1⟩,λh1=>?_,λv hv=>?_,λhm=>?_,bB.2.2,λiP=>?_,aq.al x hx⟩
  ·rw[if_neg ZA]at g3;simp only[Jh,decide_eq_true_eq]at g3;exact⟨g3.1.2.1,g3.1.2.2⟩
  ·have:=aq.args x hx v hv;obtain⟨a,b⟩:=this;exact⟨a,ZA⟩
  ·obtain⟨a,b⟩:=aq.to x hx hm;exact⟨a,ZA⟩
  ·rw[if_pos iP]at g3;simp only[Jh,decide_eq_true_eq]at g3;obtain⟨⟨a,b⟩,c⟩:=g3;have af:x.n.toNat<cs.length:=ZA
   refine⟨a,ZA,?_⟩;rw[c,GJ af,Eh af]
 ·obtain⟨g1,_⟩:=h2 k hk;simp only[Dz,Jh,decide_eq_true_eq]at g1;rw[Eh hk];omega
def DS (cs:List CodeD)(k b:Nat):Option Nat->List Int->Fr
 |none,R=>⟨k,b,(Qq (Qp cs k) b).ins,R⟩
 |some a,R=>frJ cs k a R b
def Fk:Option Nat->Int
 |none=>-1
 |some a=>a
def Hm (q:CodeD)(b:Nat):Option Nat->Prop
 |none=>True
 |some a=>a<q.blocks.length/\(b:Int)∈gnx q a
theorem OJ:∀(ns:List Int) (i:Nat) (v:Int),i<ns.length->ns.getD i 0=v->v∉ns.take i->ns.idxOf v=i
 |[],i,v,h,_,_=>ZH
 |x::ns,0,v,_,h,_=>by
  have:x=v:=ZI
  simp[this]
 |x::ns,i+1,v,h1,h2,h3=>by
  have hx:¬x=v:=by
   intro hh;exact h3 (by simp[hh])
  have:=OJ ns i v ZX Zab (λhh=>h3 (by simp[hh]));rw[List.idxOf_cons,cond_eq_ite,if_neg ZaY,this]
theorem Qa8e {q:CodeD}{b a:Nat}{ix:Int}(hq:q.ok)(ha:a<q.blocks.length)(hm:(b:Int)∈gnx q a)(h:IsIx (Qs (gnx q) (b:Int) q.blocks.length) (a:Int) ix) :
  ix=(wayI q b a:Int)/\wayI q b a<(Qs (gnx q) (b:Int) q.blocks.length).length:=by
 have h1:=hq.ix ha hm;refine⟨?_,h1⟩;rcases h with ⟨rfl,hn⟩|⟨i,rfl,h2,h3,h4⟩
 ·exact absurd (List.idxOf_lt_length_iff.1 h1) hn
 ·rw[wayI,OJ _ i _ h2 h3 h4]
theorem Vf (n:Nat):List.replicate n [C.int .i64 0]=Qb (List.replicate n 0):=Zap
theorem Qa32 (l:List Int)(n:Nat):Qb l++(Qb (List.replicate n 0)).drop l.length=Qb (l++List.replicate (n-l.length) 0):=by simp[Qb,List.drop_replicate]
theorem Rs.ok.d16 (h:r.ok X):r.mt.drop 16=[r.tc]:=by
 rw[Rs.mt,List.drop_append_of_le_length Zbc,Jo Zbc];rfl
theorem Rs.ok.t16 (h:r.ok X):r.mt.take 16=C4 r.c:=by
 rw[Rs.mt,List.take_append_of_le_length Zbc,Jd Zbc]
theorem Rs.ok.d17 (h:r.ok X):r.mt.drop 17=[]:=Jo (by rw[h.mt];exact Jw _)
def o9 (q:CodeD)(n:Nat):Obj:=.st [.int .i64 q.params,.int .i64 n,.sl false 5 (Qo q.blocks)]
def oB (y:BlkD):Obj:=.st [.sl false 2 (Q3 y.ab),.sl false 4 (Cu y.ins),.int .i64 y.jump,.int .i64 y.on,.sl false 1 (Qb y.next)]
def phF (R:List Int)(w:Nat)(l:List PhiD)(T:List Int):List Int:=l.foldl (λT p=>T.set p.to.toNat (CL R w p)) T
theorem Qa0l (R:List Int)(w:Nat)(l:List PhiD)(p:PhiD)(T:List Int):phF R w (l++[p]) T=(phF R w l T).set p.to.toNat (CL R w p):=by simp[phF]
theorem Qa44 (R:List Int)(w:Nat)(l:List PhiD)(T:List Int):(phF R w l T).length=T.length:=Ld l T
theorem YZ (hw:RunW X.cs){m:Nat}(ih:∀m',m<m'->FQ X m'):FQ X m:=by
 intro H0 H E B Li r k l inc main fs K hm kn hr hk bT hl bj af hK hP;have aq:=hw.ro.ok k hk;obtain⟨iG,hp3,lH⟩:=hw.par k hk;have AW:=hw.ins k;have fd:=λb hb hj R=>Gh hw.ro (k:=k) (b:=b) hk hb hj R;have lL:=λb hb=>hw.ro.jn k b hk hb;obtain⟨q,hq⟩:∃q,Qp X.cs k=q:=⟨_,rfl⟩;rw[hq]at aq iG hp3 lH hl AW fd;simp only[hq]at lL;have uj:X.cs[k]=q:=by rw[<-Eh hk];exact hq
 have bI:=aq.r0;have cN:=aq.r1;have eB:=aq.b0;have bm:=aq.b1;obtain⟨n,hn⟩:∃n:Nat,q.ae=n:=⟨q.ae.toNat,ZA⟩;have fW:q.ae.toNat=n:=ZA
 have nS:l.length<=n:=ZA
 have bq:=bT.ai;have hX:=F_o kn;have ju:=hr.mt;refine Qd Co Qzw ?_;refine Wk ?_;simp only[go_sem,hX,ju,hk,Q8,DP _ _ hk,CodeD.cells,uj,hn];intro x9 dc H1 h1;have kn:Kn H0 H1 E (X.F r [(x9,.st [Ui 0,Ui 0,.sl true 5 []])] (Li++B)):=F_al ((F_in kn).al dc h1);have dc:H1 x9=.st [Ui 0,Ui 0,.sl true 5 []]:=kn.l 1 rfl;simp only[go_sem,Qgk,dc];intro H2 h2;have kn:Kn H0 H2 E (X.F r [(x9,o9 q n)] (Li++B)):=kn.az 1 rfl h2;have dc:H2 x9=.st [Ui q.params,Ui n,.sl false 5 (Qo q.blocks)]:=kn.l 1 rfl;refine Zj dc ?_;refine⟨by simp only[LIM];omega,λrl cF H3 h3=>?_⟩;have kn:Kn H0 H3 E (X.F r [(x9,o9 q n),(rl,.vec 1 (Qb (List.replicate n 0)))] (Li++B)):=F_al (A:=[(x9,o9 q n)]) (kn.al cF (by rw[h3,Vf]));simp only[go_sem,Qgm];intro x10 bP H4 h4;have kn:Kn H0 H4 E (X.F r [(x9,o9 q n),(rl,.vec 1 (Qb (List.replicate n 0))),(x10,.st [.sl true 1 []])] (Li++B)):=F_al (A:=[(x9,o9 q n),(rl,.vec 1 (Qb (List.replicate n 0)))]) (kn.al bP h4);have bP:H4 x10=.st [.sl true 1 []]:=kn.l 3 rfl;simp only[go_sem,Qgl,bP];intro H5 h5;have kn:Kn H0 H5 E (X.F r [(x9,o9 q n),(rl,.vec 1 (Qb (List.replicate n 0))),(x10,.st [.ah rl 1 0 n])] (Li++B)):=kn.az 3 rfl h5;have bP:H5 x10=.st [.ah rl 1 0 n]:=kn.l 3 rfl;have uh:H5 rl=.vec 1 (Qb (List.replicate n 0)):=kn.l 2 rfl;have hs:=bT.slc (F_g kn);have aK:=eq_true hs.ok;have tW:=hs.sz;have Bd:=hs.rows;have dd:=hs.len;rw[Qc]at dd;refine Qa ?_;simp only[go_sem,bP,uh,aK,tW,Bd,dd,Qc,List.length_replicate,Jc];refine⟨nS,Qr _,λH6 h6=>?_⟩;rw[Qa32]at h6;have kn:Kn H0 H6 E (X.F r [(x9,o9 q n),(rl,.vec 1 (Qb (Ep q l))),(x10,.st [.ah rl 1 0 n])] (Li++B)):=by
  rw[Ep,fW];exact kn.az 2 rfl h6
 have kn:Kn H0 H6 E (X.F r [(rl,.vec 1 (Qb (Ep q l))),(x9,o9 q n),(x10,.st [.ah rl 1 0 n])] (Li++B)):=kn.perm (Qi λf hf h0 hc hp=>by
  show f ([(X.l,X.o r)]++(([(x9,o9 q n)]++([(rl,.vec 1 (Qb (Ep q l)))]++[(x10,.st [.ah rl 1 0 n])]))++((r.so++r.tl)++(Li++B))))=f ([(X.l,X.o r)]++(([(rl,.vec 1 (Qb (Ep q l)))]++([(x9,o9 q n)]++[(x10,.st [.ah rl 1 0 n])]))++((r.so++r.tl)++(Li++B))));simp only[Ui,hf];omega)
 clear dc bP uh hs aK tW Bd dd hX;refine Za ?_;refine Qe (Qy (λmm e1 H1=>∃(b:Nat) (fr:Option Nat) (R:List Int) (r1:Rs),mm=X.S-r1.u/\b<q.blocks.length/\R.length=n/\byL R/\Kn H0 H1 E (X.F r1 [(rl,.vec 1 (Qb R)),(x9,o9 q n),(x10,.st [.ah rl 1 0 n])] (Li++B))/\r1.ok X/\r.u<=r1.u/\r1.t.length<=r1.u/\(main=false->r1.t=r.t)/\Hm q b fr/\
  Goes X.cs X.S r.u (.go (fr0 X.cs k l::fs) r.s r.c) r1.u (.go (DS X.cs k b fr R::fs) r1.s r1.c)/\
  lk 0 e1=.c (.ptr X.l 0)/\lk 3 e1=.c (.bool main)/\lk 9 e1=Up x9/\lk 10 e1=Up x10/\lk 11 e1=Uv b/\lk 12 e1=Uv (Fk fr)) (X.S-r.u) ?_ ?_)
 ·refine⟨0,none,Ep q l,r,rfl,eB,by rw[XY ZA,fW],V6 bj,kn,hr,Jw _,af,λ_=>rfl,trivial,?_,Rf0⟩;have:DS X.cs k 0 none (Ep q l)=fr0 X.cs k l:=by rw[DS,fr0,hq]
  rw[this];exact .refl hr.uS
 clear kn ju;rintro mm e1 H7 ⟨b,fr,R,r1,eG,hb,fF,w7,kn,fp,Bb,wb,sS,hfo,cO,l0,l3,l9,l10,l11,l12⟩;refine Qe (Q1 ?_);refine Qa ?_;simp only[go_sem,l0,l3,l9,l10,l11,l12];clear l0 l3 l9 l10 l11 l12;refine CN (λe2 H2=>∃r2:Rs,Kn H0 H2 E (X.F r2 [(rl,.vec 1 (Qb R)),(x9,o9 q n),(x10,.st [.ah rl 1 0 n])] (Li++B))/\r2.ok X/\r2.u=r1.u/\r2.s=r1.s/\r2.c=r1.c/\(main=false->r2.t=r1.t)/\
  lk 0 e2=.c (.ptr X.l 0)/\lk 3 e2=.c (.bool main)/\lk 9 e2=Up x9/\lk 10 e2=Up x10/\lk 11 e2=Uv b/\lk 12 e2=Uv (Fk fr)) ?_ ?_
 ·intro Q' pu BS BT;refine Qf rfl (λhc=>?_) (λhc=>?_)
  ·have hX:=F_o kn;have ju:=fp.mt;have zZ:=fp.d16;have xK:=fp.t16;have zY:=fp.d17;have bq:=fp.gt.ai;have vY:=fp.uS;have hS:=fp.S;refine Qt ?_;simp only[go_sem,hX,zZ,bq];refine (F_t kn).bk (new:=Qb [(b:Int)]) fp.gt (.mk' _ _ _ _) (Qr _) (by simp only[Qc,LIM,Jm,Jn];omega) λt2 Lg2 H8 cS cQ kn2=>?_;have hX:H8 X.l=.st (.sl X.fl 3 (Qm X.cs)::.int .i64 X.S::.int .i64 r1.u::r1.sc::r1.mt):=kn2.l 0 rfl;simp only[go_sem,Qgn,hX,ju,xK,zY,List.append_nil];intro H9 h9;refine pu _ _ ⟨{ r1 with t:=r1.t++[(b:Int)],tc:=t2,tl:=Lg2 },F_t' (r:=r1) rfl rfl (kn2.az 0 rfl h9),⟨fp.gs,?_,fp.c,fp.bc,fp.bs,fp.ls,?_,vY,hS⟩,rfl,rfl,rfl,(λh=>by rw[h]at hc;cases hc),Rf0⟩
   ·show Gr Lg2 1 (Qb (r1.t++[(b:Int)])) t2;rw[Ec];exact cS
   ·show (r1.t++[(b:Int)]).length<=r1.u+1;rw[Jt];simp;exact wb
  ·refine Qj ?_;exact pu _ _ ⟨r1,kn,fp,rfl,rfl,rfl,λ_=>rfl,Rf0⟩
 clear kn;rintro e2 H8 ⟨r2,kn,eE,eu,es,ec,et,l0,l3,l9,l10,l11,l12⟩;have dc:H8 x9=.st [Ui q.params,Ui n,.sl false 5 (Qo q.blocks)]:=kn.l 2 rfl;obtain⟨y,hy⟩:∃y,q.blocks[b]=y:=⟨_,rfl⟩;have cI:Qq q b=y:=by rw[C3 hb,hy]
 have cp:=aq.bs b hb;rw[hy]at cp;have cK:=aq.il b hb;rw[hy]at cK;refine Qa ?_;simp only[go_sem,l9,l11,dc,hb,Qn,CU _ _ hb,hy,BlkD.cells];intro x13 bG H9 h9;have kn:Kn H0 H9 E (X.F r2 [(rl,.vec 1 (Qb R)),(x9,o9 q n),(x10,.st [.ah rl 1 0 n]),(x13,.st [.sl true 2 [],.sl true 4 [],Ui 0,Ui 0,.sl true 1 []])] (Li++B)):=F_al (A:=[(rl,.vec 1 (Qb R)),(x9,o9 q n),(x10,.st [.ah rl 1 0 n])]) (kn.al bG h9);have bG:H9 x13=.st [.sl true 2 [],.sl true 4 [],Ui 0,Ui 0,.sl true 1 []]:=kn.l 4 rfl;simp only[go_sem,Qgo,bG,l0,l3,l9,l10,l11,l12];intro H10 dh;have kn:Kn H0 H10 E (X.F r2 [(rl,.vec 1 (Qb R)),(x9,o9 q n),(x10,.st [.ah rl 1 0 n]),(x13,oB y)] (Li++B)):=kn.az 4 rfl dh;clear l0 l3 l9 l10 l11 l12 dc bG;refine CN (λe3 H3=>∃R2:List Int,R2.length=n/\byL R2/\DS X.cs k b fr R=⟨k,b,y.ins,R2⟩/\Kn H0 H3 E (X.F r2 [(rl,.vec 1 (Qb R2)),(x9,o9 q n),(x10,.st [.ah rl 1 0 n]),(x13,oB y)] (Li++B))/\
  lk 0 e3=.c (.ptr X.l 0)/\lk 3 e3=.c (.bool main)/\lk 9 e3=Up x9/\lk 10 e3=Up x10/\lk 11 e3=Uv b/\lk 13 e3=Up x13) ?_ ?_
 ·intro Q' pu BS BT;have bG:H10 x13=.st [.sl false 2 (Q3 y.ab),.sl false 4 (Cu y.ins),Ui y.jump,Ui y.on,.sl false 1 (Qb y.next)]:=kn.l 4 rfl;have dc:H10 x9=.st [Ui q.params,Ui n,.sl false 5 (Qo q.blocks)]:=kn.l 2 rfl
  cases fr with
  |none=>
   have oL:decide ((0:Int)<=-1)=false:=rfl;refine Qa ?_;simp only[go_sem,Fk,oL,bG];refine Qf (c:=false) rfl (λhc=>by cases hc) (λ_=>?_);refine Qj ?_;refine pu _ _ ⟨R,fF,w7,?_,kn,Rf0⟩;rw[DS,hq,cI]
  |some a=>
   obtain⟨ha,BJ⟩:=hfo;have bp:decide ((0:Int)<=(a:Int))=true:=decide_eq_true (J1 a);have nh:DS X.cs k b (some a) R=⟨k,b,y.ins,phiR R (wayI q b a) y.ab⟩:=by rw[DS,frJ,hq,cI]
   refine Qa ?_;simp only[go_sem,Fk,bG,Qz];try intro _
   refine Qf rfl (λhc=>?_) (λhc=>?_)
   rotate_left
   ·have mV:y.ab=[]:=by
     have:¬(0:Int)<(y.ab.length:Int):=of_decide_eq_false hc;exact List.length_eq_zero_iff.1 ZA
    refine Qj ?_;refine pu _ _ ⟨R,fF,w7,?_,kn,Rf0⟩;rw[nh,mV];rfl
   refine Zj dc ?_;refine Q45 (rows:=Qo q.blocks) (nx:=gnx q) (Fb H10 q false) λfl2 H11 hu=>?_;have kn:=kn.au hu;have uu:ES (gnx q) (b:Int) (Qo q.blocks).length=Qs (gnx q) (b:Int) q.blocks.length:=by
    rw[Qn,ES,decide_eq_true (J1 b),decide_eq_true (show (b:Int)<=(q.blocks.length:Int)-1 by omega)];rfl
   rw[uu];simp only[go_sem,Qgr];refine KN (.mk' _ _ _ _) rfl λix gH=>?_;obtain⟨rfl,pC⟩:=Qa8e aq ha BJ gH;obtain⟨w,f8⟩:∃w,wayI q b a=w:=⟨_,rfl⟩;rw[f8]at pC nh;rw[f8];have fx:∀p∈y.ab,w<p.args.length:=λp hp=>by rw[cp.pal p hp];exact pC
   have wj:∀p∈y.ab,0<=p.args.getD w 0/\(p.args.getD w 0).toNat<R.length:=λp hp=>by
    rw[Jb,Jf (fx p hp)];obtain⟨z1,z2⟩:=cp.pargs p hp _ (Jk (fx p hp));refine⟨z1,?_⟩;show (p.args[w]'(fx p hp)).toNat<R.length;omega
   simp only[go_sem,Qgq];intro x14 qN H12 jf;have kn:Kn H0 H12 E (X.F r2 [(rl,.vec 1 (Qb R)),(x9,o9 q n),(x10,.st [.ah rl 1 0 n]),(x13,oB y),(x14,.st [Ui 0])] (Li++B)):=F_al (A:=[(rl,.vec 1 (Qb R)),(x9,o9 q n),(x10,.st [.ah rl 1 0 n]),(x13,oB y)]) (kn.al qN jf);have qN:H12 x14=.st [Ui 0]:=kn.l 5 rfl;simp only[go_sem,Qgp,qN];intro H13 nI;have kn:Kn H0 H13 E (X.F r2 [(rl,.vec 1 (Qb R)),(x9,o9 q n),(x10,.st [.ah rl 1 0 n]),(x13,oB y),(x14,.st [Ui w])] (Li++B)):=kn.az 5 rfl nI;have bG:H13 x13=.st [.sl false 2 (Q3 y.ab),.sl false 4 (Cu y.ins),Ui y.jump,Ui y.on,.sl false 1 (Qb y.next)]:=kn.l 4 rfl;have bP:H13 x10=.st [.ah rl 1 0 R.length]:=by rw[fF];exact kn.l 3 rfl
   have cF:H13 rl=.vec 1 (Qb R):=kn.l 1 rfl;refine Zj bG ?_;refine Qa5d (ps:=y.ab) (R:=R) (rl:=rl) (w:=w) bP cF (kn.l 5 rfl) cK.2 fx wj λH14 hu=>?_;have kn:Kn H0 H14 E (X.F r2 [(rl,.vec 1 (Qb R)),(x9,o9 q n),(x10,.st [.ah rl 1 0 n]),(x13,oB y)] (Li++B)):=Fy (A:=[(rl,.vec 1 (Qb R)),(x9,o9 q n),(x10,.st [.ah rl 1 0 n]),(x13,oB y)]) (A':=[(x14,.st [Ui w])]) (kn.au hu);have bG:H14 x13=.st [.sl false 2 (Q3 y.ab),.sl false 4 (Cu y.ins),Ui y.jump,Ui y.on,.sl false 1 (Qb y.next)]:=kn.l 4 rfl;simp only[go_sem,Qgs];refine Qa ?_;simp only[go_sem,bG,Qz];try intro _
   clear bG bP cF dc;refine Qe (Qy (λmm e1 H1=>∃(i:Nat),mm=y.ab.length-i/\i<=y.ab.length/\byL (phF R w (y.ab.take i) R)/\Kn H0 H1 E (X.F r2 [(rl,.vec 1 (Qb (phF R w (y.ab.take i) R))),(x9,o9 q n),(x10,.st [.ah rl 1 0 n]),(x13,oB y)] (Li++B))/\
    lk 0 e1=.c (.ptr X.l 0)/\lk 3 e1=.c (.bool main)/\lk 9 e1=Up x9/\lk 10 e1=Up x10/\lk 11 e1=Uv b/\lk 13 e1=Up x13/\lk 15 e1=.c (.sl false 1 (Qb (y.ab.map (CL R w))))/\lk 68 e1=.c (.sl false 2 (Q3 y.ab))/\lk 69 e1=.c (Ui y.ab.length)/\lk 70 e1=Uv i) y.ab.length ?_ ?_)
   ·exact⟨0,ZA,ZA,w7,kn,Rf0⟩
   clear kn;rintro m2 e3 H15 ⟨i,fz,hi,Am,kn,l0,l3,l9,l10,l11,l13,l15,l68,l69,l70⟩;have bP:H15 x10=.st [.ah rl 1 0 n]:=kn.l 3 rfl;obtain⟨T,hT⟩:∃T,phF R w (y.ab.take i) R=T:=⟨_,rfl⟩;have BP:T.length=n:=by rw[<-hT,Qa44,fF]
   rw[hT]at kn Am;have cF:H15 rl=.vec 1 (Qb T):=kn.l 1 rfl;refine Qa ?_;simp only[go_sem,l0,l3,l9,l10,l11,l13,l15,l68,l69,l70];refine Qh (Qf rfl (λhc=>?_) (λhc=>?_))
   ·have af:i<y.ab.length:=ZD;obtain⟨p,hp⟩:∃p,y.ab[i]=p:=⟨_,rfl⟩;have dD:p∈y.ab:=(by rw[<-hp];exact Jk af);obtain⟨z1,z2⟩:=cp.pto p dD;obtain⟨j,hj⟩:∃j:Nat,p.to=j:=⟨p.to.toNat,ZA⟩;have cR:j<n:=ZA;have qk:j<T.length:=ZA;have bF:i<(y.ab.map (CL R w)).length:=(by rw[Jj];exact af);have ta:(y.ab.map (CL R w)).getD i 0=CL R w p:=(by simp[Jb,af,hp]);refine Zc ?_
    refine Wc ?_;simp only[go_sem,af,Qz,D2 _ _ af,hp,PhiD.cells];intro x17 mh H16 jM;have kn:Kn H0 H16 E (X.F r2 [(rl,.vec 1 (Qb T)),(x9,o9 q n),(x10,.st [.ah rl 1 0 n]),(x13,oB y),(x17,.st [Ui 0,.sl true 1 []])] (Li++B)):=F_al (A:=[(rl,.vec 1 (Qb T)),(x9,o9 q n),(x10,.st [.ah rl 1 0 n]),(x13,oB y)]) (kn.al mh jM);have mh:H16 x17=.st [Ui 0,.sl true 1 []]:=kn.l 5 rfl;simp only[go_sem,Qfu,mh];intro H17 AO;have kn:Kn H0 H17 E (X.F r2 [(rl,.vec 1 (Qb T)),(x9,o9 q n),(x10,.st [.ah rl 1 0 n]),(x13,oB y),(x17,.st [Ui p.to,.sl false 1 (Qb p.args)])] (Li++B)):=kn.az 5 rfl AO;have mh:H17 x17=.st [Ui p.to,.sl false 1 (Qb p.args)]:=kn.l 5 rfl;have bP:H17 x10=.st [.ah rl 1 0 n]:=kn.l 3 rfl;have cF:H17 rl=.vec 1 (Qb T):=kn.l 1 rfl;refine C7 ?_;simp only[go_sem,bP,mh,cF,hj,cR,BP,bF,ta,Qc,Qk _ _ qk,Qk _ _ bF,G7,Jc];intro H18 vQ;have kn:Kn H0 H18 E (X.F r2 [(rl,.vec 1 (Qb (T.set j (CL R w p)))),(x9,o9 q n),(x10,.st [.ah rl 1 0 n]),(x13,oB y),(x17,.st [Ui p.to,.sl false 1 (Qb p.args)])] (Li++B)):=kn.az 1 rfl vQ;have kn:=Fy (A:=[(rl,.vec 1 (Qb (T.set j (CL R w p)))),(x9,o9 q n),(x10,.st [.ah rl 1 0 n]),(x13,oB y)]) (A':=[(x17,.st [Ui p.to,.sl false 1 (Qb p.args)])]) kn;have BO:phF R w (y.ab.take (i+1)) R=T.set j (CL R w p):=by
     rw[Ji af,hp,Qa0l,hT,hj];rfl
    refine Zh ?_;refine⟨Qv,?_⟩;show ∃m,_;refine⟨y.ab.length-(i+1),ZA,i+1,rfl,ZA,?_,?_,Rf0⟩
    ·rw[BO];exact Am.set (w7.rg _) j
    ·rw[BO];exact kn
   ·have bp:y.ab.length<=i:=ZD;rw[Jd bp]at hT;refine Zz ?_;refine pu _ _ ⟨T,BP,Am,?_,kn,Rf0⟩;rw[nh,<-hT];rfl
 clear kn;rintro e3 H11 ⟨R2,A7,Ao,hhd,kn,l0,l3,l9,l10,l11,l13⟩;have nj:Goes X.cs X.S r.u (.go (fr0 X.cs k l::fs) r.s r.c) r2.u (.go (⟨k,b,y.ins,R2⟩::fs) r2.s r2.c):=by rw[eu,es,ec,<-hhd];exact cO
 have bG:H11 x13=.st [.sl false 2 (Q3 y.ab),.sl false 4 (Cu y.ins),Ui y.jump,Ui y.on,.sl false 1 (Qb y.next)]:=kn.l 4 rfl;refine Q1 (Qa ?_);simp only[go_sem,l0,l3,l9,l10,l11,l13,bG,CR];try intro _
 clear l0 l3 l9 l10 l11 l13 bG;refine Qh (Qe (Qy (λmm e1 H1=>∃(i:Nat) (R3:List Int) (r3:Rs),mm=y.ins.length-i/\i<=y.ins.length/\R3.length=n/\byL R3/\Kn H0 H1 E (X.F r3 [(rl,.vec 1 (Qb R3)),(x9,o9 q n),(x10,.st [.ah rl 1 0 n]),(x13,oB y)] (Li++B))/\r3.ok X/\r2.u<=r3.u/\r3.t=r2.t/\
  Goes X.cs X.S r.u (.go (fr0 X.cs k l::fs) r.s r.c) r3.u (.go (⟨k,b,y.ins.drop i,R3⟩::fs) r3.s r3.c)/\
  lk 0 e1=.c (.ptr X.l 0)/\lk 3 e1=.c (.bool main)/\lk 9 e1=Up x9/\lk 10 e1=Up x10/\lk 11 e1=Uv b/\lk 13 e1=Up x13/\lk 85 e1=.c (.sl false 4 (Cu y.ins))/\lk 86 e1=.c (Ui y.ins.length)/\lk 87 e1=Uv i) y.ins.length ?_ ?_))
 ·exact⟨0,R2,r2,ZA,ZA,A7,Ao,kn,eE,Jw _,rfl,nj,Rf0⟩
 clear kn;rintro m3 e4 H12 ⟨i,R3,r3,uH,hi,nH,sA,kn,wh,hu3,sT,lj,l0,l3,l9,l10,l11,l13,l85,l86,l87⟩;refine Qa ?_;simp only[go_sem,l0,l3,l9,l10,l11,l13,l85,l86,l87];refine Qh (Qf rfl (λhc=>?_) (λhc=>?_))
 ·have af:i<y.ins.length:=ZD
  obtain⟨x,hx⟩:∃x,y.ins[i]=x:=⟨_,rfl⟩;have kw:x∈y.ins:=by rw[<-hx];exact Jk af
  have hxw:InsW X.cs k x:=AW b hk hb x (by rw[cI];exact kw);have qp:y.ins.drop i=x::y.ins.drop (i+1):=by rw[List.drop_eq_getElem_cons af,hx]
  obtain⟨op,to,args,nn⟩:=x;refine Zc ?_
  refine Qh (Qe ?_);refine Zt af hx ?_;intro x19 mg H13 nI;have kn:Kn H0 H13 E (X.F r3 [(rl,.vec 1 (Qb R3)),(x9,o9 q n),(x10,.st [.ah rl 1 0 n]),(x13,oB y),(x19,.st [Ui 0,Ui 0,.sl true 1 [],Ui 0])] (Li++B)):=F_al (A:=[(rl,.vec 1 (Qb R3)),(x9,o9 q n),(x10,.st [.ah rl 1 0 n]),(x13,oB y)]) (kn.al mg nI);have mg:H13 x19=.st [Ui 0,Ui 0,.sl true 1 [],Ui 0]:=kn.l 5 rfl;simp only[go_sem,Qfv,mg];intro H14 iP;have kn:Kn H0 H14 E (X.F r3 [(rl,.vec 1 (Qb R3)),(x9,o9 q n),(x10,.st [.ah rl 1 0 n]),(x13,oB y),(x19,.st [Ui op,Ui to,.sl false 1 (Qb args),Ui nn])] (Li++B)):=kn.az 5 rfl iP;have mg:H14 x19=.st [Ui op,Ui to,.sl false 1 (Qb args),Ui nn]:=kn.l 5 rfl;have bP:H14 x10=.st [.ah rl 1 0 R3.length]:=by rw[nH];exact kn.l 3 rfl
  have kn:=Qa6b (A:=[(rl,.vec 1 (Qb R3))]) (A':=[(x9,o9 q n),(x10,.st [.ah rl 1 0 n]),(x13,oB y),(x19,.st [Ui op,Ui to,.sl false 1 (Qb args),Ui nn])]) kn;rw[qp]at lj;refine Qt ?_;simp only[go_sem,mg,bP];refine Qa3d (k:=k) (b:=b) (t:=y.ins.drop (i+1)) (fs:=fs) hxw hk (by rw[hq,fW];exact nH) sA kn wh (ih _ ZA) (λR4 r4 H15 kn4 pN hR4l An xI hu4 zD=>?_) (λe r4 H15 kn4 pN xI ql=>?_)
  ·have kn4:=Fy (A:=[(rl,.vec 1 (Qb R4)),(x9,o9 q n),(x10,.st [.ah rl 1 0 n]),(x13,oB y)]) (A':=[(x19,.st [Ui op,Ui to,.sl false 1 (Qb args),Ui nn])]) (Qa6a (A:=[(rl,.vec 1 (Qb R4))]) (A':=[(x9,o9 q n),(x10,.st [.ah rl 1 0 n]),(x13,oB y),(x19,.st [Ui op,Ui to,.sl false 1 (Qb args),Ui nn])]) kn4);simp only[go_sem];refine Zh ?_;refine⟨Qv,?_⟩;show ∃m,_;exact⟨y.ins.length-(i+1),ZA,i+1,R4,r4,rfl,ZA,ZA,An,kn4,pN,ZA,by rw[xI,sT],lj.trans zD,Rf0⟩
  ·simp only[go_sem,Go.AE.X.next];exact hP e r4 H15 (Fj (A:=Li) (HC (A':=[(x9,o9 q n),(x10,.st [.ah rl 1 0 n]),(x13,oB y),(x19,.st [Ui op,Ui to,.sl false 1 (Qb args),Ui nn])]) kn4)) pN (λh=>by rw[xI,sT,et h,sS h]) (lj.halts ql)
 have bp:y.ins.length<=i:=ZD
 rw[Jo bp]at lj;refine Zz ?_;refine Za ?_;refine O7 kn wh (λH13 yX kn4 pN=>?_) (λyX=>?_)
 rotate_left
 ·simp only[go_sem,Go.AE.X.next];refine hP 3 r3 _ (Fj (A:=Li) (Fy (A:=[]) kn)) wh (λh=>by rw[sT,et h,sS h]) (lj.halts ?_);rw[yX];exact .fuel
 obtain⟨r4,e4⟩:∃r4,({ r3 with u:=r3.u+1 }:Rs)=r4:=⟨_,rfl⟩;have eu4:r4.u=r3.u+1:=by rw[<-e4]
 have es4:r4.s=r3.s:=by rw[<-e4]
 have ec4:r4.c=r3.c:=by rw[<-e4]
 have et4:r4.t=r3.t:=by rw[<-e4]
 rw[e4]at kn4 pN;clear e4 kn;have bG:H13 x13=.st [.sl false 2 (Q3 y.ab),.sl false 4 (Cu y.ins),Ui y.jump,Ui y.on,.sl false 1 (Qb y.next)]:=kn4.l 4 rfl;have bP:H13 x10=.st [.ah rl 1 0 n]:=kn4.l 3 rfl;have cF:H13 rl=.vec 1 (Qb R3):=kn4.l 1 rfl;have bQ:List.take n (Qb R3)=Qb R3:=Jd ZZ;have gW:r4.t.length<=r4.u:=by rw[et4,eu4];exact wh.lt
 have tU:main=false->r4.t=r.t:=λh=>by rw[et4,sT,et h,sS h]
 have one:∀Y,stJ X.cs k b R3 fs r4.s r4.c=Y->Goes X.cs X.S r.u (.go (fr0 X.cs k l::fs) r.s r.c) r4.u Y:=λY h=>by
  refine lj.trans ?_;rw[eu4,<-es4,<-ec4];exact .one yX h
 have hjm:=cp.jmp;have tB:=cp.on;have wL:=cp.nx;have zt:=lL b hb;rw[cI]at zt;refine Za ?_;refine Qe (Qa ?_);simp only[go_sem,bG];refine Qf rfl (λhc=>?_) (λhc=>?_)
 ·have hj:y.jump=3:=of_decide_eq_true hc;obtain⟨z1,z2⟩:=tB ZA;obtain⟨j,qh⟩:∃j:Nat,y.on=j:=⟨y.on.toNat,ZA⟩;have cR:j<n:=ZA
  have qk:j<R3.length:=ZA
  refine Qa ?_;simp only[go_sem,bG,bP,cF,bQ,qh,cR,nH,Qc,Qk _ _ qk,Jc];refine Ql ?_;simp only[go_sem,Go.AE.X.next,Q5,Cn,Ja,forall_eq,RS.op];have qm:=hK (rg R3 y.on) r4 H13 (Fj (A:=Li) (Fy (A:=[]) kn4)) pN (sA.rg _) gW tU (one _ (by rw[Eo (by rw[hq,cI];exact hj),hq,cI]));rw[qh]at qm;exact qm
 have qk:¬y.jump=3:=of_decide_eq_false hc;obtain⟨v,pD,lG,tS⟩:=fd b hb (by rw[cI];exact qk) R3;rw[cI]at pD lG tS;obtain⟨w1,w2⟩:=wL v pD;obtain⟨b2,cC⟩:∃b2:Nat,v=b2:=⟨v.toNat,ZA⟩;have xt:nxB y R3=b2:=ZA
 have sB:b2<q.blocks.length:=ZA
 have zC:=one _ (by
  rw[GE (by rw[hq,cI];exact qk),hq,cI,xt])
 have gH:ixB y R3<y.next.length:=(Jv.1 tS).1;have b8:y.next.getD (ixB y R3) 0=(b2:Int):=by rw[Jb,tS,cC];rfl
 have zM:Hm q b2 (some b):=⟨hb,by rw[DI hb,cI,<-cC];exact pD⟩;have eA:∀e,lk 0 e=.c (.ptr X.l 0)->lk 3 e=.c (.bool main)->lk 9 e=Up x9->lk 10 e=Up x10->lk 11 e=Uv b2->lk 12 e=Uv b->
   ∃m',m'<mm/\∃(b:Nat) (fr:Option Nat) (R:List Int) (r1:Rs),m'=X.S-r1.u/\b<q.blocks.length/\R.length=n/\byL R/\Kn H0 H13 E (X.F r1 [(rl,.vec 1 (Qb R)),(x9,o9 q n),(x10,.st [.ah rl 1 0 n])] (Li++B))/\r1.ok X/\r.u<=r1.u/\r1.t.length<=r1.u/\(main=false->r1.t=r.t)/\Hm q b fr/\
   Goes X.cs X.S r.u (.go (fr0 X.cs k l::fs) r.s r.c) r1.u (.go (DS X.cs k b fr R::fs) r1.s r1.c)/\
   lk 0 e=.c (.ptr X.l 0)/\lk 3 e=.c (.bool main)/\lk 9 e=Up x9/\lk 10 e=Up x10/\lk 11 e=Uv b/\lk 12 e=Uv (Fk fr):=by
  intro e a0 a3 a9 a10 a11 a12;refine⟨X.S-r4.u,by have:=pN.uS;omega,b2,some b,R3,r4,rfl,sB,nH,sA,Fy (A:=[(rl,.vec 1 (Qb R3)),(x9,o9 q n),(x10,.st [.ah rl 1 0 n])]) (A':=[(x13,oB y)]) kn4,pN,ZA,gW,tU,zM,zC,a0,a3,a9,a10,a11,a12⟩
 rcases hjm with hj|hj|hj
 ·
  have hd:decide ((1:Int)=2)=false:=rfl;have e0:ixB y R3=0:=by rw[ixB,if_neg ZA]
  rw[e0]at gH b8;refine Qa ?_;by_cases hjr:y.on.toNat<R3.length
  ·simp only[go_sem,bG,bP,cF,bQ,hj,hd,Qk _ _ hjr,Jc];refine Qf (c:=false) rfl (λhc=>by cases hc) (λ_=>?_);refine Qt ?_;simp only[go_sem,bG,gH,b8,Qc,Qk _ _ gH];exact⟨ZA,eA _ rfl rfl rfl rfl rfl rfl⟩
  ·have b7:(Qb R3).getD y.on.toNat []=[]:=by rw[Jb,Jl ZZ];rfl
   simp only[go_sem,bG,bP,cF,bQ,hj,hd,b7,List.headD_nil,Jc];refine Qf (c:=false) rfl (λhc=>by cases hc) (λ_=>?_);refine Qt ?_;simp only[go_sem,bG,gH,b8,Qc,Qk _ _ gH];exact⟨ZA,eA _ rfl rfl rfl rfl rfl rfl⟩
 ·
  have hd:decide ((2:Int)=2)=true:=rfl;obtain⟨z1,z2⟩:=tB ZA;obtain⟨j,qh⟩:∃j:Nat,y.on=j:=⟨y.on.toNat,ZA⟩;have cR:j<n:=ZA
  have hj4:j<R3.length:=ZA
  refine Qa ?_;simp only[go_sem,bG,bP,cF,bQ,hj,qh,cR,nH,Qc,Qk _ _ hj4,Jc];refine Qf rfl (λhc=>?_) (λhc=>?_)
  ·have hz:R3.getD j 0=0:=of_decide_eq_true hc;have e0:ixB y R3=1:=by rw[ixB,if_pos ⟨hj,by rw[rg,qh];exact hz⟩]
   rw[e0]at gH b8;refine Qt ?_;simp only[go_sem,bG,gH,b8,Qc,Qk _ _ gH];exact⟨ZA,eA _ rfl rfl rfl rfl rfl rfl⟩
  ·have hz:¬R3.getD j 0=0:=of_decide_eq_false hc;have e0:ixB y R3=0:=by rw[ixB,if_neg (by rintro⟨_,h⟩;rw[rg,qh]at h;exact hz h)]
   rw[e0]at gH b8;refine Qt ?_;simp only[go_sem,bG,gH,b8,Qc,Qk _ _ gH];exact⟨ZA,eA _ rfl rfl rfl rfl rfl rfl⟩
 ·exact absurd hj qk
theorem LW (hw:RunW X.cs):∀d m,X.S+1-m<=d->FQ X m
 |0,m,h=>λH0 H E B Li r k l inc main fs K hm kn hr=>by
  have:=hr.uS;omega
 |d+1,m,h=>YZ hw λm' fg=>LW hw d m' ZA
end Y
namespace Y
open Go.Proofs.Tryz
theorem Qap5 (p:Addr)(w:World) :
  CallsD prog Qot #[.pointer (some p)] .returning w λe u' w'=>e=.returned (.tuple #[])/\u'=.returning/\w'=w:=by
 refine callsD_of_wpS Go.Proofs.Tryz.func118 rfl λc₀ cs hu=>?_;apply wpS_seq;apply wpS_region;simp[wpOpsS,go_sem,recoverD,hu,Go.Proofs.Tryz.ntmps118,Exit.thenS];apply wpS_seq;apply wpS_region;simp[wpOpsS,go_sem,Exit.thenS];refine wpS_cond (t:=false) (by simp[Act.eval]) ?_;simp only[J0,if_false];refine wpS_of_wp (wp_skip ?_);cases c₀
 simp_all[bodyPostS,results,Go.Proofs.Tryz.results118]
set_option maxRecDepth 4000 in
theorem Q48 (p:Addr)(n:Int)(x:Value)(older:List PanicEntry)(w:World)(hc:w.cell? p=some x)(hz:w.frozen? p=false) :
  CallsD prog Qot #[.pointer (some p)] (.panicking ({ v:=.iface 116 (.int .i64 n),recovered:=false }::older)) w λe u' w'=>
   e=.returned (.tuple #[])/\u'=.panicking ({ v:=.iface 116 (.int .i64 n),recovered:=true }::older)/\w'=w.setCell p (.int .i64 n):=by
 refine callsD_of_wpS Go.Proofs.Tryz.func118 rfl λc₀ cs hu=>?_;apply wpS_seq;apply wpS_region;simp[wpOpsS,go_sem,recoverD,hu,Go.Proofs.Tryz.ntmps118,Exit.thenS];apply wpS_seq;apply wpS_region;simp[wpOpsS,go_sem,Exit.thenS];refine wpS_cond (t:=true) (by simp[Act.eval]) ?_;simp only[if_true];have hta:∀w:World,(Instr.typeAssert (.iface 116 (.int .i64 n)) 20 116 true).run prog w=.ok (.tuple #[.int .i64 n,.bool true]) w:=λw=>ZE
 apply wpS_seq;apply wpS_region;simp[wpOpsS,go_sem,Exit.thenS,hta];apply wpS_seq;apply wpS_seq;apply wpS_region;simp[wpOpsS,go_sem,Exit.thenS];refine wpS_cond (t:=false) (by simp[Act.eval]) ?_;simp only[J0,if_false];refine wpS_of_wp (wp_skip ?_);simp only[Exit.thenS];apply wpS_region;simp[wpOpsS,go_sem,hc,hz,bodyPostS,results,Go.Proofs.Tryz.results118]
theorem Qap6 {caps : Array Value} {w : World} {R : Ending -> World -> Prop} (hf : fnOk prog f = true)
    (h : Calls prog f caps (w.alloc (.cells #[.int .i64 0] 3)) λe w' => w'.cell? ⟨w.heap.size, 0, none⟩ = some (.int .i64 0) /\ w'.frozen? ⟨w.heap.size, 0, none⟩ = false /\
      ((∃ v, e = .returned v /\ R (.returned (.int .i64 0)) (w'.setCell ⟨w.heap.size, 0, none⟩ (.int .i64 0))) \/
       (∃ n, e = .panicked [{ v := .iface 116 (.int .i64 n), recovered := false }] /\ R (.returned (.int .i64 n)) (w'.setCell ⟨w.heap.size, 0, none⟩ (.int .i64 n))))) :
    Calls prog Q0r #[.func (.func f) #[] caps] w R := by
  have uG : ∀ fn (first cap : Array Value) (w : World), (Instr.makeFunc fn first cap).run prog w = .ok (.func fn first cap) w := λ_ _ _ _ => rfl
  go_enter_defers Go.Proofs.Tryz.func74, Go.Proofs.Tryz.ntmps74
  go_wp2
  have vr : ∀ w, (callFunc f caps).run prog w = .ok (.enter f caps) w := λw => Sm hf caps w;simp only [vr, Array.append_empty, Array.empty_append, Oper.upon_enter];refine h.mono ?_;rintro e w' ⟨hc, hz, hR⟩;rcases hR with ⟨v, rfl, hR⟩ | ⟨n, rfl, hR⟩
  · go_wp2
    refine leaves_cons (f := 118) (args := #[.pointer (some ⟨w.heap.size, 0, none⟩)]) ZC (by simp [go_sem]) ?_;refine (Qap5 ⟨w.heap.size, 0, none⟩ _).mono ?_;rintro e u' w'' ⟨rfl, rfl, rfl⟩;simp [Leaves, settle, results, Go.Proofs.Tryz.results74, go_sem];refine ⟨_, ?_, hR⟩;simp [go_sem, hc]
  · show Leaves _ _ _ _ _ _ _;refine leaves_cons (f := 118) (args := #[.pointer (some ⟨w.heap.size, 0, none⟩)]) ZC (by simp [go_sem]) ?_;refine (Q48 ⟨w.heap.size, 0, none⟩ n _ [] _ hc hz).mono ?_;rintro e u' w'' ⟨rfl, rfl, rfl⟩;simp [Leaves, settle, results, Go.Proofs.Tryz.results74, go_sem];refine ⟨_, ?_, hR⟩;simp [go_sem, hc]
theorem Qano {w:World}{b:Nat}{cs:Array Value}{T:TypeId}{v:Value}(h:w.heap[b]? = some (.cells cs T (0,0))):w.setCell ⟨b,0,none⟩ v=World.aB w b (cs.setIfInBounds 0 v) T:=by
 unfold World.setCell World.aB;congr 1;refine Array.ext_getElem? λi=>?_;rw[Array.getElem?_modify,Array.getElem?_setIfInBounds];by_cases hi:b=i
 ·subst hi;rw[if_pos rfl,if_pos rfl,if_pos (G3 h),h];rfl
 ·rw[if_neg hi,if_neg hi]
theorem V5{caps:List C}(hf:fnOk prog f=true)
  (h:∀xe,H xe=.none->∀H1,H1=H.set xe (.st [.int .i64 0])->Qu prog f (caps.map .c) H1 λx H2=>H2 xe=.st [.int .i64 0]/\((∃n,x=.pn (endV n)/\∀H3,H3=H2.set xe (.st [.int .i64 n])->K (.c (.int .i64 n)) H3)\/
   ((∀v,x≠.pn v)/\∀H3,H3=H2.set xe (.st [.int .i64 0])->K (.c (.int .i64 0)) H3))) :
  Qu prog Q0r [.c (.fn f caps)] H K:=by
 refine⟨ZE,λg w vs hs hl hv=>?_⟩;obtain⟨v,rfl⟩:∃v,vs=[v]:=by
  match vs,hl with
  |[v],_=>exact⟨v,rfl⟩
 have hr:=hv 0 _ v rfl rfl;obtain⟨cvs,rfl,cL,Ab⟩:=hr.aN.fn_inv;obtain⟨xe,jh,hHx⟩:=hs.newName;have aS:=G5 hs jh 1 0 (.cells #[.int .i64 0] 3);have aI:=F7 hs jh 1 0 (.cells #[.int .i64 0] 3) (.st [.int .i64 0]) (λg' hg=>by
  subst hg;exact Ss (cells:=[.int .i64 0]) (λj c u h1 h2=>by
   cases j with
   |zero=>simp at h1 h2;subst h1;subst h2;exact .int _ _
   |succ j=>simp at h1) rfl aS)
 refine Qap6 hf ?_;have hc:=(h xe hHx _ rfl).2 _ _ cvs aI.sat (by simp[cL]) (λj x u h1 h2=>by
  rw[Jp]at h1
  cases hj:caps[j]? with
  |none=>rw[hj]at h1;simp at h1
  |some c=>
   rw[hj]at h1;simp at h1;subst h1;exact .c _ _ ((Ab j c u hj h2).mono aI.le))
 refine hc.mono λe w2 hh=>?_;have box:∀H2 g2 n,H2 xe=.st [.int .i64 0]->Stp (H.set xe (.st [.int .i64 0])) (g.newObj xe w.heap.size 1 0) (w.alloc (.cells #[.int .i64 0] 3)) H2 g2 w2->
   w2.cell? ⟨w.heap.size,0,none⟩=some (.int .i64 0)/\w2.frozen? ⟨w.heap.size,0,none⟩=false/\Stp H2 g2 w2 (H2.set xe (.st [.int .i64 n])) g2 (w2.setCell ⟨w.heap.size,0,none⟩ (.int .i64 n)):=by
  intro H2 g2 n hx iD;have bK:g2.io xe=some (w.heap.size,1,0):=iD.le.io xe _ ZK;have bf:=iD.sat.objs xe;rw[hx]at bf;obtain⟨b',sz',T,cs,q1,q2,q3,q4,q5⟩:=bf;rw[bK]at q1;simp only[J3,Prod.mk.injEq,and_true]at q1;obtain⟨rfl,rfl⟩:=q1;have bN:cs.size=1:=q4;have dk:cs[0]? = some cs[0]:=Array.getElem?_eq_getElem ZA;have Ab:cs[0]=.int .i64 0:=((q5 0 _ _ rfl dk).toC rfl).aH;refine⟨?_,by simp[World.frozen?,q3],?_⟩
  ·rw[FJ q3,dk,Ab]
  ·rw[Qano q3];refine IB iD.sat q2 q3 ZC _ (by rw[hx];simp) (λaS f8=>?_) ZC;refine⟨w.heap.size,1,T,_,bK,q2,f8,by simp[bN],λj c v e1 e2=>?_⟩
   cases j with
   |zero=>
    simp[bN]at e1 e2;subst e1;subst e2;exact .plain _ _ _ _ (.int _ _)
   |succ j=>simp at e1
 rcases hh with ⟨v,x,H2,g2,rfl,⟨hx,hk⟩,iD,eE⟩|⟨v,H2,g2,rfl,⟨hx,hk⟩,iD⟩
 ·obtain⟨b1,b2,b3⟩:=box H2 g2 0 hx iD;refine⟨b1,b2,.inl ⟨v,rfl,.inl ⟨_,.c (.int .i64 0),_,g2,rfl,?_,aI.trans (iD.trans b3),.c _ _ (.int _ _)⟩⟩⟩;rcases hk with ⟨n,rfl,_⟩|⟨_,hk⟩
  ·cases eE
  ·exact hk _ rfl
 ·rcases hk with ⟨n,lG,hk⟩|⟨b7,_⟩
  ·cases lG;obtain⟨b1,b2,b3⟩:=box H2 g2 n hx iD;exact⟨b1,b2,.inr ⟨n,rfl,.inl ⟨_,.c (.int .i64 n),_,g2,rfl,hk _ rfl,aI.trans (iD.trans b3),.c _ _ (.int _ _)⟩⟩⟩
  ·exact absurd rfl (b7 v)
end Y
namespace Y
open Go.Proofs.Tryz
variable{E B Lg:Ul}
theorem L8 {S:Nat->Bool}{a b a' b':V}(h:FrzV H S a a')(k:FrzV H S b b'):FrzV H S (.tup [a,b]) (.tup [a',b']):=by
 refine .tup _ _ rfl λj x x' h1 h2=>?_
 match j with
 |0=>simp at h1 h2;subst h1;subst h2;exact h
 |1=>simp at h1 h2;subst h1;subst h2;exact k
 |j+2=>simp at h1
end Y
namespace Y
attribute [local go_sem] cond_true cond_false Bool.not_true Bool.not_false
attribute [local instance] Classical.propDecidable
open Go.Proofs.Tryz
variable{H':Heap}{E A A' B Li:Ul}{X:Rn}{r r':Rs}
def oO (e v:Int):Obj:=.st [.sl true 1 [],.int .i64 e,.int .i64 v,.sl true 1 []]
theorem Qa5e (hw:RunW X.cs){l:List Int}{f2:Bool}{x8 x9:Nat}(hl:(l.length:Int)=(Qp X.cs (X.cs.length-1)).params)(bj:byL l)
  (kn:Kn H0 H E (X.F r [(x8,.st [.ptr X.l 0]),(x9,oO 0 0)] B)) (hr:r.ok X) (hu:r.u=0) (hs:r.s=[]) (hc:r.c=Fu) (ht:r.t=[])
  (hK:∀v r' H',Kn H0 H' E (X.F r' [(x8,.st [.ptr X.l 0]),(x9,oO 0 v)] B)->r'.ok X->Goes X.cs X.S 0 (cf0 X.cs l) r'.u (.dn 0 v r'.s r'.c)->K (.tup []) H')
  (hP:∀e r' H',Kn H0 H' E (X.F r' [(x8,.st [.ptr X.l 0]),(x9,oO 0 0)] B)->r'.ok X->Halts X.cs X.S 0 (cf0 X.cs l) e r'.s r'.c->K (.pn (endV e)) H') :
  Qu prog Qmp [Up x8,.c (.pp [.sl X.fl 3 (Qm X.cs)]),.c (.pp [.sl f2 1 (Qb l)]),Up x9] H K:=by
 have hn:=hw.n;have cq:=hw.ro.n;refine Qd Co Q6c ?_;have aV:H x8=.st [.ptr X.l 0]:=kn.l 1 rfl;have rW:((X.cs.length:Int)-1)=((X.cs.length-1:Nat):Int):=ZA
 refine Qt ?_;simp only[go_sem,aV,Q8];try intro _
 refine⟨Qv,?_⟩;rw[rW];refine LW hw (X.S+1) 0 ZA H0 H E ([(x8,.st [.ptr X.l 0]),(x9,oO 0 0)]++B) [] r (X.cs.length-1) l (.sl f2 1 (Qb l)) true [] _ (J7 _) (F_in kn) hr ZA (.inl ⟨rfl,f2,rfl⟩) hl bj (by rw[ht];simp) (λv r' H' kn' bd hv _ _ cO=>?_) (λe r' H' kn' bd _ ql=>?_)
 ·have kn':=Fj kn';have dc:H' x9=.st [.sl true 1 [],Ui 0,Ui 0,.sl true 1 []]:=kn'.l 2 rfl;simp only[go_sem,Qja,dc];intro H2 h2;simp only[go_sem,Q5,Cn,CQ];refine hK v r' H2 (kn'.az 2 rfl h2) bd ?_;rw[hu,hs,hc]at cO;exact cO
 ·simp only[go_sem];refine hP e r' H' (Fj kn') bd ?_;rw[hu,hs,hc]at ql;exact ql
def Rn.pc (X:Rn)(r:Rs):List C:=.sl X.fl 3 (Qm X.cs)::.int .i64 X.S::.int .i64 r.u::.sl false 1 (Qb r.s)::(C4 r.c++[.sl false 1 (Qb r.t)])
theorem LA {S:Nat->Bool}{a b:C}(h:FrzC H S a b):∀l:List Int,FrzL H S (C4 l++[a]) (C4 l++[b])
 |[]=>.cons h .nil
 |v::l=>.cons (Qg rfl) (LA h l)
theorem Qa7k {S:Nat->Bool}(hr:r.ok X)(hm:∀p∈[(X.l,X.o r)]++(r.so++r.tl),H p.1=p.2/\S p.1=true):FrzC H S (.ptr X.l 0) (.pp (X.pc r)):=by
 obtain⟨h1,h2⟩:=hm (X.l,X.o r) ZC;refine FrzL.ptr h2 h1 ?_;refine .cons (Qg rfl) (.cons (Qg rfl) (.cons (Qg rfl) (.cons ?_ (LA ?_ _))))
 ·exact Gr.frzM hr.gs (λp hp=>hm p Zay) (FrzR.same (Qr _))
 ·exact Gr.frzM hr.gt (λp hp=>hm p Zay) (FrzR.same (Qr _))
theorem Vi (l:List Int)(c:C)(n:Nat)(h:l.length=n):((C4 l++[c]).take n).map (λc=>[c])=Qb l:=by
 subst h;rw[List.take_append_of_le_length (by simp[C4]),Jd (by simp[C4])];simp[C4,Qb]
theorem Qa3w (l:List Int)(c:C)(n:Nat)(h:l.length=n):(C4 l++[c]).length=n+1:=by simp[C4,h]
theorem XV {cs:List CodeD}{f2:Bool}{l:List Int}(hg:C0 cs=true)(hl:(l.length:Int)=(Qp cs (cs.length-1)).params)(bj:byL l)(hS:S<=60000)
  (hK:∀e v s c u H',outR cs l S=(e,v,s,c)->Upd H H' []->K (.tup [.ag [.sl false 1 (Qb s),Ui e,Ui v,.sl false 1 (Qb c)],.c (.pp u)]) H') :
  Qu prog Qwp [.ag [.sl fl 3 (Qm cs)],.c (.sl f2 1 (Qb l)),Uv S] H K:=by
 have hw:=runW hg;refine Q0 ?_;refine Qd Co Qah6 ?_;refine Za ?_;intro x6 aY H1 h1;have kn:Kn H H1 [] [(x6,oO 0 0)]:=(Kn.an H).al aY h1;simp only[go_sem,Qqh];refine Za ?_;intro ml fe H2 h2;obtain⟨X,hX⟩:∃X:Rn,X=⟨ml,fl,cs,S⟩:=⟨_,rfl⟩;obtain⟨r0,bI⟩:∃r0:Rs,r0=⟨0,[],Fu,[],.sl true 1 [],[],.sl true 1 [],[]⟩:=⟨_,rfl⟩;have kn:Kn H H2 [] (X.F r0 [(x6,oO 0 0)] []):=by
  subst hX;subst bI;have k:Kn H H2 [] ([(x6,oO 0 0)]++[(ml,Rn.o ⟨ml,fl,cs,S⟩ ⟨0,[],Fu,[],.sl true 1 [],[],.sl true 1 [],[]⟩)]):=kn.al fe h2;exact k.perm (by simpa[Rn.F]using List.Perm.swap _ _ _)
 have hXl:X.l=ml:=by rw[hX]
 have hXf:X.fl=fl:=by rw[hX]
 have vC:X.cs=cs:=by rw[hX]
 have Az:X.S=S:=by rw[hX]
 have xW:r0.ok X:=by
  subst bI;exact⟨.nil 1,.nil 1,rfl,λv hv=>by rw[List.eq_of_mem_replicate hv];exact⟨ZA,ZA⟩,λv hv=>by simp at hv,Jw _,ZC,J7 _,by rw[Az];exact hS⟩
 simp only[go_sem,Qqj];intro x8 aV H3 h3;have kn:Kn H H3 [] (X.F r0 [(x6,oO 0 0),(x8,.st [.pnil])] []):=F_al (A:=[(x6,oO 0 0)]) (kn.al aV h3);have aV:H3 x8=.st [.pnil]:=kn.l 2 rfl;simp only[go_sem,Qqi,aV];intro H4 h4;rw[<-hXl]at h4;have kn:Kn H H4 [] (X.F r0 [(x6,oO 0 0),(x8,.st [.ptr X.l 0])] []):=kn.az 2 rfl h4;refine Za ?_;intro x9 dc H5 h5;have kn:Kn H H5 [] (X.F r0 [(x6,oO 0 0),(x8,.st [.ptr X.l 0]),(x9,oO 0 0)] []):=F_al (A:=[(x6,oO 0 0),(x8,.st [.ptr X.l 0])]) (kn.al dc h5);refine CN (λe2 H2=>∃(e v:Int) (r1:Rs),Kn H H2 [] (X.F r1 [(x6,oO 0 0),(x8,.st [.ptr X.l 0]),(x9,oO e v)] [])/\r1.ok X/\outR cs l S=(e,v,r1.s,r1.c)/\lk 6 e2=Up x6/\lk 8 e2=Up x8/\lk 9 e2=Up x9) ?_ ?_
 ·intro Q' pu BS BT;refine Zh ?_;refine V5 ZE λxe jh H6 h6=>?_;have kn:Kn H H6 [] (X.F r0 [(x6,oO 0 0),(x8,.st [.ptr X.l 0]),(x9,oO 0 0),(xe,.st [Ui 0])] []):=F_al (A:=[(x6,oO 0 0),(x8,.st [.ptr X.l 0]),(x9,oO 0 0)]) (kn.al jh h6);have kn:Kn H H6 [] (X.F r0 [(x8,.st [.ptr X.l 0]),(x9,oO 0 0)] [(x6,oO 0 0),(xe,.st [Ui 0])]):=kn.perm (Qi λf hf h0 hc hp=>by
   show f ([(X.l,X.o r0)]++(([(x6,oO 0 0)]++([(x8,.st [.ptr X.l 0])]++([(x9,oO 0 0)]++[(xe,.st [Ui 0])])))++((r0.so++r0.tl)++[])))=f ([(X.l,X.o r0)]++(([(x8,.st [.ptr X.l 0])]++[(x9,oO 0 0)])++((r0.so++r0.tl)++([(x6,oO 0 0)]++[(xe,.st [Ui 0])]))));simp only[Ui,hf,h0];omega)
  have key:∀(e v:Int) (r1:Rs) (H7 H8:Heap),Kn H H7 [] (X.F r1 [(x8,.st [.ptr X.l 0]),(x9,oO 0 v)] [(x6,oO 0 0),(xe,.st [Ui 0])])->H8=H7.set xe (.st [Ui e])->
    H7 xe=.st [Ui 0]/\Kn H H8 [] (X.F r1 [(x6,oO 0 0),(x8,.st [.ptr X.l 0]),(x9,oO 0 v)] []):=by
   intro e v r1 H7 H8 k h8;have k:Kn H H7 [] (X.F r1 [(x6,oO 0 0),(x8,.st [.ptr X.l 0]),(x9,oO 0 v),(xe,.st [Ui 0])] []):=k.perm (Qi λf hf h0 hc hp=>by
    show f ([(X.l,X.o r1)]++(([(x8,.st [.ptr X.l 0])]++[(x9,oO 0 v)])++((r1.so++r1.tl)++([(x6,oO 0 0)]++[(xe,.st [Ui 0])]))))=f ([(X.l,X.o r1)]++(([(x6,oO 0 0)]++([(x8,.st [.ptr X.l 0])]++([(x9,oO 0 v)]++[(xe,.st [Ui 0])])))++((r1.so++r1.tl)++[])));simp only[Ui,hf,h0];omega)
   refine⟨k.l 4 rfl,?_⟩;have k2:Kn H H8 [] (X.F r1 [(x6,oO 0 0),(x8,.st [.ptr X.l 0]),(x9,oO 0 v),(xe,.st [Ui e])] []):=k.az 4 rfl h8;exact Fy (A:=[(x6,oO 0 0),(x8,.st [.ptr X.l 0]),(x9,oO 0 v)]) (A':=[(xe,.st [Ui e])]) k2
  have dq:(l.length:Int)=(Qp X.cs (X.cs.length-1)).params:=by rw[vC];exact hl
  rw[<-hXf,<-vC];refine Qa5e (X:=X) (f2:=f2) (by rw[vC];exact hw) dq bj kn xW (by rw[bI]) (by rw[bI]) (by rw[bI]) (by rw[bI]) (λv r1 H7 kn7 cN cO=>?_) (λe r1 H7 kn7 cN ql=>?_)
  ·refine⟨(key 0 v r1 H7 _ kn7 rfl).1,.inr ⟨ZC,λH8 h8=>?_⟩⟩;have k:=(key 0 v r1 H7 H8 kn7 h8).2;have dc:H8 x9=.st [.sl true 1 [],Ui 0,Ui v,.sl true 1 []]:=k.l 3 rfl;simp only[go_sem,SL,dc];intro H9 h9;have ho:=Qa0i cO;rw[vC,Az]at ho;exact pu _ _ ⟨0,v,r1,k.az 3 rfl h9,cN,ho,Rf0⟩
  ·refine⟨(key e 0 r1 H7 _ kn7 rfl).1,.inl ⟨e,rfl,λH8 h8=>?_⟩⟩;have k:=(key e 0 r1 H7 H8 kn7 h8).2;have dc:H8 x9=.st [.sl true 1 [],Ui 0,Ui 0,.sl true 1 []]:=k.l 3 rfl;(try simp only[go_sem,SL,dc]);intro H9 h9;have ho:=XB ql;rw[vC,Az]at ho;exact pu _ _ ⟨e,0,r1,k.az 3 rfl h9,cN,ho,Rf0⟩
 clear kn aV;rintro e2 H6 ⟨e,v,r1,kn,cN,ho,l6,l8,l9⟩;have kn:Kn H H6 [] ([(x6,oO 0 0),(x8,.st [.ptr X.l 0]),(x9,oO e v)]++([(X.l,X.o r1)]++(r1.so++r1.tl))):=kn.perm (Qi λf hf h0 hc hp=>by simp only[Ui,Rn.F,hf,h0];omega);obtain⟨Sf,zP,B3,ew,kn2⟩:=kn.bW;have gS:=Qa7k cN zP;have aV:=B3 (x8,.st [.ptr X.l 0]) ZC;have vf:FrzH H6 Sf ((H6.frz Sf).set x8 (.st [.pp (X.pc r1)])):=ew.set aV.2 (by rw[aV.1];exact (FrzKL.cons rfl gS .nil).st);have kn:Kn H ((H6.frz Sf).set x8 (.st [.pp (X.pc r1)])) [] [(x6,oO 0 0),(x8,.st [.pp (X.pc r1)]),(x9,oO e v)]:=kn2.setL 1 rfl (by nofun);obtain⟨H7,hH7⟩:∃H7,(H6.frz Sf).set x8 (.st [.pp (X.pc r1)])=H7:=⟨_,rfl⟩;rw[hH7]at vf kn;refine Q1 (c_gh (e':=[(6,Up x6),(8,Up x8),(9,Up x9)]) (H':=H7) (Fe Sf (FC λp hp=>?_) vf) ?_)
 ·simp only[J5,J4,or_false]at hp;rcases hp with rfl|rfl|rfl
  ·rw[l6];exact .c _ _ (.same _ rfl)
  ·rw[l8];exact .c _ _ (.same _ rfl)
  ·rw[l9];exact .c _ _ (.same _ rfl)
 have aV:H7 x8=.st [.pp (.sl X.fl 3 (Qm X.cs)::Ui X.S::Ui r1.u::.sl false 1 (Qb r1.s)::(C4 r1.c++[.sl false 1 (Qb r1.t)]))]:=kn.l 1 rfl;have ak:=Qa3w r1.c (.sl false 1 (Qb r1.t)) 16 cN.c;have aD:=Vi r1.c (.sl false 1 (Qb r1.t)) 16 cN.c;have cL:=cN.c;refine Cv ?_;simp only[go_sem,aV,ak,aD];refine⟨by simp only[LIM];omega,?_⟩;refine Il kn ZW λt Lg H8 ax bq kn=>?_;have aV:H8 x8=.st [.pp (.sl X.fl 3 (Qm X.cs)::Ui X.S::Ui r1.u::.sl false 1 (Qb r1.s)::(C4 r1.c++[.sl false 1 (Qb r1.t)]))]:=kn.l 1 rfl;have dc:H8 x9=.st [.sl true 1 [],Ui e,Ui v,.sl true 1 []]:=kn.l 2 rfl;simp only[go_sem,Qql,aV,dc];intro H9 h9;have kn:Kn H H9 [] ([(x6,oO 0 0),(x8,.st [.pp (X.pc r1)]),(x9,.st [.sl false 1 (Qb r1.s),Ui e,Ui v,.sl true 1 []])]++Lg):=kn.az 2 rfl h9;have dc:H9 x9=.st [.sl false 1 (Qb r1.s),Ui e,Ui v,.sl true 1 []]:=kn.l 2 rfl;simp only[go_sem,Qqk,dc];intro H10 dh;have kn:Kn H H10 [] ([(x6,oO 0 0),(x8,.st [.pp (X.pc r1)]),(x9,.st [.sl false 1 (Qb r1.s),Ui e,Ui v,t])]++Lg):=kn.az 2 rfl dh;have aY:H10 x6=.st [.sl true 1 [],Ui 0,Ui 0,.sl true 1 []]:=kn.l 0 rfl;have aV:H10 x8=.st [.pp (.sl X.fl 3 (Qm X.cs)::Ui X.S::Ui r1.u::.sl false 1 (Qb r1.s)::(C4 r1.c++[.sl false 1 (Qb r1.t)]))]:=kn.l 1 rfl;have dc:H10 x9=.st [.sl false 1 (Qb r1.s),Ui e,Ui v,t]:=kn.l 2 rfl;refine Cv ?_;simp only[go_sem,aY,aV,dc,bq];intro H11 eC;have kn:Kn H H11 [] ([(x6,.st [.sl false 1 (Qb r1.s),Ui e,Ui v,t]),(x8,.st [.pp (X.pc r1)]),(x9,.st [.sl false 1 (Qb r1.s),Ui e,Ui v,t])]++Lg):=kn.az 0 rfl eC;have aY:H11 x6=.st [.sl false 1 (Qb r1.s),Ui e,Ui v,t]:=kn.l 0 rfl;have aV:H11 x8=.st [.pp (.sl X.fl 3 (Qm X.cs)::Ui X.S::Ui r1.u::.sl false 1 (Qb r1.s)::(C4 r1.c++[.sl false 1 (Qb r1.t)]))]:=kn.l 1 rfl;simp only[go_sem,Qqm,aV];refine Ql ?_;simp only[go_sem,Q5,Cn,Jz,RS.op,aY,bq];refine⟨_,L8 (FrzL.ag (.cons (Qg rfl) (.cons (Qg rfl) (.cons (Qg rfl) (.cons (ax.frz kn (Qr _)) .nil))))) (.c _ _ (Qg rfl)),?_⟩;exact hK e v r1.s r1.c _ _ ho kn.fin
end Y
namespace Y
attribute [local go_sem] cond_true cond_false Bool.not_true Bool.not_false
attribute [local instance] Classical.propDecidable
open Go.Proofs.Tryz
variable{H':Heap}{E A A' B Li:Ul}{cs ds:List CodeD}{f2:Bool}{l:List Int}
def Dn (cs:List CodeD):Int:=(Qp cs (cs.length-1)).params
theorem Q08 (h0:0<cs.length)(hK:K (Uv (Dn cs)) H):Qu prog Qmo [.ag [.sl fl 3 (Qm cs)]] H K:=by
 refine Qd Co Q6b ?_;have rW:((cs.length:Int)-1)=((cs.length-1:Nat):Int):=ZA
 have af:cs.length-1<cs.length:=ZA
 rw[Dn,Eh af]at hK;refine Wk ?_;simp only[go_sem,Q8,rW,af,DP _ _ af,CodeD.cells];intro hl;simp only[LIM]at hl;refine⟨Qv,?_⟩;refine Zd ?_;exact hK
theorem Qap4 {v:Int}(hK:K (.c (.bool (!(decide (0<=v)&&decide (v<=255))))) H):Qu prog SY [Uv v] H K:=by
 refine Qd Co Q59 ?_;refine Wd ?_;refine L4 ?_;simp only[go_sem,Qi8];refine Zd ?_;exact hK
theorem Qaso {n:Int}(hn:(l.length:Int)=n)(hb:byL l)(hK:K (.c (.bool true)) H):Qu prog Qwm [.c (.sl f2 1 (Qb l)),Uv n] H K:=by
 have hd:decide ((l.length:Int)=n)=true:=decide_eq_true hn;refine Qd Co Qah2 ?_;refine Wk ?_;simp only[go_sem,Qc,hd];try intro _
 refine Ky (p:=λv=>!(decide (0<=v)&&decide (v<=255))) (.mk' _ _ _ _) rfl (λx K' _ hk=>Qap4 hk) ?_;have At:(l.any λv=>!(decide (0<=v)&&decide (v<=255)))=false:=by
  rw[List.any_eq_false];intro v hv;obtain⟨a,b⟩:=hb v hv;simp[a,b]
 rw[At];simp only[go_sem,Qp5];refine Zd ?_;exact hK
theorem Qar7(aT:∀c∈cs,c.fits)(hg:C0 cs=true)(hl:(l.length:Int)=Dn cs)(bj:byL l)(hS:S<=60000)(hK:∀H',Upd H H' []->K (.c (.bool true)) H') :
  Qu prog Qsz [.ag [.sl fl 3 (Qm cs)],.c (.sl f2 1 (Qb l)),Uv S] H K:=by
 have h0:=(runW hg).ro.n;refine Qd Co Qae5 ?_;refine Wd ?_;refine PI aT λH1 hu=>?_;rw[hg];simp only[go_sem,Qm8];refine Q08 h0 ?_;simp only[go_sem,Qm7];refine Qaso hl bj ?_;simp only[go_sem,Qm6];refine EC ?_;have hw:(decide ((0:Int)<=(S:Int))&&decide ((S:Int)<=60000))=true:=ZF
 rw[hw];simp only[go_sem,Qm5];refine Zd ?_;exact hK _ hu
def ER (o:Int×Int×List Int×List Int):List C:=[.sl false 1 (Qb o.2.2.1),.int .i64 o.1,.int .i64 o.2.1,.sl false 1 (Qb o.2.2.2)]
theorem MZ(aT:∀c∈cs,c.fits)(hg:C0 cs=true)(hl:(l.length:Int)=Dn cs)(bj:byL l)(hS:S<=60000)(hK:∀H',Upd H H' []->K (.tup [.ag (ER (outR cs l S)),.c (.bool true)]) H') :
  Qu prog Qwl [.ag [.sl fl 3 (Qm cs)],.c (.sl f2 1 (Qb l)),Uv S] H K:=by
 refine Q0 ?_;refine Qd Co Qah1 ?_;refine Za ?_;intro x6 aY H1 h1;have kn:Kn H H1 [] [(x6,oO 0 0)]:=(Kn.an H).al aY h1;simp only[go_sem,Qp0];refine Wa ?_;refine Qar7 aT hg hl bj hS λH2 hu=>?_;have kn:=kn.au hu;simp only[go_sem,PW];refine Qh (Qf (c:=false) rfl (λh=>by cases h) λ_=>?_);refine Zc ?_
 refine Za ?_;refine XV hg hl bj hS λe v s c u H3 ho hu=>?_;have kn:=kn.au hu;simp only[go_sem,Qp3,Je,Jg];intro x8 aV H4 h4;have kn:Kn H H4 [] [(x6,oO 0 0),(x8,oO 0 0)]:=kn.al aV h4;have aV:H4 x8=.st [.sl true 1 [],Ui 0,Ui 0,.sl true 1 []]:=kn.l 1 rfl;simp only[go_sem,Qp2,aV];intro H5 h5;have kn:Kn H H5 [] [(x6,oO 0 0),(x8,.st [.sl false 1 (Qb s),Ui e,Ui v,.sl false 1 (Qb c)])]:=kn.az 1 rfl h5;have aV:H5 x8=.st [.sl false 1 (Qb s),Ui e,Ui v,.sl false 1 (Qb c)]:=kn.l 1 rfl;have aY:H5 x6=.st [.sl true 1 [],Ui 0,Ui 0,.sl true 1 []]:=kn.l 0 rfl;simp only[go_sem,Qp1];refine Zl aV aY ?_;intro H6 h6;have kn:Kn H H6 [] [(x6,.st [.sl false 1 (Qb s),Ui e,Ui v,.sl false 1 (Qb c)]),(x8,.st [.sl false 1 (Qb s),Ui e,Ui v,.sl false 1 (Qb c)])]:=kn.az 0 rfl h6;have aY:H6 x6=.st [.sl false 1 (Qb s),Ui e,Ui v,.sl false 1 (Qb c)]:=kn.l 0 rfl;simp only[go_sem,Qp4];refine Ql ?_;simp only[go_sem,Q5,Cn,Jz,RS.op,aY];refine⟨_,L8 (FrzL.ag (FrzL.same rfl)) (.c _ _ (Qg rfl)),?_⟩;have:=hK _ kn.fin;rw[ho]at this;exact this
theorem Qad2 {o:Int×Int×List Int×List Int}(hK:K (.c (.bool true)) H):Qu prog Qkc [.ag (ER o),.ag (ER o)] H K:=by
 refine Qd Co Q36 ?_;refine Qa ?_;simp only[go_sem,ER];refine Za ?_;refine Mc ?_;simp only[go_sem,Qh1,decide_true];refine Mc ?_;simp only[go_sem,Qh0];refine Zd ?_;exact hK
theorem Qapy(nr:∀c∈cs,c.fits)(kE:∀c∈ds,c.fits)(eY:C0 cs=true)(cS:C0 ds=true)(rN:(l.length:Int)=Dn cs)(kY:(l.length:Int)=Dn ds)(bj:byL l)(hS:S<=60000)(hs:DB cs ds l S)
  (hK:∀H',Upd H H' []->K (.c (.bool true)) H'):Qu prog SA [.ag [.sl fl 3 (Qm cs)],.ag [.sl fl 3 (Qm ds)],.c (.sl f2 1 (Qb l)),Uv S] H K:=by
 refine Q0 ?_;refine Qd Co Qaez ?_;refine Wd ?_;refine MZ nr eY rN bj hS λH1 hu=>?_;have kn:=(Kn.an H).au hu;obtain⟨o,ho⟩:∃o,outR cs l S=o:=⟨_,rfl⟩;rw[ho];simp only[go_sem,Qm0,Je,Jg];intro x9 dc H2 h2;have kn:Kn H H2 [] [(x9,oO 0 0)]:=kn.al dc h2;have dc:H2 x9=.st [.sl true 1 [],.int .i64 0,.int .i64 0,.sl true 1 []]:=kn.l 0 rfl;simp only[go_sem,Qmz,dc,ER];intro H3 h3;have kn:Kn H H3 [] [(x9,.st (ER o))]:=kn.az 0 rfl h3;simp only[go_sem,Qmy];refine Za ?_;refine MZ (S:=60000) kE cS kY bj ZA λH4 hu=>?_;have kn:=kn.au hu;obtain⟨p,hp⟩:∃p,outR ds l 60000=p:=⟨_,rfl⟩;rw[hp];simp only[go_sem,Qm3,Je,Jg];intro x11 eR H5 h5;have kn:Kn H H5 [] [(x9,.st (ER o)),(x11,oO 0 0)]:=kn.al eR h5;have eR:H5 x11=.st [.sl true 1 [],.int .i64 0,.int .i64 0,.sl true 1 []]:=kn.l 1 rfl;simp only[go_sem,Qm2,eR,ER];intro H6 h6;have kn:Kn H H6 [] [(x9,.st (ER o)),(x11,.st (ER p))]:=kn.az 1 rfl h6;have dc:H6 x9=.st [.sl false 1 (Qb o.2.2.1),.int .i64 o.1,.int .i64 o.2.1,.sl false 1 (Qb o.2.2.2)]:=kn.l 0 rfl;have eR:H6 x11=.st [.sl false 1 (Qb p.2.2.1),.int .i64 p.1,.int .i64 p.2.1,.sl false 1 (Qb p.2.2.2)]:=kn.l 1 rfl;simp only[go_sem,Qm1];refine Qa ?_;have eA:∀H',Kn H H' [] [(x9,.st (ER o)),(x11,.st (ER p))]->unK H K (.c (.bool true)) H':=λH' k=>⟨_,.c _ _ (Qg rfl),hK _ k.fin⟩;rw[DB,ho,hp]at hs;rcases hs with hs|hs
 ·have hd:decide (o.1=3)=true:=decide_eq_true hs;simp only[go_sem,dc,eR,hd,PX];refine Zd ?_;exact eA _ kn
 ·subst hs;by_cases h3:o.1=3
  ·have hd:decide (o.1=3)=true:=decide_eq_true h3;simp only[go_sem,dc,eR,hd,PX];refine Zd ?_;exact eA _ kn
  ·have hd:decide (o.1=3)=false:=decide_eq_false h3;simp only[go_sem,dc,eR,hd];refine Qad2 (o:=o) ?_;simp only[go_sem,PX];refine Zd ?_;exact eA _ kn
def tryC:List C:=C4 [0,0,0,1,2,3,255,16,7]
def tryL (j:Nat):List Int:=([[0,0,0],[1,2,3],[255,16,7]]:List (List Int)).getD j []
def triL (n:Nat):List (List C):=(List.range 3).map λj=>[.sl false 1 (Qb ((tryL j).take n))]
theorem K0(h:j<3):(tryL j).length=3:=by
 have:j=0\/j=1\/j=2:=ZA
 rcases this with rfl|rfl|rfl <;> rfl
theorem Qa8b(h:j<3):byL (tryL j):=by
 have:j=0\/j=1\/j=2:=ZA
 intro v hv;rcases this with rfl|rfl|rfl <;> (simp[tryL]at hv;rcases hv with rfl|rfl|rfl <;> exact⟨ZA,ZA⟩)
theorem Qa1z(h:j<3):(tryC.drop (j * 3)).take 3=C4 (tryL j):=by
 have:j=0\/j=1\/j=2:=ZA
 rcases this with rfl|rfl|rfl <;> rfl
theorem Vh (l:List Int)(n:Nat):((C4 l).take n).map (λc=>[c])=Qb (l.take n):=by simp only[C4,Qb,List.map_take,List.map_map];rfl
theorem MH (l:List Int):am (C4 l)=true:=by simp[am,C4,C.ai]
theorem K3 {S:Nat->Bool}{n:Nat}:∀(rs:List (C×Ul)) (k:Nat),(∀j (h:j<rs.length),Gr rs[j].2 1 (Qb ((tryL (k+j)).take n)) rs[j].1)->(∀p∈rs.flatMap Prod.snd,H p.1=p.2/\S p.1=true)->
  FrzR H S (rs.map λp=>[p.1]) ((List.range' k rs.length).map λj=>[.sl false 1 (Qb ((tryL j).take n))])
 |[],k,_,_=>.nil
 |p::rs,k,h,hm=>by
  refine .cons (.cons (Gr.frzM (h 0 ZC) (λq hq=>hm q (by rw[J2];exact Js _ hq)) (FrzR.same (Qr _))) .nil) ?_;exact K3 rs (k+1) (λj hj=>by
   have:=h (j+1) ZS;rw[show k+(j+1)=k+1+j by omega]at this;exact this) λq hq=>hm q (by
    rw[J2];exact List.mem_append_right _ hq)
theorem VE {n:Nat}(cW:H 0=.gl 0 tryC)(hn:n<=3)(hK:∀H',Upd H H' []->K (.c (.sl false 1 (triL n))) H'):Qu prog Qwq [Uv n] H K:=by
 refine Q0 ?_;refine Qd Co Qah7 ?_;have be:H 0≠.none:=by rw[cW];nofun
 have oz:tryC.length=9:=rfl;have vZ:tryC.take 9=tryC:=rfl;refine Wd ?_;refine Q1 (Qa ?_);simp only[go_sem,cW,oz,vZ];refine Qh (Qe (Qy (λm e1 H1=>∃(i:Nat) (t:C) (Lg:Ul) (rs:List (C×Ul)),m=3-i/\i<=3/\rs.length=i/\(∀p∈rs,p.1.ai=false)/\Gr Lg 1 (rs.map λp=>[p.1]) t/\(∀j (h:j<rs.length),Gr rs[j].2 1 (Qb ((tryL j).take n)) rs[j].1)/\Kn H H1 [] (rs.flatMap Prod.snd++Lg)/\
  lk 0 e1=Uv n/\lk 3 e1=.c t/\lk 6 e1=.ag tryC/\lk 7 e1=Uv i) 3 ?_ ?_))
 ·exact⟨0,_,[],[],rfl,ZA,rfl,ZC,.nil 1,ZC,.an H,Rf0⟩
 ·rintro m e1 H1 ⟨i,t,Lg,rs,hm,hi,cF,bq,ax,sV,kn,l0,l3,l6,l7⟩;have fU:=ax.ai;refine Qa ?_;simp only[go_sem,l0,l3,l6,l7];refine Wt ?_ ?_
  ·intro hc;have af:i<3:=by have:(i:Int)<3:=of_decide_eq_true hc;omega
   have uw:=Qa1z af;have mq:=K0 af;have db:(C4 (tryL i)).length=3:=by rw[C4,Jj,mq]
   refine Zc ?_
   refine Qh (Qe ?_);refine Zl oz uw ?_;refine⟨ZA,?_⟩;intro x5 bt H2 h2;have kn:=kn.al bt h2;have bt:H2 x5=.st [Ui 0,Ui 0,Ui 0]:=(kn.get (x5,.st [Ui 0,Ui 0,Ui 0]) ZC).1;simp only[go_sem,Qqp,bt,db];intro H3 h3;have kn:Kn H H2 [] ([(x5,.st [Ui 0,Ui 0,Ui 0])]++(rs.flatMap Prod.snd++Lg)):=kn.perm Jq;have kn:Kn H H3 [] ([(x5,.st (C4 (tryL i)))]++(rs.flatMap Prod.snd++Lg)):=kn.az 0 rfl (by rw[h3];simp[mq]);have kn:Kn H H3 [] ((rs.flatMap Prod.snd++Lg)++[(x5,.st (C4 (tryL i)))]):=kn.perm Jq;obtain⟨Sf,zP,B3,ew,kn2⟩:=kn.bW;obtain⟨nr,kE⟩:=zP (x5,.st (C4 (tryL i))) ZC;obtain⟨H4,Ce⟩:∃H4,H3.frz Sf=H4:=⟨_,rfl⟩;refine c_gh (e':=[(0,Uv n),(3,.c t),(5,.c (.pp (C4 (tryL i)))),(6,.ag tryC),(7,Uv i)]) (H':=H4) (by
    rw[<-Ce];refine YH Sf (FC λp hp=>?_);simp only[J5,J4,or_false]at hp;rcases hp with rfl|rfl|rfl|rfl|rfl
    ·exact .c _ _ (.same _ rfl)
    ·exact .c _ _ (.same _ fU)
    ·exact .c _ _ (FrzL.ptr kE nr (FrzL.same (MH _)))
    ·exact (FrzL.same (MH _)).ag
    ·exact .c _ _ (.same _ rfl)) ?_
   rw[Ce]at kn2;refine Qt ?_;have b9:=Vh (tryL i) n;simp only[go_sem,db,b9];refine⟨⟨⟨ZA,ZA⟩,by simp only[LIM];omega⟩,?_⟩;have sy:((tryL i).take n).length<=LIM:=by rw[Jr,mq];simp only[LIM];omega
   refine Il kn2 sy λt2 Lg2 H5 cS cQ kn=>?_;simp only[go_sem,Qqq];have kn:Kn H H5 [] ((rs.flatMap Prod.snd++Lg2)++Lg):=kn.perm (Qi λf hf h0 hc hp=>by simp only[Ui,hf];omega);refine kn.bk (new:=[[t2]]) ax (.mk' _ _ _ _) (by simp[am,cQ]) (by simp only[Jj,cF,LIM,Jm,Jn];omega) λt3 Lg3 H6 zL sT kn=>?_;simp only[go_sem,PL];refine Zh ?_;refine⟨Qv,?_⟩;show ∃m,_;refine⟨3-(i+1),ZA,i+1,t3,Lg3,rs++[(t2,Lg2)],rfl,ZA,by simp[cF],?_,?_,?_,?_,Rf0⟩
   ·intro p hp;rcases List.mem_append.1 hp with hp|hp
    ·exact bq p hp
    ·rw[Ja]at hp;subst hp;exact cQ
   ·rw[Jy];exact zL
   ·intro j hj;rw[Jt]at hj;by_cases cR:j<rs.length
    ·rw[List.getElem_append_left cR];exact sV j cR
    ·have nf:j=i:=(by simp at hj;omega);subst nf;rw[List.getElem_append_right ZA];simp only[cF,Nat.sub_self,List.getElem_cons_zero];exact cS
   ·rw[List.flatMap_append];simpa using kn
  ·intro hc;have bp:i=3:=by
    have:¬((i:Int)<3):=of_decide_eq_false hc;omega
   refine Wb ?_;refine Zd ?_;have hz:=K3 (H:=H1) (S:=un H) (n:=n) rs 0 (by simpa using sV) λp hp=>⟨(kn.get p (by simp only[List.nil_append];exact Js _ hp)).1,Ef (kn.loc p (Js _ hp))⟩;rw[cF,bp]at hz;exact⟨_,.c _ _ (ax.frzR kn hz),hK _ kn.fin⟩
theorem Qago (cW:H 0=.gl 0 tryC)(aT:∀c∈cs,c.fits)(hg:C0 cs=true)(hK:∀H',Upd H H' []->K (.c (.sl false 1 (triL (Dn cs).toNat))) H'):Qu prog SZ [.ag [.sl fl 3 (Qm cs)]] H K:=by
 have hw:=runW hg;have h0:=hw.ro.n;obtain⟨p0,p3,_⟩:=hw.par (cs.length-1) ZA;have be:H 0≠.none:=by rw[cW];nofun
 obtain⟨n,hn⟩:∃n:Nat,Dn cs=n:=⟨(Dn cs).toNat,by rw[Dn];omega⟩;have uB:n<=3:=by rw[Dn]at hn;omega
 rw[hn]at hK;refine Qd Co Q58 ?_;refine Wi ?_;refine PI aT λH1 hu=>?_;have kn:=(Kn.an H).au hu;rw[hg];simp only[go_sem,IE];refine Qh (Qf (c:=false) rfl (λh=>by cases h) λ_=>?_);refine Zc ?_
 refine Za ?_;refine Q08 h0 ?_;rw[hn];simp only[go_sem,Qi7];refine VE ZaR uB λH2 eV=>?_;have kn:=kn.au eV;simp only[go_sem,Rb];refine Zd ?_;exact hK _ kn.upd
end Y
namespace Y
attribute [local go_sem] cond_true cond_false Bool.not_true Bool.not_false
attribute [local instance] Classical.propDecidable
open Go.Proofs.Tryz
variable{cs ds:List CodeD}
def Qa5k:SC:=
  (.cond (.t 12) (.seq (.reg (
  .f (some 2) none (.mv (.k (.c (.bool true))))::
  []) [2]) .ret) .skip)
def Lm:List Item:=
  .e none none (.sto 1 (.t 3) (.t 14))::
  []
def Ll:List Item:=
  .e (some 3) none (.alloc [.sl true 3 []])::
  Lm
def Lk:List Item:=
  .e none none (.sto 1 (.t 4) (.t 18))::
  EK
def Lj:List Item:=
  .f (some 15) none (.mv (.t 17))::
  .f (some 18) none (.ext (.t 15) 0)::
  .f (some 19) none (.ext (.t 15) 1)::
  .e (some 4) none (.alloc [.sl true 3 []])::
  Lk
def Lh:List Item:=
  .e none none (.sto 1 (.t 6) (.t 23))::
  ID
def Lf:List Item:=
  .f (some 20) none (.mv (.t 22))::
  .f (some 23) none (.ext (.t 20) 0)::
  .f (some 24) none (.ext (.t 20) 1)::
  .e (some 6) none (.alloc [.sl true 3 []])::
  Lh
def HF:List Item:=
  .f (some 32) (some (28,false)) (.not (.t 31))::
  .f (some 33) none (.pick (.t 28) (.k (.c (.bool true))) (.t 32))::
  .f (some 34) none (.mv (.t 33))::
  .f (some 35) (some (34,false)) (.mv (.t 5))::
  .f (some 36) (some (34,false)) (.not (.t 35))::
  .f (some 37) none (.pick (.t 34) (.k (.c (.bool true))) (.t 36))::
  []
def Mj:List Item:=
  .f (some 45) none (.pick (.t 41) (.t 44) (.k (.c (.bool false))))::
  .f (some 2) none (.mv (.t 45))::
  []
def Mi:List Item:=
  .f (some 48) none (.len (.t 47))::
  .f (some 49) none (.mv (.k (.c (.int .i64 0))))::
  []
def Mh:List Item:=
  .f (some 57) none (.not (.t 56))::
  []
def Mg:List Item:=
  .f (some 2) none (.mv (.t 60))::
  []
def Qa1h:SC:=
  (.seq (.seq (.reg (
  .f (some 25) none (.mv (.t 5))::
  .f (some 26) none (.mv (.t 7))::
  .f (some 27) none (.bin 1 .neq (.t 25) (.t 26))::
  .f (some 28) none (.mv (.t 27))::
  .f (some 29) (some (28,false)) (.ld 1 true (.t 4))::
  .f (some 30) (some (28,false)) (.ld 1 true (.t 6))::
  .e (some 31) (some (28,false)) (.call PY [.t 29,.t 30])::
  HF) [3,4,5,6,7,37]) (.cond (.t 37) (.seq (.reg (
  .f (some 38) none (.mv (.t 5))::
  .f (some 39) none (.mv (.t 7))::
  .f (some 40) none (.bin 1 .eql (.t 38) (.t 39))::
  .f (some 41) none (.mv (.t 40))::
  .f (some 42) (some (41,true)) (.ld 1 true (.t 4))::
  .f (some 43) (some (41,true)) (.ld 1 true (.t 6))::
  .e (some 44) (some (41,true)) (.call PY [.t 42,.t 43])::
  Mj) [2]) .ret) .skip)) (.seq (.seq (.reg (
  .f (some 46) none (.ld 1 true (.t 3))::
  .e (some 47) none (.call SZ [.t 46])::
  Mi) [3,4,47,48,49]) (.block 0 (.loop (.seq (.reg (
  .f (some 50) none (.bin 0 .lss (.t 49) (.t 48))::
  []) [3,4,47,48,49,50]) (.seq (.cond (.t 50) .skip (.exit 0)) (.seq (.block 1 (.seq (.reg (
  .f (some 51) none (.iad 1 (.t 47) (.t 49))::
  .f (some 52) none (.ld 1 false (.t 51))::
  .f (some 9) none (.mv (.t 52))::
  []) [3,4,9,47,48,49]) (.seq (.reg (
  .f (some 53) none (.ld 1 true (.t 3))::
  .f (some 54) none (.ld 1 true (.t 4))::
  .f (some 55) none (.mv (.t 9))::
  .e (some 56) none (.call SA [.t 53,.t 54,.t 55,.k (.c (.int .i64 800))])::
  Mh) [3,4,47,48,49,57]) (.cond (.t 57) (.seq (.reg (
  .f (some 2) none (.mv (.k (.c (.bool false))))::
  []) [2]) .ret) .skip)))) (.reg (
  .f (some 58) none (.bin 0 .add (.t 49) (.k (.c (.int .i64 1))))::
  .f (some 49) none (.mv (.t 58))::
  []) [3,4,47,48,49]))))))) (.seq (.reg (
  .f (some 59) none (.ld 1 true (.t 4))::
  .e (some 60) none (.call SO [.t 59])::
  Mg) [2]) .ret)))
def Qa1i (sp:Nat):SC:=(.seq (.reg (
  .f (some 21) none (.ld 1 true (.t 3))::
  .e (some 22) none (.call sp [.t 21])::
  Lf) [3,4,5,6,7]) Qa1h)
def Qa1j (im sp:Nat):SC:=(.seq (.reg (
  .f (some 16) none (.ld 1 true (.t 3))::
  .e (some 17) none (.call im [.t 16])::
  Lj) [3,4,5]) (Qa1i sp))
def Qa1k (dr im sp:Nat):SC:=(.seq (.reg (
  .f (some 13) none (.mv (.t 0))::
  .e (some 14) none (.call dr [.t 13])::
  Ll) [3]) (Qa1j im sp))
def Qa1l (dr im sp:Nat):SC:=(.seq (.seq (.reg (
  .f (some 10) none (.mv (.t 0))::
  .f (some 11) none (.len (.t 10))::
  .f (some 12) none (.bin 0 .gtr (.t 11) (.k (.c (.int .i64 1048576))))::
  []) [0,12]) Qa5k) (Qa1k dr im sp))
def Qa9c (dr im sp:Nat):SC:=(.seq (.reg (
  .f (some 2) none (.mv (.k (.c (.bool false))))::
  []) [0]) (Qa1l dr im sp))
theorem K2 (n:Nat):(triL n).length=3:=by simp[triL]
theorem Qa5v (n:Nat){i:Nat}(h:i<3):(triL n).getD i []=[.sl false 1 (Qb ((tryL i).take n))]:=by
 have:i=0\/i=1\/i=2:=ZA
 rcases this with rfl|rfl|rfl <;> rfl
theorem KW {i n:Nat}(h:i<3)(hn:n<=3):((tryL i).take n).length=n:=by rw[Jr,K0 h];omega
theorem Qa5w {i n:Nat}(h:i<3):byL ((tryL i).take n):=λv hv=>Qa8b h v (List.mem_of_mem_take hv)
theorem Qa0a {f:CodeD->CodeD}(h:∀q,(f q).params=q.params):Dn (cs.map f)=Dn cs:=by
 rw[Dn,Dn,Qp,Qp,Jj];simp only[Jb,Jp]
 cases cs[cs.length-1]? with
 |none=>rfl
 |some q=>exact h q
theorem XT {dr im sp:Nat}{P:List CodeD->List CodeD->Prop}{G:List CodeD->Bool}(hm:mFn prog f 1 61 (Qa9c dr im sp) Cq=true)
  (qp:∀(bs:List UInt8) (H:Heap) (K:V->Heap->Prop),(∀cs H',Upd H H' []->UnitOk cs->K (.ag [.sl false 3 (Qm cs)]) H')->Qu prog dr [.c (.sl false 1 (Di bs))] H K)
  (zz:∀(cs:List CodeD) (H:Heap) (K:V->Heap->Prop),(∀c∈cs,c.fits)->(∀ds H',P cs ds->Upd H H' []->K (.tup [.ag [.sl false 3 (Qm ds)],.c (.bool (G cs))]) H')->Qu prog im [.ag [.sl false 3 (Qm cs)]] H K)
  (o6:∀(cs:List CodeD) (H:Heap) (K:V->Heap->Prop),(∀c∈cs,c.fits)->(∀ds H',P cs ds->Upd H H' []->K (.tup [.ag [.sl false 3 (Qm ds)],.c (.bool (G cs))]) H')->Qu prog sp [.ag [.sl false 3 (Qm cs)]] H K)
  (qS:∀cs ds ds',P cs ds->P cs ds'->ds=ds') (vm:∀cs ds,(∀c∈cs,c.fits)->P cs ds->∀c∈ds,c.fits)
  (hG:∀cs ds,P cs ds->G cs=true->C0 cs=true/\C0 ds=true/\Dn ds=Dn cs/\∀l,DB cs ds l 800)
  (cW:H 0=.gl 0 tryC) (hK:∀H',K (.c (.bool true)) H'):Qu prog f [.c (.sl false 1 (Di bs))] H K:=by
 refine Qd Co hm ?_;have be:H 0≠.none:=by rw[cW];nofun
 have retT':∀(e:Env) (H':Heap),lk 2 e=.c (.bool true)->Q5 Cq K .ret e H':=by
  intro e H' h2;simp only[go_sem,Q5,Cn,Ja,forall_eq,RS.op,h2];exact hK H'
 refine Wg ?_;simp only[go_sem,Fg];intro _;refine Qh (Qf rfl (λhc=>?_) (λhc=>?_))
 ·refine Za ?_;refine Ql ?_;exact retT' _ _ rfl
 refine Zc ?_
 refine Za ?_;refine qp bs _ _ λcs H1 hu aq=>?_;have aT:=aq.fits;have kn:=(Kn.an H).au hu;simp only[go_sem,Ll];intro x3 aO H2 h2;have kn:=kn.al aO h2;have aO:=kn.l 0 rfl;simp only[go_sem,Lm,aO];intro H3 h3;have kn:Kn H H3 [] [(x3,.st [.sl false 3 (Qm cs)])]:=kn.az 0 rfl h3;have aO:=kn.l 0 rfl;refine Zj aO ?_;refine zz cs _ _ aT λds H4 gB hu=>?_;have wy:=vm cs ds aT gB;have kn:=kn.au hu;simp only[go_sem,Lj,Je,Jg];intro x4 bh H5 h5;have kn:=kn.al bh h5;have bh:=kn.l 1 rfl;simp only[go_sem,Lk,bh];intro H6 h6;have kn:Kn H H6 [] [(x3,.st [.sl false 3 (Qm cs)]),(x4,.st [.sl false 3 (Qm ds)])]:=kn.az 1 rfl h6;have aO:=kn.l 0 rfl;simp only[go_sem,EK];refine Zj aO ?_;refine o6 cs _ _ aT λds' H7 zT hu=>?_;obtain rfl:=qS cs ds ds' gB zT;have kn:=kn.au hu;simp only[go_sem,Lf,Je,Jg];intro x6 aY H8 h8;have kn:=kn.al aY h8;have aY:=kn.l 2 rfl;simp only[go_sem,Lh,aY];intro H9 h9;have kn:Kn H H9 [] [(x3,.st [.sl false 3 (Qm cs)]),(x4,.st [.sl false 3 (Qm ds)]),(x6,.st [.sl false 3 (Qm ds)])]:=kn.az 2 rfl h9;have bh:=kn.l 1 rfl;have aY:=kn.l 2 rfl;simp only[go_sem,ID];refine Q1 ?_
 cases hg:G cs with
 |false=>
  refine Zl bh aY ?_;refine Sr λH10 hu=>?_;have kn:=kn.au hu;have bh:=kn.l 1 rfl;have aY:=kn.l 2 rfl;simp only[go_sem,HF];refine Wt ?_ ?_
  ·intro _;refine Zl bh aY ?_;refine Sr λH11 hu=>?_;simp only[go_sem,Mj];refine Ql ?_;exact retT' _ _ rfl
  ·intro h;simp at h
 |true=>
  obtain⟨eY,cS,hmp,gc⟩:=hG cs ds gB hg;refine Zl bh aY ?_;refine Sr λH10 hu=>?_;have kn:=kn.au hu;simp only[go_sem,HF];refine Wt ?_ ?_
  ·intro h;simp at h
  intro _;refine Zc ?_
  have kn:Kn H H10 [] [(x3,.st [.sl false 3 (Qm cs)]),(x4,.st [.sl false 3 (Qm ds)])]:=Kn.drop (A:=[_,_]) (B:=[_]) kn;have aO:=kn.l 0 rfl;refine Q1 (Qa ?_);simp only[go_sem,aO];refine Qago ZaR aT eY λH11 hu=>?_;have kn:=kn.au hu;obtain⟨p0,p3,_⟩:=(runW eY).par (cs.length-1) (by have:=(runW eY).ro.n;omega);obtain⟨n,hn⟩:∃n:Nat,Dn cs=n:=⟨(Dn cs).toNat,by rw[Dn];omega⟩;have uB:n<=3:=by rw[Dn]at hn;omega
  rw[hn,Int.toNat_natCast];simp only[go_sem,Mi,K2];try intro _
  refine Qh (Qe (Qy (λmm e1 H1=>∃(i:Nat),mm=3-i/\i<=3/\Kn H H1 [] [(x3,.st [.sl false 3 (Qm cs)]),(x4,.st [.sl false 3 (Qm ds)])]/\
   lk 3 e1=Up x3/\lk 4 e1=Up x4/\lk 47 e1=.c (.sl false 1 (triL n))/\lk 48 e1=Uv 3/\lk 49 e1=Uv i) 3 ?_ ?_))
  ·exact⟨0,ZA,ZA,kn,Rf0⟩
  ·clear kn aO bh aY;rintro mm e1 H12 ⟨i,eG,hi,kn,l3,l4,l47,l48,l49⟩;have aO:=kn.l 0 rfl;have bh:=kn.l 1 rfl;refine Qa ?_;simp only[go_sem,l3,l4,l47,l48,l49];refine Wt ?_ ?_
   ·intro bN;have af:i<3:=(by have:(i:Int)<3:=of_decide_eq_true bN;omega);refine Zc ?_
    refine Wc ?_;simp only[go_sem,af,K2,Qa5v n af];refine Zl aO bh ?_;refine Qapy (S:=800) aT wy eY cS (by rw[KW af uB,hn]) (by rw[KW af uB,hmp,hn]) (Qa5w af) ZA (gc _) λH13 hu=>?_;have kn:=kn.au hu;simp only[go_sem,Mh];refine Qf (c:=false) rfl (λh=>by cases h) λ_=>?_;refine Zc ?_
    refine Zh ?_;refine⟨Qv,?_⟩;show ∃m,_;exact⟨3-(i+1),ZA,i+1,rfl,ZA,kn,Rf0⟩
   ·intro bN;refine Zb ?_;refine Zj bh ?_;refine PI wy λH13 hu=>?_;rw[cS];simp only[go_sem,Mg];refine Ql ?_;exact retT' _ _ rfl
end Y
namespace Y
attribute [local instance] Classical.propDecidable
open Go.Proofs.Tryz
variable{cs ds:List CodeD}{q:CodeD}
theorem Qaqm:∀n,(Nat.repeat jn1 n q).params=q.params:=λn=>(HJ n).1
theorem Qaqk (q:CodeD):(jnD q).params=q.params:=by
 have h:∀p:CodeD,(drpE p).params=p.params:=λp=>rfl;rw[jnD,h,jnE,Qaqm,h]
theorem FnJoinRuns_c (cW:H 0=.gl 0 tryC)(hK:∀H',K (.c (.bool true)) H'):Qu prog Q35 [.c (.sl false 1 (Di bs))] H K:=
 XT (dr:=Tp) (im:=Ta) (sp:=SX) (P:=λcs ds=>ds=perL jnD cs) (G:=C0) ZE (λbs H K h=>Q32 h)
  (λcs H K hf h=>Qaap hf λH' hu=>h _ H' rfl hu) (λcs H K hf h=>Qabu hf λH' hu=>h _ H' rfl hu) (λcs a b h1 h2=>h1.trans h2.symm) (λcs ds hf h=>by rw[h];exact KB cs)
  (λcs ds h hg=>by
   have e:perL jnD cs=cs.map jnD:=by rw[perL,if_pos hg]
   rw[h,e];exact⟨hg,HL hg,Qa0a Qaqk,λl=>V2 hg l ZA⟩) cW hK
end Y
namespace Y
open Go.ChangeShapes Go.WideShapes Go.ChangeAt Go.RowKit
def Ie (w:World)(a:Option Addr)(len cap:Nat)(zs:List Int):Prop:=
 (a=none/\len=0/\cap=0/\zs=[])\/
 ∃x,a=some x/\len<=cap/\zs.length=cap/\(∀i,i<zs.length->w.cell? (x.add i)=some (.int .u8 (zs.getD i 0)))/\∀n∈zs,(Lit.int .u8 n).wf=true
def gh3 (w:World):G:=⟨λb=>decide (b<w.heap.size),λ_=>none,λl=>if l=0 then some (0,9,0)else none⟩
def hp3:Heap:=λl=>if l=0 then .gl 0 tryC else .none
def tryZ:List Int:=[0,0,0,1,2,3,255,16,7]
theorem Qar3 (w:World)(ht:∀j,j<9->w.cell? ⟨0,j,none⟩=some (.int .i64 (tryZ.getD j 0))):Sat hp3 (gh3 w) w:=by
 have h0:0<w.heap.size:=by
  have:=ht 0 ZA;rcases Ju w.heap.size with h|h
  ·simp[World.cell?,Jx (show w.heap.size<=0 by omega)]at this
  ·exact h
 have hz:∀(j:Nat) (c:C),tryC[j]? = some c->j<9/\c=.int .i64 (tryZ.getD j 0):=by
  intro j c h;have hj:j<9:=(Jv.1 h).1;refine⟨hj,?_⟩;have e:tryC=C4 tryZ:=rfl;rw[e,C4,Jp]at h;have hl:j<tryZ.length:=hj;rw[Jf hl]at h;simp at h;rw[<-h,Jb,Jf hl];rfl
 refine⟨λb hb=>⟨by simp[gh3];omega,rfl⟩,⟨1,λl hl=>by simp[gh3];omega⟩,λb x h=>by simp[gh3]at h,λb l p h=>by simp[gh3]at h,λl=>?_⟩;by_cases hl:l=0
 ·subst hl;refine⟨9,λj=>.int .i64 (tryZ.getD j 0),by simp[gh3],by simpa[gh3]using h0,λj c h=>?_,λj c h=>?_⟩
  ·exact ht j (hz j c h).1
  ·rw[(hz j c h).2];exact .int _ _
 ·rw[hp3,if_neg hl];trivial
theorem Qa27 {n:Int}(h:(Lit.int .u8 n).wf=true):((UInt8.ofNat n.toNat).toNat:Int)=n:=by
 simp only[Lit.wf,Jh,decide_eq_true_eq]at h;have a1:IntKind.min .u8=0:=ZN
 have a2:IntKind.max .u8=255:=ZN
 rw[a1,a2]at h;rw[UInt8.toNat_ofNat'];omega
theorem calls_of_acall3 {P:Program}(h:∀bs:List UInt8,bs.length<=1048576->Qu P f [.c (.sl false 1 (Di bs))] hp3 λv _=>v=.c (.bool true))
  {a0:Option Addr} {len0 cap0:Nat} {z0:List Int} {w:World} (ht:∀j,j<9->w.cell? ⟨0,j,none⟩=some (.int .i64 (tryZ.getD j 0))) (hr:Ie w a0 len0 cap0 z0) (hl:len0<=1048576) :
  Calls P f #[.slice a0 len0 cap0] w λe w'=>e=.returned (.bool true)/\Below w.heap.size w w':=by
 have key:∃bs:List UInt8,bs.length=len0/\RepC w (gh3 w) (.sl false 1 (Di bs)) (.slice a0 len0 cap0):=by
  rcases hr with ⟨rfl,rfl,rfl,rfl⟩|⟨x,rfl,wu,hz,cj,hwf⟩
  ·exact⟨[],rfl,.ce _ _ _⟩
  ·obtain⟨b,off,spot⟩:=x;have bj:((z0.take len0).map λn=>UInt8.ofNat n.toNat).length=len0:=ZF
   by_cases h0:cap0=0
   ·subst h0;have:len0=0:=ZA;subst this;exact⟨[],rfl,.ce _ _ _⟩
   have dk:=cj 0 ZA;have tX:spot=none:=by simpa[Addr.add]using World.cell?_spot dk
   subst tX;have Au:∀i,(⟨b,off,none⟩:Addr).add i=⟨b,off+i,none⟩:=by
    intro i;by_cases h:i=0 <;> simp[Addr.add,h]
   have hb:b<w.heap.size:=by
    rcases J6 b w.heap.size with h|h
    ·exact h
    ·simp[World.cell?,Addr.add,Jx h]at dk
   refine⟨_,bj,?_⟩;have bC:∀(i:Nat) (row:List C),(Di ((z0.take len0).map λn=>UInt8.ofNat n.toNat))[i]? = some row->i<len0/\row=[.int .u8 (z0.getD i 0)]:=by
    intro i row hi;have af:i<len0:=by
     rcases J6 i len0 with h|h
     ·exact h
     ·rw[Jl (by rw[Fg];omega)]at hi;simp at hi
    have sK:i<z0.length:=ZA;refine⟨af,?_⟩;simp only[Di,Jp,List.getElem?_take,if_pos af,Jf sK,Option.map_some,J3]at hi;rw[<-hi,Qa27 (hwf _ (Jk sK))];simp[Jb,sK]
   have:=RepC.sl (w:=w) (g:=(gh3 w)) false 1 (Di ((z0.take len0).map λn=>UInt8.ofNat n.toNat)) b off cap0 (λi _=>.int .u8 (z0.getD i 0))
    (by rw[Fg,bj];simp only[LIM];omega) ZC (by rw[Fg,bj];exact wu) (by simpa[gh3]using hb)
    (λi row hi=>by rw[(bC i row hi).2];rfl)
    (λi row j c hi hj=>by
     obtain⟨h1,rfl⟩:=bC i row hi;have lM:j=0:=by
      rcases Ju j with h|h
      ·exact h
      ·rw[Jl ZF]at hj;simp at hj
     subst lM;have:=cj i ZA;rw[Au]at this;simpa using this)
    (λi row j c hi hj=>by
     obtain⟨h1,rfl⟩:=bC i row hi;have lM:j=0:=by
      rcases Ju j with h|h
      ·exact h
      ·rw[Jl ZF]at hj;simp at hj
     subst lM;simp at hj;subst hj;exact .int _ _)
   rw[Fg,bj]at this;exact this
 obtain⟨bs,bj,dA⟩:=key;have hc:=(h bs ZA).2 _ w [.slice a0 len0 cap0] (Qar3 w ht) rfl (λj x u hj hu=>by
  cases j with
  |zero=>simp at hj hu;subst hj;subst hu;exact .c _ _ dA
  |succ j=>simp at hj)
 refine hc.mono λe w'=>?_;rintro (⟨v,x,H',g',rfl,rfl,aI,hv⟩|⟨v,H',g',_,h,_⟩)
 rotate_left
 ·cases h
 have:v=.bool true:=by cases hv with|c _ _ h=>cases h;rfl
 subst this;exact⟨rfl,aI.le.os,aI.le.tape,aI.le.output,aI.le.size,λk hk=>(aI.le.per k (by simpa[gh3]using hk)).2⟩
end Y
end Go.AE
