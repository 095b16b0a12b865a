/- Part 7 of the proof: the engine, codes, walks and plain laws, each named where it stands. -/
import Derived.Test.YtchjcdooknkfpaaGreatDoorZF
import Derived.Below
import Derived.Defers
import Derived.Laws.Pointers
import Derived.OpenShut
import Derived.ProofKit
import Derived.Recover
open Nat (reduceEqDiff reduceAdd reduceLeDiff reduceLT)
set_option linter.unusedVariables false
set_option linter.unusedSimpArgs false
set_option maxRecDepth 4000
set_option maxHeartbeats 32000000
open Array renaming getElem?_eq_none->Jz
open Bool renaming and_eq_true->Jh,false_eq_true->J2
open Int renaming natCast_nonneg->J3
open List renaming mem_singleton->Ja,getD_eq_getElem?_getD->Jb,getD_cons_zero->Jd,take_of_length_le->Je,getD_cons_succ->Jf,getElem?_eq_getElem->Jg,take_succ_eq_append_getElem->Ji,length_map->Jj,getElem_mem->Jk,getElem?_eq_none->Jl,forall_mem_cons->Jm,length_cons->Jn,length_nil->Jo,drop_eq_nil_of_le->Jp,getElem?_map->Jq,perm_append_comm->Jr,length_take->Js,not_mem_nil->Jt,mem_append_left->Ju,length_append->Jv,getElem?_eq_some_iff->Jx,map_append->J0,mem_iff_getElem->J1,flatMap_cons->J4,mem_cons->J6,mem_map->J7
open Nat renaming zero_add->Jc,eq_zero_or_pos->Jw,le_refl->Jy,lt_or_ge->J8,zero_le->J9
open Option.some renaming injEq->J5
namespace Go.AE.Y
attribute [local go_sem] cond_true cond_false Bool.not_true Bool.not_false
open Go.Proofs.Tryz
variable {H H' H0:Heap}{K:Uk}{E A A' B Li:Ul}{X:Rn}{r r':Rs}
section
variable {cs:List CodeD}{k b:Nat}{x:InsD}{t:List InsD}{R s c:List Int}{fs:List Fr}
theorem Qb50 (h:x.op=1):stI cs k b x t R fs s c=.go (⟨k,b,t,R.set x.to.toNat x.n⟩::fs) s c:=Zax
theorem Qb7g (h:x.op=11):stI cs k b x t R fs s c=if 16<=ar R x 0 then .dn 2 0 s c else .go (⟨k,b,t,R.set x.to.toNat (rg c (ar R x 0))⟩::fs) s c:=Zax
theorem Qb51 (h:x.op=12):stI cs k b x t R fs s c=if 16<=ar R x 0 then .dn 2 0 s c else .go (⟨k,b,t,R⟩::fs) s (c.set (ar R x 0).toNat (ar R x 1)):=Zax
theorem Qb52 (h:x.op=13):stI cs k b x t R fs s c=.go (⟨k,b,t,R⟩::fs) (s++[ar R x 0]) c:=Zax
theorem Qb3r (h:x.op=14):stI cs k b x t R fs s c=.go (fr0 cs x.n.toNat (x.args.map (rg R))::⟨k,b,x::t,R⟩::fs) s c:=Zax
theorem Qb3s (h:x.op=2):stI cs k b x t R fs s c=.go (⟨k,b,t,R.set x.to.toNat (ar R x 0)⟩::fs) s c:=Zax
theorem Qb5z (h:x.op=10):stI cs k b x t R fs s c=.go (⟨k,b,t,R.set x.to.toNat (trI (ar R x 0=0))⟩::fs) s c:=by rw[stI];simp[h,arR]
theorem Qb7f (h3:3<=x.op)(h9:x.op<=9):stI cs k b x t R fs s c=if (arP x.op (ar R x 0) (ar R x 1)).2=true then .go (⟨k,b,t,R.set x.to.toNat (arP x.op (ar R x 0) (ar R x 1)).1⟩::fs) s c else .dn 1 0 s c:=by
 rw[stI,arP];simp only[show ¬x.op=1 by omega,show ¬x.op=11 by omega,show ¬x.op=12 by omega,show ¬x.op=13 by omega,show ¬x.op=14 by omega,show ¬x.op=2 by omega,if_false];cases arR x.op (ar R x 0) (ar R x 1) <;> simp
end
theorem Qb4i {op a b:Int}(ha:byI a)(hb:byI b):byI (arP op a b).1:=by
 rw[arP]
 cases h:arR op a b with
 |none=>exact⟨ZD,ZD⟩
 |some v=>exact Qb4j ha hb h
structure InsW (cs:List CodeD)(k:Nat)(x:InsD):Prop where
 op:1<=x.op/\x.op<=14
 n1:x.op=1->byI x.n
 args:∀v∈x.args,0<=v/\v.toNat<(Qt cs k).ae.toNat
 to:CQ x.op=true->0<=x.to/\x.to.toNat<(Qt cs k).ae.toNat
 len:¬x.op=14->(x.args.length:Int)=C3 x.op
 cal:x.op=14->0<=x.n/\x.n.toNat<k/\(x.args.length:Int)=(Qt cs x.n.toNat).params
 al:x.args.length<=3
def Rdb (Li:List (Nat×Obj))(rows:List (List C))(c:C):Prop:=(Li=[]/\∃fl,c=.sl fl 1 rows)\/Gr Li 1 rows c
theorem Rdb.slc {rows:List (List C)}{c:C}(h:Rdb Li rows c)(kn:Kn H0 H E (B++Li)):Slc H 1 rows c:=by
 rcases h with ⟨_,fl,rfl⟩|h
 ·exact .mk' _ _ _ _
 ·exact h.slc kn
theorem Rdb.ai {rows:List (List C)}{c:C}(h:Rdb Li rows c):c.ai=false:=by
 rcases h with ⟨_,fl,rfl⟩|h
 ·rfl
 ·exact h.ai
def Fw (X:Rn)(m:Nat):Prop:=∀(H0 H:Heap) (E B Li:List (Nat×Obj)) (r:Rs) (k:Nat) (l:List Int) (inc:C) (main:Bool) (fs:List Fr) (K:V->Heap->Prop),
 m<=r.u->Kn H0 H E (X.F r Li B)->r.ok X->k<X.cs.length->Rdb Li (Qb l) inc->(l.length:Int)=(Qt X.cs k).params->byL l->r.t.length<=r.u->
 (∀v r' H',Kn H0 H' E (X.F r' Li B)->r'.ok X->byI v->r'.t.length<=r'.u->(main=false->r'.t=r.t)->Goes X.cs X.S r.u (.go (fr0 X.cs k l::fs) r.s r.c) r'.u (rtn v fs r'.s r'.c)->K (.c (.int .i64 v)) H')->
 (∀e r' H',Kn H0 H' E (X.F r' Li B)->r'.ok X->(main=false->r'.t=r.t)->Halts X.cs X.S r.u (.go (fr0 X.cs k l::fs) r.s r.c) e r'.s r'.c->K (.pn (endV e)) H')->
 Qr prog Qin [.c (.ptr X.l 0),.c (.int .i64 k),.c inc,.c (.bool main)] H K
theorem LW (R:List Int):(Qb R).take R.length=Qb R:=Je (by rw[Qc];exact Jy _)
theorem CY {op to n:Int}{args R:List Int}{rl:Nat}(i:Nat)(hR:H rl=.vec 1 (Qb R))(hi:i<args.length)(hv:0<=args.getD i 0/\(args.getD i 0).toNat<R.length)(hK:K (Uv (rg R (args.getD i 0))) H) :
  Qr prog Qb9 [Uv (i:Int),.c (.pp [.ah rl 1 0 R.length]),.c (.pp [Ui op,Ui to,.sl false 1 (Qb args),Ui n])] H K:=by
 refine Qd BF Qqu ?_;refine Za ?_;refine BM ?_;obtain⟨v,jR⟩:∃v:Nat,args.getD i 0=v:=⟨(args.getD i 0).toNat,ZB⟩;rw[jR]at hv hK;have jS:v<R.length:=by simpa using hv.2
 simp only[go_sem,hR,hi,jR,jS,Qc,Qk _ _ hi,Qk _ _ jS,LW,Jc];refine Ze ?_;exact hK
theorem F_g (k:Kn H0 H E (X.F r A (Li++B))):Kn H0 H E (([(X.l,X.o r)]++(A++((r.so++r.tl)++B)))++Li):=k.perm (Qj λf hf h0 hc hp=>by simp only[Ui,Rn.F,hf];omega)
theorem F_g' (k:Kn H0 H E (([(X.l,X.o r)]++(A++((r.so++r.tl)++B)))++Li)):Kn H0 H E (X.F r A (Li++B)):=k.perm (Qj λf hf h0 hc hp=>by simp only[Ui,Rn.F,hf];omega)
theorem F_sw (k:Kn H0 H E (X.F r A (A'++B))):Kn H0 H E (X.F r A' (A++B)):=k.perm (Qj λf hf h0 hc hp=>by simp only[Ui,Rn.F,hf];omega)
theorem Qb4l {b c d:C}{m:List C}{j:Nat}:(b::c::d::m).drop (4+j)=m.drop (j+1):=by rw[show 4+j=(j+1)+3 by omega];rfl
theorem Qb1f {op to n:Int}{args R:List Int}{rl k b:Nat}{t:List InsD}{fs:List Fr}(hx:InsW X.cs k ⟨op,to,args,n⟩)(cG:k<X.cs.length)(mX:R.length=(Qt X.cs k).ae.toNat)(hb:byL R)
  (kn:Kn H0 H E (X.F r [(rl,.vec 1 (Qb R))] B)) (hr:r.ok X) (xj:Fw X (r.u+1))
  (hK:∀R' r' H',Kn H0 H' E (X.F r' [(rl,.vec 1 (Qb R'))] B)->r'.ok X->R'.length=R.length->byL R'->r'.t=r.t->r.u<r'.u->
   Goes X.cs X.S r.u (.go (⟨k,b,⟨op,to,args,n⟩::t,R⟩::fs) r.s r.c) r'.u (.go (⟨k,b,t,R'⟩::fs) r'.s r'.c)->K (.tup []) H')
  (hP:∀e r' H',Kn H0 H' E (X.F r' [] B)->r'.ok X->r'.t=r.t->Halts X.cs X.S r.u (.go (⟨k,b,⟨op,to,args,n⟩::t,R⟩::fs) r.s r.c) e r'.s r'.c->K (.pn (endV e)) H') :
  Qr prog Qha [.c (.ptr X.l 0),.ag [Ui op,Ui to,.sl false 1 (Qb args),Ui n],.c (.ah rl 1 0 R.length)] H K:=by
 obtain⟨⟨o1,o14⟩,cO,kd,lS,am,uH,em⟩:=hx;simp only at o1 o14 cO kd lS am uH em;rw[<-mX]at kd lS;have iB:∀i,i<args.length->0<=args.getD i 0/\(args.getD i 0).toNat<R.length:=λi hi=>by
  rw[Jb,Jg hi];exact kd _ (Jk hi)
 refine Qd BF Q18 ?_;have eA:∀e H',K (.tup []) H'->Q4 Cp K .nrm e H':=by
  intro e H' h;simp only[go_sem,Q4,BE,Cp];exact h
 refine Wd ?_;refine Mq kn hr (λH1 hu kn cI=>?_) (λhu=>?_)
 rotate_left
 ·simp only[go_sem];refine hP 3 r H (EX (A:=[]) kn) hr rfl ?_;rw[hu];exact .fuel
 obtain⟨r1,e1⟩:∃r1,({ r with u:=r.u+1 }:Rs)=r1:=⟨_,rfl⟩;have eu:r1.u=r.u+1:=by rw[<-e1]
 have es:r1.s=r.s:=by rw[<-e1]
 have ec:r1.c=r.c:=by rw[<-e1]
 have et:r1.t=r.t:=by rw[<-e1]
 rw[e1]at kn cI;clear e1;have ie:=kn.l 1 rfl;have hX:=F_o kn;have iY:=cI.mt;have one:∀Y,stI X.cs k b ⟨op,to,args,n⟩ t R fs r.s r.c=Y->Goes X.cs X.S r.u (.go (⟨k,b,⟨op,to,args,n⟩::t,R⟩::fs) r.s r.c) r1.u Y:=λY h=>by
  rw[eu];exact .one hu h
 have bad:∀e,¬e=3->stI X.cs k b ⟨op,to,args,n⟩ t R fs r.s r.c=.dn e 0 r.s r.c->Halts X.cs X.S r.u (.go (⟨k,b,⟨op,to,args,n⟩::t,R⟩::fs) r.s r.c) e r1.s r1.c:=λe he h=>by
  rw[es,ec];exact .one hu he h
 have knP:=EX (A:=[]) kn;have ib:(Qb R).length=R.length:=Qc R;have setR:∀(j:Nat) (v:Int) (H2:Heap),to=(j:Int)->byI v->H2=H1.set rl (.vec 1 (Qb (R.set j v)))->stI X.cs k b ⟨op,to,args,n⟩ t R fs r.s r.c=.go (⟨k,b,t,R.set to.toNat v⟩::fs) r.s r.c->∀e,Q4 Cp K .nrm e H2:=by
  intro j v H2 hj hv h2 aN e;refine eA _ _ (hK (R.set j v) r1 H2 (kn.aB 1 rfl h2) cI ZD (hb.set hv j) et ZB ?_);rw[es,ec];refine one _ ?_;rw[aN,hj];rfl
 refine Wd ?_;refine Wq ?_;refine Qf rfl (λhc=>?_) (λhc=>?_)
 ·
  have ho:op=1:=of_decide_eq_true hc;obtain⟨t0,t1⟩:=lS Zav;obtain⟨j,hj⟩:∃j:Nat,to=j:=⟨to.toNat,ZB⟩;have cL:j<R.length:=ZB
  refine Qp ?_;simp only[go_sem,ie,hj,cL,ib,Qk _ _ cL,Fg,Jc];intro H2 h2;exact setR j n H2 hj (cO ho) h2 (Qb50 ho) _
 have n1:=of_decide_eq_false hc;refine Za ?_;refine Qf rfl (λhc=>?_) (λhc=>?_)
 ·
  have ho:op=11:=of_decide_eq_true hc;have hl:args.length=1:=by have:=am ZB;rw[ho]at this;simp[C3]at this;omega
  obtain⟨t0,t1⟩:=lS Zav;obtain⟨j,hj⟩:∃j:Nat,to=j:=⟨to.toNat,ZB⟩;have cL:j<R.length:=ZB
  refine BY ?_;simp only[go_sem,hj,Jc];refine CY 0 ie ZB (iB 0 ZB) ?_;have nh:=hb.rg (args.getD 0 0);have aN:=Qb7g (cs:=X.cs) (k:=k) (b:=b) (x:=⟨op,to,args,n⟩) (t:=t) (R:=R) (fs:=fs) (s:=r.s) (c:=r.c) ho;have rK:ar R ⟨op,to,args,n⟩ 0=rg R (args.getD 0 0):=rfl;rw[rK]at aN;obtain⟨v,hv⟩:∃v,rg R (args.getD 0 0)=v:=⟨_,rfl⟩;rw[hv]at aN nh;rw[hv];simp only[go_sem,Qfk];refine M3 nh.1 (λj3=>?_) (λj3=>?_)
  ·have hg:=cI.get (j:=v.toNat) ZB;have hd:=eq_true (show 1<=(r1.mt.drop v.toNat).length by rw[cI.dl];omega);simp only[go_sem,Qfj,hX,Qb6e,hg,hd,ie,cL,ib,Qk _ _ cL,Fg,Jc];intro H2 h2;rw[ec]at h2;exact setR j _ H2 hj (hr.bc.get _) h2 (by rw[aN,if_neg (by omega)];rfl) _
  ·simp only[go_sem];exact hP 2 r1 H1 knP cI et (bad 2 ZB (by rw[aN,if_pos j3]))
 have n11:=of_decide_eq_false hc;refine Za ?_;refine Qf rfl (λhc=>?_) (λhc=>?_)
 ·
  have ho:op=12:=of_decide_eq_true hc;have hl:args.length=2:=by have:=am ZB;rw[ho]at this;simp[C3]at this;omega
  refine Zh ?_;refine CY 0 ie ZB (iB 0 ZB) ?_;have nh:=hb.rg (args.getD 0 0);have aN:=Qb51 (cs:=X.cs) (k:=k) (b:=b) (x:=⟨op,to,args,n⟩) (t:=t) (R:=R) (fs:=fs) (s:=r.s) (c:=r.c) ho;have rK:∀i,ar R ⟨op,to,args,n⟩ i=rg R (args.getD i 0):=λ_=>rfl;simp only[rK]at aN;obtain⟨v,hv⟩:∃v,rg R (args.getD 0 0)=v:=⟨_,rfl⟩;rw[hv]at aN nh;rw[hv];simp only[go_sem,Qfn];refine M3 nh.1 (λj3=>?_) (λj3=>?_)
  ·simp only[go_sem,Qfm];refine CY 1 ie ZB (iB 1 ZB) ?_;have vn:=hb.rg (args.getD 1 0);obtain⟨q,hq⟩:∃q,rg R (args.getD 1 0)=q:=⟨_,rfl⟩;rw[hq]at aN vn;rw[hq];have hp:=cI.put (j:=v.toNat) ZB q;simp only[go_sem,Qfl,hX,iY,cD,Qb4l,hp];refine⟨ZB,λH2 h2=>?_⟩;refine eA _ _ (hK R { r1 with c:=r1.c.set v.toNat q } H2 (kn.aB 0 rfl h2) (cI.cells vn) rfl hb et (by show r.u<r1.u;omega) ?_);show Goes X.cs X.S r.u _ r1.u (.go (⟨k,b,t,R⟩::fs) r1.s (r1.c.set v.toNat q));rw[es,ec];exact one _ (by rw[aN,if_neg (by omega)])
  ·simp only[go_sem];exact hP 2 r1 H1 knP cI et (bad 2 ZB (by rw[aN,if_pos j3]))
 have n12:=of_decide_eq_false hc;refine Za ?_;refine Qf rfl (λhc=>?_) (λhc=>?_)
 ·
  have ho:op=13:=of_decide_eq_true hc;have hl:args.length=1:=by have:=am ZB;rw[ho]at this;simp[C3]at this;omega
  have bt:=cI.gs.ai;refine BY ?_;simp only[go_sem,hX,iY,bt];refine CY 0 ie ZB (iB 0 ZB) ?_;have nh:=hb.rg (args.getD 0 0);have aN:=Qb52 (cs:=X.cs) (k:=k) (b:=b) (x:=⟨op,to,args,n⟩) (t:=t) (R:=R) (fs:=fs) (s:=r.s) (c:=r.c) ho;have rK:ar R ⟨op,to,args,n⟩ 0=rg R (args.getD 0 0):=rfl;rw[rK]at aN;obtain⟨v,hv⟩:∃v,rg R (args.getD 0 0)=v:=⟨_,rfl⟩;rw[hv]at aN nh;rw[hv];have hls:=cI.ls;have vq:=cI.uS;have hS:=cI.S;simp only[go_sem,Qfp,hX,iY,bt];refine (F_s kn).bk (new:=Qb [v]) cI.gs (.mk' _ _ _ _) (Qq _) Zao λt2 Lg2 H2 cZ dy kn2=>?_;have zQ:H2 X.l=.st (.sl X.fl 3 (Qm X.cs)::Ui X.S::Ui r1.u::r1.sc::r1.mt):=kn2.l 0 rfl;simp only[go_sem,Qfo,zQ,iY];intro H3 h3;have ey:Rs.ok X { r1 with s:=r1.s++[v],sc:=t2,so:=Lg2 }:=by
   refine⟨?_,cI.gt,cI.c,cI.bc,cI.bs.app nh,?_,cI.lt,vq,hS⟩
   ·show Gr Lg2 1 (Qb (r1.s++[v])) t2;rw[D8];exact cZ
   ·show (r1.s++[v]).length<=r1.u;have h1:=hr.ls;rw[es,Jv];simp;omega
  refine eA _ _ (hK R { r1 with s:=r1.s++[v],sc:=t2,so:=Lg2 } H3 (F_s' (r:=r1) rfl rfl (kn2.aB 0 rfl h3)) ey rfl hb et (by show r.u<r1.u;omega) ?_);show Goes X.cs X.S r.u _ r1.u (.go (⟨k,b,t,R⟩::fs) (r1.s++[v]) r1.c);rw[es,ec];exact one _ aN
 have n13:=of_decide_eq_false hc;refine Za ?_;refine Qf rfl (λhc=>?_) (λhc=>?_)
 ·
  have ho:op=14:=of_decide_eq_true hc;obtain⟨c0,c1,c2⟩:=uH ho;obtain⟨t0,t1⟩:=lS Zav;obtain⟨j,hj⟩:∃j:Nat,to=j:=⟨to.toNat,ZB⟩;have cL:j<R.length:=ZB
  have aN:=Qb3r (cs:=X.cs) (k:=k) (b:=b) (x:=⟨op,to,args,n⟩) (t:=t) (R:=R) (fs:=fs) (s:=r.s) (c:=r.c) ho;simp only at aN;refine Wh ?_;simp only[go_sem,Qc];try intro _
  refine Qh (Qe (Qw (λm e1 H2=>∃(i:Nat) (c7:C) (Li:Ul),m=args.length-i/\i<=args.length/\Gr Li 1 (Qb ((args.take i).map (rg R))) c7/\Kn H0 H2 E (X.F r1 [(rl,.vec 1 (Qb R))] (Li++B))/\
   lk 0 e1=.c (.ptr X.l 0)/\lk 4 e1=.c (.pp [Ui op,Ui to,.sl false 1 (Qb args),Ui n])/\lk 5 e1=.c (.pp [.ah rl 1 0 R.length])/\
   lk 6 e1=.c (.fn Qb9 [.pp [.ah rl 1 0 R.length],.pp [Ui op,Ui to,.sl false 1 (Qb args),Ui n]])/\lk 7 e1=.c c7/\lk 80 e1=.c (Ui args.length)/\lk 81 e1=Uv i) args.length ?_ ?_))
  ·exact⟨0,_,[],ZB,ZB,.nil 1,kn,rfl,rfl,rfl,rfl,rfl,rfl,rfl⟩
  ·clear kn ie hX;rintro m e1 H2 ⟨i,c7,Li,hm,hi,aq,kn,l0,l4,l5,l6,l7,l80,l81⟩;have ie:=kn.l 1 rfl;have bt:=aq.ai;refine Qa ?_;simp only[go_sem,l0,l4,l5,l6,l7,l80,l81];refine Wu ?_ ?_
   ·intro hc;have af:i<args.length:=ZE;refine Zc ?_
    refine Wg ?_;refine Zh ?_;refine CY i ie af (iB i af) ?_;have e9:args.getD i 0=args[i]:=(by simp[Jb,af]);simp only[go_sem,Qfr];refine (F_g kn).bk (new:=Qb [rg R (args.getD i 0)]) aq (.mk' _ _ _ _) (Qq _) (by simp only[Qc,LIM,Jn,Jo,Jj,Js];omega) λt2 Lg2 H3 cZ dy kn2=>?_;simp only[go_sem,Qfq];refine Zh ?_;refine⟨Qs,?_⟩;show ∃m,_;refine⟨args.length-(i+1),ZB,i+1,t2,Lg2,rfl,ZB,?_,F_g' kn2,rfl,rfl,rfl,rfl,rfl,rfl,rfl⟩;have:Qb ((args.take (i+1)).map (rg R))=Qb ((args.take i).map (rg R))++Qb [rg R (args.getD i 0)]:=by
     rw[Ji af,J0,D8,e9];rfl
    rw[this];exact cZ
   ·intro hc;have bh:args.length<=i:=ZE;rw[Je bh]at aq;have hX:=F_o kn;refine ZA ?_;refine BY ?_;simp only[go_sem];obtain⟨nn,sk⟩:∃nn:Nat,n=nn:=⟨n.toNat,ZB⟩;have xX:n.toNat=nn:=(by rw[sk];rfl);rw[xX]at c1 c2 aN;rw[sk];have oh:=hr.lt;refine xj H0 H2 E ([(rl,.vec 1 (Qb R))]++B) Li r1 nn (args.map (rg R)) c7 false (⟨k,b,⟨op,to,args,n⟩::t,R⟩::fs) _ ZB (F_sw kn) cI ZB (.inr aq) (by rw[Jj];exact c2) (λv hv=>by
     obtain⟨a,_,rfl⟩:=J7.1 hv;exact hb.rg a) (by rw[et,eu];exact oh) (λv r2 H3 kn3 ey hv _ dy cP=>?_) (λe r2 H3 kn3 ey dy pw=>?_)
    ·have kn3:=F_sw kn3;have hR3:=kn3.l 1 rfl;simp only[go_sem,Qed,hR3,hj,cL,ib,Qk _ _ cL,Fg,Jc];intro H4 h4;have kn4:Kn H0 H4 E (X.F r2 [(rl,.vec 1 (Qb (R.set j v)))] (Li++B)):=kn3.aB 1 rfl h4;have eO:=cP.1;refine eA _ _ (hK (R.set j v) r2 H4 (Hj kn4) ey ZD (hb.set hv j) (by rw[dy rfl,et]) ZB ?_);refine (one _ aN).trans ?_;rw[<-es,<-ec];have ej:j=to.toNat:=ZB;rw[ej];exact cP
    ·simp only[go_sem];refine hP e r2 H3 (Hj (EX (A:=[]) (F_sw kn3))) ey (by rw[dy rfl,et]) ?_;refine (one _ aN).halts ?_;rw[<-es,<-ec];exact pw
 have n14:=of_decide_eq_false hc;refine Za ?_;refine Qf rfl (λhc=>?_) (λhc=>?_)
 ·
  have ho:op=2:=of_decide_eq_true hc;have hl:args.length=1:=by have:=am ZB;rw[ho]at this;simp[C3]at this;omega
  obtain⟨t0,t1⟩:=lS Zav;obtain⟨j,hj⟩:∃j:Nat,to=j:=⟨to.toNat,ZB⟩;have cL:j<R.length:=ZB
  refine BY ?_;simp only[go_sem,hj,Jc];refine CY 0 ie ZB (iB 0 ZB) ?_;simp only[go_sem,Qee,ie,cL,ib,Qk _ _ cL,Fg,Jc];intro H2 h2;exact setR j _ H2 hj (hb.rg _) h2 (Qb3s ho) _
 have n2:=of_decide_eq_false hc;refine Za ?_;refine Qf rfl (λhc=>?_) (λhc=>?_)
 ·
  have ho:op=10:=of_decide_eq_true hc;have hl:args.length=1:=by have:=am ZB;rw[ho]at this;simp[C3]at this;omega
  obtain⟨t0,t1⟩:=lS Zav;obtain⟨j,hj⟩:∃j:Nat,to=j:=⟨to.toNat,ZB⟩;have cL:j<R.length:=ZB
  refine BY ?_;simp only[go_sem,hj,Jc];refine CY 0 ie ZB (iB 0 ZB) ?_;simp only[go_sem,Qeg,Jc];refine Qbk7 ?_;simp only[go_sem,Qef,ie,cL,ib,Qk _ _ cL,Fg,Jc,Jd];intro H2 h2;exact setR j _ H2 hj (GP _) h2 (Qb5z ho) _
 have n10:=of_decide_eq_false hc;have h3:3<=op:=ZB
 have h9:op<=9:=ZB
 have hl:args.length=2:=by
  have:=am ZB;rw[C3,if_neg ZB,if_neg ZB,if_pos (.inl ⟨h3,h9⟩)]at this;omega
 obtain⟨t0,t1⟩:=lS (by
  simp only[CQ,Jh,decide_eq_true_eq,Bool.not_eq_true',decide_eq_false_iff_not];omega)
 obtain⟨j,hj⟩:∃j:Nat,to=j:=⟨to.toNat,ZB⟩;have cL:j<R.length:=ZB
 have aN:=Qb7f (cs:=X.cs) (k:=k) (b:=b) (x:=⟨op,to,args,n⟩) (t:=t) (R:=R) (fs:=fs) (s:=r.s) (c:=r.c) h3 h9;have rK:∀i,ar R ⟨op,to,args,n⟩ i=rg R (args.getD i 0):=λ_=>rfl;simp only[rK]at aN;have v7:=Qb4i (op:=op) (hb.rg (args.getD 0 0)) (hb.rg (args.getD 1 0));refine Zw ?_;refine CY 0 ie ZB (iB 0 ZB) ?_;simp only[go_sem,Qej];refine CY 1 ie ZB (iB 1 ZB) ?_;simp only[go_sem,Qei];refine Qb04 (hb.rg _) (hb.rg _) h3 h9 ?_;obtain⟨pv,v6⟩:∃pv,arP op (rg R (args.getD 0 0)) (rg R (args.getD 1 0))=pv:=⟨_,rfl⟩;rw[v6]at aN v7;rw[v6];obtain⟨v,ok⟩:=pv;simp only at aN v7;simp only[go_sem,Qeh,Jd,Jf];refine Wa ?_;refine Qh (Qf rfl (λhc=>?_) (λhc=>?_))
 ·have ax:ok=false:=Dd hc;refine Zh ?_;refine GI ?_;simp only[go_sem];exact hP 1 r1 H1 knP cI et (bad 1 ZB (by rw[aN,if_neg (by rw[ax];simp)]))
 ·have ax:ok=true:=Ct hc;refine Zc ?_
  refine Qp ?_;simp only[go_sem,ie,hj,cL,ib,Qk _ _ cL,Fg,Jc];intro H2 h2;exact setR j _ H2 hj v7 h2 (by rw[aN,if_pos ax]) _
theorem XB {p:PhiD}{R:List Int}{rl xr xa w:Nat}(h1:H xr=.st [.ah rl 1 0 R.length])(hR:H rl=.vec 1 (Qb R))(h2:H xa=.st [Ui w])(hw:w<p.args.length)
  (hv:0<=p.args.getD w 0/\(p.args.getD w 0).toNat<R.length) (hK:K (Uv (C0 R w p)) H) :
  Qr prog SV [.ag [Ui p.to,.sl false 1 (Qb p.args)],Up xr,Up xa] H K:=by
 refine Qd BF Qvy ?_;refine Za ?_;refine BM ?_;rw[C0]at hK;obtain⟨v,jR⟩:∃v:Nat,p.args.getD w 0=v:=⟨(p.args.getD w 0).toNat,ZB⟩;rw[jR]at hv hK;have jS:v<R.length:=by simpa using hv.2
 simp only[go_sem,h1,h2,hR,hw,jR,jS,Qc,Qk _ _ hw,Qk _ _ jS,LW,Jc];refine Ze ?_;exact hK
theorem Qb3b {ps:List PhiD}{R:List Int}{rl xr xa w:Nat}{f:Bool}(h1:H xr=.st [.ah rl 1 0 R.length])(hR:H rl=.vec 1 (Qb R))(h2:H xa=.st [Ui w])(hl:ps.length<=1200)(hw:∀p∈ps,w<p.args.length)
  (hv:∀p∈ps,0<=p.args.getD w 0/\(p.args.getD w 0).toNat<R.length) (hK:∀(H':Heap),Upd H H' []->K (.c (.sl false 1 (Qb (ps.map (C0 R w))))) H') :
  Qr prog Qf0 [.c (.sl f 2 (Q6 ps)),.c (.fn SV [.ptr xr 0,.ptr xa 0])] H K:=by
 refine Qy ?_;refine Qd BF Qzt ?_;have kn:=Kn.an H;have n1:H xr≠.none:=by rw[h1];simp
 have n2:H rl≠.none:=by rw[hR];simp
 have n3:H xa≠.none:=Zab
 refine Ws ?_;simp only[go_sem,Q0];try intro _
 refine Qh (Qe (Qw (λm e1 H1=>∃(i:Nat) (t:C) (Lg:Ul),m=ps.length-i/\i<=ps.length/\Gr Lg 1 (Qb ((ps.take i).map (C0 R w))) t/\Kn H H1 [] ([]++Lg)/\
  lk 1 e1=.c (.fn SV [.ptr xr 0,.ptr xa 0])/\lk 5 e1=.c t/\lk 8 e1=.c (.sl f 2 (Q6 ps))/\lk 9 e1=.c (Ui ps.length)/\lk 10 e1=Uv i) ps.length ?_ ?_))
 ·exact⟨0,_,[],ZB,ZB,.nil 1,kn,rfl,rfl,rfl,rfl,rfl⟩
 ·clear kn;rintro m e1 H1 ⟨i,t,Lg,hm,hi,aq,kn,l1,l5,l8,l9,l10⟩;have fM:=aq.ai;refine Qa ?_;simp only[go_sem,l1,l5,l8,l9,l10];refine Wu ?_ ?_
  ·intro hc;have af:i<ps.length:=ZE
   obtain⟨p,hp⟩:∃p,ps[i]=p:=⟨_,rfl⟩;have eR:p∈ps:=by rw[<-hp];exact Jk af
   refine Zc ?_
   refine Wi ?_;simp only[go_sem,af,Q0,Dh _ _ af,hp,PhiD.cells];intro x7 cd H2 sK;have kn:=kn.al cd sK;have cd:H2 x7=.st [Ui 0,.sl true 1 []]:=(kn.get (x7,.st [Ui 0,.sl true 1 []]) ZD).1;simp only[go_sem,SQ,cd];intro H3 h3;have kn:Kn H H2 [] ([(x7,.st [Ui 0,.sl true 1 []])]++Lg):=kn.perm ZD;have kn:Kn H H3 [] ([(x7,.st [Ui p.to,.sl false 1 (Qb p.args)])]++Lg):=kn.aB 0 rfl h3;have cd:H3 x7=.st [Ui p.to,.sl false 1 (Qb p.args)]:=kn.l 0 rfl;refine Qp ?_;simp only[go_sem,cd];refine XB (p:=p) (R:=R) (rl:=rl) (w:=w) (by rw[kn.chg xr n1 (by simp)];exact h1) (by rw[kn.chg rl n2 (by simp)];exact hR) (by rw[kn.chg xa n3 (by simp)];exact h2) (hw p eR) (hv p eR) ?_;simp only[go_sem,SE];refine kn.bk (new:=Qb [C0 R w p]) aq (.mk' _ _ _ _) (Qq _) (by simp only[Qc,Jj,Js,LIM,Jn,Jo];omega) λt2 Lg2 H4 bO dy kn=>?_;have kn:Kn H H4 [] Lg2:=Kn.drop (B:=[(x7,_)]) (kn.perm Jr);simp only[go_sem,DM];refine Zh ?_;refine⟨Qs,?_⟩;show ∃m,_;refine⟨ps.length-(i+1),ZB,i+1,t2,Lg2,rfl,ZB,?_,kn,rfl,rfl,rfl,rfl,rfl⟩;have:Qb ((ps.take (i+1)).map (C0 R w))=Qb ((ps.take i).map (C0 R w))++Qb [C0 R w p]:=by rw[Ji af,J0,D8,hp];rfl
   rw[this];exact bO
  ·intro hc;have bh:ps.length<=i:=ZE
   rw[Je bh]at aq;refine ZA ?_;refine Wr ?_;exact⟨_,.c _ _ (aq.frz kn (Qq _)),hK _ kn.fin⟩
end Go.AE.Y
namespace Go.AE.Y
attribute [local go_sem] cond_true cond_false Bool.not_true Bool.not_false
attribute [local instance] Classical.propDecidable
open Go.Proofs.Tryz
variable {H H' H0:Heap}{K:Uk}{E A A' B Li:Ul}{X:Rn}{r r':Rs}
structure RunW (cs:List CodeD):Prop where
 ro:RunOk cs
 ins:∀k b,k<cs.length->b<(Qt cs k).blocks.length->∀x∈(Qx (Qt cs k) b).ins,InsW cs k x
 par:∀k,k<cs.length->0<=(Qt cs k).params/\(Qt cs k).params<=3/\(Qt cs k).params<=(Qt cs k).ae
 n:cs.length<=4
theorem runW {cs:List CodeD}(h:BP cs=true):RunW cs:=by
 have ro:=G6 h;obtain⟨h1,h2,h3⟩:=of_decide_eq_true h;refine⟨ro,λk b hk hb x hx=>?_,λk hk=>?_,ZB⟩
 ·have ax:=(ro.ok k hk).bs b hb;have b9:=ro.op k b hk x hx;rw[Cd hb]at hx;have ec:=CS hk;have g:Cr cs k x=true:=by
   have aW:b<cs[k].blocks.length:=by rw[<-ec];exact hb
   have g:=(h2 k hk).2 b aW;simp only[Cs,Jh,List.all_eq_true]at g;refine g.1.2 x ?_;have:(Qt cs k).blocks[b]=cs[k].blocks[b]:=by simp only[ec]
   rw[<-this];exact hx
  simp only[Cr,insL,Jh]at g;obtain⟨_,g3⟩:=g;refine⟨⟨b9.1,b9.2.1⟩,λh1=>?_,λv hv=>?_,λhm=>?_,b9.2.2,λiC=>?_,ax.al x hx⟩
  ·rw[if_neg ZB]at g3;simp only[Jh,decide_eq_true_eq]at g3;exact⟨g3.1.2.1,g3.1.2.2⟩
  ·have:=ax.args x hx v hv;obtain⟨a,b⟩:=this;exact⟨a,ZB⟩
  ·obtain⟨a,b⟩:=ax.to x hx hm;exact⟨a,ZB⟩
  ·rw[if_pos iC]at g3;simp only[Jh,decide_eq_true_eq]at g3;obtain⟨⟨a,b⟩,c⟩:=g3;have af:x.n.toNat<cs.length:=ZB
   refine⟨a,ZB,?_⟩;rw[c,G2 af,CS af]
 ·obtain⟨g1,_⟩:=h2 k hk;simp only[CP,Jh,decide_eq_true_eq]at g1;rw[CS hk];omega
def Dr (cs:List CodeD)(k b:Nat):Option Nat->List Int->Fr
 |none,R=>⟨k,b,(Qx (Qt cs k) b).ins,R⟩
 |some a,R=>frJ cs k a R b
def EA:Option Nat->Int
 |none=>-1
 |some a=>a
def GT (q:CodeD)(b:Nat):Option Nat->Prop
 |none=>True
 |some a=>a<q.blocks.length/\(b:Int)∈gnx q a
theorem M0:∀(ns:List Int) (i:Nat) (v:Int),i<ns.length->ns.getD i 0=v->v∉ns.take i->ns.idxOf v=i
 |[],i,v,h,_,_=>ZI
 |x::ns,0,v,_,h,_=>by
  have:x=v:=ZL
  simp[this]
 |x::ns,i+1,v,h1,h2,h3=>by
  have hx:¬x=v:=by
   intro hh;exact h3 (by simp[hh])
  have:=M0 ns i v ZZ Zae (λhh=>h3 (by simp[hh]));rw[List.idxOf_cons,cond_eq_ite,if_neg ZaX,this]
theorem Qb59 {q:CodeD}{b a:Nat}{ix:Int}(hq:q.ok)(ha:a<q.blocks.length)(hm:(b:Int)∈gnx q a)(h:IsIx (Qz (gnx q) (b:Int) q.blocks.length) (a:Int) ix) :
  ix=(wayI q b a:Int)/\wayI q b a<(Qz (gnx q) (b:Int) q.blocks.length).length:=by
 have h1:=hq.ix ha hm;refine⟨?_,h1⟩;rcases h with ⟨rfl,hn⟩|⟨i,rfl,h2,h3,h4⟩
 ·exact absurd (List.idxOf_lt_length_iff.1 h1) hn
 ·rw[wayI,M0 _ i _ h2 h3 h4]
theorem YO (n:Nat):List.replicate n [C.int .i64 0]=Qb (List.replicate n 0):=Zaq
theorem Qb14 (l:List Int)(n:Nat):Qb l++(Qb (List.replicate n 0)).drop l.length=Qb (l++List.replicate (n-l.length) 0):=by simp[Qb,List.drop_replicate]
theorem Rs.ok.d16 (h:r.ok X):r.mt.drop 16=[r.tc]:=by
 rw[Rs.mt,List.drop_append_of_le_length Zba,Jp Zba];rfl
theorem Rs.ok.t16 (h:r.ok X):r.mt.take 16=BV r.c:=by
 rw[Rs.mt,List.take_append_of_le_length Zba,Je Zba]
theorem Rs.ok.d17 (h:r.ok X):r.mt.drop 17=[]:=Jp (by rw[h.mt];exact Jy _)
def o9 (q:CodeD)(n:Nat):Obj:=.st [.int .i64 q.params,.int .i64 n,.sl false 5 (Qo q.blocks)]
def oB (y:BlkD):Obj:=.st [.sl false 2 (Q6 y.ab),.sl false 4 (BJ y.ins),.int .i64 y.jump,.int .i64 y.on,.sl false 1 (Qb y.next)]
def phF (R:List Int)(w:Nat)(l:List PhiD)(T:List Int):List Int:=l.foldl (λT p=>T.set p.to.toNat (C0 R w p)) T
theorem Y2 (R:List Int)(w:Nat)(l:List PhiD)(p:PhiD)(T:List Int):phF R w (l++[p]) T=(phF R w l T).set p.to.toNat (C0 R w p):=by simp[phF]
theorem Qb21 (R:List Int)(w:Nat)(l:List PhiD)(T:List Int):(phF R w l T).length=T.length:=KT l T
theorem Qbpu (hw:RunW X.cs){m:Nat}(ih:∀m',m<m'->Fw X m'):Fw X m:=by
 intro H0 H E B Li r k l inc main fs K hm kn hr hk dH hl bu af hK hP;have ax:=hw.ro.ok k hk;obtain⟨iW,hp3,kY⟩:=hw.par k hk;have Ax:=hw.ins k;have fj:=λb hb hj R=>FJ hw.ro (k:=k) (b:=b) hk hb hj R;have mz:=λb hb=>hw.ro.jn k b hk hb;obtain⟨q,hq⟩:∃q,Qt X.cs k=q:=⟨_,rfl⟩;rw[hq]at ax iW hp3 kY hl Ax fj;simp only[hq]at mz;have xq:X.cs[k]=q:=by rw[<-CS hk];exact hq
 have bE:=ax.r0;have cI:=ax.r1;have eV:=ax.b0;have ba:=ax.b1;obtain⟨n,hn⟩:∃n:Nat,q.ae=n:=⟨q.ae.toNat,ZB⟩;have jw:q.ae.toNat=n:=ZB
 have qU:l.length<=n:=ZB
 have bt:=dH.ai;have hX:=F_o kn;have iY:=hr.mt;refine Qd BF Q5i ?_;refine Wf ?_;simp only[go_sem,hX,iY,hk,Q8,Do _ _ hk,CodeD.cells,xq,hn];intro x9 cY H1 h1;have kn:Kn H0 H1 E (X.F r [(x9,.st [Ui 0,Ui 0,.sl true 5 []])] (Li++B)):=F_al ((F_in kn).al cY h1);have cY:H1 x9=.st [Ui 0,Ui 0,.sl true 5 []]:=kn.l 1 rfl;simp only[go_sem,Qf5,cY];intro H2 h2;have kn:Kn H0 H2 E (X.F r [(x9,o9 q n)] (Li++B)):=kn.aB 1 rfl h2;have cY:H2 x9=.st [Ui q.params,Ui n,.sl false 5 (Qo q.blocks)]:=kn.l 1 rfl;refine Zj cY ?_;refine⟨by simp only[LIM];omega,λrl cA H3 h3=>?_⟩;have kn:Kn H0 H3 E (X.F r [(x9,o9 q n),(rl,.vec 1 (Qb (List.replicate n 0)))] (Li++B)):=F_al (A:=[(x9,o9 q n)]) (kn.al cA (by rw[h3,YO]));simp only[go_sem,Qf7];intro x10 bM H4 h4;have kn:Kn H0 H4 E (X.F r [(x9,o9 q n),(rl,.vec 1 (Qb (List.replicate n 0))),(x10,.st [.sl true 1 []])] (Li++B)):=F_al (A:=[(x9,o9 q n),(rl,.vec 1 (Qb (List.replicate n 0)))]) (kn.al bM h4);have bM:H4 x10=.st [.sl true 1 []]:=kn.l 3 rfl;simp only[go_sem,Qf6,bM];intro H5 h5;have kn:Kn H0 H5 E (X.F r [(x9,o9 q n),(rl,.vec 1 (Qb (List.replicate n 0))),(x10,.st [.ah rl 1 0 n])] (Li++B)):=kn.aB 3 rfl h5;have bM:H5 x10=.st [.ah rl 1 0 n]:=kn.l 3 rfl;have tB:H5 rl=.vec 1 (Qb (List.replicate n 0)):=kn.l 2 rfl;have hs:=dH.slc (F_g kn);have aK:=eq_true hs.ok;have tq:=hs.sz;have A4:=hs.rows;have eK:=hs.len;rw[Qc]at eK;refine Qa ?_;simp only[go_sem,bM,tB,aK,tq,A4,eK,Qc,List.length_replicate,Jc];refine⟨qU,Qq _,λH6 h6=>?_⟩;rw[Qb14]at h6;have kn:Kn H0 H6 E (X.F r [(x9,o9 q n),(rl,.vec 1 (Qb (C9 q l))),(x10,.st [.ah rl 1 0 n])] (Li++B)):=by
  rw[C9,jw];exact kn.aB 2 rfl h6
 have kn:Kn H0 H6 E (X.F r [(rl,.vec 1 (Qb (C9 q l))),(x9,o9 q n),(x10,.st [.ah rl 1 0 n])] (Li++B)):=kn.perm (Qj λf hf h0 hc hp=>by
  show f ([(X.l,X.o r)]++(([(x9,o9 q n)]++([(rl,.vec 1 (Qb (C9 q l)))]++[(x10,.st [.ah rl 1 0 n])]))++((r.so++r.tl)++(Li++B))))=f ([(X.l,X.o r)]++(([(rl,.vec 1 (Qb (C9 q l)))]++([(x9,o9 q n)]++[(x10,.st [.ah rl 1 0 n])]))++((r.so++r.tl)++(Li++B))));simp only[Ui,hf];omega)
 clear cY bM tB hs aK tq A4 eK hX;refine Za ?_;refine Qe (Qw (λmm e1 H1=>∃(b:Nat) (fr:Option Nat) (R:List Int) (r1:Rs),mm=X.S-r1.u/\b<q.blocks.length/\R.length=n/\byL R/\Kn H0 H1 E (X.F r1 [(rl,.vec 1 (Qb R)),(x9,o9 q n),(x10,.st [.ah rl 1 0 n])] (Li++B))/\r1.ok X/\r.u<=r1.u/\r1.t.length<=r1.u/\(main=false->r1.t=r.t)/\GT q b fr/\
  Goes X.cs X.S r.u (.go (fr0 X.cs k l::fs) r.s r.c) r1.u (.go (Dr X.cs k b fr R::fs) r1.s r1.c)/\
  lk 0 e1=.c (.ptr X.l 0)/\lk 3 e1=.c (.bool main)/\lk 9 e1=Up x9/\lk 10 e1=Up x10/\lk 11 e1=Uv b/\lk 12 e1=Uv (EA fr)) (X.S-r.u) ?_ ?_)
 ·refine⟨0,none,C9 q l,r,rfl,eV,by rw[Qbsu ZB,jw],Qbvq bu,kn,hr,Jy _,af,λ_=>rfl,trivial,?_,rfl,rfl,rfl,rfl,rfl,rfl⟩;have:Dr X.cs k 0 none (C9 q l)=fr0 X.cs k l:=by rw[Dr,fr0,hq]
  rw[this];exact .refl hr.uS
 clear kn iY;rintro mm e1 H7 ⟨b,fr,R,r1,ez,hb,mX,vS,kn,fb,A2,rY,rX,hfo,cP,l0,l3,l9,l10,l11,l12⟩;refine Qe (Q1 ?_);refine Qa ?_;simp only[go_sem,l0,l3,l9,l10,l11,l12];clear l0 l3 l9 l10 l11 l12;refine Ck (λe2 H2=>∃r2:Rs,Kn H0 H2 E (X.F r2 [(rl,.vec 1 (Qb R)),(x9,o9 q n),(x10,.st [.ah rl 1 0 n])] (Li++B))/\r2.ok X/\r2.u=r1.u/\r2.s=r1.s/\r2.c=r1.c/\(main=false->r2.t=r1.t)/\
  lk 0 e2=.c (.ptr X.l 0)/\lk 3 e2=.c (.bool main)/\lk 9 e2=Up x9/\lk 10 e2=Up x10/\lk 11 e2=Uv b/\lk 12 e2=Uv (EA fr)) ?_ ?_
 ·intro Q' oD Bx By;refine Qf rfl (λhc=>?_) (λhc=>?_)
  ·have hX:=F_o kn;have iY:=fb.mt;have zu:=fb.d16;have wY:=fb.t16;have zt:=fb.d17;have bt:=fb.gt.ai;have vq:=fb.uS;have hS:=fb.S;refine Qp ?_;simp only[go_sem,hX,zu,bt];refine (F_t kn).bk (new:=Qb [(b:Int)]) fb.gt (.mk' _ _ _ _) (Qq _) Zao λt2 Lg2 H8 cZ dy kn2=>?_;have hX:H8 X.l=.st (.sl X.fl 3 (Qm X.cs)::.int .i64 X.S::.int .i64 r1.u::r1.sc::r1.mt):=kn2.l 0 rfl;simp only[go_sem,Qf8,hX,iY,wY,zt,List.append_nil];intro H9 h9;refine oD _ _ ⟨{ r1 with t:=r1.t++[(b:Int)],tc:=t2,tl:=Lg2 },F_t' (r:=r1) rfl rfl (kn2.aB 0 rfl h9),⟨fb.gs,?_,fb.c,fb.bc,fb.bs,fb.ls,?_,vq,hS⟩,rfl,rfl,rfl,(λh=>by rw[h]at hc;cases hc),rfl,rfl,rfl,rfl,rfl,rfl⟩
   ·show Gr Lg2 1 (Qb (r1.t++[(b:Int)])) t2;rw[D8];exact cZ
   ·show (r1.t++[(b:Int)]).length<=r1.u+1;rw[Jv];simp;exact rY
  ·refine Qi ?_;exact oD _ _ ⟨r1,kn,fb,rfl,rfl,rfl,λ_=>rfl,rfl,rfl,rfl,rfl,rfl,rfl⟩
 clear kn;rintro e2 H8 ⟨r2,kn,ey,eu,es,ec,et,l0,l3,l9,l10,l11,l12⟩;have cY:H8 x9=.st [Ui q.params,Ui n,.sl false 5 (Qo q.blocks)]:=kn.l 2 rfl;obtain⟨y,hy⟩:∃y,q.blocks[b]=y:=⟨_,rfl⟩;have cF:Qx q b=y:=by rw[Cd hb,hy]
 have cz:=ax.bs b hb;rw[hy]at cz;have cM:=ax.il b hb;rw[hy]at cM;refine Qa ?_;simp only[go_sem,l9,l11,cY,hb,Qn,Cy _ _ hb,hy,BlkD.cells];intro x13 bC H9 h9;have kn:Kn H0 H9 E (X.F r2 [(rl,.vec 1 (Qb R)),(x9,o9 q n),(x10,.st [.ah rl 1 0 n]),(x13,.st [.sl true 2 [],.sl true 4 [],Ui 0,Ui 0,.sl true 1 []])] (Li++B)):=F_al (A:=[(rl,.vec 1 (Qb R)),(x9,o9 q n),(x10,.st [.ah rl 1 0 n])]) (kn.al bC h9);have bC:H9 x13=.st [.sl true 2 [],.sl true 4 [],Ui 0,Ui 0,.sl true 1 []]:=kn.l 4 rfl;simp only[go_sem,Qf9,bC,l0,l3,l9,l10,l11,l12];intro H10 db;have kn:Kn H0 H10 E (X.F r2 [(rl,.vec 1 (Qb R)),(x9,o9 q n),(x10,.st [.ah rl 1 0 n]),(x13,oB y)] (Li++B)):=kn.aB 4 rfl db;clear l0 l3 l9 l10 l11 l12 cY bC;refine Ck (λe3 H3=>∃R2:List Int,R2.length=n/\byL R2/\Dr X.cs k b fr R=⟨k,b,y.ins,R2⟩/\Kn H0 H3 E (X.F r2 [(rl,.vec 1 (Qb R2)),(x9,o9 q n),(x10,.st [.ah rl 1 0 n]),(x13,oB y)] (Li++B))/\
  lk 0 e3=.c (.ptr X.l 0)/\lk 3 e3=.c (.bool main)/\lk 9 e3=Up x9/\lk 10 e3=Up x10/\lk 11 e3=Uv b/\lk 13 e3=Up x13) ?_ ?_
 ·intro Q' oD Bx By;have bC:H10 x13=.st [.sl false 2 (Q6 y.ab),.sl false 4 (BJ y.ins),Ui y.jump,Ui y.on,.sl false 1 (Qb y.next)]:=kn.l 4 rfl;have cY:H10 x9=.st [Ui q.params,Ui n,.sl false 5 (Qo q.blocks)]:=kn.l 2 rfl
  cases fr with
  |none=>
   have od:decide ((0:Int)<=-1)=false:=rfl;refine Qa ?_;simp only[go_sem,EA,od,bC];refine Qf (c:=false) rfl (λhc=>by cases hc) (λ_=>?_);refine Qi ?_;refine oD _ _ ⟨R,mX,vS,?_,kn,rfl,rfl,rfl,rfl,rfl,rfl⟩;rw[Dr,hq,cF]
  |some a=>
   obtain⟨ha,Bp⟩:=hfo;have bh:decide ((0:Int)<=(a:Int))=true:=decide_eq_true (J3 a);have m8:Dr X.cs k b (some a) R=⟨k,b,y.ins,phiR R (wayI q b a) y.ab⟩:=by rw[Dr,frJ,hq,cF]
   refine Qa ?_;simp only[go_sem,EA,bC,Q0];try intro _
   refine Qf rfl (λhc=>?_) (λhc=>?_)
   rotate_left
   ·have mj:y.ab=[]:=by
     have:¬(0:Int)<(y.ab.length:Int):=of_decide_eq_false hc;exact List.length_eq_zero_iff.1 ZB
    refine Qi ?_;refine oD _ _ ⟨R,mX,vS,?_,kn,rfl,rfl,rfl,rfl,rfl,rfl⟩;rw[m8,mj];rfl
   refine Zj cY ?_;refine Ts (rows:=Qo q.blocks) (nx:=gnx q) (E5 H10 q false) λfl2 H11 hu=>?_;have kn:=kn.aw hu;have tK:DP (gnx q) (b:Int) (Qo q.blocks).length=Qz (gnx q) (b:Int) q.blocks.length:=by
    rw[Qn,DP,decide_eq_true (J3 b),decide_eq_true (show (b:Int)<=(q.blocks.length:Int)-1 by omega)];rfl
   rw[tK];simp only[go_sem,Qgc];refine K6 (.mk' _ _ _ _) rfl λix fO=>?_;obtain⟨rfl,gk⟩:=Qb59 ax ha Bp fO;obtain⟨w,fR⟩:∃w,wayI q b a=w:=⟨_,rfl⟩;rw[fR]at gk m8;rw[fR];have fq:∀p∈y.ab,w<p.args.length:=λp hp=>by rw[cz.pal p hp];exact gk
   have v6:∀p∈y.ab,0<=p.args.getD w 0/\(p.args.getD w 0).toNat<R.length:=λp hp=>by
    rw[Jb,Jg (fq p hp)];obtain⟨z1,z2⟩:=cz.pargs p hp _ (Jk (fq p hp));refine⟨z1,?_⟩;show (p.args[w]'(fq p hp)).toNat<R.length;omega
   simp only[go_sem,Qgb];intro x14 qd H12 iP;have kn:Kn H0 H12 E (X.F r2 [(rl,.vec 1 (Qb R)),(x9,o9 q n),(x10,.st [.ah rl 1 0 n]),(x13,oB y),(x14,.st [Ui 0])] (Li++B)):=F_al (A:=[(rl,.vec 1 (Qb R)),(x9,o9 q n),(x10,.st [.ah rl 1 0 n]),(x13,oB y)]) (kn.al qd iP);have qd:H12 x14=.st [Ui 0]:=kn.l 5 rfl;simp only[go_sem,Qga,qd];intro H13 mZ;have kn:Kn H0 H13 E (X.F r2 [(rl,.vec 1 (Qb R)),(x9,o9 q n),(x10,.st [.ah rl 1 0 n]),(x13,oB y),(x14,.st [Ui w])] (Li++B)):=kn.aB 5 rfl mZ;have bC:H13 x13=.st [.sl false 2 (Q6 y.ab),.sl false 4 (BJ y.ins),Ui y.jump,Ui y.on,.sl false 1 (Qb y.next)]:=kn.l 4 rfl;have bM:H13 x10=.st [.ah rl 1 0 R.length]:=by rw[mX];exact kn.l 3 rfl
   have cA:H13 rl=.vec 1 (Qb R):=kn.l 1 rfl;refine Zj bC ?_;refine Qb3b (ps:=y.ab) (R:=R) (rl:=rl) (w:=w) bM cA (kn.l 5 rfl) cM.2 fq v6 λH14 hu=>?_;have kn:Kn H0 H14 E (X.F r2 [(rl,.vec 1 (Qb R)),(x9,o9 q n),(x10,.st [.ah rl 1 0 n]),(x13,oB y)] (Li++B)):=EX (A:=[(rl,.vec 1 (Qb R)),(x9,o9 q n),(x10,.st [.ah rl 1 0 n]),(x13,oB y)]) (A':=[(x14,.st [Ui w])]) (kn.aw hu);have bC:H14 x13=.st [.sl false 2 (Q6 y.ab),.sl false 4 (BJ y.ins),Ui y.jump,Ui y.on,.sl false 1 (Qb y.next)]:=kn.l 4 rfl;simp only[go_sem,Qgd];refine Qa ?_;simp only[go_sem,bC,Q0];try intro _
   clear bC bM cA cY;refine Qe (Qw (λmm e1 H1=>∃(i:Nat),mm=y.ab.length-i/\i<=y.ab.length/\byL (phF R w (y.ab.take i) R)/\Kn H0 H1 E (X.F r2 [(rl,.vec 1 (Qb (phF R w (y.ab.take i) R))),(x9,o9 q n),(x10,.st [.ah rl 1 0 n]),(x13,oB y)] (Li++B))/\
    lk 0 e1=.c (.ptr X.l 0)/\lk 3 e1=.c (.bool main)/\lk 9 e1=Up x9/\lk 10 e1=Up x10/\lk 11 e1=Uv b/\lk 13 e1=Up x13/\lk 15 e1=.c (.sl false 1 (Qb (y.ab.map (C0 R w))))/\lk 68 e1=.c (.sl false 2 (Q6 y.ab))/\lk 69 e1=.c (Ui y.ab.length)/\lk 70 e1=Uv i) y.ab.length ?_ ?_)
   ·exact⟨0,ZB,ZB,vS,kn,rfl,rfl,rfl,rfl,rfl,rfl,rfl,rfl,rfl,rfl⟩
   clear kn;rintro m2 e3 H15 ⟨i,fw,hi,zC,kn,l0,l3,l9,l10,l11,l13,l15,l68,l69,l70⟩;have bM:H15 x10=.st [.ah rl 1 0 n]:=kn.l 3 rfl;obtain⟨T,hT⟩:∃T,phF R w (y.ab.take i) R=T:=⟨_,rfl⟩;have Bv:T.length=n:=by rw[<-hT,Qb21,mX]
   rw[hT]at kn zC;have cA:H15 rl=.vec 1 (Qb T):=kn.l 1 rfl;refine Qa ?_;simp only[go_sem,l0,l3,l9,l10,l11,l13,l15,l68,l69,l70];refine Qh (Qf rfl (λhc=>?_) (λhc=>?_))
   ·have af:i<y.ab.length:=ZE;obtain⟨p,hp⟩:∃p,y.ab[i]=p:=⟨_,rfl⟩;have eR:p∈y.ab:=(by rw[<-hp];exact Jk af);obtain⟨z1,z2⟩:=cz.pto p eR;obtain⟨j,hj⟩:∃j:Nat,p.to=j:=⟨p.to.toNat,ZB⟩;have cL:j<n:=ZB;have pu:j<T.length:=ZB;have ck:i<(y.ab.map (C0 R w)).length:=(by rw[Jj];exact af);have sn:(y.ab.map (C0 R w)).getD i 0=C0 R w p:=(by simp[Jb,af,hp]);refine Zc ?_
    refine Wi ?_;simp only[go_sem,af,Q0,Dh _ _ af,hp,PhiD.cells];intro x17 lM H16 j3;have kn:Kn H0 H16 E (X.F r2 [(rl,.vec 1 (Qb T)),(x9,o9 q n),(x10,.st [.ah rl 1 0 n]),(x13,oB y),(x17,.st [Ui 0,.sl true 1 []])] (Li++B)):=F_al (A:=[(rl,.vec 1 (Qb T)),(x9,o9 q n),(x10,.st [.ah rl 1 0 n]),(x13,oB y)]) (kn.al lM j3);have lM:H16 x17=.st [Ui 0,.sl true 1 []]:=kn.l 5 rfl;simp only[go_sem,Qfh,lM];intro H17 Ao;have kn:Kn H0 H17 E (X.F r2 [(rl,.vec 1 (Qb T)),(x9,o9 q n),(x10,.st [.ah rl 1 0 n]),(x13,oB y),(x17,.st [Ui p.to,.sl false 1 (Qb p.args)])] (Li++B)):=kn.aB 5 rfl Ao;have lM:H17 x17=.st [Ui p.to,.sl false 1 (Qb p.args)]:=kn.l 5 rfl;have bM:H17 x10=.st [.ah rl 1 0 n]:=kn.l 3 rfl;have cA:H17 rl=.vec 1 (Qb T):=kn.l 1 rfl;refine BY ?_;simp only[go_sem,bM,lM,cA,hj,cL,Bv,ck,sn,Qc,Qk _ _ pu,Qk _ _ ck,Fg,Jc];intro H18 vj;have kn:Kn H0 H18 E (X.F r2 [(rl,.vec 1 (Qb (T.set j (C0 R w p)))),(x9,o9 q n),(x10,.st [.ah rl 1 0 n]),(x13,oB y),(x17,.st [Ui p.to,.sl false 1 (Qb p.args)])] (Li++B)):=kn.aB 1 rfl vj;have kn:=EX (A:=[(rl,.vec 1 (Qb (T.set j (C0 R w p)))),(x9,o9 q n),(x10,.st [.ah rl 1 0 n]),(x13,oB y)]) (A':=[(x17,.st [Ui p.to,.sl false 1 (Qb p.args)])]) kn;have Bu:phF R w (y.ab.take (i+1)) R=T.set j (C0 R w p):=by
     rw[Ji af,hp,Y2,hT,hj];rfl
    refine Zh ?_;refine⟨Qs,?_⟩;show ∃m,_;refine⟨y.ab.length-(i+1),ZB,i+1,rfl,ZB,?_,?_,rfl,rfl,rfl,rfl,rfl,rfl,rfl,rfl,rfl,rfl⟩
    ·rw[Bu];exact zC.set (vS.rg _) j
    ·rw[Bu];exact kn
   ·have bh:y.ab.length<=i:=ZE;rw[Je bh]at hT;refine ZA ?_;refine oD _ _ ⟨T,Bv,zC,?_,kn,rfl,rfl,rfl,rfl,rfl,rfl⟩;rw[m8,<-hT];rfl
 clear kn;rintro e3 H11 ⟨R2,zY,zE,hhd,kn,l0,l3,l9,l10,l11,l13⟩;have m9:Goes X.cs X.S r.u (.go (fr0 X.cs k l::fs) r.s r.c) r2.u (.go (⟨k,b,y.ins,R2⟩::fs) r2.s r2.c):=by rw[eu,es,ec,<-hhd];exact cP
 have bC:H11 x13=.st [.sl false 2 (Q6 y.ab),.sl false 4 (BJ y.ins),Ui y.jump,Ui y.on,.sl false 1 (Qb y.next)]:=kn.l 4 rfl;refine Q1 (Qa ?_);simp only[go_sem,l0,l3,l9,l10,l11,l13,bC,Cv];try intro _
 clear l0 l3 l9 l10 l11 l13 bC;refine Qh (Qe (Qw (λmm e1 H1=>∃(i:Nat) (R3:List Int) (r3:Rs),mm=y.ins.length-i/\i<=y.ins.length/\R3.length=n/\byL R3/\Kn H0 H1 E (X.F r3 [(rl,.vec 1 (Qb R3)),(x9,o9 q n),(x10,.st [.ah rl 1 0 n]),(x13,oB y)] (Li++B))/\r3.ok X/\r2.u<=r3.u/\r3.t=r2.t/\
  Goes X.cs X.S r.u (.go (fr0 X.cs k l::fs) r.s r.c) r3.u (.go (⟨k,b,y.ins.drop i,R3⟩::fs) r3.s r3.c)/\
  lk 0 e1=.c (.ptr X.l 0)/\lk 3 e1=.c (.bool main)/\lk 9 e1=Up x9/\lk 10 e1=Up x10/\lk 11 e1=Uv b/\lk 13 e1=Up x13/\lk 85 e1=.c (.sl false 4 (BJ y.ins))/\lk 86 e1=.c (Ui y.ins.length)/\lk 87 e1=Uv i) y.ins.length ?_ ?_))
 ·exact⟨0,R2,r2,ZB,ZB,zY,zE,kn,ey,Jy _,rfl,m9,rfl,rfl,rfl,rfl,rfl,rfl,rfl,rfl,rfl⟩
 clear kn;rintro m3 e4 H12 ⟨i,R3,r3,qS,hi,mY,rH,kn,vy,hu3,tk,kF,l0,l3,l9,l10,l11,l13,l85,l86,l87⟩;refine Qa ?_;simp only[go_sem,l0,l3,l9,l10,l11,l13,l85,l86,l87];refine Qh (Qf rfl (λhc=>?_) (λhc=>?_))
 ·have af:i<y.ins.length:=ZE
  obtain⟨x,hx⟩:∃x,y.ins[i]=x:=⟨_,rfl⟩;have jQ:x∈y.ins:=by rw[<-hx];exact Jk af
  have hxw:InsW X.cs k x:=Ax b hk hb x (by rw[cF];exact jQ);have sv:y.ins.drop i=x::y.ins.drop (i+1):=by rw[List.drop_eq_getElem_cons af,hx]
  obtain⟨op,to,args,nn⟩:=x;refine Zc ?_
  refine Qh (Qe ?_);refine Zv af hx ?_;intro x19 lL H13 mZ;have kn:Kn H0 H13 E (X.F r3 [(rl,.vec 1 (Qb R3)),(x9,o9 q n),(x10,.st [.ah rl 1 0 n]),(x13,oB y),(x19,.st [Ui 0,Ui 0,.sl true 1 [],Ui 0])] (Li++B)):=F_al (A:=[(rl,.vec 1 (Qb R3)),(x9,o9 q n),(x10,.st [.ah rl 1 0 n]),(x13,oB y)]) (kn.al lL mZ);have lL:H13 x19=.st [Ui 0,Ui 0,.sl true 1 [],Ui 0]:=kn.l 5 rfl;simp only[go_sem,Qfi,lL];intro H14 iC;have kn:Kn H0 H14 E (X.F r3 [(rl,.vec 1 (Qb R3)),(x9,o9 q n),(x10,.st [.ah rl 1 0 n]),(x13,oB y),(x19,.st [Ui op,Ui to,.sl false 1 (Qb args),Ui nn])] (Li++B)):=kn.aB 5 rfl iC;have lL:H14 x19=.st [Ui op,Ui to,.sl false 1 (Qb args),Ui nn]:=kn.l 5 rfl;have bM:H14 x10=.st [.ah rl 1 0 R3.length]:=by rw[mY];exact kn.l 3 rfl
  have kn:=Qb4c (A:=[(rl,.vec 1 (Qb R3))]) (A':=[(x9,o9 q n),(x10,.st [.ah rl 1 0 n]),(x13,oB y),(x19,.st [Ui op,Ui to,.sl false 1 (Qb args),Ui nn])]) kn;rw[sv]at kF;refine Qp ?_;simp only[go_sem,lL,bM];refine Qb1f (k:=k) (b:=b) (t:=y.ins.drop (i+1)) (fs:=fs) hxw hk (by rw[hq,jw];exact mY) rH kn vy (ih _ ZB) (λR4 r4 H15 kn4 oT hR4l zD wX hu4 yT=>?_) (λe r4 H15 kn4 oT wX pw=>?_)
  ·have kn4:=EX (A:=[(rl,.vec 1 (Qb R4)),(x9,o9 q n),(x10,.st [.ah rl 1 0 n]),(x13,oB y)]) (A':=[(x19,.st [Ui op,Ui to,.sl false 1 (Qb args),Ui nn])]) (Qb4b (A:=[(rl,.vec 1 (Qb R4))]) (A':=[(x9,o9 q n),(x10,.st [.ah rl 1 0 n]),(x13,oB y),(x19,.st [Ui op,Ui to,.sl false 1 (Qb args),Ui nn])]) kn4);simp only[go_sem];refine Zh ?_;refine⟨Qs,?_⟩;show ∃m,_;exact⟨y.ins.length-(i+1),ZB,i+1,R4,r4,rfl,ZB,ZB,zD,kn4,oT,ZB,by rw[wX,tk],kF.trans yT,rfl,rfl,rfl,rfl,rfl,rfl,rfl,rfl,rfl⟩
  ·simp only[go_sem,Go.AE.X.next];exact hP e r4 H15 (EC (A:=Li) (Hj (A':=[(x9,o9 q n),(x10,.st [.ah rl 1 0 n]),(x13,oB y),(x19,.st [Ui op,Ui to,.sl false 1 (Qb args),Ui nn])]) kn4)) oT (λh=>by rw[wX,tk,et h,rX h]) (kF.halts pw)
 have bh:y.ins.length<=i:=ZE
 rw[Jp bh]at kF;refine ZA ?_;refine Za ?_;refine Mq kn vy (λH13 yt kn4 oT=>?_) (λyt=>?_)
 rotate_left
 ·simp only[go_sem,Go.AE.X.next];refine hP 3 r3 _ (EC (A:=Li) (EX (A:=[]) kn)) vy (λh=>by rw[tk,et h,rX h]) (kF.halts ?_);rw[yt];exact .fuel
 obtain⟨r4,e4⟩:∃r4,({ r3 with u:=r3.u+1 }:Rs)=r4:=⟨_,rfl⟩;have eu4:r4.u=r3.u+1:=by rw[<-e4]
 have es4:r4.s=r3.s:=by rw[<-e4]
 have ec4:r4.c=r3.c:=by rw[<-e4]
 have et4:r4.t=r3.t:=by rw[<-e4]
 rw[e4]at kn4 oT;clear e4 kn;have bC:H13 x13=.st [.sl false 2 (Q6 y.ab),.sl false 4 (BJ y.ins),Ui y.jump,Ui y.on,.sl false 1 (Qb y.next)]:=kn4.l 4 rfl;have bM:H13 x10=.st [.ah rl 1 0 n]:=kn4.l 3 rfl;have cA:H13 rl=.vec 1 (Qb R3):=kn4.l 1 rfl;have bF:List.take n (Qb R3)=Qb R3:=Je ZS;have gJ:r4.t.length<=r4.u:=by rw[et4,eu4];exact vy.lt
 have tj:main=false->r4.t=r.t:=λh=>by rw[et4,tk,et h,rX h]
 have one:∀Y,stJ X.cs k b R3 fs r4.s r4.c=Y->Goes X.cs X.S r.u (.go (fr0 X.cs k l::fs) r.s r.c) r4.u Y:=λY h=>by
  refine kF.trans ?_;rw[eu4,<-es4,<-ec4];exact .one yt h
 have hjm:=cz.jmp;have sO:=cz.on;have wk:=cz.nx;have yF:=mz b hb;rw[cF]at yF;refine Za ?_;refine Qe (Qa ?_);simp only[go_sem,bC];refine Qf rfl (λhc=>?_) (λhc=>?_)
 ·have hj:y.jump=3:=of_decide_eq_true hc;obtain⟨z1,z2⟩:=sO ZB;obtain⟨j,pt⟩:∃j:Nat,y.on=j:=⟨y.on.toNat,ZB⟩;have cL:j<n:=ZB
  have pu:j<R3.length:=ZB
  refine Qa ?_;simp only[go_sem,bC,bM,cA,bF,pt,cL,mY,Qc,Qk _ _ pu,Jc];refine Ql ?_;simp only[go_sem,Go.AE.X.next,Q4,BE,Ja,forall_eq,RS.op];have py:=hK (rg R3 y.on) r4 H13 (EC (A:=Li) (EX (A:=[]) kn4)) oT (rH.rg _) gJ tj (one _ (by rw[EH (by rw[hq,cF];exact hj),hq,cF]));rw[pt]at py;exact py
 have pu:¬y.jump=3:=of_decide_eq_false hc;obtain⟨v,oK,nF,wL⟩:=fj b hb (by rw[cF];exact pu) R3;rw[cF]at oK nF wL;obtain⟨w1,w2⟩:=wk v oK;obtain⟨b2,cp⟩:∃b2:Nat,v=b2:=⟨v.toNat,ZB⟩;have wJ:nxB y R3=b2:=ZB
 have rI:b2<q.blocks.length:=ZB
 have yS:=one _ (by
  rw[Ec (by rw[hq,cF];exact pu),hq,cF,wJ])
 have fO:ixB y R3<y.next.length:=(Jx.1 wL).1;have bm:y.next.getD (ixB y R3) 0=(b2:Int):=by rw[Jb,wL,cp];rfl
 have zd:GT q b2 (some b):=⟨hb,by rw[D2 hb,cF,<-cp];exact oK⟩;have eA:∀e,lk 0 e=.c (.ptr X.l 0)->lk 3 e=.c (.bool main)->lk 9 e=Up x9->lk 10 e=Up x10->lk 11 e=Uv b2->lk 12 e=Uv b->
   ∃m',m'<mm/\∃(b:Nat) (fr:Option Nat) (R:List Int) (r1:Rs),m'=X.S-r1.u/\b<q.blocks.length/\R.length=n/\byL R/\Kn H0 H13 E (X.F r1 [(rl,.vec 1 (Qb R)),(x9,o9 q n),(x10,.st [.ah rl 1 0 n])] (Li++B))/\r1.ok X/\r.u<=r1.u/\r1.t.length<=r1.u/\(main=false->r1.t=r.t)/\GT q b fr/\
   Goes X.cs X.S r.u (.go (fr0 X.cs k l::fs) r.s r.c) r1.u (.go (Dr X.cs k b fr R::fs) r1.s r1.c)/\
   lk 0 e=.c (.ptr X.l 0)/\lk 3 e=.c (.bool main)/\lk 9 e=Up x9/\lk 10 e=Up x10/\lk 11 e=Uv b/\lk 12 e=Uv (EA fr):=by
  intro e a0 a3 a9 a10 a11 a12;refine⟨X.S-r4.u,by have:=oT.uS;omega,b2,some b,R3,r4,rfl,rI,mY,rH,EX (A:=[(rl,.vec 1 (Qb R3)),(x9,o9 q n),(x10,.st [.ah rl 1 0 n])]) (A':=[(x13,oB y)]) kn4,oT,ZB,gJ,tj,zd,yS,a0,a3,a9,a10,a11,a12⟩
 rcases hjm with hj|hj|hj
 ·
  have hd:decide ((1:Int)=2)=false:=rfl;have e0:ixB y R3=0:=by rw[ixB,if_neg ZB]
  rw[e0]at fO bm;refine Qa ?_;by_cases hjr:y.on.toNat<R3.length
  ·simp only[go_sem,bC,bM,cA,bF,hj,hd,Qk _ _ hjr,Jc];refine Qf (c:=false) rfl (λhc=>by cases hc) (λ_=>?_);refine Qp ?_;simp only[go_sem,bC,fO,bm,Qc,Qk _ _ fO];exact⟨ZB,eA _ rfl rfl rfl rfl rfl rfl⟩
  ·have bD:(Qb R3).getD y.on.toNat []=[]:=by rw[Jb,Jl ZS];rfl
   simp only[go_sem,bC,bM,cA,bF,hj,hd,bD,List.headD_nil,Jc];refine Qf (c:=false) rfl (λhc=>by cases hc) (λ_=>?_);refine Qp ?_;simp only[go_sem,bC,fO,bm,Qc,Qk _ _ fO];exact⟨ZB,eA _ rfl rfl rfl rfl rfl rfl⟩
 ·
  have hd:decide ((2:Int)=2)=true:=rfl;obtain⟨z1,z2⟩:=sO ZB;obtain⟨j,pt⟩:∃j:Nat,y.on=j:=⟨y.on.toNat,ZB⟩;have cL:j<n:=ZB
  have hj4:j<R3.length:=ZB
  refine Qa ?_;simp only[go_sem,bC,bM,cA,bF,hj,pt,cL,mY,Qc,Qk _ _ hj4,Jc];refine Qf rfl (λhc=>?_) (λhc=>?_)
  ·have hz:R3.getD j 0=0:=of_decide_eq_true hc;have e0:ixB y R3=1:=by rw[ixB,if_pos ⟨hj,by rw[rg,pt];exact hz⟩]
   rw[e0]at fO bm;refine Qp ?_;simp only[go_sem,bC,fO,bm,Qc,Qk _ _ fO];exact⟨ZB,eA _ rfl rfl rfl rfl rfl rfl⟩
  ·have hz:¬R3.getD j 0=0:=of_decide_eq_false hc;have e0:ixB y R3=0:=by rw[ixB,if_neg (by rintro⟨_,h⟩;rw[rg,pt]at h;exact hz h)]
   rw[e0]at fO bm;refine Qp ?_;simp only[go_sem,bC,fO,bm,Qc,Qk _ _ fO];exact⟨ZB,eA _ rfl rfl rfl rfl rfl rfl⟩
 ·exact absurd hj pu
theorem LH (hw:RunW X.cs):∀d m,X.S+1-m<=d->Fw X m
 |0,m,h=>λH0 H E B Li r k l inc main fs K hm kn hr=>by
  have:=hr.uS;omega
 |d+1,m,h=>Qbpu hw λm' eT=>LH hw d m' ZB
end Go.AE.Y
namespace Go.AE.Y
open Go.Proofs.Tryz
theorem Qblb (p:Addr)(w:World) :
  CallsD prog Qqe #[.pointer (some p)] .returning w λe u' w'=>e=.returned (.tuple #[])/\u'=.returning/\w'=w:=by
 refine callsD_of_wpS Go.Proofs.Tryz.func118 rfl λc₀ cs hu=>?_;apply wpS_seq;apply wpS_region;simp[wpOpsS,go_sem,recoverD,hu,Go.Proofs.Tryz.ntmps118,Exit.thenS];apply wpS_seq;apply wpS_region;simp[wpOpsS,go_sem,Exit.thenS];refine wpS_cond (t:=false) (by simp[Act.eval]) ?_;simp only[J2,if_false];refine wpS_of_wp (wp_skip ?_);cases c₀
 simp_all[bodyPostS,results,Go.Proofs.Tryz.results118]
set_option maxRecDepth 4000 in
theorem Qae0 (p:Addr)(n:Int)(x:Value)(older:List PanicEntry)(w:World)(hc:w.cell? p=some x)(hz:w.frozen? p=false) :
  CallsD prog Qqe #[.pointer (some p)] (.panicking ({ v:=.iface 116 (.int .i64 n),recovered:=false }::older)) w λe u' w'=>
   e=.returned (.tuple #[])/\u'=.panicking ({ v:=.iface 116 (.int .i64 n),recovered:=true }::older)/\w'=w.setCell p (.int .i64 n):=by
 refine callsD_of_wpS Go.Proofs.Tryz.func118 rfl λc₀ cs hu=>?_;apply wpS_seq;apply wpS_region;simp[wpOpsS,go_sem,recoverD,hu,Go.Proofs.Tryz.ntmps118,Exit.thenS];apply wpS_seq;apply wpS_region;simp[wpOpsS,go_sem,Exit.thenS];refine wpS_cond (t:=true) (by simp[Act.eval]) ?_;simp only[if_true];have hta:∀w:World,(Instr.typeAssert (.iface 116 (.int .i64 n)) 20 116 true).run prog w=.ok (.tuple #[.int .i64 n,.bool true]) w:=λw=>ZF
 apply wpS_seq;apply wpS_region;simp[wpOpsS,go_sem,Exit.thenS,hta];apply wpS_seq;apply wpS_seq;apply wpS_region;simp[wpOpsS,go_sem,Exit.thenS];refine wpS_cond (t:=false) (by simp[Act.eval]) ?_;simp only[J2,if_false];refine wpS_of_wp (wp_skip ?_);simp only[Exit.thenS];apply wpS_region;simp[wpOpsS,go_sem,hc,hz,bodyPostS,results,Go.Proofs.Tryz.results118]
theorem Qblc {f : Nat} {caps : Array Value} {w : World} {R : Ending -> World -> Prop} (hf : fnOk prog f = true)
    (h : Calls prog f caps (w.alloc (.cells #[.int .i64 0] 3)) λe w' => w'.cell? ⟨w.heap.size, 0, none⟩ = some (.int .i64 0) /\ w'.frozen? ⟨w.heap.size, 0, none⟩ = false /\
      ((∃ v, e = .returned v /\ R (.returned (.int .i64 0)) (w'.setCell ⟨w.heap.size, 0, none⟩ (.int .i64 0))) \/
       (∃ n, e = .panicked [{ v := .iface 116 (.int .i64 n), recovered := false }] /\ R (.returned (.int .i64 n)) (w'.setCell ⟨w.heap.size, 0, none⟩ (.int .i64 n))))) :
    Calls prog Q7k #[.func (.func f) #[] caps] w R := by
  have tZ : ∀ fn (first cap : Array Value) (w : World), (Instr.makeFunc fn first cap).run prog w = .ok (.func fn first cap) w := λ_ _ _ _ => rfl
  go_enter_defers Go.Proofs.Tryz.func74, Go.Proofs.Tryz.ntmps74
  go_wp2
  have uG : ∀ w, (callFunc f caps).run prog w = .ok (.enter f caps) w := λw => TI hf caps w;simp only [uG, Array.append_empty, Array.empty_append, Oper.upon_enter];refine h.mono ?_;rintro e w' ⟨hc, hz, hR⟩;rcases hR with ⟨v, rfl, hR⟩ | ⟨n, rfl, hR⟩
  · go_wp2
    refine leaves_cons (f := 118) (args := #[.pointer (some ⟨w.heap.size, 0, none⟩)]) ZD (by simp [go_sem]) ?_;refine (Qblb ⟨w.heap.size, 0, none⟩ _).mono ?_;rintro e u' w'' ⟨rfl, rfl, rfl⟩;simp [Leaves, settle, results, Go.Proofs.Tryz.results74, go_sem];refine ⟨_, ?_, hR⟩;simp [go_sem, hc]
  · show Leaves _ _ _ _ _ _ _;refine leaves_cons (f := 118) (args := #[.pointer (some ⟨w.heap.size, 0, none⟩)]) ZD (by simp [go_sem]) ?_;refine (Qae0 ⟨w.heap.size, 0, none⟩ n _ [] _ hc hz).mono ?_;rintro e u' w'' ⟨rfl, rfl, rfl⟩;simp [Leaves, settle, results, Go.Proofs.Tryz.results74, go_sem];refine ⟨_, ?_, hR⟩;simp [go_sem, hc]
variable {H:Heap}{K:Uk}
theorem Qbil {w:World}{b:Nat}{cs:Array Value}{T:TypeId}{v:Value}(h:w.heap[b]? = some (.cells cs T (0,0))):w.setCell ⟨b,0,none⟩ v=World.aA w b (cs.setIfInBounds 0 v) T:=by
 unfold World.setCell World.aA;congr 1;refine Array.ext_getElem? λi=>?_;rw[Array.getElem?_modify,Array.getElem?_setIfInBounds];by_cases hi:b=i
 ·subst hi;rw[if_pos rfl,if_pos rfl,if_pos (Gs h),h];rfl
 ·rw[if_neg hi,if_neg hi]
theorem Qbvr {f:Nat}{caps:List C}(hf:fnOk prog f=true)
  (h:∀xe,H xe=.none->∀H1,H1=H.set xe (.st [.int .i64 0])->Qr prog f (caps.map .c) H1 λx H2=>H2 xe=.st [.int .i64 0]/\((∃n,x=.pn (endV n)/\∀H3,H3=H2.set xe (.st [.int .i64 n])->K (.c (.int .i64 n)) H3)\/
   ((∀v,x≠.pn v)/\∀H3,H3=H2.set xe (.st [.int .i64 0])->K (.c (.int .i64 0)) H3))) :
  Qr prog Q7k [.c (.fn f caps)] H K:=by
 refine⟨ZF,λg w vs hs hl hv=>?_⟩;obtain⟨v,rfl⟩:∃v,vs=[v]:=by
  match vs,hl with
  |[v],_=>exact⟨v,rfl⟩
 have hr:=hv 0 _ v rfl rfl;obtain⟨cvs,rfl,cG,uD⟩:=hr.aO.fn_inv;obtain⟨xe,iR,hHx⟩:=hs.newName;have aS:=Gt hs iR 1 0 (.cells #[.int .i64 0] 3);have aN:=Ff hs iR 1 0 (.cells #[.int .i64 0] 3) (.st [.int .i64 0]) (λg' hg=>by
  subst hg;exact TR (cells:=[.int .i64 0]) (λj c u h1 h2=>by
   cases j with
   |zero=>simp at h1 h2;subst h1;subst h2;exact .int _ _
   |succ j=>simp at h1) rfl aS)
 refine Qblc hf ?_;have hc:=(h xe hHx _ rfl).2 _ _ cvs aN.sat (by simp[cG]) (λj x u h1 h2=>by
  rw[Jq]at h1
  cases hj:caps[j]? with
  |none=>rw[hj]at h1;simp at h1
  |some c=>
   rw[hj]at h1;simp at h1;subst h1;exact .c _ _ ((uD j c u hj h2).mono aN.le))
 refine hc.mono λe w2 hh=>?_;have box:∀H2 g2 n,H2 xe=.st [.int .i64 0]->Stp (H.set xe (.st [.int .i64 0])) (g.newObj xe w.heap.size 1 0) (w.alloc (.cells #[.int .i64 0] 3)) H2 g2 w2->
   w2.cell? ⟨w.heap.size,0,none⟩=some (.int .i64 0)/\w2.frozen? ⟨w.heap.size,0,none⟩=false/\Stp H2 g2 w2 (H2.set xe (.st [.int .i64 n])) g2 (w2.setCell ⟨w.heap.size,0,none⟩ (.int .i64 n)):=by
  intro H2 g2 n hx ir;have bP:g2.io xe=some (w.heap.size,1,0):=ir.le.io xe _ ZK;have bg:=ir.sat.objs xe;rw[hx]at bg;obtain⟨b',sz',T,cs,q1,q2,q3,q4,q5⟩:=bg;rw[bP]at q1;simp only[J5,Prod.mk.injEq,and_true]at q1;obtain⟨rfl,rfl⟩:=q1;have bH:cs.size=1:=q4;have dd:cs[0]? = some cs[0]:=Array.getElem?_eq_getElem ZB;have uD:cs[0]=.int .i64 0:=((q5 0 _ _ rfl dd).toC rfl).aH;refine⟨?_,by simp[World.frozen?,q3],?_⟩
  ·rw[F8 q3,dd,uD]
  ·rw[Qbil q3];refine I4 ir.sat q2 q3 ZD _ (by rw[hx];simp) (λaS fR=>?_) ZD;refine⟨w.heap.size,1,T,_,bP,q2,fR,by simp[bH],λj c v e1 e2=>?_⟩
   cases j with
   |zero=>
    simp[bH]at e1 e2;subst e1;subst e2;exact .plain _ _ _ _ (.int _ _)
   |succ j=>simp at e1
 rcases hh with ⟨v,x,H2,g2,rfl,⟨hx,hk⟩,ir,ey⟩|⟨v,H2,g2,rfl,⟨hx,hk⟩,ir⟩
 ·obtain⟨b1,b2,b3⟩:=box H2 g2 0 hx ir;refine⟨b1,b2,.inl ⟨v,rfl,.inl ⟨_,.c (.int .i64 0),_,g2,rfl,?_,aN.trans (ir.trans b3),.c _ _ (.int _ _)⟩⟩⟩;rcases hk with ⟨n,rfl,_⟩|⟨_,hk⟩
  ·cases ey
  ·exact hk _ rfl
 ·rcases hk with ⟨n,nF,hk⟩|⟨bD,_⟩
  ·cases nF;obtain⟨b1,b2,b3⟩:=box H2 g2 n hx ir;exact⟨b1,b2,.inr ⟨n,rfl,.inl ⟨_,.c (.int .i64 n),_,g2,rfl,hk _ rfl,aN.trans (ir.trans b3),.c _ _ (.int _ _)⟩⟩⟩
  ·exact absurd rfl (bD v)
end Go.AE.Y
namespace Go.AE.Y
open Go.Proofs.Tryz
variable {H H0:Heap}{K:Uk}{E B Lg:Ul}
theorem Lv {S:Nat->Bool}{a b a' b':V}(h:FrzV H S a a')(k:FrzV H S b b'):FrzV H S (.tup [a,b]) (.tup [a',b']):=by
 refine .tup _ _ rfl λj x x' h1 h2=>?_
 match j with
 |0=>simp at h1 h2;subst h1;subst h2;exact h
 |1=>simp at h1 h2;subst h1;subst h2;exact k
 |j+2=>simp at h1
end Go.AE.Y
namespace Go.AE.Y
attribute [local go_sem] cond_true cond_false Bool.not_true Bool.not_false
attribute [local instance] Classical.propDecidable
open Go.Proofs.Tryz
variable {H H' H0:Heap}{K:Uk}{E A A' B Li:Ul}{X:Rn}{r r':Rs}
def oO (e v:Int):Obj:=.st [.sl true 1 [],.int .i64 e,.int .i64 v,.sl true 1 []]
theorem Qb3c (hw:RunW X.cs){l:List Int}{f2:Bool}{x8 x9:Nat}(hl:(l.length:Int)=(Qt X.cs (X.cs.length-1)).params)(bu:byL l)
  (kn:Kn H0 H E (X.F r [(x8,.st [.ptr X.l 0]),(x9,oO 0 0)] B)) (hr:r.ok X) (hu:r.u=0) (hs:r.s=[]) (hc:r.c=ES) (ht:r.t=[])
  (hK:∀v r' H',Kn H0 H' E (X.F r' [(x8,.st [.ptr X.l 0]),(x9,oO 0 v)] B)->r'.ok X->Goes X.cs X.S 0 (cf0 X.cs l) r'.u (.dn 0 v r'.s r'.c)->K (.tup []) H')
  (hP:∀e r' H',Kn H0 H' E (X.F r' [(x8,.st [.ptr X.l 0]),(x9,oO 0 0)] B)->r'.ok X->Halts X.cs X.S 0 (cf0 X.cs l) e r'.s r'.c->K (.pn (endV e)) H') :
  Qr prog Qne [Up x8,.c (.pp [.sl X.fl 3 (Qm X.cs)]),.c (.pp [.sl f2 1 (Qb l)]),Up x9] H K:=by
 have hn:=hw.n;have cC:=hw.ro.n;refine Qd BF Qafy ?_;have aV:H x8=.st [.ptr X.l 0]:=kn.l 1 rfl;have rh:((X.cs.length:Int)-1)=((X.cs.length-1:Nat):Int):=ZB
 refine Qp ?_;simp only[go_sem,aV,Q8];try intro _
 refine⟨Qs,?_⟩;rw[rh];refine LH hw (X.S+1) 0 ZB H0 H E ([(x8,.st [.ptr X.l 0]),(x9,oO 0 0)]++B) [] r (X.cs.length-1) l (.sl f2 1 (Qb l)) true [] _ (J9 _) (F_in kn) hr ZB (.inl ⟨rfl,f2,rfl⟩) hl bu (by rw[ht];simp) (λv r' H' kn' bf hv _ _ cP=>?_) (λe r' H' kn' bf _ pw=>?_)
 ·have kn':=EC kn';have cY:H' x9=.st [.sl true 1 [],Ui 0,Ui 0,.sl true 1 []]:=kn'.l 2 rfl;simp only[go_sem,Qi7,cY];intro H2 h2;simp only[go_sem,Q4,BE,Cp];refine hK v r' H2 (kn'.aB 2 rfl h2) bf ?_;rw[hu,hs,hc]at cP;exact cP
 ·simp only[go_sem];refine hP e r' H' (EC kn') bf ?_;rw[hu,hs,hc]at pw;exact pw
def Rn.pc (X:Rn)(r:Rs):List C:=.sl X.fl 3 (Qm X.cs)::.int .i64 X.S::.int .i64 r.u::.sl false 1 (Qb r.s)::(BV r.c++[.sl false 1 (Qb r.t)])
theorem Lw {S:Nat->Bool}{a b:C}(h:FrzC H S a b):∀l:List Int,FrzL H S (BV l++[a]) (BV l++[b])
 |[]=>.cons h .nil
 |v::l=>.cons (Qg rfl) (Lw h l)
theorem Qb5c {S:Nat->Bool}(hr:r.ok X)(hm:∀p∈[(X.l,X.o r)]++(r.so++r.tl),H p.1=p.2/\S p.1=true):FrzC H S (.ptr X.l 0) (.pp (X.pc r)):=by
 obtain⟨h1,h2⟩:=hm (X.l,X.o r) ZD;refine FrzL.ptr h2 h1 ?_;refine .cons (Qg rfl) (.cons (Qg rfl) (.cons (Qg rfl) (.cons ?_ (Lw ?_ _))))
 ·exact Gr.frzM hr.gs (λp hp=>hm p ZaH) (FrzR.same (Qq _))
 ·exact Gr.frzM hr.gt (λp hp=>hm p ZaH) (FrzR.same (Qq _))
theorem YR (l:List Int)(c:C)(n:Nat)(h:l.length=n):((BV l++[c]).take n).map (λc=>[c])=Qb l:=by
 subst h;rw[List.take_append_of_le_length (by simp[BV]),Je (by simp[BV])];simp[BV,Qb]
theorem Qb1y (l:List Int)(c:C)(n:Nat)(h:l.length=n):(BV l++[c]).length=n+1:=by simp[BV,h]
theorem Qbsy {cs:List CodeD}{fl f2:Bool}{l:List Int}{S:Nat}(hg:BP cs=true)(hl:(l.length:Int)=(Qt cs (cs.length-1)).params)(bu:byL l)(hS:S<=60000)
  (hK:∀e v s c u H',outR cs l S=(e,v,s,c)->Upd H H' []->K (.tup [.ag [.sl false 1 (Qb s),Ui e,Ui v,.sl false 1 (Qb c)],.c (.pp u)]) H') :
  Qr prog Q1n [.ag [.sl fl 3 (Qm cs)],.c (.sl f2 1 (Qb l)),Uv S] H K:=by
 have hw:=runW hg;refine Qy ?_;refine Qd BF Qa11 ?_;refine Za ?_;intro x6 be H1 h1;have kn:Kn H H1 [] [(x6,oO 0 0)]:=(Kn.an H).al be h1;simp only[go_sem,Qsp];refine Za ?_;intro ml iZ H2 h2;obtain⟨X,hX⟩:∃X:Rn,X=⟨ml,fl,cs,S⟩:=⟨_,rfl⟩;obtain⟨r0,bE⟩:∃r0:Rs,r0=⟨0,[],ES,[],.sl true 1 [],[],.sl true 1 [],[]⟩:=⟨_,rfl⟩;have kn:Kn H H2 [] (X.F r0 [(x6,oO 0 0)] []):=by
  subst hX;subst bE;have k:Kn H H2 [] ([(x6,oO 0 0)]++[(ml,Rn.o ⟨ml,fl,cs,S⟩ ⟨0,[],ES,[],.sl true 1 [],[],.sl true 1 [],[]⟩)]):=kn.al iZ h2;exact k.perm (by simpa[Rn.F]using List.Perm.swap _ _ _)
 have hXl:X.l=ml:=by rw[hX]
 have hXf:X.fl=fl:=by rw[hX]
 have uT:X.cs=cs:=by rw[hX]
 have zP:X.S=S:=by rw[hX]
 have xh:r0.ok X:=by
  subst bE;exact⟨.nil 1,.nil 1,rfl,λv hv=>by rw[List.eq_of_mem_replicate hv];exact⟨ZB,ZB⟩,λv hv=>by simp at hv,Jy _,ZD,J9 _,by rw[zP];exact hS⟩
 simp only[go_sem,Qsr];intro x8 aV H3 h3;have kn:Kn H H3 [] (X.F r0 [(x6,oO 0 0),(x8,.st [.pnil])] []):=F_al (A:=[(x6,oO 0 0)]) (kn.al aV h3);have aV:H3 x8=.st [.pnil]:=kn.l 2 rfl;simp only[go_sem,Qsq,aV];intro H4 h4;rw[<-hXl]at h4;have kn:Kn H H4 [] (X.F r0 [(x6,oO 0 0),(x8,.st [.ptr X.l 0])] []):=kn.aB 2 rfl h4;refine Za ?_;intro x9 cY H5 h5;have kn:Kn H H5 [] (X.F r0 [(x6,oO 0 0),(x8,.st [.ptr X.l 0]),(x9,oO 0 0)] []):=F_al (A:=[(x6,oO 0 0),(x8,.st [.ptr X.l 0])]) (kn.al cY h5);refine Ck (λe2 H2=>∃(e v:Int) (r1:Rs),Kn H H2 [] (X.F r1 [(x6,oO 0 0),(x8,.st [.ptr X.l 0]),(x9,oO e v)] [])/\r1.ok X/\outR cs l S=(e,v,r1.s,r1.c)/\lk 6 e2=Up x6/\lk 8 e2=Up x8/\lk 9 e2=Up x9) ?_ ?_
 ·intro Q' oD Bx By;refine Zh ?_;refine Qbvr ZF λxe iR H6 h6=>?_;have kn:Kn H H6 [] (X.F r0 [(x6,oO 0 0),(x8,.st [.ptr X.l 0]),(x9,oO 0 0),(xe,.st [Ui 0])] []):=F_al (A:=[(x6,oO 0 0),(x8,.st [.ptr X.l 0]),(x9,oO 0 0)]) (kn.al iR h6);have kn:Kn H H6 [] (X.F r0 [(x8,.st [.ptr X.l 0]),(x9,oO 0 0)] [(x6,oO 0 0),(xe,.st [Ui 0])]):=kn.perm (Qj λf hf h0 hc hp=>by
   show f ([(X.l,X.o r0)]++(([(x6,oO 0 0)]++([(x8,.st [.ptr X.l 0])]++([(x9,oO 0 0)]++[(xe,.st [Ui 0])])))++((r0.so++r0.tl)++[])))=f ([(X.l,X.o r0)]++(([(x8,.st [.ptr X.l 0])]++[(x9,oO 0 0)])++((r0.so++r0.tl)++([(x6,oO 0 0)]++[(xe,.st [Ui 0])]))));simp only[Ui,hf,h0];omega)
  have key:∀(e v:Int) (r1:Rs) (H7 H8:Heap),Kn H H7 [] (X.F r1 [(x8,.st [.ptr X.l 0]),(x9,oO 0 v)] [(x6,oO 0 0),(xe,.st [Ui 0])])->H8=H7.set xe (.st [Ui e])->
    H7 xe=.st [Ui 0]/\Kn H H8 [] (X.F r1 [(x6,oO 0 0),(x8,.st [.ptr X.l 0]),(x9,oO 0 v)] []):=by
   intro e v r1 H7 H8 k h8;have k:Kn H H7 [] (X.F r1 [(x6,oO 0 0),(x8,.st [.ptr X.l 0]),(x9,oO 0 v),(xe,.st [Ui 0])] []):=k.perm (Qj λf hf h0 hc hp=>by
    show f ([(X.l,X.o r1)]++(([(x8,.st [.ptr X.l 0])]++[(x9,oO 0 v)])++((r1.so++r1.tl)++([(x6,oO 0 0)]++[(xe,.st [Ui 0])]))))=f ([(X.l,X.o r1)]++(([(x6,oO 0 0)]++([(x8,.st [.ptr X.l 0])]++([(x9,oO 0 v)]++[(xe,.st [Ui 0])])))++((r1.so++r1.tl)++[])));simp only[Ui,hf,h0];omega)
   refine⟨k.l 4 rfl,?_⟩;have k2:Kn H H8 [] (X.F r1 [(x6,oO 0 0),(x8,.st [.ptr X.l 0]),(x9,oO 0 v),(xe,.st [Ui e])] []):=k.aB 4 rfl h8;exact EX (A:=[(x6,oO 0 0),(x8,.st [.ptr X.l 0]),(x9,oO 0 v)]) (A':=[(xe,.st [Ui e])]) k2
  have dm:(l.length:Int)=(Qt X.cs (X.cs.length-1)).params:=by rw[uT];exact hl
  rw[<-hXf,<-uT];refine Qb3c (X:=X) (f2:=f2) (by rw[uT];exact hw) dm bu kn xh (by rw[bE]) (by rw[bE]) (by rw[bE]) (by rw[bE]) (λv r1 H7 kn7 cI cP=>?_) (λe r1 H7 kn7 cI pw=>?_)
  ·refine⟨(key 0 v r1 H7 _ kn7 rfl).1,.inr ⟨ZD,λH8 h8=>?_⟩⟩;have k:=(key 0 v r1 H7 H8 kn7 h8).2;have cY:H8 x9=.st [.sl true 1 [],Ui 0,Ui v,.sl true 1 []]:=k.l 3 rfl;simp only[go_sem,Vu,cY];intro H9 h9;have ho:=Y5 cP;rw[uT,zP]at ho;exact oD _ _ ⟨0,v,r1,k.aB 3 rfl h9,cI,ho,rfl,rfl,rfl⟩
  ·refine⟨(key e 0 r1 H7 _ kn7 rfl).1,.inl ⟨e,rfl,λH8 h8=>?_⟩⟩;have k:=(key e 0 r1 H7 H8 kn7 h8).2;have cY:H8 x9=.st [.sl true 1 [],Ui 0,Ui 0,.sl true 1 []]:=k.l 3 rfl;simp only[go_sem,Vu,cY];intro H9 h9;have ho:=Qbse pw;rw[uT,zP]at ho;exact oD _ _ ⟨e,0,r1,k.aB 3 rfl h9,cI,ho,rfl,rfl,rfl⟩
 clear kn aV;rintro e2 H6 ⟨e,v,r1,kn,cI,ho,l6,l8,l9⟩;have kn:Kn H H6 [] ([(x6,oO 0 0),(x8,.st [.ptr X.l 0]),(x9,oO e v)]++([(X.l,X.o r1)]++(r1.so++r1.tl))):=kn.perm (Qj λf hf h0 hc hp=>by simp only[Ui,Rn.F,hf,h0];omega);obtain⟨Sf,zg,Bb,fG,kn2⟩:=kn.bQ;have ju:=Qb5c cI zg;have aV:=Bb (x8,.st [.ptr X.l 0]) ZD;have u0:FrzH H6 Sf ((H6.frz Sf).set x8 (.st [.pp (X.pc r1)])):=fG.set aV.2 (by rw[aV.1];exact (FrzKL.cons rfl ju .nil).st);have kn:Kn H ((H6.frz Sf).set x8 (.st [.pp (X.pc r1)])) [] [(x6,oO 0 0),(x8,.st [.pp (X.pc r1)]),(x9,oO e v)]:=kn2.setL 1 rfl (by nofun);obtain⟨H7,hH7⟩:∃H7,(H6.frz Sf).set x8 (.st [.pp (X.pc r1)])=H7:=⟨_,rfl⟩;rw[hH7]at u0 kn;refine Q1 (c_gh (e':=[(6,Up x6),(8,Up x8),(9,Up x9)]) (H':=H7) (E7 Sf (Fi λp hp=>?_) u0) ?_)
 ·simp only[J6,Jt,or_false]at hp;rcases hp with rfl|rfl|rfl
  ·rw[l6];exact .c _ _ (.same _ rfl)
  ·rw[l8];exact .c _ _ (.same _ rfl)
  ·rw[l9];exact .c _ _ (.same _ rfl)
 have aV:H7 x8=.st [.pp (.sl X.fl 3 (Qm X.cs)::Ui X.S::Ui r1.u::.sl false 1 (Qb r1.s)::(BV r1.c++[.sl false 1 (Qb r1.t)]))]:=kn.l 1 rfl;have am:=Qb1y r1.c (.sl false 1 (Qb r1.t)) 16 cI.c;have aC:=YR r1.c (.sl false 1 (Qb r1.t)) 16 cI.c;have cG:=cI.c;refine BM ?_;simp only[go_sem,aV,am,aC];refine⟨by simp only[LIM];omega,?_⟩;refine IC kn ZU λt Lg H8 aq bt kn=>?_;have aV:H8 x8=.st [.pp (.sl X.fl 3 (Qm X.cs)::Ui X.S::Ui r1.u::.sl false 1 (Qb r1.s)::(BV r1.c++[.sl false 1 (Qb r1.t)]))]:=kn.l 1 rfl;have cY:H8 x9=.st [.sl true 1 [],Ui e,Ui v,.sl true 1 []]:=kn.l 2 rfl;simp only[go_sem,Qst,aV,cY];intro H9 h9;have kn:Kn H H9 [] ([(x6,oO 0 0),(x8,.st [.pp (X.pc r1)]),(x9,.st [.sl false 1 (Qb r1.s),Ui e,Ui v,.sl true 1 []])]++Lg):=kn.aB 2 rfl h9;have cY:H9 x9=.st [.sl false 1 (Qb r1.s),Ui e,Ui v,.sl true 1 []]:=kn.l 2 rfl;simp only[go_sem,Qss,cY];intro H10 db;have kn:Kn H H10 [] ([(x6,oO 0 0),(x8,.st [.pp (X.pc r1)]),(x9,.st [.sl false 1 (Qb r1.s),Ui e,Ui v,t])]++Lg):=kn.aB 2 rfl db;have be:H10 x6=.st [.sl true 1 [],Ui 0,Ui 0,.sl true 1 []]:=kn.l 0 rfl;have aV:H10 x8=.st [.pp (.sl X.fl 3 (Qm X.cs)::Ui X.S::Ui r1.u::.sl false 1 (Qb r1.s)::(BV r1.c++[.sl false 1 (Qb r1.t)]))]:=kn.l 1 rfl;have cY:H10 x9=.st [.sl false 1 (Qb r1.s),Ui e,Ui v,t]:=kn.l 2 rfl;refine BM ?_;simp only[go_sem,be,aV,cY,bt];intro H11 ev;have kn:Kn H H11 [] ([(x6,.st [.sl false 1 (Qb r1.s),Ui e,Ui v,t]),(x8,.st [.pp (X.pc r1)]),(x9,.st [.sl false 1 (Qb r1.s),Ui e,Ui v,t])]++Lg):=kn.aB 0 rfl ev;have be:H11 x6=.st [.sl false 1 (Qb r1.s),Ui e,Ui v,t]:=kn.l 0 rfl;have aV:H11 x8=.st [.pp (.sl X.fl 3 (Qm X.cs)::Ui X.S::Ui r1.u::.sl false 1 (Qb r1.s)::(BV r1.c++[.sl false 1 (Qb r1.t)]))]:=kn.l 1 rfl;simp only[go_sem,Qsu,aV];refine Ql ?_;simp only[go_sem,Q4,BE,Jm,RS.op,be,bt];refine⟨_,Lv (FrzL.ag (.cons (Qg rfl) (.cons (Qg rfl) (.cons (Qg rfl) (.cons (aq.frz kn (Qq _)) .nil))))) (.c _ _ (Qg rfl)),?_⟩;exact hK e v r1.s r1.c _ _ ho kn.fin
end Go.AE.Y
namespace Go.AE.Y
attribute [local go_sem] cond_true cond_false Bool.not_true Bool.not_false
attribute [local instance] Classical.propDecidable
open Go.Proofs.Tryz
variable {H H' H0:Heap}{K:Uk}{E A A' B Li:Ul}{cs ds:List CodeD}{fl f2:Bool}{l:List Int}
def CE (cs:List CodeD):Int:=(Qt cs (cs.length-1)).params
theorem Q73 (h0:0<cs.length)(hK:K (Uv (CE cs)) H):Qr prog Qnd [.ag [.sl fl 3 (Qm cs)]] H K:=by
 refine Qd BF Qafx ?_;have rh:((cs.length:Int)-1)=((cs.length-1:Nat):Int):=ZB
 have af:cs.length-1<cs.length:=ZB
 rw[CE,CS af]at hK;refine Wf ?_;simp only[go_sem,Q8,rh,af,Do _ _ af,CodeD.cells];intro hl;simp only[LIM]at hl;refine⟨Qs,?_⟩;refine Ze ?_;exact hK
theorem Qbla {v:Int}(hK:K (.c (.bool (!(decide (0<=v)&&decide (v<=255))))) H):Qr prog V0 [Uv v] H K:=by
 refine Qd BF Qafu ?_;refine Wd ?_;refine Lr ?_;simp only[go_sem,Qi4];refine Ze ?_;exact hK
theorem Qbpr {n:Int}(hn:(l.length:Int)=n)(hb:byL l)(hK:K (.c (.bool true)) H):Qr prog Q1j [.c (.sl f2 1 (Qb l)),Uv n] H K:=by
 have hd:decide ((l.length:Int)=n)=true:=decide_eq_true hn;refine Qd BF Qa1w ?_;refine Wf ?_;simp only[go_sem,Qc,hd];try intro _
 refine Kc (p:=λv=>!(decide (0<=v)&&decide (v<=255))) (.mk' _ _ _ _) rfl (λx K' _ hk=>Qbla hk) ?_;have zI:(l.any λv=>!(decide (0<=v)&&decide (v<=255)))=false:=by
  rw[List.any_eq_false];intro v hv;obtain⟨a,b⟩:=hb v hv;simp[a,b]
 rw[zI];simp only[go_sem,Qrl];refine Ze ?_;exact hK
theorem Qbpa {S:Nat}(aR:∀c∈cs,c.fits)(hg:BP cs=true)(hl:(l.length:Int)=CE cs)(bu:byL l)(hS:S<=60000)(hK:∀H',Upd H H' []->K (.c (.bool true)) H') :
  Qr prog Qw5 [.ag [.sl fl 3 (Qm cs)],.c (.sl f2 1 (Qb l)),Uv S] H K:=by
 have h0:=(runW hg).ro.n;refine Qd BF Qavw ?_;refine Wd ?_;refine S8 aR λH1 hu=>?_;rw[hg];simp only[go_sem,Qny];refine Q73 h0 ?_;simp only[go_sem,Qnx];refine Qbpr hl bu ?_;simp only[go_sem,Qnw];refine DQ ?_;have hw:(decide ((0:Int)<=(S:Int))&&decide ((S:Int)<=60000))=true:=ZG
 rw[hw];simp only[go_sem,Qnv];refine Ze ?_;exact hK _ hu
def Em (o:Int×Int×List Int×List Int):List C:=[.sl false 1 (Qb o.2.2.1),.int .i64 o.1,.int .i64 o.2.1,.sl false 1 (Qb o.2.2.2)]
theorem RJ {S:Nat}(aR:∀c∈cs,c.fits)(hg:BP cs=true)(hl:(l.length:Int)=CE cs)(bu:byL l)(hS:S<=60000)(hK:∀H',Upd H H' []->K (.tup [.ag (Em (outR cs l S)),.c (.bool true)]) H') :
  Qr prog Q1i [.ag [.sl fl 3 (Qm cs)],.c (.sl f2 1 (Qb l)),Uv S] H K:=by
 refine Qy ?_;refine Qd BF Qa1v ?_;refine Za ?_;intro x6 be H1 h1;have kn:Kn H H1 [] [(x6,oO 0 0)]:=(Kn.an H).al be h1;simp only[go_sem,TC];refine Wa ?_;refine Qbpa aR hg hl bu hS λH2 hu=>?_;have kn:=kn.aw hu;simp only[go_sem,Sp];refine Qh (Qf (c:=false) rfl (λh=>by cases h) λ_=>?_);refine Zc ?_
 refine Za ?_;refine Qbsy hg hl bu hS λe v s c u H3 ho hu=>?_;have kn:=kn.aw hu;simp only[go_sem,Qrj,Jd,Jf];intro x8 aV H4 h4;have kn:Kn H H4 [] [(x6,oO 0 0),(x8,oO 0 0)]:=kn.al aV h4;have aV:H4 x8=.st [.sl true 1 [],Ui 0,Ui 0,.sl true 1 []]:=kn.l 1 rfl;simp only[go_sem,Qri,aV];intro H5 h5;have kn:Kn H H5 [] [(x6,oO 0 0),(x8,.st [.sl false 1 (Qb s),Ui e,Ui v,.sl false 1 (Qb c)])]:=kn.aB 1 rfl h5;have aV:H5 x8=.st [.sl false 1 (Qb s),Ui e,Ui v,.sl false 1 (Qb c)]:=kn.l 1 rfl;have be:H5 x6=.st [.sl true 1 [],Ui 0,Ui 0,.sl true 1 []]:=kn.l 0 rfl;simp only[go_sem,Qrh];refine Zm aV be ?_;intro H6 h6;have kn:Kn H H6 [] [(x6,.st [.sl false 1 (Qb s),Ui e,Ui v,.sl false 1 (Qb c)]),(x8,.st [.sl false 1 (Qb s),Ui e,Ui v,.sl false 1 (Qb c)])]:=kn.aB 0 rfl h6;have be:H6 x6=.st [.sl false 1 (Qb s),Ui e,Ui v,.sl false 1 (Qb c)]:=kn.l 0 rfl;simp only[go_sem,Qrk];refine Ql ?_;simp only[go_sem,Q4,BE,Jm,RS.op,be];refine⟨_,Lv (FrzL.ag (FrzL.same rfl)) (.c _ _ (Qg rfl)),?_⟩;have:=hK _ kn.fin;rw[ho]at this;exact this
theorem Qau2 {o:Int×Int×List Int×List Int}(hK:K (.c (.bool true)) H):Qr prog Qj8 [.ag (Em o),.ag (Em o)] H K:=by
 refine Qd BF Qabj ?_;refine Qa ?_;simp only[go_sem,Em];refine Za ?_;refine Ma ?_;simp only[go_sem,Qhr,decide_true];refine Ma ?_;simp only[go_sem,Qhq];refine Ze ?_;exact hK
theorem Qbk4 {S:Nat}(mD:∀c∈cs,c.fits)(lr:∀c∈ds,c.fits)(eO:BP cs=true)(cZ:BP ds=true)(qV:(l.length:Int)=CE cs)(kB:(l.length:Int)=CE ds)(bu:byL l)(hS:S<=60000)(hs:Ek cs ds l S)
  (hK:∀H',Upd H H' []->K (.c (.bool true)) H'):Qr prog Vf [.ag [.sl fl 3 (Qm cs)],.ag [.sl fl 3 (Qm ds)],.c (.sl f2 1 (Qb l)),Uv S] H K:=by
 refine Qy ?_;refine Qd BF Qavr ?_;refine Wd ?_;refine RJ mD eO qV bu hS λH1 hu=>?_;have kn:=(Kn.an H).aw hu;obtain⟨o,ho⟩:∃o,outR cs l S=o:=⟨_,rfl⟩;rw[ho];simp only[go_sem,Qno,Jd,Jf];intro x9 cY H2 h2;have kn:Kn H H2 [] [(x9,oO 0 0)]:=kn.al cY h2;have cY:H2 x9=.st [.sl true 1 [],.int .i64 0,.int .i64 0,.sl true 1 []]:=kn.l 0 rfl;simp only[go_sem,Qnn,cY,Em];intro H3 h3;have kn:Kn H H3 [] [(x9,.st (Em o))]:=kn.aB 0 rfl h3;simp only[go_sem,Qnm];refine Za ?_;refine RJ (S:=60000) lr cZ kB bu ZB λH4 hu=>?_;have kn:=kn.aw hu;obtain⟨p,hp⟩:∃p,outR ds l 60000=p:=⟨_,rfl⟩;rw[hp];simp only[go_sem,Qnr,Jd,Jf];intro x11 eF H5 h5;have kn:Kn H H5 [] [(x9,.st (Em o)),(x11,oO 0 0)]:=kn.al eF h5;have eF:H5 x11=.st [.sl true 1 [],.int .i64 0,.int .i64 0,.sl true 1 []]:=kn.l 1 rfl;simp only[go_sem,Qnq,eF,Em];intro H6 h6;have kn:Kn H H6 [] [(x9,.st (Em o)),(x11,.st (Em p))]:=kn.aB 1 rfl h6;have cY:H6 x9=.st [.sl false 1 (Qb o.2.2.1),.int .i64 o.1,.int .i64 o.2.1,.sl false 1 (Qb o.2.2.2)]:=kn.l 0 rfl;have eF:H6 x11=.st [.sl false 1 (Qb p.2.2.1),.int .i64 p.1,.int .i64 p.2.1,.sl false 1 (Qb p.2.2.2)]:=kn.l 1 rfl;simp only[go_sem,Qnp];refine Qa ?_;have eA:∀H',Kn H H' [] [(x9,.st (Em o)),(x11,.st (Em p))]->unK H K (.c (.bool true)) H':=λH' k=>⟨_,.c _ _ (Qg rfl),hK _ k.fin⟩;rw[Ek,ho,hp]at hs;rcases hs with hs|hs
 ·have hd:decide (o.1=3)=true:=decide_eq_true hs;simp only[go_sem,cY,eF,hd,SU];refine Ze ?_;exact eA _ kn
 ·subst hs;by_cases h3:o.1=3
  ·have hd:decide (o.1=3)=true:=decide_eq_true h3;simp only[go_sem,cY,eF,hd,SU];refine Ze ?_;exact eA _ kn
  ·have hd:decide (o.1=3)=false:=decide_eq_false h3;simp only[go_sem,cY,eF,hd];refine Qau2 (o:=o) ?_;simp only[go_sem,SU];refine Ze ?_;exact eA _ kn
def tryC:List C:=BV [0,0,0,1,2,3,255,16,7]
def tryL (j:Nat):List Int:=([[0,0,0],[1,2,3],[255,16,7]]:List (List Int)).getD j []
def triL (n:Nat):List (List C):=(List.range 3).map λj=>[.sl false 1 (Qb ((tryL j).take n))]
theorem Ki {j:Nat}(h:j<3):(tryL j).length=3:=by
 have:j=0\/j=1\/j=2:=ZB
 rcases this with rfl|rfl|rfl <;> rfl
theorem Qb56 {j:Nat}(h:j<3):byL (tryL j):=by
 have:j=0\/j=1\/j=2:=ZB
 intro v hv;rcases this with rfl|rfl|rfl <;> (simp[tryL]at hv;rcases hv with rfl|rfl|rfl <;> exact⟨ZB,ZB⟩)
theorem Xk {j:Nat}(h:j<3):(tryC.drop (j * 3)).take 3=BV (tryL j):=by
 have:j=0\/j=1\/j=2:=ZB
 rcases this with rfl|rfl|rfl <;> rfl
theorem YQ (l:List Int)(n:Nat):((BV l).take n).map (λc=>[c])=Qb (l.take n):=by simp only[BV,Qb,List.map_take,List.map_map];rfl
theorem R0 (l:List Int):ak (BV l)=true:=by simp[ak,BV,C.ai]
theorem Kr {S:Nat->Bool}{n:Nat}:∀(rs:List (C×Ul)) (k:Nat),(∀j (h:j<rs.length),Gr rs[j].2 1 (Qb ((tryL (k+j)).take n)) rs[j].1)->(∀p∈rs.flatMap Prod.snd,H p.1=p.2/\S p.1=true)->
  FrzR H S (rs.map λp=>[p.1]) ((List.range' k rs.length).map λj=>[.sl false 1 (Qb ((tryL j).take n))])
 |[],k,_,_=>.nil
 |p::rs,k,h,hm=>by
  refine .cons (.cons (Gr.frzM (h 0 ZD) (λq hq=>hm q (by rw[J4];exact Ju _ hq)) (FrzR.same (Qq _))) .nil) ?_;exact Kr rs (k+1) (λj hj=>by
   have:=h (j+1) ZV;rw[show k+(j+1)=k+1+j by omega]at this;exact this) λq hq=>hm q (by
    rw[J4];exact List.mem_append_right _ hq)
theorem Qbva {n:Nat}(dM:H 0=.gl 0 tryC)(hn:n<=3)(hK:∀H',Upd H H' []->K (.c (.sl false 1 (triL n))) H'):Qr prog Q1o [Uv n] H K:=by
 refine Qy ?_;refine Qd BF Qa12 ?_;have bd:H 0≠.none:=by rw[dM];nofun
 have nI:tryC.length=9:=rfl;have vr:tryC.take 9=tryC:=rfl;refine Ws ?_;simp only[go_sem,dM,nI,vr];refine Qh (Qe (Qw (λm e1 H1=>∃(i:Nat) (t:C) (Lg:Ul) (rs:List (C×Ul)),m=3-i/\i<=3/\rs.length=i/\(∀p∈rs,p.1.ai=false)/\Gr Lg 1 (rs.map λp=>[p.1]) t/\(∀j (h:j<rs.length),Gr rs[j].2 1 (Qb ((tryL j).take n)) rs[j].1)/\Kn H H1 [] (rs.flatMap Prod.snd++Lg)/\
  lk 0 e1=Uv n/\lk 3 e1=.c t/\lk 6 e1=.ag tryC/\lk 7 e1=Uv i) 3 ?_ ?_))
 ·exact⟨0,_,[],[],rfl,ZB,rfl,ZD,.nil 1,ZD,.an H,rfl,rfl,rfl,rfl⟩
 ·rintro m e1 H1 ⟨i,t,Lg,rs,hm,hi,cA,bt,aq,sa,kn,l0,l3,l6,l7⟩;have fM:=aq.ai;refine Qa ?_;simp only[go_sem,l0,l3,l6,l7];refine Wu ?_ ?_
  ·intro hc;have af:i<3:=by have:(i:Int)<3:=of_decide_eq_true hc;omega
   have tM:=Xk af;have lR:=Ki af;have da:(BV (tryL i)).length=3:=by rw[BV,Jj,lR]
   refine Zc ?_
   refine Qh (Qe ?_);refine Zm nI tM ?_;refine⟨ZB,?_⟩;intro x5 bq H2 h2;have kn:=kn.al bq h2;have bq:H2 x5=.st [Ui 0,Ui 0,Ui 0]:=(kn.get (x5,.st [Ui 0,Ui 0,Ui 0]) ZD).1;simp only[go_sem,Qth,bq,da];intro H3 h3;have kn:Kn H H2 [] ([(x5,.st [Ui 0,Ui 0,Ui 0])]++(rs.flatMap Prod.snd++Lg)):=kn.perm Jr;have kn:Kn H H3 [] ([(x5,.st (BV (tryL i)))]++(rs.flatMap Prod.snd++Lg)):=kn.aB 0 rfl (by rw[h3];simp[lR]);have kn:Kn H H3 [] ((rs.flatMap Prod.snd++Lg)++[(x5,.st (BV (tryL i)))]):=kn.perm Jr;obtain⟨Sf,zg,Bb,fG,kn2⟩:=kn.bQ;obtain⟨mD,lr⟩:=zg (x5,.st (BV (tryL i))) ZD;obtain⟨H4,B7⟩:∃H4,H3.frz Sf=H4:=⟨_,rfl⟩;refine c_gh (e':=[(0,Uv n),(3,.c t),(5,.c (.pp (BV (tryL i)))),(6,.ag tryC),(7,Uv i)]) (H':=H4) (by
    rw[<-B7];refine Qbqf Sf (Fi λp hp=>?_);simp only[J6,Jt,or_false]at hp;rcases hp with rfl|rfl|rfl|rfl|rfl
    ·exact .c _ _ (.same _ rfl)
    ·exact .c _ _ (.same _ fM)
    ·exact .c _ _ (FrzL.ptr lr mD (FrzL.same (R0 _)))
    ·exact (FrzL.same (R0 _)).ag
    ·exact .c _ _ (.same _ rfl)) ?_
   rw[B7]at kn2;refine Qp ?_;have bI:=YQ (tryL i) n;simp only[go_sem,da,bI];refine⟨⟨⟨ZB,ZB⟩,by simp only[LIM];omega⟩,?_⟩;have rF:((tryL i).take n).length<=LIM:=by rw[Js,lR];simp only[LIM];omega
   refine IC kn2 rF λt2 Lg2 H5 cZ dy kn=>?_;simp only[go_sem,Qtj];have kn:Kn H H5 [] ((rs.flatMap Prod.snd++Lg2)++Lg):=kn.perm (Qj λf hf h0 hc hp=>by simp only[Ui,hf];omega);refine kn.bk (new:=[[t2]]) aq (.mk' _ _ _ _) (by simp[ak,dy]) (by simp only[Jj,cA,LIM,Jn,Jo];omega) λt3 Lg3 H6 zc tk kn=>?_;simp only[go_sem,Sd];refine Zh ?_;refine⟨Qs,?_⟩;show ∃m,_;refine⟨3-(i+1),ZB,i+1,t3,Lg3,rs++[(t2,Lg2)],rfl,ZB,by simp[cA],?_,?_,?_,?_,rfl,rfl,rfl,rfl⟩
   ·intro p hp;rcases List.mem_append.1 hp with hp|hp
    ·exact bt p hp
    ·rw[Ja]at hp;subst hp;exact dy
   ·rw[J0];exact zc
   ·intro j hj;rw[Jv]at hj;by_cases cL:j<rs.length
    ·rw[List.getElem_append_left cL];exact sa j cL
    ·have jX:j=i:=(by simp at hj;omega);subst jX;rw[List.getElem_append_right ZB];simp only[cA,Nat.sub_self,List.getElem_cons_zero];exact cZ
   ·rw[List.flatMap_append];simpa using kn
  ·intro hc;have bh:i=3:=by
    have:¬((i:Int)<3):=of_decide_eq_false hc;omega
   refine Wb ?_;refine Ze ?_;have hz:=Kr (H:=H1) (S:=un H) (n:=n) rs 0 (by simpa using sa) λp hp=>⟨(kn.get p (by simp only[List.nil_append];exact Ju _ hp)).1,DG (kn.loc p (Ju _ hp))⟩;rw[cA,bh]at hz;exact⟨_,.c _ _ (aq.frzR kn hz),hK _ kn.fin⟩
theorem Qa0m (dM:H 0=.gl 0 tryC)(aR:∀c∈cs,c.fits)(hg:BP cs=true)(hK:∀H',Upd H H' []->K (.c (.sl false 1 (triL (CE cs).toNat))) H'):Qr prog V1 [.ag [.sl fl 3 (Qm cs)]] H K:=by
 have hw:=runW hg;have h0:=hw.ro.n;obtain⟨p0,p3,_⟩:=hw.par (cs.length-1) ZB;have bd:H 0≠.none:=by rw[dM];nofun
 obtain⟨n,hn⟩:∃n:Nat,CE cs=n:=⟨(CE cs).toNat,by rw[CE];omega⟩;have vD:n<=3:=by rw[CE]at hn;omega
 rw[hn]at hK;refine Qd BF Qaft ?_;refine Wj ?_;refine S8 aR λH1 hu=>?_;have kn:=(Kn.an H).aw hu;rw[hg];simp only[go_sem,Iq];refine Qh (Qf (c:=false) rfl (λh=>by cases h) λ_=>?_);refine Zc ?_
 refine Za ?_;refine Q73 h0 ?_;rw[hn];simp only[go_sem,Qi3];refine Qbva ZaP vD λH2 eJ=>?_;have kn:=kn.aw eJ;simp only[go_sem,Sw];refine Ze ?_;exact hK _ kn.upd
end Go.AE.Y
namespace Go.AE.Y
attribute [local go_sem] cond_true cond_false Bool.not_true Bool.not_false
attribute [local instance] Classical.propDecidable
open Go.Proofs.Tryz
variable {H H0:Heap}{K:Uk}{fl:Bool}{cs ds:List CodeD}
def Qb3i:SC:=(.cond (.t 12) (.seq (.reg (
  .f (some 2) none (.mv (.k (.c (.bool true))))::
  []) [2]) .ret) .skip)
def Lb:List Item:=
  .e none none (.sto 1 (.t 3) (.t 14))::
  []
def La:List Item:=
  .e (some 3) none (.alloc [.sl true 3 []])::
  Lb
def KZ:List Item:=
  .f (some 5) none (.mv (.t 19))::
  []
def KY:List Item:=
  .e none none (.sto 1 (.t 4) (.t 18))::
  KZ
def KX:List Item:=
  .f (some 15) none (.mv (.t 17))::
  .f (some 18) none (.ext (.t 15) 0)::
  .f (some 19) none (.ext (.t 15) 1)::
  .e (some 4) none (.alloc [.sl true 3 []])::
  KY
def KW:List Item:=
  .f (some 7) none (.mv (.t 24))::
  []
def KV:List Item:=
  .e none none (.sto 1 (.t 6) (.t 23))::
  KW
def KU:List Item:=
  .f (some 20) none (.mv (.t 22))::
  .f (some 23) none (.ext (.t 20) 0)::
  .f (some 24) none (.ext (.t 20) 1)::
  .e (some 6) none (.alloc [.sl true 3 []])::
  KV
def Hv:List Item:=
  .f (some 32) (some (28,false)) (.not (.t 31))::
  .f (some 33) none (.pick (.t 28) (.k (.c (.bool true))) (.t 32))::
  .f (some 34) none (.mv (.t 33))::
  .f (some 35) (some (34,false)) (.mv (.t 5))::
  .f (some 36) (some (34,false)) (.not (.t 35))::
  .f (some 37) none (.pick (.t 34) (.k (.c (.bool true))) (.t 36))::
  []
def Rb:List Item:=
  .f (some 45) none (.pick (.t 41) (.t 44) (.k (.c (.bool false))))::
  .f (some 2) none (.mv (.t 45))::
  []
def Xd:SC:=(.cond (.t 37) (.seq (.reg (
  .f (some 38) none (.mv (.t 5))::
  .f (some 39) none (.mv (.t 7))::
  .f (some 40) none (.bin 1 .eql (.t 38) (.t 39))::
  .f (some 41) none (.mv (.t 40))::
  .f (some 42) (some (41,true)) (.ld 1 true (.t 4))::
  .f (some 43) (some (41,true)) (.ld 1 true (.t 6))::
  .e (some 44) (some (41,true)) (.call SN [.t 42,.t 43])::
  Rb) [2]) .ret) .skip)
def Ra:List Item:=
  .f (some 48) none (.len (.t 47))::
  .f (some 49) none (.mv (.k (.c (.int .i64 0))))::
  []
def PZ:List Item:=
  .f (some 57) none (.not (.t 56))::
  []
def Xc:SC:=(.cond (.t 57) (.seq (.reg (
  .f (some 2) none (.mv (.k (.c (.bool false))))::
  []) [2]) .ret) .skip)
def Xb:SC:=(.seq (.reg (
  .f (some 53) none (.ld 1 true (.t 3))::
  .f (some 54) none (.ld 1 true (.t 4))::
  .f (some 55) none (.mv (.t 9))::
  .e (some 56) none (.call Vf [.t 53,.t 54,.t 55,.k (.c (.int .i64 800))])::
  PZ) [3,4,47,48,49,57]) Xc)
def Xa:SC:=(.reg (
  .f (some 58) none (.bin 0 .add (.t 49) (.k (.c (.int .i64 1))))::
  .f (some 49) none (.mv (.t 58))::
  []) [3,4,47,48,49])
def VZ:SC:=(.seq (.block 1 (.seq (.reg (
  .f (some 51) none (.iad 1 (.t 47) (.t 49))::
  .f (some 52) none (.ld 1 false (.t 51))::
  .f (some 9) none (.mv (.t 52))::
  []) [3,4,9,47,48,49]) Xb)) Xa)
def Qbuq:SC:=(.seq (.reg (
  .f (some 50) none (.bin 0 .lss (.t 49) (.t 48))::
  []) [3,4,47,48,49,50]) (.seq (.cond (.t 50) .skip (.exit 0)) VZ))
def PY:List Item:=
  .f (some 2) none (.mv (.t 60))::
  []
def VY:SC:=(.seq (.reg (
  .f (some 59) none (.ld 1 true (.t 4))::
  .e (some 60) none (.call Vw [.t 59])::
  PY) [2]) .ret)
def VX:SC:=(.seq (.seq (.reg (
  .f (some 46) none (.ld 1 true (.t 3))::
  .e (some 47) none (.call V1 [.t 46])::
  Ra) [3,4,47,48,49]) (.block 0 (.loop Qbuq))) VY)
def VW:SC:=(.seq (.seq (.reg (
  .f (some 25) none (.mv (.t 5))::
  .f (some 26) none (.mv (.t 7))::
  .f (some 27) none (.bin 1 .neq (.t 25) (.t 26))::
  .f (some 28) none (.mv (.t 27))::
  .f (some 29) (some (28,false)) (.ld 1 true (.t 4))::
  .f (some 30) (some (28,false)) (.ld 1 true (.t 6))::
  .e (some 31) (some (28,false)) (.call SN [.t 29,.t 30])::
  Hv) [3,4,5,6,7,37]) Xd) VX)
def VV (sp:Nat):SC:=(.seq (.reg (
  .f (some 21) none (.ld 1 true (.t 3))::
  .e (some 22) none (.call sp [.t 21])::
  KU) [3,4,5,6,7]) VW)
def VU (im sp:Nat):SC:=(.seq (.reg (
  .f (some 16) none (.ld 1 true (.t 3))::
  .e (some 17) none (.call im [.t 16])::
  KX) [3,4,5]) (VV sp))
def VT (dr im sp:Nat):SC:=(.seq (.reg (
  .f (some 13) none (.mv (.t 0))::
  .e (some 14) none (.call dr [.t 13])::
  La) [3]) (VU im sp))
def VS (dr im sp:Nat):SC:=(.seq (.seq (.reg (
  .f (some 10) none (.mv (.t 0))::
  .f (some 11) none (.len (.t 10))::
  .f (some 12) none (.bin 0 .gtr (.t 11) (.k (.c (.int .i64 1048576))))::
  []) [0,12]) Qb3i) (VT dr im sp))
def Qb66 (dr im sp:Nat):SC:=(.seq (.reg (
  .f (some 2) none (.mv (.k (.c (.bool false))))::
  []) [0]) (VS dr im sp))
theorem Kq (n:Nat):(triL n).length=3:=by simp[triL]
theorem Qb3w (n:Nat){i:Nat}(h:i<3):(triL n).getD i []=[.sl false 1 (Qb ((tryL i).take n))]:=by
 have:i=0\/i=1\/i=2:=ZB
 rcases this with rfl|rfl|rfl <;> rfl
theorem KE {i n:Nat}(h:i<3)(hn:n<=3):((tryL i).take n).length=n:=by rw[Js,Ki h];omega
theorem Qb3x {i n:Nat}(h:i<3):byL ((tryL i).take n):=λv hv=>Qb56 h v (List.mem_of_mem_take hv)
theorem Ye {f:CodeD->CodeD}(h:∀q,(f q).params=q.params):CE (cs.map f)=CE cs:=by
 rw[CE,CE,Qt,Qt,Jj];simp only[Jb,Jq]
 cases cs[cs.length-1]? with
 |none=>rfl
 |some q=>exact h q
theorem Qbsz {f dr im sp:Nat}{P:List CodeD->List CodeD->Prop}{G:List CodeD->Bool}{bs:List UInt8}(hm:mFn prog f 1 61 (Qb66 dr im sp) BH=true)
  (sv:∀(bs:List UInt8) (H:Heap) (K:V->Heap->Prop),(∀cs H',Upd H H' []->UnitOk cs->K (.ag [.sl false 3 (Qm cs)]) H')->Qr prog dr [.c (.sl false 1 (C7 bs))] H K)
  (yM:∀(cs:List CodeD) (H:Heap) (K:V->Heap->Prop),(∀c∈cs,c.fits)->(∀ds H',P cs ds->Upd H H' []->K (.tup [.ag [.sl false 3 (Qm ds)],.c (.bool (G cs))]) H')->Qr prog im [.ag [.sl false 3 (Qm cs)]] H K)
  (lU:∀(cs:List CodeD) (H:Heap) (K:V->Heap->Prop),(∀c∈cs,c.fits)->(∀ds H',P cs ds->Upd H H' []->K (.tup [.ag [.sl false 3 (Qm ds)],.c (.bool (G cs))]) H')->Qr prog sp [.ag [.sl false 3 (Qm cs)]] H K)
  (qi:∀cs ds ds',P cs ds->P cs ds'->ds=ds') (uA:∀cs ds,(∀c∈cs,c.fits)->P cs ds->∀c∈ds,c.fits)
  (hG:∀cs ds,P cs ds->G cs=true->BP cs=true/\BP ds=true/\CE ds=CE cs/\∀l,Ek cs ds l 800)
  (dM:H 0=.gl 0 tryC) (hK:∀H',K (.c (.bool true)) H'):Qr prog f [.c (.sl false 1 (C7 bs))] H K:=by
 refine Qd BF hm ?_;have bd:H 0≠.none:=by rw[dM];nofun
 have retT':∀(e:Env) (H':Heap),lk 2 e=.c (.bool true)->Q4 BH K .ret e H':=by
  intro e H' h2;simp only[go_sem,Q4,BE,Ja,forall_eq,RS.op,h2];exact hK H'
 refine Wh ?_;simp only[go_sem,EE];intro _;refine Qh (Qf rfl (λhc=>?_) (λhc=>?_))
 ·refine Za ?_;refine Ql ?_;exact retT' _ _ rfl
 refine Zc ?_
 refine Za ?_;refine sv bs _ _ λcs H1 hu ax=>?_;have aR:=ax.fits;have kn:=(Kn.an H).aw hu;simp only[go_sem,La];intro x3 aL H2 h2;have kn:=kn.al aL h2;have aL:=kn.l 0 rfl;simp only[go_sem,Lb,aL];intro H3 h3;have kn:Kn H H3 [] [(x3,.st [.sl false 3 (Qm cs)])]:=kn.aB 0 rfl h3;have aL:=kn.l 0 rfl;refine Zj aL ?_;refine yM cs _ _ aR λds H4 gc hu=>?_;have vN:=uA cs ds aR gc;have kn:=kn.aw hu;simp only[go_sem,KX,Jd,Jf];intro x4 aY H5 h5;have kn:=kn.al aY h5;have aY:=kn.l 1 rfl;simp only[go_sem,KY,aY];intro H6 h6;have kn:Kn H H6 [] [(x3,.st [.sl false 3 (Qm cs)]),(x4,.st [.sl false 3 (Qm ds)])]:=kn.aB 1 rfl h6;have aL:=kn.l 0 rfl;simp only[go_sem,KZ];refine Zj aL ?_;refine lU cs _ _ aR λds' H7 zk hu=>?_;obtain rfl:=qi cs ds ds' gc zk;have kn:=kn.aw hu;simp only[go_sem,KU,Jd,Jf];intro x6 be H8 h8;have kn:=kn.al be h8;have be:=kn.l 2 rfl;simp only[go_sem,KV,be];intro H9 h9;have kn:Kn H H9 [] [(x3,.st [.sl false 3 (Qm cs)]),(x4,.st [.sl false 3 (Qm ds)]),(x6,.st [.sl false 3 (Qm ds)])]:=kn.aB 2 rfl h9;have aY:=kn.l 1 rfl;have be:=kn.l 2 rfl;simp only[go_sem,KW];refine Q1 ?_
 cases hg:G cs with
 |false=>
  refine Zm aY be ?_;refine TQ λH10 hu=>?_;have kn:=kn.aw hu;have aY:=kn.l 1 rfl;have be:=kn.l 2 rfl;simp only[go_sem,Hv];refine Wu ?_ ?_
  ·intro _;refine Zm aY be ?_;refine TQ λH11 hu=>?_;simp only[go_sem,Rb];refine Ql ?_;exact retT' _ _ rfl
  ·intro h;simp at h
 |true=>
  obtain⟨eO,cZ,hmp,fT⟩:=hG cs ds gc hg;refine Zm aY be ?_;refine TQ λH10 hu=>?_;have kn:=kn.aw hu;simp only[go_sem,Hv];refine Wu ?_ ?_
  ·intro h;simp at h
  intro _;refine Zc ?_
  have kn:Kn H H10 [] [(x3,.st [.sl false 3 (Qm cs)]),(x4,.st [.sl false 3 (Qm ds)])]:=Kn.drop (A:=[_,_]) (B:=[_]) kn;have aL:=kn.l 0 rfl;refine Q1 (Qa ?_);simp only[go_sem,aL];refine Qa0m ZaP aR eO λH11 hu=>?_;have kn:=kn.aw hu;obtain⟨p0,p3,_⟩:=(runW eO).par (cs.length-1) (by have:=(runW eO).ro.n;omega);obtain⟨n,hn⟩:∃n:Nat,CE cs=n:=⟨(CE cs).toNat,by rw[CE];omega⟩;have vD:n<=3:=by rw[CE]at hn;omega
  rw[hn,Int.toNat_natCast];simp only[go_sem,Ra,Kq];try intro _
  refine Qh (Qe (Qw (λmm e1 H1=>∃(i:Nat),mm=3-i/\i<=3/\Kn H H1 [] [(x3,.st [.sl false 3 (Qm cs)]),(x4,.st [.sl false 3 (Qm ds)])]/\
   lk 3 e1=Up x3/\lk 4 e1=Up x4/\lk 47 e1=.c (.sl false 1 (triL n))/\lk 48 e1=Uv 3/\lk 49 e1=Uv i) 3 ?_ ?_))
  ·exact⟨0,ZB,ZB,kn,rfl,rfl,rfl,rfl,rfl⟩
  ·clear kn aL aY be;rintro mm e1 H12 ⟨i,ez,hi,kn,l3,l4,l47,l48,l49⟩;have aL:=kn.l 0 rfl;have aY:=kn.l 1 rfl;refine Qa ?_;simp only[go_sem,l3,l4,l47,l48,l49];refine Wu ?_ ?_
   ·intro bH;have af:i<3:=(by have:(i:Int)<3:=of_decide_eq_true bH;omega);refine Zc ?_
    refine Wi ?_;simp only[go_sem,af,Kq,Qb3w n af];refine Zm aL aY ?_;refine Qbk4 (S:=800) aR vN eO cZ (by rw[KE af vD,hn]) (by rw[KE af vD,hmp,hn]) (Qb3x af) ZB (fT _) λH13 hu=>?_;have kn:=kn.aw hu;simp only[go_sem,PZ];refine Qf (c:=false) rfl (λh=>by cases h) λ_=>?_;refine Zc ?_
    refine Zh ?_;refine⟨Qs,?_⟩;show ∃m,_;exact⟨3-(i+1),ZB,i+1,rfl,ZB,kn,rfl,rfl,rfl,rfl,rfl⟩
   ·intro bH;refine Zb ?_;refine Zj aY ?_;refine S8 vN λH13 hu=>?_;rw[cZ];simp only[go_sem,PY];refine Ql ?_;exact retT' _ _ rfl
end Go.AE.Y
namespace Go.AE.Y
attribute [local instance] Classical.propDecidable
open Go.Proofs.Tryz
variable {H:Heap}{K:Uk}{cs ds:List CodeD}{q:CodeD}{bs:List UInt8}{fl:Bool}
theorem Qblv (hs:SkOk q)(hK:∀H',Upd H H' []->K (.ag (skD q).cells) H') :
  Qr prog Sk [.ag [Ui q.params,Ui q.ae,.sl false 5 (Qo q.blocks)],.c (.str [115,107,105,112])] H K:=by
 refine Qy ?_;refine Qd BF RC ?_;refine Za ?_;intro x4 aY H1 h1;have kn:=(Kn.an H).al aY h1;refine Wa ?_;refine Wg ?_;refine Qf rfl (λhc=>absurd hc ZO) (λ_=>?_);refine Za ?_;refine Qf rfl (λhc=>absurd hc ZO) (λ_=>?_);refine Za ?_;refine Qf rfl (λhc=>absurd hc ZO) (λ_=>?_);refine Za ?_;refine Qf rfl (λhc=>absurd hc ZO) (λ_=>?_);refine Za ?_;refine Qf rfl (λhc=>absurd hc ZO) (λ_=>?_);refine Za ?_;refine Qf rfl (λhc=>absurd hc ZO) (λ_=>?_);refine Za ?_;refine Qf rfl (λhc=>absurd hc ZO) (λ_=>?_);refine Za ?_;refine Qf rfl (λhc=>absurd hc ZO) (λ_=>?_);refine Za ?_;refine Qf rfl (λhc=>absurd hc ZO) (λ_=>?_);refine Za ?_;refine Qf rfl (λ_=>?_) (λhc=>absurd hc ZO);refine Za ?_;refine Qbq4 hs λH2 hu=>?_;have kn:=kn.aw hu;have aY:=kn.l 0 rfl;simp only[go_sem,Q3n,CodeD.cells,aY];intro H3 h3;have kn:=kn.aB 0 rfl h3;have aY:=kn.l 0 rfl;refine Zo aY ?_;exact⟨_,FrzL.ag (.cons (.same _ rfl) (.cons (.same _ rfl) (.cons (.same _ rfl) .nil))),hK _ kn.fin⟩
theorem KN (h:q.fits):∀n,(Nat.repeat skS n q).fits
 |0=>h
 |n+1=>λy hy=>by
  obtain⟨x,hx,rfl⟩:=J7.1 hy;exact KN h n x hx
theorem Qbo7 (q:CodeD):(skE q).params=q.params:=by
 rw[skE];exact (FR 160).1
theorem Qbo6 (q:CodeD):(skD q).params=q.params:=by
 rw[skD];have h:∀p:CodeD,(drpE p).params=p.params:=λp=>rfl;rw[h,Qbo7]
theorem Km (h:q.fits):(skD q).fits:=Qb25 (KN h 160)
theorem Kl (cs:List CodeD):CJ (perL skD cs) (BP cs)=perL skD cs/\(BP cs&&BP (perL skD cs))=BP cs:=by
 cases hg:BP cs with
 |false=>simp[CJ,perL,hg]
 |true=>
  have h:=KS hg;have e:perL skD cs=cs.map skD:=by rw[perL,if_pos hg]
  rw[e,CJ,h];simp
theorem Qave (aR:∀c∈cs,c.fits)(hK:∀H',Upd H H' []->K (.tup [.ag [.sl false 3 (Qm (perL skD cs))],.c (.bool (BP cs))]) H') :
  Qr prog Vx [.ag [.sl fl 3 (Qm cs)]] H K:=by
 refine Qy ?_;refine Qd BF Qand ?_;refine Za ?_;intro x2 aI H1 h1;have kn:=(Kn.an H).al aI h1;simp only[go_sem,Iu];refine Za ?_;refine Qbmh (f:=skD) aR (λhg p hp H K fl hK=>?_) λH2 hu=>?_
 ·obtain⟨i,hi,rfl⟩:=J1.1 hp;exact Qbiq (Ko hg hi) hK
 have kn:=kn.aw hu;have aI:=kn.l 0 rfl;simp only[go_sem,It,aI,Jd,Jf];intro H4 h4;have kn:=kn.aB 0 rfl h4;have aI:=kn.l 0 rfl;simp only[go_sem,Iw];refine Ql ?_;simp only[go_sem,Q4,BE,Jm,Jt,RS.op,aI];exact⟨λ_=>trivial,_,E4 (Eo _) (.c _ _ (Qg rfl)),hK _ kn.fin⟩
theorem Qa0c (aR:∀c∈cs,c.fits)(hK:∀H',Upd H H' []->K (.tup [.ag [.sl false 3 (Qm (perL skD cs))],.c (.bool (BP cs))]) H') :
  Qr prog Vp [.ag [.sl fl 3 (Qm cs)]] H K:=by
 refine Qy ?_;refine Qd BF Qanu ?_;refine Za ?_;intro x2 aI H1 h1;have kn:=(Kn.an H).al aI h1;simp only[go_sem,Iu];refine Za ?_;refine Qblr (f:=skD) aR (Rl (f:=skD) aR λc h=>Km h) (λhg p hp H K hK=>?_) λH2 hu=>?_
 ·obtain⟨i,hi,rfl⟩:=J1.1 hp;exact Qblv (Ko hg hi) hK
 rw[(Kl cs).1,(Kl cs).2];have kn:=kn.aw hu;have aI:=kn.l 0 rfl;simp only[go_sem,It,Jd,Jf,aI];intro H3 h3;have kn:=kn.aB 0 rfl h3;have aI:=kn.l 0 rfl;simp only[go_sem,Iw];refine Ql ?_;simp only[go_sem,Q4,BE,Jm,Jt,RS.op,aI];exact⟨λ_=>trivial,_,E4 (Eo _) (.c _ _ (Qg rfl)),hK _ kn.fin⟩
theorem Qaex {fl:Bool}(hK:∀(cs:List CodeD) (H':Heap),Upd H H' []->UnitOk cs->K (.ag [.sl false 3 (Qm cs)]) H'):Qr prog VE [.c (.sl fl 1 (C7 bs))] H K:=by
 refine Qy ?_;refine Qd BF Q2a ?_;refine Za ?_;intro x2 aI H1 h1;have kn:=(Kn.an H).al aI h1;refine Za ?_;refine Qbq3 λcs H2 hu ax=>?_;have kn:=kn.aw hu;have aI:=kn.l 0 rfl;simp only[go_sem,Qfs,aI];intro H3 h3;have kn:=kn.aB 0 rfl h3;have aI:=kn.l 0 rfl;refine Zo aI ?_;exact⟨_,Eo cs,hK cs _ kn.fin ax⟩
theorem FnSkipRuns_c (dM:H 0=.gl 0 tryC)(hK:∀H',K (.c (.bool true)) H'):Qr prog Qabi [.c (.sl false 1 (C7 bs))] H K:=
 Qbsz (dr:=VE) (im:=Vx) (sp:=Vp) (P:=λcs ds=>ds=perL skD cs) (G:=BP) ZF (λbs H K h=>Qaex h)
  (λcs H K hf h=>Qave hf λH' hu=>h _ H' rfl hu) (λcs H K hf h=>Qa0c hf λH' hu=>h _ H' rfl hu) (λcs a b h1 h2=>h1.trans h2.symm) (λcs ds hf h=>by rw[h];exact Rl (f:=skD) hf λc h=>Km h)
  (λcs ds h hg=>by
   have e:perL skD cs=cs.map skD:=by rw[perL,if_pos hg]
   rw[h,e];exact⟨hg,KS hg,Ye Qbo6,λl=>VP hg l ZB⟩) dM hK
end Go.AE.Y
namespace Go.AE.Y
open Go.ChangeShapes Go.WideShapes Go.ChangeAt Go.RowKit
def Hu (w:World)(a:Option Addr)(len cap:Nat)(zs:List Int):Prop:=
 (a=none/\len=0/\cap=0/\zs=[])\/
 ∃x,a=some x/\len<=cap/\zs.length=cap/\(∀i,i<zs.length->w.cell? (x.add i)=some (.int .u8 (zs.getD i 0)))/\∀n∈zs,(Lit.int .u8 n).wf=true
def gh3 (w:World):G:=⟨λb=>decide (b<w.heap.size),λ_=>none,λl=>if l=0 then some (0,9,0)else none⟩
def hp3:Heap:=λl=>if l=0 then .gl 0 tryC else .none
def tryZ:List Int:=[0,0,0,1,2,3,255,16,7]
theorem Qbo4 (w:World)(ht:∀j,j<9->w.cell? ⟨0,j,none⟩=some (.int .i64 (tryZ.getD j 0))):Sat hp3 (gh3 w) w:=by
 have h0:0<w.heap.size:=by
  have:=ht 0 ZB;rcases Jw w.heap.size with h|h
  ·simp[World.cell?,Jz (show w.heap.size<=0 by omega)]at this
  ·exact h
 have hz:∀(j:Nat) (c:C),tryC[j]? = some c->j<9/\c=.int .i64 (tryZ.getD j 0):=by
  intro j c h;have hj:j<9:=(Jx.1 h).1;refine⟨hj,?_⟩;have e:tryC=BV tryZ:=rfl;rw[e,BV,Jq]at h;have hl:j<tryZ.length:=hj;rw[Jg hl]at h;simp at h;rw[<-h,Jb,Jg hl];rfl
 refine⟨λb hb=>⟨by simp[gh3];omega,rfl⟩,⟨1,λl hl=>by simp[gh3];omega⟩,λb x h=>by simp[gh3]at h,λb l p h=>by simp[gh3]at h,λl=>?_⟩;by_cases hl:l=0
 ·subst hl;refine⟨9,λj=>.int .i64 (tryZ.getD j 0),by simp[gh3],by simpa[gh3]using h0,λj c h=>?_,λj c h=>?_⟩
  ·exact ht j (hz j c h).1
  ·rw[(hz j c h).2];exact .int _ _
 ·rw[hp3,if_neg hl];trivial
theorem Qb09 {n:Int}(h:(Lit.int .u8 n).wf=true):((UInt8.ofNat n.toNat).toNat:Int)=n:=by
 simp only[Lit.wf,Jh,decide_eq_true_eq]at h;have a1:IntKind.min .u8=0:=ZO
 have a2:IntKind.max .u8=255:=ZO
 rw[a1,a2]at h;rw[UInt8.toNat_ofNat'];omega
theorem calls_of_acall3 {P:Program}{f:Nat}(h:∀bs:List UInt8,bs.length<=1048576->Qr P f [.c (.sl false 1 (C7 bs))] hp3 λv _=>v=.c (.bool true))
  {a0:Option Addr} {len0 cap0:Nat} {z0:List Int} {w:World} (ht:∀j,j<9->w.cell? ⟨0,j,none⟩=some (.int .i64 (tryZ.getD j 0))) (hr:Hu w a0 len0 cap0 z0) (hl:len0<=1048576) :
  Calls P f #[.slice a0 len0 cap0] w λe w'=>e=.returned (.bool true)/\Below w.heap.size w w':=by
 have key:∃bs:List UInt8,bs.length=len0/\RepC w (gh3 w) (.sl false 1 (C7 bs)) (.slice a0 len0 cap0):=by
  rcases hr with ⟨rfl,rfl,rfl,rfl⟩|⟨x,rfl,vH,hz,bZ,hwf⟩
  ·exact⟨[],rfl,.bV _ _ _⟩
  ·obtain⟨b,off,spot⟩:=x;have bu:((z0.take len0).map λn=>UInt8.ofNat n.toNat).length=len0:=ZG
   by_cases h0:cap0=0
   ·subst h0;have:len0=0:=ZB;subst this;exact⟨[],rfl,.bV _ _ _⟩
   have dd:=bZ 0 ZB;have tr:spot=none:=by simpa[Addr.add]using World.cell?_spot dd
   subst tr;have zK:∀i,(⟨b,off,none⟩:Addr).add i=⟨b,off+i,none⟩:=by
    intro i;by_cases h:i=0 <;> simp[Addr.add,h]
   have hb:b<w.heap.size:=by
    rcases J8 b w.heap.size with h|h
    ·exact h
    ·simp[World.cell?,Addr.add,Jz h]at dd
   refine⟨_,bu,?_⟩;have b7:∀(i:Nat) (row:List C),(C7 ((z0.take len0).map λn=>UInt8.ofNat n.toNat))[i]? = some row->i<len0/\row=[.int .u8 (z0.getD i 0)]:=by
    intro i row hi;have af:i<len0:=by
     rcases J8 i len0 with h|h
     ·exact h
     ·rw[Jl (by rw[EE];omega)]at hi;simp at hi
    have rQ:i<z0.length:=ZB;refine⟨af,?_⟩;simp only[C7,Jq,List.getElem?_take,if_pos af,Jg rQ,Option.map_some,J5]at hi;rw[<-hi,Qb09 (hwf _ (Jk rQ))];simp[Jb,rQ]
   have:=RepC.sl (w:=w) (g:=(gh3 w)) false 1 (C7 ((z0.take len0).map λn=>UInt8.ofNat n.toNat)) b off cap0 (λi _=>.int .u8 (z0.getD i 0))
    (by rw[EE,bu];simp only[LIM];omega) ZD (by rw[EE,bu];exact vH) (by simpa[gh3]using hb)
    (λi row hi=>by rw[(b7 i row hi).2];rfl)
    (λi row j c hi hj=>by
     obtain⟨h1,rfl⟩:=b7 i row hi;have lh:j=0:=by
      rcases Jw j with h|h
      ·exact h
      ·rw[Jl ZG]at hj;simp at hj
     subst lh;have:=bZ i ZB;rw[zK]at this;simpa using this)
    (λi row j c hi hj=>by
     obtain⟨h1,rfl⟩:=b7 i row hi;have lh:j=0:=by
      rcases Jw j with h|h
      ·exact h
      ·rw[Jl ZG]at hj;simp at hj
     subst lh;simp at hj;subst hj;exact .int _ _)
   rw[EE,bu]at this;exact this
 obtain⟨bs,bu,dt⟩:=key;have hc:=(h bs ZB).2 _ w [.slice a0 len0 cap0] (Qbo4 w ht) rfl (λj x u hj hu=>by
  cases j with
  |zero=>simp at hj hu;subst hj;subst hu;exact .c _ _ dt
  |succ j=>simp at hj)
 refine hc.mono λe w'=>?_;rintro (⟨v,x,H',g',rfl,rfl,aN,hv⟩|⟨v,H',g',_,h,_⟩)
 rotate_left
 ·cases h
 have:v=.bool true:=by cases hv with|c _ _ h=>cases h;rfl
 subst this;exact⟨rfl,aN.le.os,aN.le.tape,aN.le.output,aN.le.size,λk hk=>(aN.le.per k (by simpa[gh3]using hk)).2⟩
end Go.AE.Y
