/- Part 5 of the proof: the engine, codes, walks and plain laws, each named where it stands. -/
import Derived.Test.YtlfdcfggpccakaaGreatDoorZD
import Derived.Defers
import Derived.Laws.Pointers
import Derived.Recover
open Nat (reduceEqDiff reduceAdd reduceLeDiff reduceLT)
set_option linter.unusedVariables false
set_option linter.unusedSimpArgs false
set_option maxRecDepth 4000
namespace Go.AE.Y
attribute [local go_sem] cond_true cond_false Bool.not_true Bool.not_false
open Go.Proofs.Tryz
variable {H H' H0:Heap}{K:V→Heap→Prop}{E A A' B Li:List (Nat×Obj)}{X:Rn}{r r':Rs}
section
variable {cs:List CodeD}{k b:Nat}{x:InsD}{t:List InsD}{R s c:List Int}{fs:List Fr}
theorem Qblb (h:x.op=1):stI cs k b x t R fs s c=.go (⟨k,b,t,R.set x.to.toNat x.n⟩::fs) s c:=by rw[stI];simp[h]
theorem Qbmv (h:x.op=11):stI cs k b x t R fs s c=if 16≤ar R x 0 then .dn 2 0 s c else .go (⟨k,b,t,R.set x.to.toNat (rg c (ar R x 0))⟩::fs) s c:=by rw[stI];simp[h]
theorem Qblc (h:x.op=12):stI cs k b x t R fs s c=if 16≤ar R x 0 then .dn 2 0 s c else .go (⟨k,b,t,R⟩::fs) s (c.set (ar R x 0).toNat (ar R x 1)):=by rw[stI];simp[h]
theorem Qbld (h:x.op=13):stI cs k b x t R fs s c=.go (⟨k,b,t,R⟩::fs) (s++[ar R x 0]) c:=by rw[stI];simp[h]
theorem Qbiu (h:x.op=14):stI cs k b x t R fs s c=.go (fr0 cs x.n.toNat (x.args.map (rg R))::⟨k,b,x::t,R⟩::fs) s c:=by rw[stI];simp[h]
theorem Qbiv (h:x.op=2):stI cs k b x t R fs s c=.go (⟨k,b,t,R.set x.to.toNat (ar R x 0)⟩::fs) s c:=by rw[stI];simp[h]
theorem Qbla (h:x.op=10):stI cs k b x t R fs s c=.go (⟨k,b,t,R.set x.to.toNat (trI (ar R x 0=0))⟩::fs) s c:=by rw[stI];simp[h,arR]
theorem Qbmu (h3:3≤x.op)(h9:x.op≤9):stI cs k b x t R fs s c=if (arP x.op (ar R x 0) (ar R x 1)).2=true then .go (⟨k,b,t,R.set x.to.toNat (arP x.op (ar R x 0) (ar R x 1)).1⟩::fs) s c else .dn 1 0 s c:=by
 rw[stI,arP]
 simp only[show ¬x.op=1 by omega,show ¬x.op=11 by omega,show ¬x.op=12 by omega,show ¬x.op=13 by omega,show ¬x.op=14 by omega,show ¬x.op=2 by omega,if_false]
 cases arR x.op (ar R x 0) (ar R x 1) <;> simp
end
theorem Qbjj {op a b:Int}(ha:byI a)(hb:byI b):byI (arP op a b).1:=by
 rw[arP]
 cases h:arR op a b with
 |none=>exact⟨by simp,by simp⟩
 |some v=>exact Qbjl ha hb h
structure InsW (cs:List CodeD)(k:Nat)(x:InsD):Prop where
 op:1≤x.op∧x.op≤14
 n1:x.op=1→byI x.n
 args:∀v∈x.args,0≤v∧v.toNat<(Qu cs k).regs.toNat
 to:Qhe x.op=true→0≤x.to∧x.to.toNat<(Qu cs k).regs.toNat
 len:¬x.op=14→(x.args.length:Int)=Qgx x.op
 cal:x.op=14→0≤x.n∧x.n.toNat<k∧(x.args.length:Int)=(Qu cs x.n.toNat).params
 al:x.args.length≤3
def Rdb (Li:List (Nat×Obj))(rows:List (List C))(c:C):Prop:=(Li=[]∧∃fl,c=.sl fl 1 rows)∨Gr Li 1 rows c
theorem Rdb.slc {rows:List (List C)}{c:C}(h:Rdb Li rows c)(kn:Kn H0 H E (B++Li)):Slc H 1 rows c:=by
 rcases h with ⟨_,fl,rfl⟩|h
 ·exact .mk' _ _ _ _
 ·exact h.slc kn
theorem Rdb.isOw {rows:List (List C)}{c:C}(h:Rdb Li rows c):c.isOw=false:=by
 rcases h with ⟨_,fl,rfl⟩|h
 ·rfl
 ·exact h.isOw
def Qbbo (X:Rn)(m:Nat):Prop:=∀(H0 H:Heap) (E B Li:List (Nat×Obj)) (r:Rs) (k:Nat) (l:List Int) (inc:C) (main:Bool) (fs:List Fr) (K:V→Heap→Prop),
 m≤r.u→Kn H0 H E (X.F r Li B)→r.ok X→k<X.cs.length→Rdb Li (Qb l) inc→(l.length:Int)=(Qu X.cs k).params→byL l→r.t.length≤r.u→
 (∀v r' H',Kn H0 H' E (X.F r' Li B)→r'.ok X→byI v→r'.t.length≤r'.u→(main=false→r'.t=r.t)→Goes X.cs X.S r.u (.go (fr0 X.cs k l::fs) r.s r.c) r'.u (rtn v fs r'.s r'.c)→K (.c (.int .i64 v)) H')→
 (∀e r' H',Kn H0 H' E (X.F r' Li B)→r'.ok X→(main=false→r'.t=r.t)→Halts X.cs X.S r.u (.go (fr0 X.cs k l::fs) r.s r.c) e r'.s r'.c→K (.pn (endV e)) H')→
 Qp prog Qcd [.c (.ptr X.l 0),.c (.int .i64 k),.c inc,.c (.bool main)] H K
theorem Qb6 (R:List Int):(Qb R).take R.length=Qb R:=List.take_of_length_le (by rw[Qc];exact Nat.le_refl _)
theorem Qakz {op to n:Int}{args R:List Int}{rl:Nat}(i:Nat)(hR:H rl=.vec 1 (Qb R))(hi:i<args.length)(hv:0≤args.getD i 0∧(args.getD i 0).toNat<R.length)(hK:K (.c (.int .i64 (rg R (args.getD i 0)))) H) :
  Qp prog Qbi [.c (.int .i64 (i:Int)),.c (.pp [.vsl rl 1 0 R.length]),.c (.pp [.int .i64 op,.int .i64 to,.sl false 1 (Qb args),.int .i64 n])] H K:=by
 refine Qd Qak Qpy ?_
 refine Qa ?_
 simp only[go_sem]
 refine Qag ?_
 obtain⟨v,hvv⟩:∃v:Nat,args.getD i 0=v:=⟨(args.getD i 0).toNat,by omega⟩
 rw[hvv]at hv hK
 have hv2:v<R.length:=by simpa using hv.2
 simp only[go_sem,hR,hi,hvv,hv2,Qc,Qm _ _ hi,Qm _ _ hv2,Qb6,Nat.zero_add]
 refine Qk ?_
 simp only[go_sem,Q3,Q9,Qfe,List.mem_singleton,forall_eq,RS.op]
 exact hK
theorem F_g (k:Kn H0 H E (X.F r A (Li++B))):Kn H0 H E (([(X.l,X.o r)]++(A++((r.so++r.tl)++B)))++Li):=k.perm (Qj fun f hf h0 hc hp=>by simp only[Rn.F,hf,h0];omega)
theorem F_g' (k:Kn H0 H E (([(X.l,X.o r)]++(A++((r.so++r.tl)++B)))++Li)):Kn H0 H E (X.F r A (Li++B)):=k.perm (Qj fun f hf h0 hc hp=>by simp only[Rn.F,hf,h0];omega)
theorem F_sw (k:Kn H0 H E (X.F r A (A'++B))):Kn H0 H E (X.F r A' (A++B)):=k.perm (Qj fun f hf h0 hc hp=>by simp only[Rn.F,hf,h0];omega)
theorem Qbjo {b c d:C}{m:List C}{j:Nat}:(b::c::d::m).drop (4+j)=m.drop (j+1):=by rw[show 4+j=(j+1)+3 by omega];rfl
set_option maxHeartbeats 8000000 in
theorem Qbgq {op to n:Int}{args R:List Int}{rl k b:Nat}{t:List InsD}{fs:List Fr}(hx:InsW X.cs k ⟨op,to,args,n⟩)(hcl:k<X.cs.length)(hRl:R.length=(Qu X.cs k).regs.toNat)(hb:byL R)
  (kn:Kn H0 H E (X.F r [(rl,.vec 1 (Qb R))] B)) (hr:r.ok X) (hrec:Qbbo X (r.u+1))
  (hK:∀R' r' H',Kn H0 H' E (X.F r' [(rl,.vec 1 (Qb R'))] B)→r'.ok X→R'.length=R.length→byL R'→r'.t=r.t→r.u<r'.u→
   Goes X.cs X.S r.u (.go (⟨k,b,⟨op,to,args,n⟩::t,R⟩::fs) r.s r.c) r'.u (.go (⟨k,b,t,R'⟩::fs) r'.s r'.c)→K (.tup []) H')
  (hP:∀e r' H',Kn H0 H' E (X.F r' [] B)→r'.ok X→r'.t=r.t→Halts X.cs X.S r.u (.go (⟨k,b,⟨op,to,args,n⟩::t,R⟩::fs) r.s r.c) e r'.s r'.c→K (.pn (endV e)) H') :
  Qp prog Qdb [.c (.ptr X.l 0),.ag [.int .i64 op,.int .i64 to,.sl false 1 (Qb args),.int .i64 n],.c (.vsl rl 1 0 R.length)] H K:=by
 obtain⟨⟨o1,o14⟩,hn1,hargs,hto,hlen,hcal,hal⟩:=hx
 simp only at o1 o14 hn1 hargs hto hlen hcal hal
 rw[←hRl]at hargs hto
 have hav:∀i,i<args.length→0≤args.getD i 0∧(args.getD i 0).toNat<R.length:=fun i hi=>by
  rw[List.getD_eq_getElem?_getD,List.getElem?_eq_getElem hi]
  exact hargs _ (List.getElem_mem hi)
 refine Qd Qak Qyl ?_
 have hfin:∀e H',K (.tup []) H'→Q3 Qcf K .nrm e H':=by
  intro e H' h
  simp only[go_sem,Q3,Q9,Qcf]
  exact h
 refine Qa ?_
 simp only[go_sem]
 refine Qa ?_
 simp only[go_sem]
 refine Qbgb kn hr (fun H1 hu kn hr1=>?_) (fun hu=>?_)
 rotate_left
 ·simp only[go_sem]
  refine hP 3 r H (Qvo (A:=[]) kn) hr rfl ?_
  rw[hu];exact .fuel
 obtain⟨r1,e1⟩:∃r1,({ r with u:=r.u+1 }:Rs)=r1:=⟨_,rfl⟩
 have eu:r1.u=r.u+1:=by rw[←e1]
 have es:r1.s=r.s:=by rw[←e1]
 have ec:r1.c=r.c:=by rw[←e1]
 have et:r1.t=r.t:=by rw[←e1]
 rw[e1]at kn hr1
 clear e1
 have hR1:=kn.l 1 rfl
 have hX:=F_o kn
 have hmt:=hr1.mt
 have one:∀Y,stI X.cs k b ⟨op,to,args,n⟩ t R fs r.s r.c=Y→Goes X.cs X.S r.u (.go (⟨k,b,⟨op,to,args,n⟩::t,R⟩::fs) r.s r.c) r1.u Y:=fun Y h=>by
  rw[eu];exact .one hu h
 have bad:∀e,¬e=3→stI X.cs k b ⟨op,to,args,n⟩ t R fs r.s r.c=.dn e 0 r.s r.c→Halts X.cs X.S r.u (.go (⟨k,b,⟨op,to,args,n⟩::t,R⟩::fs) r.s r.c) e r1.s r1.c:=fun e he h=>by
  rw[es,ec];exact .one hu he h
 have knP:=Qvo (A:=[]) kn
 have hRlen:(Qb R).length=R.length:=Qc R
 have setR:∀(j:Nat) (v:Int) (H2:Heap),to=(j:Int)→byI v→H2=H1.set rl (.vec 1 (Qb (R.set j v)))→stI X.cs k b ⟨op,to,args,n⟩ t R fs r.s r.c=.go (⟨k,b,t,R.set to.toNat v⟩::fs) r.s r.c→∀e,Q3 Qcf K .nrm e H2:=by
  intro j v H2 hj hv h2 hst e
  refine hfin _ _ (hK (R.set j v) r1 H2 (kn.stL 1 rfl h2) hr1 (by simp) (hb.set hv j) et (by omega) ?_)
  rw[es,ec]
  refine one _ ?_
  rw[hst,hj];rfl
 refine Qa ?_
 simp only[go_sem]
 refine Qa ?_
 simp only[go_sem]
 refine Qg ?_
 refine Qa ?_
 simp only[go_sem]
 refine Qe rfl (fun hc=>?_) (fun hc=>?_)
 ·
  have ho:op=1:=of_decide_eq_true hc
  obtain⟨t0,t1⟩:=hto (by rw[ho];rfl)
  obtain⟨j,hj⟩:∃j:Nat,to=j:=⟨to.toNat,by omega⟩
  have hj2:j<R.length:=by omega
  refine Qt ?_
  simp only[go_sem,hR1,hj,hj2,hRlen,Qc,Qm _ _ hj2,Qdh,Qb6,Nat.zero_add]
  intro H2 h2
  exact setR j n H2 hj (hn1 ho) h2 (Qblb ho) _
 have n1:=of_decide_eq_false hc
 refine Qa ?_
 simp only[go_sem]
 refine Qe rfl (fun hc=>?_) (fun hc=>?_)
 ·
  have ho:op=11:=of_decide_eq_true hc
  have hl:args.length=1:=by have:=hlen (by omega);rw[ho]at this;simp[Qgx]at this;omega
  obtain⟨t0,t1⟩:=hto (by rw[ho];rfl)
  obtain⟨j,hj⟩:∃j:Nat,to=j:=⟨to.toNat,by omega⟩
  have hj2:j<R.length:=by omega
  refine Qbf ?_
  simp only[go_sem,hR1,hj,hj2,hRlen,Qc,Qb6,Nat.zero_add]
  refine Qakz 0 hR1 (by omega) (hav 0 (by omega)) ?_
  have hvb:=hb.rg (args.getD 0 0)
  have hst:=Qbmv (cs:=X.cs) (k:=k) (b:=b) (x:=⟨op,to,args,n⟩) (t:=t) (R:=R) (fs:=fs) (s:=r.s) (c:=r.c) ho
  have har:ar R ⟨op,to,args,n⟩ 0=rg R (args.getD 0 0):=rfl
  rw[har]at hst
  obtain⟨v,hv⟩:∃v,rg R (args.getD 0 0)=v:=⟨_,rfl⟩
  rw[hv]at hst hvb
  rw[hv]
  simp only[go_sem,Qfk]
  refine Qbfw hvb.1 (fun h16=>?_) (fun h16=>?_)
  ·have hg:=hr1.get (j:=v.toNat) (by omega)
   have hd:=eq_true (show 1≤(r1.mt.drop v.toNat).length by rw[hr1.dl];omega)
   simp only[go_sem,Qfj,hX,Qbjn,hg,hd,hR1,hj,hj2,hRlen,Qc,Qm _ _ hj2,Qdh,Qb6,Nat.zero_add]
   intro H2 h2
   rw[ec]at h2
   exact setR j _ H2 hj (hr.bc.get _) h2 (by rw[hst,if_neg (by omega)];rfl) _
  ·simp only[go_sem]
   exact hP 2 r1 H1 knP hr1 et (bad 2 (by omega) (by rw[hst,if_pos h16]))
 have n11:=of_decide_eq_false hc
 refine Qa ?_
 simp only[go_sem]
 refine Qe rfl (fun hc=>?_) (fun hc=>?_)
 ·
  have ho:op=12:=of_decide_eq_true hc
  have hl:args.length=2:=by have:=hlen (by omega);rw[ho]at this;simp[Qgx]at this;omega
  refine Qt ?_
  simp only[go_sem]
  refine Qakz 0 hR1 (by omega) (hav 0 (by omega)) ?_
  have hvb:=hb.rg (args.getD 0 0)
  have hst:=Qblc (cs:=X.cs) (k:=k) (b:=b) (x:=⟨op,to,args,n⟩) (t:=t) (R:=R) (fs:=fs) (s:=r.s) (c:=r.c) ho
  have har:∀i,ar R ⟨op,to,args,n⟩ i=rg R (args.getD i 0):=fun _=>rfl
  simp only[har]at hst
  obtain⟨v,hv⟩:∃v,rg R (args.getD 0 0)=v:=⟨_,rfl⟩
  rw[hv]at hst hvb
  rw[hv]
  simp only[go_sem,Qfn]
  refine Qbfw hvb.1 (fun h16=>?_) (fun h16=>?_)
  ·simp only[go_sem,Qfm]
   refine Qakz 1 hR1 (by omega) (hav 1 (by omega)) ?_
   have hwb:=hb.rg (args.getD 1 0)
   obtain⟨q,hq⟩:∃q,rg R (args.getD 1 0)=q:=⟨_,rfl⟩
   rw[hq]at hst hwb
   rw[hq]
   have hp:=hr1.put (j:=v.toNat) (by omega) q
   simp only[go_sem,Qfl,hX,hmt,take4,Qbjn,Qbjo,hp]
   refine⟨by omega,fun H2 h2=>?_⟩
   refine hfin _ _ (hK R { r1 with c:=r1.c.set v.toNat q } H2 (kn.stL 0 rfl h2) (hr1.cells hwb) rfl hb et (by show r.u<r1.u;omega) ?_)
   show Goes X.cs X.S r.u _ r1.u (.go (⟨k,b,t,R⟩::fs) r1.s (r1.c.set v.toNat q))
   rw[es,ec]
   exact one _ (by rw[hst,if_neg (by omega)])
  ·simp only[go_sem]
   exact hP 2 r1 H1 knP hr1 et (bad 2 (by omega) (by rw[hst,if_pos h16]))
 have n12:=of_decide_eq_false hc
 refine Qa ?_
 simp only[go_sem]
 refine Qe rfl (fun hc=>?_) (fun hc=>?_)
 ·
  have ho:op=13:=of_decide_eq_true hc
  have hl:args.length=1:=by have:=hlen (by omega);rw[ho]at this;simp[Qgx]at this;omega
  have how:=hr1.gs.isOw
  refine Qbf ?_
  simp only[go_sem,hX,hmt,how]
  refine Qakz 0 hR1 (by omega) (hav 0 (by omega)) ?_
  have hvb:=hb.rg (args.getD 0 0)
  have hst:=Qbld (cs:=X.cs) (k:=k) (b:=b) (x:=⟨op,to,args,n⟩) (t:=t) (R:=R) (fs:=fs) (s:=r.s) (c:=r.c) ho
  have har:ar R ⟨op,to,args,n⟩ 0=rg R (args.getD 0 0):=rfl
  rw[har]at hst
  obtain⟨v,hv⟩:∃v,rg R (args.getD 0 0)=v:=⟨_,rfl⟩
  rw[hv]at hst hvb
  rw[hv]
  have hls:=hr1.ls
  have huS:=hr1.uS
  have hS:=hr1.S
  simp only[go_sem,Qfp,hX,hmt,how]
  refine (F_s kn).growR (new:=Qb [v]) hr1.gs (.mk' _ _ _ _) (Qo _) (by simp only[Qc,LIM,List.length_cons,List.length_nil];omega) fun t2 Lg2 H2 hg2 ht2 kn2=>?_
  have hX2:H2 X.l=.st (.sl X.fl 3 (Ql X.cs)::.int .i64 X.S::.int .i64 r1.u::r1.sc::r1.mt):=kn2.l 0 rfl
  simp only[go_sem,Qfo,hX2,hmt,ht2]
  intro H3 h3
  have hr2:Rs.ok X { r1 with s:=r1.s++[v],sc:=t2,so:=Lg2 }:=by
   refine⟨?_,hr1.gt,hr1.c,hr1.bc,hr1.bs.app hvb,?_,hr1.lt,huS,hS⟩
   ·show Gr Lg2 1 (Qb (r1.s++[v])) t2
    rw[Qa2];exact hg2
   ·show (r1.s++[v]).length≤r1.u
    have h1:=hr.ls
    rw[es,List.length_append];simp;omega
  refine hfin _ _ (hK R { r1 with s:=r1.s++[v],sc:=t2,so:=Lg2 } H3 (F_s' (r:=r1) rfl rfl (kn2.stL 0 rfl h3)) hr2 rfl hb et (by show r.u<r1.u;omega) ?_)
  show Goes X.cs X.S r.u _ r1.u (.go (⟨k,b,t,R⟩::fs) (r1.s++[v]) r1.c)
  rw[es,ec]
  exact one _ hst
 have n13:=of_decide_eq_false hc
 refine Qa ?_
 simp only[go_sem]
 refine Qe rfl (fun hc=>?_) (fun hc=>?_)
 ·
  have ho:op=14:=of_decide_eq_true hc
  obtain⟨c0,c1,c2⟩:=hcal ho
  obtain⟨t0,t1⟩:=hto (by rw[ho];rfl)
  obtain⟨j,hj⟩:∃j:Nat,to=j:=⟨to.toNat,by omega⟩
  have hj2:j<R.length:=by omega
  have hst:=Qbiu (cs:=X.cs) (k:=k) (b:=b) (x:=⟨op,to,args,n⟩) (t:=t) (R:=R) (fs:=fs) (s:=r.s) (c:=r.c) ho
  simp only at hst
  refine Qa ?_
  simp only[go_sem]
  refine Q6 ?_
  refine Qa ?_
  simp only[go_sem,Qc]
  try intro _
  refine Qh (Qg (Qy (fun m e1 H2=>∃(i:Nat) (c7:C) (Li:List (Nat×Obj)),m=args.length-i∧i≤args.length∧Gr Li 1 (Qb ((args.take i).map (rg R))) c7∧Kn H0 H2 E (X.F r1 [(rl,.vec 1 (Qb R))] (Li++B))∧
   lk 0 e1=.c (.ptr X.l 0)∧lk 4 e1=.c (.pp [.int .i64 op,.int .i64 to,.sl false 1 (Qb args),.int .i64 n])∧lk 5 e1=.c (.pp [.vsl rl 1 0 R.length])∧
   lk 6 e1=.c (.fn Qbi [.pp [.vsl rl 1 0 R.length],.pp [.int .i64 op,.int .i64 to,.sl false 1 (Qb args),.int .i64 n]])∧lk 7 e1=.c c7∧lk 80 e1=.c (.int .i64 args.length)∧lk 81 e1=.c (.int .i64 i)) args.length ?_ ?_))
  ·exact⟨0,_,[],by omega,by omega,.nil 1,kn,rfl,rfl,rfl,rfl,rfl,rfl,rfl⟩
  ·clear kn hR1 hX
   rintro m e1 H2 ⟨i,c7,Li,hm,hi,hgr,kn,l0,l4,l5,l6,l7,l80,l81⟩
   have hR1:=kn.l 1 rfl
   have how:=hgr.isOw
   refine Qa ?_
   simp only[go_sem,l0,l4,l5,l6,l7,l80,l81,how]
   refine Qh (Qe rfl ?_ ?_)
   ·intro hc
    have hlt:i<args.length:=by simpa using hc
    refine Qi ?_
    try simp only[go_sem]
    refine Qh (Qg ?_)
    refine Qa ?_
    simp only[go_sem,l0,l4,l5,l6,l7,l80,l81,how]
    refine Qt ?_
    simp only[go_sem,how]
    refine Qakz i hR1 hlt (hav i hlt) ?_
    have e9:args.getD i 0=args[i]:=by simp[List.getD_eq_getElem?_getD,hlt]
    simp only[go_sem,Qfr,how]
    refine (F_g kn).growR (new:=Qb [rg R (args.getD i 0)]) hgr (.mk' _ _ _ _) (Qo _) (by simp only[Qc,LIM,List.length_cons,List.length_nil,List.length_map,List.length_take];omega) fun t2 Lg2 H3 hg2 ht2 kn2=>?_
    simp only[go_sem,Qfq,ht2]
    refine Qt ?_
    simp only[go_sem,ht2]
    refine⟨Qs (by omega) (by omega),?_⟩
    show ∃m,_
    refine⟨args.length-(i+1),by omega,i+1,t2,Lg2,rfl,by omega,?_,F_g' kn2,rfl,rfl,rfl,rfl,rfl,rfl,rfl⟩
    have:Qb ((args.take (i+1)).map (rg R))=Qb ((args.take i).map (rg R))++Qb [rg R (args.getD i 0)]:=by
     rw[List.take_succ_eq_append_getElem hlt,List.map_append,Qa2,e9];rfl
    rw[this];exact hg2
   ·intro hc
    have hge:args.length≤i:=by simpa using hc
    rw[List.take_of_length_le hge]at hgr
    have hX:=F_o kn
    refine Q0 ?_
    simp only[go_sem,Go.AE.X.next]
    refine Qbf ?_
    simp only[go_sem,l0,l4,l5,l6,l7,how]
    obtain⟨nn,hnn⟩:∃nn:Nat,n=nn:=⟨n.toNat,by omega⟩
    have hnn2:n.toNat=nn:=by rw[hnn];rfl
    rw[hnn2]at c1 c2 hst
    rw[hnn]
    have hlt1:=hr.lt
    refine hrec H0 H2 E ([(rl,.vec 1 (Qb R))]++B) Li r1 nn (args.map (rg R)) c7 false (⟨k,b,⟨op,to,args,n⟩::t,R⟩::fs) _ (by omega) (F_sw kn) hr1 (by omega) (.inr hgr) (by rw[List.length_map];exact c2) (fun v hv=>by
     obtain⟨a,_,rfl⟩:=List.mem_map.1 hv
     exact hb.rg a) (by rw[et,eu];exact hlt1) (fun v r2 H3 kn3 hr2 hv _ ht2 hgo=>?_) (fun e r2 H3 kn3 hr2 ht2 hha=>?_)
    ·have kn3:=F_sw kn3
     have hR3:=kn3.l 1 rfl
     simp only[go_sem,Qeb,l0,l4,l5,l6,l7,how,hR3,hj,hj2,hRlen,Qc,Qm _ _ hj2,Qdh,Qb6,Nat.zero_add]
     intro H4 h4
     have kn4:Kn H0 H4 E (X.F r2 [(rl,.vec 1 (Qb (R.set j v)))] (Li++B)):=kn3.stL 1 rfl h4
     have hg1:=hgo.1
     refine hfin _ _ (hK (R.set j v) r2 H4 (Qauk kn4) hr2 (by simp) (hb.set hv j) (by rw[ht2 rfl,et]) (by omega) ?_)
     refine (one _ hst).trans ?_
     rw[←es,←ec]
     have ej:j=to.toNat:=by omega
     rw[ej];exact hgo
    ·simp only[go_sem]
     refine hP e r2 H3 (Qauk (Qvo (A:=[]) (F_sw kn3))) hr2 (by rw[ht2 rfl,et]) ?_
     refine (one _ hst).halts ?_
     rw[←es,←ec]
     exact hha
 have n14:=of_decide_eq_false hc
 refine Qa ?_
 simp only[go_sem]
 refine Qe rfl (fun hc=>?_) (fun hc=>?_)
 ·
  have ho:op=2:=of_decide_eq_true hc
  have hl:args.length=1:=by have:=hlen (by omega);rw[ho]at this;simp[Qgx]at this;omega
  obtain⟨t0,t1⟩:=hto (by rw[ho];rfl)
  obtain⟨j,hj⟩:∃j:Nat,to=j:=⟨to.toNat,by omega⟩
  have hj2:j<R.length:=by omega
  refine Qbf ?_
  simp only[go_sem,hR1,hj,hj2,hRlen,Qc,Qb6,Nat.zero_add]
  refine Qakz 0 hR1 (by omega) (hav 0 (by omega)) ?_
  simp only[go_sem,Qec,hR1,hj,hj2,hRlen,Qc,Qm _ _ hj2,Qdh,Qb6,Nat.zero_add]
  intro H2 h2
  exact setR j _ H2 hj (hb.rg _) h2 (Qbiv ho) _
 have n2:=of_decide_eq_false hc
 refine Qa ?_
 simp only[go_sem]
 refine Qe rfl (fun hc=>?_) (fun hc=>?_)
 ·
  have ho:op=10:=of_decide_eq_true hc
  have hl:args.length=1:=by have:=hlen (by omega);rw[ho]at this;simp[Qgx]at this;omega
  obtain⟨t0,t1⟩:=hto (by rw[ho];rfl)
  obtain⟨j,hj⟩:∃j:Nat,to=j:=⟨to.toNat,by omega⟩
  have hj2:j<R.length:=by omega
  refine Qbf ?_
  simp only[go_sem,hR1,hj,hj2,hRlen,Qc,Qb6,Nat.zero_add]
  refine Qakz 0 hR1 (by omega) (hav 0 (by omega)) ?_
  simp only[go_sem,Qee,hR1,hj,hj2,hRlen,Qc,Qb6,Nat.zero_add]
  refine Qa2n ?_
  simp only[go_sem,Qed,hR1,hj,hj2,hRlen,Qc,Qm _ _ hj2,Qdh,Qb6,Nat.zero_add,List.getD_cons_zero,List.getD_cons_succ]
  intro H2 h2
  exact setR j _ H2 hj (Qa6z _) h2 (Qbla ho) _
 have n10:=of_decide_eq_false hc
 have h3:3≤op:=by omega
 have h9:op≤9:=by omega
 have hl:args.length=2:=by
  have:=hlen (by omega)
  rw[Qgx,if_neg (by omega),if_neg (by omega),if_pos (.inl ⟨h3,h9⟩)]at this
  omega
 obtain⟨t0,t1⟩:=hto (by
  simp only[Qhe,Bool.and_eq_true,decide_eq_true_eq,Bool.not_eq_true',decide_eq_false_iff_not];omega)
 obtain⟨j,hj⟩:∃j:Nat,to=j:=⟨to.toNat,by omega⟩
 have hj2:j<R.length:=by omega
 have hst:=Qbmu (cs:=X.cs) (k:=k) (b:=b) (x:=⟨op,to,args,n⟩) (t:=t) (R:=R) (fs:=fs) (s:=r.s) (c:=r.c) h3 h9
 have har:∀i,ar R ⟨op,to,args,n⟩ i=rg R (args.getD i 0):=fun _=>rfl
 simp only[har]at hst
 have hpb:=Qbjj (op:=op) (hb.rg (args.getD 0 0)) (hb.rg (args.getD 1 0))
 refine Qag ?_
 simp only[go_sem]
 refine Qakz 0 hR1 (by omega) (hav 0 (by omega)) ?_
 simp only[go_sem,Qeh]
 refine Qakz 1 hR1 (by omega) (hav 1 (by omega)) ?_
 simp only[go_sem,Qeg]
 refine Qbgk (hb.rg _) (hb.rg _) h3 h9 ?_
 obtain⟨pv,hpv⟩:∃pv,arP op (rg R (args.getD 0 0)) (rg R (args.getD 1 0))=pv:=⟨_,rfl⟩
 rw[hpv]at hst hpb
 rw[hpv]
 obtain⟨v,ok⟩:=pv
 simp only at hst hpb
 simp only[go_sem,Qef,List.getD_cons_zero,List.getD_cons_succ]
 refine Q6 ?_
 refine Qa ?_
 simp only[go_sem]
 refine Qh (Qe rfl (fun hc=>?_) (fun hc=>?_))
 ·have hok:ok=false:=Qxk hc
  refine Qt ?_
  simp only[go_sem]
  refine Qbbb ?_
  simp only[go_sem]
  exact hP 1 r1 H1 knP hr1 et (bad 1 (by omega) (by rw[hst,if_neg (by rw[hok];simp)]))
 ·have hok:ok=true:=Qh7 hc
  refine Qi ?_
  try simp only[go_sem]
  refine Qt ?_
  simp only[go_sem,hR1,hj,hj2,hRlen,Qc,Qm _ _ hj2,Qdh,Qb6,Nat.zero_add]
  intro H2 h2
  exact setR j _ H2 hj hpb h2 (by rw[hst,if_pos hok]) _
end Go.AE.Y

namespace Go.AE.Y
attribute [local go_sem] cond_true cond_false Bool.not_true Bool.not_false
open Go.Proofs.Tryz
variable {H H' H0:Heap}{K:V→Heap→Prop}{E A A' B Li:List (Nat×Obj)}{X:Rn}{r r':Rs}
theorem Qbd6 {p:PhiD}{R:List Int}{rl xr xa w:Nat}(h1:H xr=.st [.vsl rl 1 0 R.length])(hR:H rl=.vec 1 (Qb R))(h2:H xa=.st [.int .i64 w])(hw:w<p.args.length)
  (hv:0≤p.args.getD w 0∧(p.args.getD w 0).toNat<R.length) (hK:K (.c (.int .i64 (Qz9 R w p))) H) :
  Qp prog Qa5 [.ag [.int .i64 p.to,.sl false 1 (Qb p.args)],.c (.ptr xr 0),.c (.ptr xa 0)] H K:=by
 refine Qd Qak Qus ?_
 refine Qa ?_
 simp only[go_sem]
 refine Qag ?_
 rw[Qz9]at hK
 obtain⟨v,hvv⟩:∃v:Nat,p.args.getD w 0=v:=⟨(p.args.getD w 0).toNat,by omega⟩
 rw[hvv]at hv hK
 have hv2:v<R.length:=by simpa using hv.2
 simp only[go_sem,h1,h2,hR,hw,hvv,hv2,Qc,Qm _ _ hw,Qm _ _ hv2,Qb6,Nat.zero_add]
 refine Qk ?_
 simp only[go_sem,Q3,Q9,Qf0,List.mem_singleton,forall_eq,RS.op]
 exact hK
set_option maxHeartbeats 4000000 in
theorem Qbie {ps:List PhiD}{R:List Int}{rl xr xa w:Nat}{f:Bool}(h1:H xr=.st [.vsl rl 1 0 R.length])(hR:H rl=.vec 1 (Qb R))(h2:H xa=.st [.int .i64 w])(hl:ps.length≤1200)(hw:∀p∈ps,w<p.args.length)
  (hv:∀p∈ps,0≤p.args.getD w 0∧(p.args.getD w 0).toNat<R.length) (hK:∀(H':Heap),Upd H H' []→K (.c (.sl false 1 (Qb (ps.map (Qz9 R w))))) H') :
  Qp prog Qcv [.c (.sl f 2 (Qw ps)),.c (.fn Qa5 [.ptr xr 0,.ptr xa 0])] H K:=by
 refine Qz ?_
 refine Qd Qak Qxg ?_
 have kn:=Kn.start0 H
 have n1:H xr≠.none:=by rw[h1];simp
 have n2:H rl≠.none:=by rw[hR];simp
 have n3:H xa≠.none:=by rw[h2];simp
 refine Qa ?_
 simp only[go_sem]
 refine Qa ?_
 simp only[go_sem]
 refine Q6 ?_
 refine Qa ?_
 simp only[go_sem,Qv]
 try intro _
 refine Qh (Qg (Qy (fun m e1 H1=>∃(i:Nat) (t:C) (Lg:List (Nat×Obj)),m=ps.length-i∧i≤ps.length∧Gr Lg 1 (Qb ((ps.take i).map (Qz9 R w))) t∧Kn H H1 [] ([]++Lg)∧
  lk 1 e1=.c (.fn Qa5 [.ptr xr 0,.ptr xa 0])∧lk 5 e1=.c t∧lk 8 e1=.c (.sl f 2 (Qw ps))∧lk 9 e1=.c (.int .i64 ps.length)∧lk 10 e1=.c (.int .i64 i)) ps.length ?_ ?_))
 ·exact⟨0,_,[],by omega,by omega,.nil 1,kn,rfl,rfl,rfl,rfl,rfl⟩
 ·clear kn
  rintro m e1 H1 ⟨i,t,Lg,hm,hi,hgr,kn,l1,l5,l8,l9,l10⟩
  have htw:=hgr.isOw
  refine Qa ?_
  simp only[go_sem,l1,l5,l8,l9,l10,htw]
  refine Qh (Qe rfl ?_ ?_)
  ·intro hc
   have hlt:i<ps.length:=by simpa using hc
   obtain⟨p,hp⟩:∃p,ps[i]=p:=⟨_,rfl⟩
   have hpm:p∈ps:=by rw[←hp];exact List.getElem_mem hlt
   refine Qi ?_
   try simp only[go_sem]
   refine Qh (Qg ?_)
   refine Qa ?_
   simp only[go_sem,l1,l5,l8,l9,l10,htw,hlt,Qv,Qay _ _ hlt,hp,PhiD.cells]
   intro x7 hx7 H2 h2'
   have kn:=kn.al hx7 h2'
   have hx7:H2 x7=.st [.int .i64 0,.sl true 1 []]:=(kn.get (x7,.st [.int .i64 0,.sl true 1 []]) (by simp)).1
   simp only[go_sem,Qd6,hx7,htw]
   intro H3 h3
   have kn:Kn H H2 [] ([(x7,.st [.int .i64 0,.sl true 1 []])]++Lg):=kn.perm (by simp)
   have kn:Kn H H3 [] ([(x7,.st [.int .i64 p.to,.sl false 1 (Qb p.args)])]++Lg):=kn.stL 0 rfl h3
   have hx7:H3 x7=.st [.int .i64 p.to,.sl false 1 (Qb p.args)]:=kn.l 0 rfl
   refine Qt ?_
   simp only[go_sem,hx7,htw]
   refine Qbd6 (p:=p) (R:=R) (rl:=rl) (w:=w) (by rw[kn.chg xr n1 (by simp)];exact h1) (by rw[kn.chg rl n2 (by simp)];exact hR) (by rw[kn.chg xa n3 (by simp)];exact h2) (hw p hpm) (hv p hpm) ?_
   simp only[go_sem,Qd8,htw]
   refine kn.growR (new:=Qb [Qz9 R w p]) hgr (.mk' _ _ _ _) (Qo _) (by simp only[Qc,List.length_map,List.length_take,LIM,List.length_cons,List.length_nil];omega) fun t2 Lg2 H4 hgr2 ht2 kn=>?_
   have kn:Kn H H4 [] Lg2:=Kn.drop (B:=[(x7,_)]) (kn.perm List.perm_append_comm)
   simp only[go_sem,Qd7,ht2]
   refine Qt ?_
   simp only[go_sem,ht2]
   refine⟨Qs (by omega) (by omega),?_⟩
   show ∃m,_
   refine⟨ps.length-(i+1),by omega,i+1,t2,Lg2,rfl,by omega,?_,kn,rfl,rfl,rfl,rfl,rfl⟩
   have:Qb ((ps.take (i+1)).map (Qz9 R w))=Qb ((ps.take i).map (Qz9 R w))++Qb [Qz9 R w p]:=by rw[List.take_succ_eq_append_getElem hlt,List.map_append,Qa2,hp];rfl
   rw[this];exact hgr2
  ·intro hc
   have hge:ps.length≤i:=by simpa using hc
   rw[List.take_of_length_le hge]at hgr
   refine Q0 ?_
   simp only[go_sem,Go.AE.X.next]
   refine Qa ?_
   simp only[go_sem,l5,htw]
   refine Qk ?_
   simp only[go_sem,Q3,Q9,Qhi,List.mem_singleton,forall_eq,RS.op,htw]
   exact⟨_,.c _ _ (hgr.frz kn (Qo _)),hK _ kn.fin⟩
end Go.AE.Y

namespace Go.AE.Y
attribute [local go_sem] cond_true cond_false Bool.not_true Bool.not_false
attribute [local instance] Classical.propDecidable
open Go.Proofs.Tryz
variable {H H' H0:Heap}{K:V→Heap→Prop}{E A A' B Li:List (Nat×Obj)}{X:Rn}{r r':Rs}
structure RunW (cs:List CodeD):Prop where
 ro:RunOk cs
 ins:∀k b,k<cs.length→b<(Qu cs k).blocks.length→∀x∈(Qah (Qu cs k) b).ins,InsW cs k x
 par:∀k,k<cs.length→0≤(Qu cs k).params∧(Qu cs k).params≤3∧(Qu cs k).params≤(Qu cs k).regs
 n:cs.length≤4
theorem runW {cs:List CodeD}(h:Qbb cs=true):RunW cs:=by
 have ro:=Qa2g h
 obtain⟨h1,h2,h3⟩:=of_decide_eq_true h
 refine⟨ro,fun k b hk hb x hx=>?_,fun k hk=>?_,by omega⟩
 ·have hok:=(ro.ok k hk).bs b hb
  have hop:=ro.op k b hk x hx
  rw[Qbh hb]at hx
  have ec:=Qcg hk
  have g:Q45 cs k x=true:=by
   have hb':b<cs[k].blocks.length:=by rw[←ec];exact hb
   have g:=(h2 k hk).2 b hb'
   simp only[Q44,Bool.and_eq_true,List.all_eq_true]at g
   refine g.1.2 x ?_
   have:(Qu cs k).blocks[b]=cs[k].blocks[b]:=by simp only[ec]
   rw[←this];exact hx
  simp only[Q45,insL,Bool.and_eq_true]at g
  obtain⟨_,g3⟩:=g
  refine⟨⟨hop.1,hop.2.1⟩,fun h1=>?_,fun v hv=>?_,fun hm=>?_,hop.2.2,fun h14=>?_,hok.al x hx⟩
  ·rw[if_neg (by omega)]at g3
   simp only[Bool.and_eq_true,decide_eq_true_eq]at g3
   exact⟨g3.1.2.1,g3.1.2.2⟩
  ·have:=hok.args x hx v hv
   obtain⟨a,b⟩:=this
   exact⟨a,by omega⟩
  ·obtain⟨a,b⟩:=hok.to x hx hm
   exact⟨a,by omega⟩
  ·rw[if_pos h14]at g3
   simp only[Bool.and_eq_true,decide_eq_true_eq]at g3
   obtain⟨⟨a,b⟩,c⟩:=g3
   have hlt:x.n.toNat<cs.length:=by omega
   refine⟨a,by omega,?_⟩
   rw[c,Q00 hlt,Qcg hlt]
 ·obtain⟨g1,_⟩:=h2 k hk
  simp only[Quq,Bool.and_eq_true,decide_eq_true_eq]at g1
  rw[Qcg hk]
  omega
def Qape (cs:List CodeD)(k b:Nat):Option Nat→List Int→Fr
 |none,R=>⟨k,b,(Qah (Qu cs k) b).ins,R⟩
 |some a,R=>frJ cs k a R b
def Qa7f:Option Nat→Int
 |none=>-1
 |some a=>a
def Qa6k (q:CodeD)(b:Nat):Option Nat→Prop
 |none=>True
 |some a=>a<q.blocks.length∧(b:Int)∈gnx q a
theorem Qbfz:∀(ns:List Int) (i:Nat) (v:Int),i<ns.length→ns.getD i 0=v→v∉ns.take i→ns.idxOf v=i
 |[],i,v,h,_,_=>by simp at h
 |x::ns,0,v,_,h,_=>by
  have:x=v:=by simpa using h
  simp[List.idxOf_cons,this]
 |x::ns,i+1,v,h1,h2,h3=>by
  have hx:¬x=v:=by
   intro hh
   exact h3 (by simp[hh])
  have:=Qbfz ns i v (by simpa using h1) (by simpa using h2) (fun hh=>h3 (by simp[hh]))
  rw[List.idxOf_cons,cond_eq_ite,if_neg (by simpa using hx),this]
theorem Qblm {q:CodeD}{b a:Nat}{ix:Int}(hq:q.ok)(ha:a<q.blocks.length)(hm:(b:Int)∈gnx q a)(h:IsIx (Q1 (gnx q) (b:Int) q.blocks.length) (a:Int) ix) :
  ix=(wayI q b a:Int)∧wayI q b a<(Q1 (gnx q) (b:Int) q.blocks.length).length:=by
 have h1:=hq.ix ha hm
 refine⟨?_,h1⟩
 rcases h with ⟨rfl,hn⟩|⟨i,rfl,h2,h3,h4⟩
 ·exact absurd (List.idxOf_lt_length_iff.1 h1) hn
 ·rw[wayI,Qbfz _ i _ h2 h3 h4]
theorem Qbci (n:Nat):List.replicate n [C.int .i64 0]=Qb (List.replicate n 0):=by simp[Qb]
theorem Qbhc (l:List Int)(n:Nat):Qb l++(Qb (List.replicate n 0)).drop l.length=Qb (l++List.replicate (n-l.length) 0):=by simp[Qb,List.drop_replicate]
theorem Rs.ok.d16 (h:r.ok X):r.mt.drop 16=[r.tc]:=by
 rw[Rs.mt,List.drop_append_of_le_length (by simp[Qh6,h.c]),List.drop_eq_nil_of_le (by simp[Qh6,h.c])];rfl
theorem Rs.ok.t16 (h:r.ok X):r.mt.take 16=Qh6 r.c:=by
 rw[Rs.mt,List.take_append_of_le_length (by simp[Qh6,h.c]),List.take_of_length_le (by simp[Qh6,h.c])]
theorem Rs.ok.d17 (h:r.ok X):r.mt.drop 17=[]:=List.drop_eq_nil_of_le (by rw[h.mt];exact Nat.le_refl _)
def o9 (q:CodeD)(n:Nat):Obj:=.st [.int .i64 q.params,.int .i64 n,.sl false 5 (Qr q.blocks)]
def oB (y:BlkD):Obj:=.st [.sl false 2 (Qw y.phis),.sl false 4 (Qav y.ins),.int .i64 y.jump,.int .i64 y.on,.sl false 1 (Qb y.next)]
def phF (R:List Int)(w:Nat)(l:List PhiD)(T:List Int):List Int:=l.foldl (fun T p=>T.set p.to.toNat (Qz9 R w p)) T
theorem Qbd1 (R:List Int)(w:Nat)(l:List PhiD)(p:PhiD)(T:List Int):phF R w (l++[p]) T=(phF R w l T).set p.to.toNat (Qz9 R w p):=by simp[phF]
theorem Qbia (R:List Int)(w:Nat)(l:List PhiD)(T:List Int):(phF R w l T).length=T.length:=Qa15 l T
set_option maxHeartbeats 32000000 in
theorem Qa63 (hw:RunW X.cs){m:Nat}(ih:∀m',m<m'→Qbbo X m'):Qbbo X m:=by
 intro H0 H E B Li r k l inc main fs K hm kn hr hk hin hl hbl hlt hK hP
 have hok:=hw.ro.ok k hk
 obtain⟨hp0,hp3,hpr⟩:=hw.par k hk
 have hwi:=hw.ins k
 have hnx:=fun b hb hj R=>Qa8w hw.ro (k:=k) (b:=b) hk hb hj R
 have hjn:=fun b hb=>hw.ro.jn k b hk hb
 obtain⟨q,hq⟩:∃q,Qu X.cs k=q:=⟨_,rfl⟩
 rw[hq]at hok hp0 hp3 hpr hl hwi hnx
 simp only[hq]at hjn
 have hqk:X.cs[k]=q:=by rw[←Qcg hk];exact hq
 have hr0:=hok.r0
 have hr1:=hok.r1
 have hb0:=hok.b0
 have hb1:=hok.b1
 obtain⟨n,hn⟩:∃n:Nat,q.regs=n:=⟨q.regs.toNat,by omega⟩
 have hn2:q.regs.toNat=n:=by omega
 have hln:l.length≤n:=by omega
 have how:=hin.isOw
 have hX:=F_o kn
 have hmt:=hr.mt
 refine Qd Qak Q0v ?_
 refine Qa ?_
 simp only[go_sem,how]
 refine Qa ?_
 simp only[go_sem,hX,hmt,hk,Q4,Qaj _ _ hk,CodeD.cells,hqk,hn,how]
 intro x9 hx9 H1 h1
 have kn:Kn H0 H1 E (X.F r [(x9,.st [.int .i64 0,.int .i64 0,.sl true 5 []])] (Li++B)):=F_al ((F_in kn).al hx9 h1)
 have hx9:H1 x9=.st [.int .i64 0,.int .i64 0,.sl true 5 []]:=kn.l 1 rfl
 simp only[go_sem,Qf1,hx9,how]
 intro H2 h2
 have kn:Kn H0 H2 E (X.F r [(x9,o9 q n)] (Li++B)):=kn.stL 1 rfl h2
 have hx9:H2 x9=.st [.int .i64 q.params,.int .i64 n,.sl false 5 (Qr q.blocks)]:=kn.l 1 rfl
 refine Qa ?_
 simp only[go_sem,hx9,how]
 refine⟨by simp only[LIM];omega,fun rl hrl H3 h3=>?_⟩
 have kn:Kn H0 H3 E (X.F r [(x9,o9 q n),(rl,.vec 1 (Qb (List.replicate n 0)))] (Li++B)):=F_al (A:=[(x9,o9 q n)]) (kn.al hrl (by rw[h3,Qbci]))
 simp only[go_sem,Qf3,how]
 intro x10 hx10 H4 h4
 have kn:Kn H0 H4 E (X.F r [(x9,o9 q n),(rl,.vec 1 (Qb (List.replicate n 0))),(x10,.st [.sl true 1 []])] (Li++B)):=F_al (A:=[(x9,o9 q n),(rl,.vec 1 (Qb (List.replicate n 0)))]) (kn.al hx10 h4)
 have hx10:H4 x10=.st [.sl true 1 []]:=kn.l 3 rfl
 simp only[go_sem,Qf2,hx10,how]
 intro H5 h5
 have kn:Kn H0 H5 E (X.F r [(x9,o9 q n),(rl,.vec 1 (Qb (List.replicate n 0))),(x10,.st [.vsl rl 1 0 n])] (Li++B)):=kn.stL 3 rfl h5
 have hx10:H5 x10=.st [.vsl rl 1 0 n]:=kn.l 3 rfl
 have hrl5:H5 rl=.vec 1 (Qb (List.replicate n 0)):=kn.l 2 rfl
 have hs:=hin.slc (F_g kn)
 have hsok:=eq_true hs.ok
 have hssz:=hs.sz
 have hsr:=hs.rows
 have hsl:=hs.len
 rw[Qc]at hsl
 refine Qa ?_
 simp only[go_sem,hx10,hrl5,hsok,hssz,hsr,hsl,how,Qc,List.length_replicate,Nat.zero_add]
 refine⟨hln,Qo _,fun H6 h6=>?_⟩
 rw[Qbhc]at h6
 have kn:Kn H0 H6 E (X.F r [(x9,o9 q n),(rl,.vec 1 (Qb (Q9o q l))),(x10,.st [.vsl rl 1 0 n])] (Li++B)):=by
  rw[Q9o,hn2];exact kn.stL 2 rfl h6
 have kn:Kn H0 H6 E (X.F r [(rl,.vec 1 (Qb (Q9o q l))),(x9,o9 q n),(x10,.st [.vsl rl 1 0 n])] (Li++B)):=kn.perm (Qj fun f hf h0 hc hp=>by
  show f ([(X.l,X.o r)]++(([(x9,o9 q n)]++([(rl,.vec 1 (Qb (Q9o q l)))]++[(x10,.st [.vsl rl 1 0 n])]))++((r.so++r.tl)++(Li++B))))=f ([(X.l,X.o r)]++(([(rl,.vec 1 (Qb (Q9o q l)))]++([(x9,o9 q n)]++[(x10,.st [.vsl rl 1 0 n])]))++((r.so++r.tl)++(Li++B))))
  simp only[hf];omega)
 clear hx9 hx10 hrl5 hs hsok hssz hsr hsl hX
 refine Qa ?_
 simp only[go_sem]
 refine Qg (Qy (fun mm e1 H1=>∃(b:Nat) (fr:Option Nat) (R:List Int) (r1:Rs),mm=X.S-r1.u∧b<q.blocks.length∧R.length=n∧byL R∧Kn H0 H1 E (X.F r1 [(rl,.vec 1 (Qb R)),(x9,o9 q n),(x10,.st [.vsl rl 1 0 n])] (Li++B))∧r1.ok X∧r.u≤r1.u∧r1.t.length≤r1.u∧(main=false→r1.t=r.t)∧Qa6k q b fr∧
  Goes X.cs X.S r.u (.go (fr0 X.cs k l::fs) r.s r.c) r1.u (.go (Qape X.cs k b fr R::fs) r1.s r1.c)∧
  lk 0 e1=.c (.ptr X.l 0)∧lk 3 e1=.c (.bool main)∧lk 9 e1=.c (.ptr x9 0)∧lk 10 e1=.c (.ptr x10 0)∧lk 11 e1=.c (.int .i64 b)∧lk 12 e1=.c (.int .i64 (Qa7f fr))) (X.S-r.u) ?_ ?_)
 ·refine⟨0,none,Q9o q l,r,rfl,hb0,by rw[Qa87 (by omega),hn2],Qbbv hbl,kn,hr,Nat.le_refl _,hlt,fun _=>rfl,trivial,?_,rfl,rfl,rfl,rfl,rfl,rfl⟩
  have:Qape X.cs k 0 none (Q9o q l)=fr0 X.cs k l:=by rw[Qape,fr0,hq]
  rw[this];exact .refl hr.uS
 clear kn hmt
 rintro mm e1 H7 ⟨b,fr,R,r1,hmm,hb,hRl,hbR,kn,hr1',hu1,ht1,htf,hfo,hgo,l0,l3,l9,l10,l11,l12⟩
 refine Qg ?_
 refine Q6 ?_
 refine Qa ?_
 simp only[go_sem,l0,l3,l9,l10,l11,l12]
 clear l0 l3 l9 l10 l11 l12
 refine Qw6 (fun e2 H2=>∃r2:Rs,Kn H0 H2 E (X.F r2 [(rl,.vec 1 (Qb R)),(x9,o9 q n),(x10,.st [.vsl rl 1 0 n])] (Li++B))∧r2.ok X∧r2.u=r1.u∧r2.s=r1.s∧r2.c=r1.c∧(main=false→r2.t=r1.t)∧
  lk 0 e2=.c (.ptr X.l 0)∧lk 3 e2=.c (.bool main)∧lk 9 e2=.c (.ptr x9 0)∧lk 10 e2=.c (.ptr x10 0)∧lk 11 e2=.c (.int .i64 b)∧lk 12 e2=.c (.int .i64 (Qa7f fr))) ?_ ?_
 ·intro Q' hQn hQr hQe
  refine Qe rfl (fun hc=>?_) (fun hc=>?_)
  ·have hX:=F_o kn
   have hmt:=hr1'.mt
   have hd16:=hr1'.d16
   have ht16:=hr1'.t16
   have hd17:=hr1'.d17
   have how:=hr1'.gt.isOw
   have huS:=hr1'.uS
   have hS:=hr1'.S
   refine Qt ?_
   simp only[go_sem,hX,hmt,hd16,how]
   refine (F_t kn).growR (new:=Qb [(b:Int)]) hr1'.gt (.mk' _ _ _ _) (Qo _) (by simp only[Qc,LIM,List.length_cons,List.length_nil];omega) fun t2 Lg2 H8 hg2 ht2 kn2=>?_
   have hX:H8 X.l=.st (.sl X.fl 3 (Ql X.cs)::.int .i64 X.S::.int .i64 r1.u::r1.sc::r1.mt):=kn2.l 0 rfl
   simp only[go_sem,Qf4,hX,hmt,hd16,ht16,hd17,ht2,List.append_nil]
   intro H9 h9
   refine hQn _ _ ⟨{ r1 with t:=r1.t++[(b:Int)],tc:=t2,tl:=Lg2 },F_t' (r:=r1) rfl rfl (kn2.stL 0 rfl h9),⟨hr1'.gs,?_,hr1'.c,hr1'.bc,hr1'.bs,hr1'.ls,?_,huS,hS⟩,rfl,rfl,rfl,(fun h=>by rw[h]at hc;cases hc),rfl,rfl,rfl,rfl,rfl,rfl⟩
   ·show Gr Lg2 1 (Qb (r1.t++[(b:Int)])) t2
    rw[Qa2];exact hg2
   ·show (r1.t++[(b:Int)]).length≤r1.u+1
    rw[List.length_append];simp;exact ht1
  ·refine Qi ?_
   exact hQn _ _ ⟨r1,kn,hr1',rfl,rfl,rfl,fun _=>rfl,rfl,rfl,rfl,rfl,rfl,rfl⟩
 clear kn
 rintro e2 H8 ⟨r2,kn,hr2,eu,es,ec,et,l0,l3,l9,l10,l11,l12⟩
 have hx9:H8 x9=.st [.int .i64 q.params,.int .i64 n,.sl false 5 (Qr q.blocks)]:=kn.l 2 rfl
 obtain⟨y,hy⟩:∃y,q.blocks[b]=y:=⟨_,rfl⟩
 have hyb:Qah q b=y:=by rw[Qbh hb,hy]
 have hyo:=hok.bs b hb
 rw[hy]at hyo
 have hil:=hok.il b hb
 rw[hy]at hil
 refine Qa ?_
 simp only[go_sem,l0,l3,l9,l10,l11,l12,hx9,hb,Qq,Qan _ _ hb,hy,BlkD.cells]
 intro x13 hx13 H9 h9
 have kn:Kn H0 H9 E (X.F r2 [(rl,.vec 1 (Qb R)),(x9,o9 q n),(x10,.st [.vsl rl 1 0 n]),(x13,.st [.sl true 2 [],.sl true 4 [],.int .i64 0,.int .i64 0,.sl true 1 []])] (Li++B)):=F_al (A:=[(rl,.vec 1 (Qb R)),(x9,o9 q n),(x10,.st [.vsl rl 1 0 n])]) (kn.al hx13 h9)
 have hx13:H9 x13=.st [.sl true 2 [],.sl true 4 [],.int .i64 0,.int .i64 0,.sl true 1 []]:=kn.l 4 rfl
 simp only[go_sem,Qf5,hx13,l0,l3,l9,l10,l11,l12]
 intro H10 h10
 have kn:Kn H0 H10 E (X.F r2 [(rl,.vec 1 (Qb R)),(x9,o9 q n),(x10,.st [.vsl rl 1 0 n]),(x13,oB y)] (Li++B)):=kn.stL 4 rfl h10
 clear l0 l3 l9 l10 l11 l12 hx9 hx13
 refine Qw6 (fun e3 H3=>∃R2:List Int,R2.length=n∧byL R2∧Qape X.cs k b fr R=⟨k,b,y.ins,R2⟩∧Kn H0 H3 E (X.F r2 [(rl,.vec 1 (Qb R2)),(x9,o9 q n),(x10,.st [.vsl rl 1 0 n]),(x13,oB y)] (Li++B))∧
  lk 0 e3=.c (.ptr X.l 0)∧lk 3 e3=.c (.bool main)∧lk 9 e3=.c (.ptr x9 0)∧lk 10 e3=.c (.ptr x10 0)∧lk 11 e3=.c (.int .i64 b)∧lk 13 e3=.c (.ptr x13 0)) ?_ ?_
 ·intro Q' hQn hQr hQe
  have hx13:H10 x13=.st [.sl false 2 (Qw y.phis),.sl false 4 (Qav y.ins),.int .i64 y.jump,.int .i64 y.on,.sl false 1 (Qb y.next)]:=kn.l 4 rfl
  have hx9:H10 x9=.st [.int .i64 q.params,.int .i64 n,.sl false 5 (Qr q.blocks)]:=kn.l 2 rfl
  cases fr with
  |none=>
   have hneg:decide ((0:Int)≤-1)=false:=rfl
   refine Qa ?_
   simp only[go_sem,Qa7f,hneg,hx13]
   refine Qe (c:=false) rfl (fun hc=>by cases hc) (fun _=>?_)
   refine Qi ?_
   refine hQn _ _ ⟨R,hRl,hbR,?_,kn,rfl,rfl,rfl,rfl,rfl,rfl⟩
   rw[Qape,hq,hyb]
  |some a=>
   obtain⟨ha,ham⟩:=hfo
   have hge:decide ((0:Int)≤(a:Int))=true:=decide_eq_true (Int.natCast_nonneg a)
   have hhead:Qape X.cs k b (some a) R=⟨k,b,y.ins,phiR R (wayI q b a) y.phis⟩:=by rw[Qape,frJ,hq,hyb]
   refine Qa ?_
   simp only[go_sem,Qa7f,hge,hx13,Qv]
   try intro _
   refine Qe rfl (fun hc=>?_) (fun hc=>?_)
   rotate_left
   ·have hnil:y.phis=[]:=by
     have:¬(0:Int)<(y.phis.length:Int):=of_decide_eq_false hc
     exact List.length_eq_zero_iff.1 (by omega)
    refine Qi ?_
    refine hQn _ _ ⟨R,hRl,hbR,?_,kn,rfl,rfl,rfl,rfl,rfl,rfl⟩
    rw[hhead,hnil];rfl
   refine Qa ?_
   simp only[go_sem,hx9]
   refine Qpe (rows:=Qr q.blocks) (nx:=gnx q) (Quh H10 q false) fun fl2 H11 hu=>?_
   have kn:=kn.call0 hu
   have hpi:Qfx (gnx q) (b:Int) (Qr q.blocks).length=Q1 (gnx q) (b:Int) q.blocks.length:=by
    rw[Qq,Qfx,decide_eq_true (Int.natCast_nonneg b),decide_eq_true (show (b:Int)≤(q.blocks.length:Int)-1 by omega)];rfl
   rw[hpi]
   simp only[go_sem,Qf8]
   refine Qa6l (.mk' _ _ _ _) rfl fun ix hix=>?_
   obtain⟨rfl,hwl⟩:=Qblm hok ha ham hix
   obtain⟨w,hw'⟩:∃w,wayI q b a=w:=⟨_,rfl⟩
   rw[hw']at hwl hhead
   rw[hw']
   have hpw:∀p∈y.phis,w<p.args.length:=fun p hp=>by rw[hyo.pal p hp];exact hwl
   have hpv:∀p∈y.phis,0≤p.args.getD w 0∧(p.args.getD w 0).toNat<R.length:=fun p hp=>by
    rw[List.getD_eq_getElem?_getD,List.getElem?_eq_getElem (hpw p hp)]
    obtain⟨z1,z2⟩:=hyo.pargs p hp _ (List.getElem_mem (hpw p hp))
    refine⟨z1,?_⟩
    show (p.args[w]'(hpw p hp)).toNat<R.length
    omega
   simp only[go_sem,Qf7]
   intro x14 hx14 H12 h12
   have kn:Kn H0 H12 E (X.F r2 [(rl,.vec 1 (Qb R)),(x9,o9 q n),(x10,.st [.vsl rl 1 0 n]),(x13,oB y),(x14,.st [.int .i64 0])] (Li++B)):=F_al (A:=[(rl,.vec 1 (Qb R)),(x9,o9 q n),(x10,.st [.vsl rl 1 0 n]),(x13,oB y)]) (kn.al hx14 h12)
   have hx14:H12 x14=.st [.int .i64 0]:=kn.l 5 rfl
   simp only[go_sem,Qf6,hx14]
   intro H13 h13
   have kn:Kn H0 H13 E (X.F r2 [(rl,.vec 1 (Qb R)),(x9,o9 q n),(x10,.st [.vsl rl 1 0 n]),(x13,oB y),(x14,.st [.int .i64 w])] (Li++B)):=kn.stL 5 rfl h13
   have hx13:H13 x13=.st [.sl false 2 (Qw y.phis),.sl false 4 (Qav y.ins),.int .i64 y.jump,.int .i64 y.on,.sl false 1 (Qb y.next)]:=kn.l 4 rfl
   have hx10:H13 x10=.st [.vsl rl 1 0 R.length]:=by rw[hRl];exact kn.l 3 rfl
   have hrl:H13 rl=.vec 1 (Qb R):=kn.l 1 rfl
   refine Qa ?_
   simp only[go_sem,hx13]
   refine Qbie (ps:=y.phis) (R:=R) (rl:=rl) (w:=w) hx10 hrl (kn.l 5 rfl) hil.2 hpw hpv fun H14 hu=>?_
   have kn:Kn H0 H14 E (X.F r2 [(rl,.vec 1 (Qb R)),(x9,o9 q n),(x10,.st [.vsl rl 1 0 n]),(x13,oB y)] (Li++B)):=Qvo (A:=[(rl,.vec 1 (Qb R)),(x9,o9 q n),(x10,.st [.vsl rl 1 0 n]),(x13,oB y)]) (A':=[(x14,.st [.int .i64 w])]) (kn.call0 hu)
   have hx13:H14 x13=.st [.sl false 2 (Qw y.phis),.sl false 4 (Qav y.ins),.int .i64 y.jump,.int .i64 y.on,.sl false 1 (Qb y.next)]:=kn.l 4 rfl
   simp only[go_sem,Qf9]
   refine Qa ?_
   simp only[go_sem,hx13,Qv]
   try intro _
   clear hx13 hx10 hrl hx9
   refine Qg (Qy (fun mm e1 H1=>∃(i:Nat),mm=y.phis.length-i∧i≤y.phis.length∧byL (phF R w (y.phis.take i) R)∧Kn H0 H1 E (X.F r2 [(rl,.vec 1 (Qb (phF R w (y.phis.take i) R))),(x9,o9 q n),(x10,.st [.vsl rl 1 0 n]),(x13,oB y)] (Li++B))∧
    lk 0 e1=.c (.ptr X.l 0)∧lk 3 e1=.c (.bool main)∧lk 9 e1=.c (.ptr x9 0)∧lk 10 e1=.c (.ptr x10 0)∧lk 11 e1=.c (.int .i64 b)∧lk 13 e1=.c (.ptr x13 0)∧lk 15 e1=.c (.sl false 1 (Qb (y.phis.map (Qz9 R w))))∧lk 68 e1=.c (.sl false 2 (Qw y.phis))∧lk 69 e1=.c (.int .i64 y.phis.length)∧lk 70 e1=.c (.int .i64 i)) y.phis.length ?_ ?_)
   ·exact⟨0,by omega,by omega,hbR,kn,rfl,rfl,rfl,rfl,rfl,rfl,rfl,rfl,rfl,rfl⟩
   clear kn
   rintro m2 e3 H15 ⟨i,hm2,hi,hbT,kn,l0,l3,l9,l10,l11,l13,l15,l68,l69,l70⟩
   have hx10:H15 x10=.st [.vsl rl 1 0 n]:=kn.l 3 rfl
   obtain⟨T,hT⟩:∃T,phF R w (y.phis.take i) R=T:=⟨_,rfl⟩
   have hTl:T.length=n:=by rw[←hT,Qbia,hRl]
   rw[hT]at kn hbT
   have hrl:H15 rl=.vec 1 (Qb T):=kn.l 1 rfl
   refine Qa ?_
   simp only[go_sem,l0,l3,l9,l10,l11,l13,l15,l68,l69,l70]
   refine Qh (Qe rfl (fun hc=>?_) (fun hc=>?_))
   ·have hlt:i<y.phis.length:=by simpa using hc
    obtain⟨p,hp⟩:∃p,y.phis[i]=p:=⟨_,rfl⟩
    have hpm:p∈y.phis:=by rw[←hp];exact List.getElem_mem hlt
    obtain⟨z1,z2⟩:=hyo.pto p hpm
    obtain⟨j,hj⟩:∃j:Nat,p.to=j:=⟨p.to.toNat,by omega⟩
    have hj2:j<n:=by omega
    have hj3:j<T.length:=by omega
    have hnl:i<(y.phis.map (Qz9 R w)).length:=by rw[List.length_map];exact hlt
    have hng:(y.phis.map (Qz9 R w)).getD i 0=Qz9 R w p:=by simp[List.getD_eq_getElem?_getD,hlt,hp]
    refine Qi ?_
    try simp only[go_sem]
    refine Qh (Qg ?_)
    refine Qa ?_
    simp only[go_sem,l0,l3,l9,l10,l11,l13,l15,l68,l69,l70,hlt,Qv,Qay _ _ hlt,hp,PhiD.cells]
    intro x17 hx17 H16 h16
    have kn:Kn H0 H16 E (X.F r2 [(rl,.vec 1 (Qb T)),(x9,o9 q n),(x10,.st [.vsl rl 1 0 n]),(x13,oB y),(x17,.st [.int .i64 0,.sl true 1 []])] (Li++B)):=F_al (A:=[(rl,.vec 1 (Qb T)),(x9,o9 q n),(x10,.st [.vsl rl 1 0 n]),(x13,oB y)]) (kn.al hx17 h16)
    have hx17:H16 x17=.st [.int .i64 0,.sl true 1 []]:=kn.l 5 rfl
    simp only[go_sem,Qfh,hx17,l0,l3,l9,l10,l11,l13,l15,l68,l69,l70]
    intro H17 h17
    have kn:Kn H0 H17 E (X.F r2 [(rl,.vec 1 (Qb T)),(x9,o9 q n),(x10,.st [.vsl rl 1 0 n]),(x13,oB y),(x17,.st [.int .i64 p.to,.sl false 1 (Qb p.args)])] (Li++B)):=kn.stL 5 rfl h17
    have hx17:H17 x17=.st [.int .i64 p.to,.sl false 1 (Qb p.args)]:=kn.l 5 rfl
    have hx10:H17 x10=.st [.vsl rl 1 0 n]:=kn.l 3 rfl
    have hrl:H17 rl=.vec 1 (Qb T):=kn.l 1 rfl
    refine Qbf ?_
    simp only[go_sem,hx10,hx17,hrl,hj,hj2,hTl,hnl,hng,Qc,Qm _ _ hj3,Qm _ _ hnl,Qdh,Nat.zero_add]
    intro H18 h18
    have kn:Kn H0 H18 E (X.F r2 [(rl,.vec 1 (Qb (T.set j (Qz9 R w p)))),(x9,o9 q n),(x10,.st [.vsl rl 1 0 n]),(x13,oB y),(x17,.st [.int .i64 p.to,.sl false 1 (Qb p.args)])] (Li++B)):=kn.stL 1 rfl h18
    have kn:=Qvo (A:=[(rl,.vec 1 (Qb (T.set j (Qz9 R w p)))),(x9,o9 q n),(x10,.st [.vsl rl 1 0 n]),(x13,oB y)]) (A':=[(x17,.st [.int .i64 p.to,.sl false 1 (Qb p.args)])]) kn
    have hTs:phF R w (y.phis.take (i+1)) R=T.set j (Qz9 R w p):=by
     rw[List.take_succ_eq_append_getElem hlt,hp,Qbd1,hT,hj];rfl
    refine Qt ?_
    simp only[go_sem]
    refine⟨Qs (by omega) (by omega),?_⟩
    show ∃m,_
    refine⟨y.phis.length-(i+1),by omega,i+1,rfl,by omega,?_,?_,rfl,rfl,rfl,rfl,rfl,rfl,rfl,rfl,rfl,rfl⟩
    ·rw[hTs];exact hbT.set (hbR.rg _) j
    ·rw[hTs];exact kn
   ·have hge:y.phis.length≤i:=by simpa using hc
    rw[List.take_of_length_le hge]at hT
    refine Q0 ?_
    simp only[go_sem,Go.AE.X.next]
    refine hQn _ _ ⟨T,hTl,hbT,?_,kn,rfl,rfl,rfl,rfl,rfl,rfl⟩
    rw[hhead,←hT];rfl
 clear kn
 rintro e3 H11 ⟨R2,hR2l,hbR2,hhd,kn,l0,l3,l9,l10,l11,l13⟩
 have hgo2:Goes X.cs X.S r.u (.go (fr0 X.cs k l::fs) r.s r.c) r2.u (.go (⟨k,b,y.ins,R2⟩::fs) r2.s r2.c):=by rw[eu,es,ec,←hhd];exact hgo
 have hx13:H11 x13=.st [.sl false 2 (Qw y.phis),.sl false 4 (Qav y.ins),.int .i64 y.jump,.int .i64 y.on,.sl false 1 (Qb y.next)]:=kn.l 4 rfl
 refine Q6 ?_
 refine Qa ?_
 simp only[go_sem,l0,l3,l9,l10,l11,l13,hx13,Qat]
 try intro _
 clear l0 l3 l9 l10 l11 l13 hx13
 refine Qh (Qg (Qy (fun mm e1 H1=>∃(i:Nat) (R3:List Int) (r3:Rs),mm=y.ins.length-i∧i≤y.ins.length∧R3.length=n∧byL R3∧Kn H0 H1 E (X.F r3 [(rl,.vec 1 (Qb R3)),(x9,o9 q n),(x10,.st [.vsl rl 1 0 n]),(x13,oB y)] (Li++B))∧r3.ok X∧r2.u≤r3.u∧r3.t=r2.t∧
  Goes X.cs X.S r.u (.go (fr0 X.cs k l::fs) r.s r.c) r3.u (.go (⟨k,b,y.ins.drop i,R3⟩::fs) r3.s r3.c)∧
  lk 0 e1=.c (.ptr X.l 0)∧lk 3 e1=.c (.bool main)∧lk 9 e1=.c (.ptr x9 0)∧lk 10 e1=.c (.ptr x10 0)∧lk 11 e1=.c (.int .i64 b)∧lk 13 e1=.c (.ptr x13 0)∧lk 85 e1=.c (.sl false 4 (Qav y.ins))∧lk 86 e1=.c (.int .i64 y.ins.length)∧lk 87 e1=.c (.int .i64 i)) y.ins.length ?_ ?_))
 ·exact⟨0,R2,r2,by omega,by omega,hR2l,hbR2,kn,hr2,Nat.le_refl _,rfl,hgo2,rfl,rfl,rfl,rfl,rfl,rfl,rfl,rfl,rfl⟩
 clear kn
 rintro m3 e4 H12 ⟨i,R3,r3,hm3,hi,hR3l,hbR3,kn,hr3,hu3,ht3,hgo3,l0,l3,l9,l10,l11,l13,l85,l86,l87⟩
 refine Qa ?_
 simp only[go_sem,l0,l3,l9,l10,l11,l13,l85,l86,l87]
 refine Qh (Qe rfl (fun hc=>?_) (fun hc=>?_))
 ·have hlt:i<y.ins.length:=by simpa using hc
  obtain⟨x,hx⟩:∃x,y.ins[i]=x:=⟨_,rfl⟩
  have hxm:x∈y.ins:=by rw[←hx];exact List.getElem_mem hlt
  have hxw:InsW X.cs k x:=hwi b hk hb x (by rw[hyb];exact hxm)
  have hdr:y.ins.drop i=x::y.ins.drop (i+1):=by rw[List.drop_eq_getElem_cons hlt,hx]
  obtain⟨op,to,args,nn⟩:=x
  refine Qi ?_
  try simp only[go_sem]
  refine Qh (Qg ?_)
  refine Qa ?_
  simp only[go_sem,l0,l3,l9,l10,l11,l13,l85,l86,l87,hlt,Qat,Qen _ _ hlt,hx,InsD.cells]
  intro x19 hx19 H13 h13
  have kn:Kn H0 H13 E (X.F r3 [(rl,.vec 1 (Qb R3)),(x9,o9 q n),(x10,.st [.vsl rl 1 0 n]),(x13,oB y),(x19,.st [.int .i64 0,.int .i64 0,.sl true 1 [],.int .i64 0])] (Li++B)):=F_al (A:=[(rl,.vec 1 (Qb R3)),(x9,o9 q n),(x10,.st [.vsl rl 1 0 n]),(x13,oB y)]) (kn.al hx19 h13)
  have hx19:H13 x19=.st [.int .i64 0,.int .i64 0,.sl true 1 [],.int .i64 0]:=kn.l 5 rfl
  simp only[go_sem,Qfi,hx19,l0,l3,l9,l10,l11,l13,l85,l86,l87]
  intro H14 h14
  have kn:Kn H0 H14 E (X.F r3 [(rl,.vec 1 (Qb R3)),(x9,o9 q n),(x10,.st [.vsl rl 1 0 n]),(x13,oB y),(x19,.st [.int .i64 op,.int .i64 to,.sl false 1 (Qb args),.int .i64 nn])] (Li++B)):=kn.stL 5 rfl h14
  have hx19:H14 x19=.st [.int .i64 op,.int .i64 to,.sl false 1 (Qb args),.int .i64 nn]:=kn.l 5 rfl
  have hx10:H14 x10=.st [.vsl rl 1 0 R3.length]:=by rw[hR3l];exact kn.l 3 rfl
  have kn:=Qbjd (A:=[(rl,.vec 1 (Qb R3))]) (A':=[(x9,o9 q n),(x10,.st [.vsl rl 1 0 n]),(x13,oB y),(x19,.st [.int .i64 op,.int .i64 to,.sl false 1 (Qb args),.int .i64 nn])]) kn
  rw[hdr]at hgo3
  refine Qt ?_
  simp only[go_sem,hx19,hx10]
  refine Qbgq (k:=k) (b:=b) (t:=y.ins.drop (i+1)) (fs:=fs) hxw hk (by rw[hq,hn2];exact hR3l) hbR3 kn hr3 (ih _ (by omega)) (fun R4 r4 H15 kn4 hr4 hR4l hbR4 ht4 hu4 hgo4=>?_) (fun e r4 H15 kn4 hr4 ht4 hha=>?_)
  ·have kn4:=Qvo (A:=[(rl,.vec 1 (Qb R4)),(x9,o9 q n),(x10,.st [.vsl rl 1 0 n]),(x13,oB y)]) (A':=[(x19,.st [.int .i64 op,.int .i64 to,.sl false 1 (Qb args),.int .i64 nn])]) (Qbjc (A:=[(rl,.vec 1 (Qb R4))]) (A':=[(x9,o9 q n),(x10,.st [.vsl rl 1 0 n]),(x13,oB y),(x19,.st [.int .i64 op,.int .i64 to,.sl false 1 (Qb args),.int .i64 nn])]) kn4)
   simp only[go_sem]
   refine Qt ?_
   simp only[go_sem]
   refine⟨Qs (by omega) (by omega),?_⟩
   show ∃m,_
   exact⟨y.ins.length-(i+1),by omega,i+1,R4,r4,rfl,by omega,by omega,hbR4,kn4,hr4,by omega,by rw[ht4,ht3],hgo3.trans hgo4,rfl,rfl,rfl,rfl,rfl,rfl,rfl,rfl,rfl⟩
  ·simp only[go_sem,Go.AE.X.next]
   exact hP e r4 H15 (Qa6j (A:=Li) (Qauk (A':=[(x9,o9 q n),(x10,.st [.vsl rl 1 0 n]),(x13,oB y),(x19,.st [.int .i64 op,.int .i64 to,.sl false 1 (Qb args),.int .i64 nn])]) kn4)) hr4 (fun h=>by rw[ht4,ht3,et h,htf h]) (hgo3.halts hha)
 have hge:y.ins.length≤i:=by simpa using hc
 rw[List.drop_eq_nil_of_le hge]at hgo3
 refine Q0 ?_
 simp only[go_sem,Go.AE.X.next]
 refine Qa ?_
 simp only[go_sem,l0,l3,l9,l10,l11,l13]
 refine Qbgb kn hr3 (fun H13 hlu kn4 hr4=>?_) (fun hlu=>?_)
 rotate_left
 ·simp only[go_sem,Go.AE.X.next]
  refine hP 3 r3 _ (Qa6j (A:=Li) (Qvo (A:=[]) kn)) hr3 (fun h=>by rw[ht3,et h,htf h]) (hgo3.halts ?_)
  rw[hlu];exact .fuel
 obtain⟨r4,e4⟩:∃r4,({ r3 with u:=r3.u+1 }:Rs)=r4:=⟨_,rfl⟩
 have eu4:r4.u=r3.u+1:=by rw[←e4]
 have es4:r4.s=r3.s:=by rw[←e4]
 have ec4:r4.c=r3.c:=by rw[←e4]
 have et4:r4.t=r3.t:=by rw[←e4]
 rw[e4]at kn4 hr4
 clear e4 kn
 have hx13:H13 x13=.st [.sl false 2 (Qw y.phis),.sl false 4 (Qav y.ins),.int .i64 y.jump,.int .i64 y.on,.sl false 1 (Qb y.next)]:=kn4.l 4 rfl
 have hx10:H13 x10=.st [.vsl rl 1 0 n]:=kn4.l 3 rfl
 have hrl:H13 rl=.vec 1 (Qb R3):=kn4.l 1 rfl
 have htk:List.take n (Qb R3)=Qb R3:=List.take_of_length_le (by rw[Qc];omega)
 have hlt4:r4.t.length≤r4.u:=by rw[et4,eu4];exact hr3.lt
 have htf4:main=false→r4.t=r.t:=fun h=>by rw[et4,ht3,et h,htf h]
 have one:∀Y,stJ X.cs k b R3 fs r4.s r4.c=Y→Goes X.cs X.S r.u (.go (fr0 X.cs k l::fs) r.s r.c) r4.u Y:=fun Y h=>by
  refine hgo3.trans ?_
  rw[eu4,←es4,←ec4]
  exact .one hlu h
 have hjm:=hyo.jmp
 have hyon:=hyo.on
 have hynx:=hyo.nx
 have hjn':=hjn b hb
 rw[hyb]at hjn'
 refine Qa ?_
 simp only[go_sem,l0,l3,l9,l10,l11,l13]
 refine Qg ?_
 refine Qa ?_
 simp only[go_sem,hx13]
 refine Qe rfl (fun hc=>?_) (fun hc=>?_)
 ·have hj:y.jump=3:=of_decide_eq_true hc
  obtain⟨z1,z2⟩:=hyon (by omega)
  obtain⟨j,hjo⟩:∃j:Nat,y.on=j:=⟨y.on.toNat,by omega⟩
  have hj2:j<n:=by omega
  have hj3:j<R3.length:=by omega
  refine Qa ?_
  simp only[go_sem,hx13,hx10,hrl,htk,hjo,hj2,hR3l,Qc,Qm _ _ hj3,Nat.zero_add]
  refine Qk ?_
  simp only[go_sem,Go.AE.X.next,Q3,Q9,Qkf,List.mem_singleton,forall_eq,RS.op]
  have hgoal:=hK (rg R3 y.on) r4 H13 (Qa6j (A:=Li) (Qvo (A:=[]) kn4)) hr4 (hbR3.rg _) hlt4 htf4 (one _ (by rw[Qba4 (by rw[hq,hyb];exact hj),hq,hyb]))
  rw[hjo]at hgoal
  exact hgoal
 have hj3:¬y.jump=3:=of_decide_eq_false hc
 obtain⟨v,hvm,hvn,hvi⟩:=hnx b hb (by rw[hyb];exact hj3) R3
 rw[hyb]at hvm hvn hvi
 obtain⟨w1,w2⟩:=hynx v hvm
 obtain⟨b2,hb2⟩:∃b2:Nat,v=b2:=⟨v.toNat,by omega⟩
 have hvn2:nxB y R3=b2:=by omega
 have hb2l:b2<q.blocks.length:=by omega
 have hgoJ:=one _ (by
  rw[Qaku (by rw[hq,hyb];exact hj3),hq,hyb,hvn2])
 have hix:ixB y R3<y.next.length:=(List.getElem?_eq_some_iff.1 hvi).1
 have hgd:y.next.getD (ixB y R3) 0=(b2:Int):=by rw[List.getD_eq_getElem?_getD,hvi,hb2];rfl
 have hfo2:Qa6k q b2 (some b):=⟨hb,by rw[Qa07 hb,hyb,←hb2];exact hvm⟩
 have hfin:∀e,lk 0 e=.c (.ptr X.l 0)→lk 3 e=.c (.bool main)→lk 9 e=.c (.ptr x9 0)→lk 10 e=.c (.ptr x10 0)→lk 11 e=.c (.int .i64 b2)→lk 12 e=.c (.int .i64 b)→
   ∃m',m'<mm∧∃(b:Nat) (fr:Option Nat) (R:List Int) (r1:Rs),m'=X.S-r1.u∧b<q.blocks.length∧R.length=n∧byL R∧Kn H0 H13 E (X.F r1 [(rl,.vec 1 (Qb R)),(x9,o9 q n),(x10,.st [.vsl rl 1 0 n])] (Li++B))∧r1.ok X∧r.u≤r1.u∧r1.t.length≤r1.u∧(main=false→r1.t=r.t)∧Qa6k q b fr∧
   Goes X.cs X.S r.u (.go (fr0 X.cs k l::fs) r.s r.c) r1.u (.go (Qape X.cs k b fr R::fs) r1.s r1.c)∧
   lk 0 e=.c (.ptr X.l 0)∧lk 3 e=.c (.bool main)∧lk 9 e=.c (.ptr x9 0)∧lk 10 e=.c (.ptr x10 0)∧lk 11 e=.c (.int .i64 b)∧lk 12 e=.c (.int .i64 (Qa7f fr)):=by
  intro e a0 a3 a9 a10 a11 a12
  refine⟨X.S-r4.u,by have:=hr4.uS;omega,b2,some b,R3,r4,rfl,hb2l,hR3l,hbR3,Qvo (A:=[(rl,.vec 1 (Qb R3)),(x9,o9 q n),(x10,.st [.vsl rl 1 0 n])]) (A':=[(x13,oB y)]) kn4,hr4,by omega,hlt4,htf4,hfo2,hgoJ,a0,a3,a9,a10,a11,a12⟩
 rcases hjm with hj|hj|hj
 ·
  have hd:decide ((1:Int)=2)=false:=rfl
  have e0:ixB y R3=0:=by rw[ixB,if_neg (by omega)]
  rw[e0]at hix hgd
  refine Qa ?_
  by_cases hjr:y.on.toNat<R3.length
  ·simp only[go_sem,hx13,hx10,hrl,htk,hj,hd,Qm _ _ hjr,Nat.zero_add]
   refine Qe (c:=false) rfl (fun hc=>by cases hc) (fun _=>?_)
   refine Qt ?_
   simp only[go_sem,hx13,hix,hgd,Qc,Qm _ _ hix]
   exact⟨by omega,hfin _ rfl rfl rfl rfl rfl rfl⟩
  ·have hno:(Qb R3).getD y.on.toNat []=[]:=by rw[List.getD_eq_getElem?_getD,List.getElem?_eq_none (by rw[Qc];omega)];rfl
   simp only[go_sem,hx13,hx10,hrl,htk,hj,hd,hno,List.headD_nil,Nat.zero_add]
   refine Qe (c:=false) rfl (fun hc=>by cases hc) (fun _=>?_)
   refine Qt ?_
   simp only[go_sem,hx13,hix,hgd,Qc,Qm _ _ hix]
   exact⟨by omega,hfin _ rfl rfl rfl rfl rfl rfl⟩
 ·
  have hd:decide ((2:Int)=2)=true:=rfl
  obtain⟨z1,z2⟩:=hyon (by omega)
  obtain⟨j,hjo⟩:∃j:Nat,y.on=j:=⟨y.on.toNat,by omega⟩
  have hj2:j<n:=by omega
  have hj4:j<R3.length:=by omega
  refine Qa ?_
  simp only[go_sem,hx13,hx10,hrl,htk,hj,hd,hjo,hj2,hR3l,Qc,Qm _ _ hj4,Nat.zero_add]
  refine Qe rfl (fun hc=>?_) (fun hc=>?_)
  ·have hz:R3.getD j 0=0:=of_decide_eq_true hc
   have e0:ixB y R3=1:=by rw[ixB,if_pos ⟨hj,by rw[rg,hjo];exact hz⟩]
   rw[e0]at hix hgd
   refine Qt ?_
   simp only[go_sem,hx13,hix,hgd,Qc,Qm _ _ hix]
   exact⟨by omega,hfin _ rfl rfl rfl rfl rfl rfl⟩
  ·have hz:¬R3.getD j 0=0:=of_decide_eq_false hc
   have e0:ixB y R3=0:=by rw[ixB,if_neg (by rintro⟨_,h⟩;rw[rg,hjo]at h;exact hz h)]
   rw[e0]at hix hgd
   refine Qt ?_
   simp only[go_sem,hx13,hix,hgd,Qc,Qm _ _ hix]
   exact⟨by omega,hfin _ rfl rfl rfl rfl rfl rfl⟩
 ·exact absurd hj hj3
theorem Qa0z (hw:RunW X.cs):∀d m,X.S+1-m≤d→Qbbo X m
 |0,m,h=>fun H0 H E B Li r k l inc main fs K hm kn hr=>by
  have:=hr.uS
  omega
 |d+1,m,h=>Qa63 hw fun m' hm'=>Qa0z hw d m' (by omega)
end Go.AE.Y

namespace Go.AE.Y
open Go.Proofs.Tryz
theorem Qa2r (p:Addr)(w:World) :
  CallsD prog Qpk #[.pointer (some p)] .returning w fun e u' w'=>e=.returned (.tuple #[])∧u'=.returning∧w'=w:=by
 refine callsD_of_wpS Go.Proofs.Tryz.func208 rfl fun c₀ cs hu=>?_
 apply wpS_seq
 apply wpS_region
 simp[wpOpsS,go_sem,recoverD,hu,Go.Proofs.Tryz.ntmps208,Exit.thenS]
 apply wpS_seq
 apply wpS_region
 simp[wpOpsS,go_sem,Exit.thenS]
 refine wpS_cond (t:=false) (by simp[Act.eval]) ?_
 simp only[Bool.false_eq_true,if_false]
 refine wpS_of_wp (wp_skip ?_)
 cases c₀
 simp_all[bodyPostS,results,Go.Proofs.Tryz.results208]
set_option maxRecDepth 4000 in
theorem Q7z (p:Addr)(n:Int)(x:Value)(older:List PanicEntry)(w:World)(hc:w.cell? p=some x)(hz:w.frozen? p=false) :
  CallsD prog Qpk #[.pointer (some p)] (.panicking ({ v:=.iface 190 (.int .i64 n),recovered:=false }::older)) w fun e u' w'=>
   e=.returned (.tuple #[])∧u'=.panicking ({ v:=.iface 190 (.int .i64 n),recovered:=true }::older)∧w'=w.setCell p (.int .i64 n):=by
 refine callsD_of_wpS Go.Proofs.Tryz.func208 rfl fun c₀ cs hu=>?_
 apply wpS_seq
 apply wpS_region
 simp[wpOpsS,go_sem,recoverD,hu,Go.Proofs.Tryz.ntmps208,Exit.thenS]
 apply wpS_seq
 apply wpS_region
 simp[wpOpsS,go_sem,Exit.thenS]
 refine wpS_cond (t:=true) (by simp[Act.eval]) ?_
 simp only[if_true]
 have hta:∀w:World,(Instr.typeAssert (.iface 190 (.int .i64 n)) 20 190 true).run prog w=.ok (.tuple #[.int .i64 n,.bool true]) w:=fun w=>by kernel_rfl
 apply wpS_seq
 apply wpS_region
 simp[wpOpsS,go_sem,Exit.thenS,hta]
 apply wpS_seq
 apply wpS_seq
 apply wpS_region
 simp[wpOpsS,go_sem,Exit.thenS]
 refine wpS_cond (t:=false) (by simp[Act.eval]) ?_
 simp only[Bool.false_eq_true,if_false]
 refine wpS_of_wp (wp_skip ?_)
 simp only[Exit.thenS]
 apply wpS_region
 simp[wpOpsS,go_sem,hc,hz,bodyPostS,results,Go.Proofs.Tryz.results208]
end Go.AE.Y

namespace Go.AE.Y
open Go.Proofs.Tryz
theorem Qa2s {f : Nat} {caps : Array Value} {w : World} {R : Ending → World → Prop} (hf : fnOk prog f = true)
    (h : Calls prog f caps (w.alloc (.cells #[.int .i64 0] 3)) fun e w' => w'.cell? ⟨w.heap.size, 0, none⟩ = some (.int .i64 0) ∧ w'.frozen? ⟨w.heap.size, 0, none⟩ = false ∧
      ((∃ v, e = .returned v ∧ R (.returned (.int .i64 0)) (w'.setCell ⟨w.heap.size, 0, none⟩ (.int .i64 0))) ∨
       (∃ n, e = .panicked [{ v := .iface 190 (.int .i64 n), recovered := false }] ∧ R (.returned (.int .i64 n)) (w'.setCell ⟨w.heap.size, 0, none⟩ (.int .i64 n))))) :
    Calls prog Qpj #[.func (.func f) #[] caps] w R := by
  have hmf : ∀ fn (first cap : Array Value) (w : World), (Instr.makeFunc fn first cap).run prog w = .ok (.func fn first cap) w := fun _ _ _ _ => rfl
  go_enter_defers Go.Proofs.Tryz.func134, Go.Proofs.Tryz.ntmps134
  go_wp2
  have hcall : ∀ w, (callFunc f caps).run prog w = .ok (.enter f caps) w := fun w => Qpg hf caps w
  simp only [hcall, Array.append_empty, Array.empty_append, Oper.upon_enter]
  refine h.mono ?_
  rintro e w' ⟨hc, hz, hR⟩
  rcases hR with ⟨v, rfl, hR⟩ | ⟨n, rfl, hR⟩
  · go_wp2
    refine leaves_cons (f := 208) (args := #[.pointer (some ⟨w.heap.size, 0, none⟩)]) (by simp) (by simp [go_sem]) ?_
    refine (Qa2r ⟨w.heap.size, 0, none⟩ _).mono ?_
    rintro e u' w'' ⟨rfl, rfl, rfl⟩
    simp [Leaves, settle, results, Go.Proofs.Tryz.results134, go_sem]
    refine ⟨_, ?_, hR⟩
    simp [go_sem, hc]
  · show Leaves _ _ _ _ _ _ _
    refine leaves_cons (f := 208) (args := #[.pointer (some ⟨w.heap.size, 0, none⟩)]) (by simp) (by simp [go_sem]) ?_
    refine (Q7z ⟨w.heap.size, 0, none⟩ n _ [] _ hc hz).mono ?_
    rintro e u' w'' ⟨rfl, rfl, rfl⟩
    simp [Leaves, settle, results, Go.Proofs.Tryz.results134, go_sem]
    refine ⟨_, ?_, hR⟩
    simp [go_sem, hc]
end Go.AE.Y

namespace Go.AE.Y
open Go.Proofs.Tryz
variable {H:Heap}{K:V→Heap→Prop}
theorem Qa0g {w:World}{b:Nat}{cs:Array Value}{T:TypeId}{v:Value}(h:w.heap[b]? = some (.cells cs T (0,0))):w.setCell ⟨b,0,none⟩ v=World.putCells w b (cs.setIfInBounds 0 v) T:=by
 unfold World.setCell World.putCells
 congr 1
 refine Array.ext_getElem? fun i=>?_
 rw[Array.getElem?_modify,Array.getElem?_setIfInBounds]
 by_cases hi:b=i
 ·subst hi
  rw[if_pos rfl,if_pos rfl,if_pos (Qib h),h];rfl
 ·rw[if_neg hi,if_neg hi]
theorem Qbbw {f:Nat}{caps:List C}(hf:fnOk prog f=true)
  (h:∀xe,H xe=.none→∀H1,H1=H.set xe (.st [.int .i64 0])→Qp prog f (caps.map .c) H1 fun x H2=>H2 xe=.st [.int .i64 0]∧((∃n,x=.pn (endV n)∧∀H3,H3=H2.set xe (.st [.int .i64 n])→K (.c (.int .i64 n)) H3)∨
   ((∀v,x≠.pn v)∧∀H3,H3=H2.set xe (.st [.int .i64 0])→K (.c (.int .i64 0)) H3))) :
  Qp prog Qpj [.c (.fn f caps)] H K:=by
 refine⟨by kernel_rfl,fun g w vs hs hl hv=>?_⟩
 obtain⟨v,rfl⟩:∃v,vs=[v]:=by
  match vs,hl with
  |[v],_=>exact⟨v,rfl⟩
 have hr:=hv 0 _ v rfl rfl
 obtain⟨cvs,rfl,hcl,hcv⟩:=hr.c_inv.fn_inv
 obtain⟨xe,hxe,hHx⟩:=hs.newName
 have hle:=Qfc hs hxe 1 0 (.cells #[.int .i64 0] 3)
 have hst:=Qb9 hs hxe 1 0 (.cells #[.int .i64 0] 3) (.st [.int .i64 0]) (fun g' hg=>by
  subst hg
  exact Qmp (cells:=[.int .i64 0]) (fun j c u h1 h2=>by
   cases j with
   |zero=>simp at h1 h2;subst h1;subst h2;exact .int _ _
   |succ j=>simp at h1) rfl hle)
 refine Qa2s hf ?_
 have hc:=(h xe hHx _ rfl).2 _ _ cvs hst.sat (by simp[hcl]) (fun j x u h1 h2=>by
  rw[List.getElem?_map]at h1
  cases hj:caps[j]? with
  |none=>rw[hj]at h1;simp at h1
  |some c=>
   rw[hj]at h1
   simp at h1;subst h1
   exact .c _ _ ((hcv j c u hj h2).mono hst.le))
 refine hc.mono fun e w2 hh=>?_
 have box:∀H2 g2 n,H2 xe=.st [.int .i64 0]→Stp (H.set xe (.st [.int .i64 0])) (g.newObj xe w.heap.size 1 0) (w.alloc (.cells #[.int .i64 0] 3)) H2 g2 w2→
   w2.cell? ⟨w.heap.size,0,none⟩=some (.int .i64 0)∧w2.frozen? ⟨w.heap.size,0,none⟩=false∧Stp H2 g2 w2 (H2.set xe (.st [.int .i64 n])) g2 (w2.setCell ⟨w.heap.size,0,none⟩ (.int .i64 n)):=by
  intro H2 g2 n hx hst2
  have hio:g2.io xe=some (w.heap.size,1,0):=hst2.le.io xe _ (by simp[G.newObj])
  have hob:=hst2.sat.objs xe
  rw[hx]at hob
  obtain⟨b',sz',T,cs,q1,q2,q3,q4,q5⟩:=hob
  rw[hio]at q1
  simp only[Option.some.injEq,Prod.mk.injEq,and_true]at q1
  obtain⟨rfl,rfl⟩:=q1
  have hc1:cs.size=1:=q4
  have hc0:cs[0]? = some cs[0]:=Array.getElem?_eq_getElem (by omega)
  have hcv:cs[0]=.int .i64 0:=((q5 0 _ _ rfl hc0).toC rfl).int_inv
  refine⟨?_,by simp[World.frozen?,q3],?_⟩
  ·rw[Qbz q3,hc0,hcv]
  ·rw[Qa0g q3]
   refine Qdj hst2.sat q2 q3 (by simp) _ (by rw[hx];simp) (fun hle hw'=>?_) (by simp)
   refine⟨w.heap.size,1,T,_,hio,q2,hw',by simp[hc1],fun j c v e1 e2=>?_⟩
   cases j with
   |zero=>
    simp[hc1]at e1 e2;subst e1;subst e2
    exact .plain _ _ _ _ (.int _ _)
   |succ j=>simp at e1
 rcases hh with ⟨v,x,H2,g2,rfl,⟨hx,hk⟩,hst2,hr2⟩|⟨v,H2,g2,rfl,⟨hx,hk⟩,hst2⟩
 ·obtain⟨b1,b2,b3⟩:=box H2 g2 0 hx hst2
  refine⟨b1,b2,.inl ⟨v,rfl,.inl ⟨_,.c (.int .i64 0),_,g2,rfl,?_,hst.trans (hst2.trans b3),.c _ _ (.int _ _)⟩⟩⟩
  rcases hk with ⟨n,rfl,_⟩|⟨_,hk⟩
  ·cases hr2
  ·exact hk _ rfl
 ·rcases hk with ⟨n,hvn,hk⟩|⟨hno,_⟩
  ·cases hvn
   obtain⟨b1,b2,b3⟩:=box H2 g2 n hx hst2
   exact⟨b1,b2,.inr ⟨n,rfl,.inl ⟨_,.c (.int .i64 n),_,g2,rfl,hk _ rfl,hst.trans (hst2.trans b3),.c _ _ (.int _ _)⟩⟩⟩
  ·exact absurd rfl (hno v)
end Go.AE.Y

namespace Go.AE.Y
open Go.Proofs.Tryz
variable {H H0:Heap}{K:V→Heap→Prop}{E B Lg:List (Nat×Obj)}
def Gq (Lg:List (Nat×Obj))(W:List Nat)(c:C):Prop:=
 (c=.sl true 1 []∧W=[]∧Lg=[])∨∃z st R,c=.vsl z 1 st W.length∧Lg=[(z,.vec 1 R)]∧(R.drop st).take W.length=Qa1k W∧st+W.length≤R.length
theorem Gq.isOw {W:List Nat}{c:C}(h:Gq Lg W c):c.isOw=false:=by rcases h with ⟨rfl,_⟩|⟨z,st,R,rfl,_⟩ <;> rfl
theorem Gq.elemSz {W:List Nat}{c:C}(h:Gq Lg W c):c.elemSz=1:=by rcases h with ⟨rfl,_⟩|⟨z,st,R,rfl,_⟩ <;> rfl
theorem Gq.lenC {W:List Nat}{c:C}(h:Gq Lg W c):lenC c=W.length:=by rcases h with ⟨rfl,rfl,_⟩|⟨z,st,R,rfl,_⟩ <;> rfl
theorem Gq.get {W:List Nat}{c:C}(h:Gq Lg W c)(kn:Kn H0 H E (B++Lg)):okSl H c∧rowsOf H c=Qa1k W:=by
 rcases h with ⟨rfl,rfl,_⟩|⟨z,st,R,rfl,rfl,h1,h2⟩
 ·exact⟨trivial,rfl⟩
 ·have hz:H z=.vec 1 R:=(kn.get (z,.vec 1 R) (by simp)).1
  exact⟨by simp[okSl,hz,h2],by simp[rowsOf,hz,h1]⟩
end Go.AE.Y

namespace Go.AE.Y
open Go.Proofs.Tryz
variable {H H0:Heap}{K:V→Heap→Prop}{E B Lg:List (Nat×Obj)}
def Qbmt (ns:List Int):List C:=[.sl true 2 [],.sl true 4 [],.int .i64 0,.int .i64 0,.sl false 1 (Qb ns)]
def Qbk3 (nx:Nat→List Int)(i:Nat):List Int:=(nx i).map (· + 1)
def shRows (nx:Nat→List Int)(n:Nat):List (List C):=(List.range n).map fun i=>Qbmt (Qbk3 nx i)
structure ShB where
 c:C
 lg:List (Nat×Obj)
def ShB.row (x:ShB):List C:=[.sl true 2 [],.sl true 4 [],.int .i64 0,.int .i64 0,x.c]
def ShOk (nx:Nat→List Int)(bs:List ShB):Prop:=∀i (h:i<bs.length),Gr bs[i].lg 1 (Qb (Qbk3 nx i)) bs[i].c
end Go.AE.Y

namespace Go.AE.Y
open Go.Proofs.Tryz
variable {H H0:Heap}{K:V→Heap→Prop}{E B Lg:List (Nat×Obj)}
theorem Qa06 {S:Nat→Bool}{a b a' b':V}(h:FrzV H S a a')(k:FrzV H S b b'):FrzV H S (.tup [a,b]) (.tup [a',b']):=by
 refine .tup _ _ rfl fun j x x' h1 h2=>?_
 match j with
 |0=>simp at h1 h2;subst h1;subst h2;exact h
 |1=>simp at h1 h2;subst h1;subst h2;exact k
 |j+2=>simp at h1
end Go.AE.Y

namespace Go.AE.Y
attribute [local go_sem] cond_true cond_false Bool.not_true Bool.not_false
attribute [local instance] Classical.propDecidable
open Go.Proofs.Tryz
variable {H H' H0:Heap}{K:V→Heap→Prop}{E A A' B Li:List (Nat×Obj)}{X:Rn}{r r':Rs}
def oO (e v:Int):Obj:=.st [.sl true 1 [],.int .i64 e,.int .i64 v,.sl true 1 []]
theorem Qbif (hw:RunW X.cs){l:List Int}{f2:Bool}{x8 x9:Nat}(hl:(l.length:Int)=(Qu X.cs (X.cs.length-1)).params)(hbl:byL l)
  (kn:Kn H0 H E (X.F r [(x8,.st [.ptr X.l 0]),(x9,oO 0 0)] B)) (hr:r.ok X) (hu:r.u=0) (hs:r.s=[]) (hc:r.c=Qa0y) (ht:r.t=[])
  (hK:∀v r' H',Kn H0 H' E (X.F r' [(x8,.st [.ptr X.l 0]),(x9,oO 0 v)] B)→r'.ok X→Goes X.cs X.S 0 (cf0 X.cs l) r'.u (.dn 0 v r'.s r'.c)→K (.tup []) H')
  (hP:∀e r' H',Kn H0 H' E (X.F r' [(x8,.st [.ptr X.l 0]),(x9,oO 0 0)] B)→r'.ok X→Halts X.cs X.S 0 (cf0 X.cs l) e r'.s r'.c→K (.pn (endV e)) H') :
  Qp prog Qfv [.c (.ptr x8 0),.c (.pp [.sl X.fl 3 (Ql X.cs)]),.c (.pp [.sl f2 1 (Qb l)]),.c (.ptr x9 0)] H K:=by
 have hn:=hw.n
 have hn0:=hw.ro.n
 refine Qd Qak Q8v ?_
 have hx8:H x8=.st [.ptr X.l 0]:=kn.l 1 rfl
 have hi1:((X.cs.length:Int)-1)=((X.cs.length-1:Nat):Int):=by omega
 refine Qt ?_
 simp only[go_sem,hx8,Q4]
 try intro _
 refine⟨Qs (by omega) (by omega),?_⟩
 rw[hi1]
 refine Qa0z hw (X.S+1) 0 (by omega) H0 H E ([(x8,.st [.ptr X.l 0]),(x9,oO 0 0)]++B) [] r (X.cs.length-1) l (.sl f2 1 (Qb l)) true [] _ (Nat.zero_le _) (F_in kn) hr (by omega) (.inl ⟨rfl,f2,rfl⟩) hl hbl (by rw[ht];simp) (fun v r' H' kn' hr' hv _ _ hgo=>?_) (fun e r' H' kn' hr' _ hha=>?_)
 ·have kn':=Qa6j kn'
  have hx9:H' x9=.st [.sl true 1 [],.int .i64 0,.int .i64 0,.sl true 1 []]:=kn'.l 2 rfl
  simp only[go_sem,Qix,hx9]
  intro H2 h2
  simp only[go_sem,Q3,Q9,Qqd]
  refine hK v r' H2 (kn'.stL 2 rfl h2) hr' ?_
  rw[hu,hs,hc]at hgo
  exact hgo
 ·simp only[go_sem]
  refine hP e r' H' (Qa6j kn') hr' ?_
  rw[hu,hs,hc]at hha
  exact hha
def Rn.pc (X:Rn)(r:Rs):List C:=.sl X.fl 3 (Ql X.cs)::.int .i64 X.S::.int .i64 r.u::.sl false 1 (Qb r.s)::(Qh6 r.c++[.sl false 1 (Qb r.t)])
theorem Qa05 {S:Nat→Bool}{a b:C}(h:FrzC H S a b):∀l:List Int,FrzL H S (Qh6 l++[a]) (Qh6 l++[b])
 |[]=>.cons h .nil
 |v::l=>.cons (Qf rfl) (Qa05 h l)
theorem Qbkk {S:Nat→Bool}(hr:r.ok X)(hm:∀p∈[(X.l,X.o r)]++(r.so++r.tl),H p.1=p.2∧S p.1=true):FrzC H S (.ptr X.l 0) (.pp (X.pc r)):=by
 obtain⟨h1,h2⟩:=hm (X.l,X.o r) (by simp)
 refine FrzL.ptr h2 h1 ?_
 refine .cons (Qf rfl) (.cons (Qf rfl) (.cons (Qf rfl) (.cons ?_ (Qa05 ?_ _))))
 ·exact Gr.frzM hr.gs (fun p hp=>hm p (by simp[hp])) (FrzR.same (Qo _))
 ·exact Gr.frzM hr.gt (fun p hp=>hm p (by simp[hp])) (FrzR.same (Qo _))
theorem Qbcd (l:List Int)(c:C)(n:Nat)(h:l.length=n):((Qh6 l++[c]).take n).map (fun c=>[c])=Qb l:=by
 subst h
 rw[List.take_append_of_le_length (by simp[Qh6]),List.take_of_length_le (by simp[Qh6])]
 simp[Qh6,Qb]
theorem Qbg8 (l:List Int)(c:C)(n:Nat)(h:l.length=n):(Qh6 l++[c]).length=n+1:=by simp[Qh6,h]
set_option maxHeartbeats 8000000 in
theorem Qa9b {cs:List CodeD}{fl f2:Bool}{l:List Int}{S:Nat}(hg:Qbb cs=true)(hl:(l.length:Int)=(Qu cs (cs.length-1)).params)(hbl:byL l)(hS:S≤60000)
  (hK:∀e v s c u H',outR cs l S=(e,v,s,c)→Upd H H' []→K (.tup [.ag [.sl false 1 (Qb s),.int .i64 e,.int .i64 v,.sl false 1 (Qb c)],.c (.pp u)]) H') :
  Qp prog Qlm [.ag [.sl fl 3 (Ql cs)],.c (.sl f2 1 (Qb l)),.c (.int .i64 S)] H K:=by
 have hw:=runW hg
 refine Qz ?_
 refine Qd Qak Qapp ?_
 refine Qa ?_
 simp only[go_sem]
 intro x6 hx6 H1 h1
 have kn:Kn H H1 [] [(x6,oO 0 0)]:=(Kn.start0 H).al hx6 h1
 simp only[go_sem,Qro]
 refine Qa ?_
 simp only[go_sem]
 intro ml hml H2 h2
 obtain⟨X,hX⟩:∃X:Rn,X=⟨ml,fl,cs,S⟩:=⟨_,rfl⟩
 obtain⟨r0,hr0⟩:∃r0:Rs,r0=⟨0,[],Qa0y,[],.sl true 1 [],[],.sl true 1 [],[]⟩:=⟨_,rfl⟩
 have kn:Kn H H2 [] (X.F r0 [(x6,oO 0 0)] []):=by
  subst hX;subst hr0
  have k:Kn H H2 [] ([(x6,oO 0 0)]++[(ml,Rn.o ⟨ml,fl,cs,S⟩ ⟨0,[],Qa0y,[],.sl true 1 [],[],.sl true 1 [],[]⟩)]):=kn.al hml h2
  exact k.perm (by simpa[Rn.F]using List.Perm.swap _ _ _)
 have hXl:X.l=ml:=by rw[hX]
 have hXf:X.fl=fl:=by rw[hX]
 have hXc:X.cs=cs:=by rw[hX]
 have hXS:X.S=S:=by rw[hX]
 have hrok:r0.ok X:=by
  subst hr0
  exact⟨.nil 1,.nil 1,rfl,fun v hv=>by rw[List.eq_of_mem_replicate hv];exact⟨by omega,by omega⟩,fun v hv=>by simp at hv,Nat.le_refl _,by simp,Nat.zero_le _,by rw[hXS];exact hS⟩
 simp only[go_sem,Qrq]
 intro x8 hx8 H3 h3
 have kn:Kn H H3 [] (X.F r0 [(x6,oO 0 0),(x8,.st [.pnil])] []):=F_al (A:=[(x6,oO 0 0)]) (kn.al hx8 h3)
 have hx8:H3 x8=.st [.pnil]:=kn.l 2 rfl
 simp only[go_sem,Qrp,hx8]
 intro H4 h4
 rw[←hXl]at h4
 have kn:Kn H H4 [] (X.F r0 [(x6,oO 0 0),(x8,.st [.ptr X.l 0])] []):=kn.stL 2 rfl h4
 refine Qa ?_
 simp only[go_sem]
 intro x9 hx9 H5 h5
 have kn:Kn H H5 [] (X.F r0 [(x6,oO 0 0),(x8,.st [.ptr X.l 0]),(x9,oO 0 0)] []):=F_al (A:=[(x6,oO 0 0),(x8,.st [.ptr X.l 0])]) (kn.al hx9 h5)
 refine Qw6 (fun e2 H2=>∃(e v:Int) (r1:Rs),Kn H H2 [] (X.F r1 [(x6,oO 0 0),(x8,.st [.ptr X.l 0]),(x9,oO e v)] [])∧r1.ok X∧outR cs l S=(e,v,r1.s,r1.c)∧lk 6 e2=.c (.ptr x6 0)∧lk 8 e2=.c (.ptr x8 0)∧lk 9 e2=.c (.ptr x9 0)) ?_ ?_
 ·intro Q' hQn hQr hQe
  refine Qt ?_
  simp only[go_sem]
  refine Qbbw (by kernel_rfl) fun xe hxe H6 h6=>?_
  have kn:Kn H H6 [] (X.F r0 [(x6,oO 0 0),(x8,.st [.ptr X.l 0]),(x9,oO 0 0),(xe,.st [.int .i64 0])] []):=F_al (A:=[(x6,oO 0 0),(x8,.st [.ptr X.l 0]),(x9,oO 0 0)]) (kn.al hxe h6)
  have kn:Kn H H6 [] (X.F r0 [(x8,.st [.ptr X.l 0]),(x9,oO 0 0)] [(x6,oO 0 0),(xe,.st [.int .i64 0])]):=kn.perm (Qj fun f hf h0 hc hp=>by
   show f ([(X.l,X.o r0)]++(([(x6,oO 0 0)]++([(x8,.st [.ptr X.l 0])]++([(x9,oO 0 0)]++[(xe,.st [.int .i64 0])])))++((r0.so++r0.tl)++[])))=f ([(X.l,X.o r0)]++(([(x8,.st [.ptr X.l 0])]++[(x9,oO 0 0)])++((r0.so++r0.tl)++([(x6,oO 0 0)]++[(xe,.st [.int .i64 0])]))))
   simp only[hf,h0];omega)
  have key:∀(e v:Int) (r1:Rs) (H7 H8:Heap),Kn H H7 [] (X.F r1 [(x8,.st [.ptr X.l 0]),(x9,oO 0 v)] [(x6,oO 0 0),(xe,.st [.int .i64 0])])→H8=H7.set xe (.st [.int .i64 e])→
    H7 xe=.st [.int .i64 0]∧Kn H H8 [] (X.F r1 [(x6,oO 0 0),(x8,.st [.ptr X.l 0]),(x9,oO 0 v)] []):=by
   intro e v r1 H7 H8 k h8
   have k:Kn H H7 [] (X.F r1 [(x6,oO 0 0),(x8,.st [.ptr X.l 0]),(x9,oO 0 v),(xe,.st [.int .i64 0])] []):=k.perm (Qj fun f hf h0 hc hp=>by
    show f ([(X.l,X.o r1)]++(([(x8,.st [.ptr X.l 0])]++[(x9,oO 0 v)])++((r1.so++r1.tl)++([(x6,oO 0 0)]++[(xe,.st [.int .i64 0])]))))=f ([(X.l,X.o r1)]++(([(x6,oO 0 0)]++([(x8,.st [.ptr X.l 0])]++([(x9,oO 0 v)]++[(xe,.st [.int .i64 0])])))++((r1.so++r1.tl)++[])))
    simp only[hf,h0];omega)
   refine⟨k.l 4 rfl,?_⟩
   have k2:Kn H H8 [] (X.F r1 [(x6,oO 0 0),(x8,.st [.ptr X.l 0]),(x9,oO 0 v),(xe,.st [.int .i64 e])] []):=k.stL 4 rfl h8
   exact Qvo (A:=[(x6,oO 0 0),(x8,.st [.ptr X.l 0]),(x9,oO 0 v)]) (A':=[(xe,.st [.int .i64 e])]) k2
  have hl':(l.length:Int)=(Qu X.cs (X.cs.length-1)).params:=by rw[hXc];exact hl
  rw[←hXf,←hXc]
  refine Qbif (X:=X) (f2:=f2) (by rw[hXc];exact hw) hl' hbl kn hrok (by rw[hr0]) (by rw[hr0]) (by rw[hr0]) (by rw[hr0]) (fun v r1 H7 kn7 hr1 hgo=>?_) (fun e r1 H7 kn7 hr1 hha=>?_)
  ·refine⟨(key 0 v r1 H7 _ kn7 rfl).1,.inr ⟨by simp,fun H8 h8=>?_⟩⟩
   have k:=(key 0 v r1 H7 H8 kn7 h8).2
   have hx9:H8 x9=.st [.sl true 1 [],.int .i64 0,.int .i64 v,.sl true 1 []]:=k.l 3 rfl
   simp only[go_sem,Qhu,hx9]
   intro H9 h9
   have ho:=Qbdz hgo
   rw[hXc,hXS]at ho
   exact hQn _ _ ⟨0,v,r1,k.stL 3 rfl h9,hr1,ho,rfl,rfl,rfl⟩
  ·refine⟨(key e 0 r1 H7 _ kn7 rfl).1,.inl ⟨e,rfl,fun H8 h8=>?_⟩⟩
   have k:=(key e 0 r1 H7 H8 kn7 h8).2
   have hx9:H8 x9=.st [.sl true 1 [],.int .i64 0,.int .i64 0,.sl true 1 []]:=k.l 3 rfl
   simp only[go_sem,Qhu,hx9]
   intro H9 h9
   have ho:=Qa8y hha
   rw[hXc,hXS]at ho
   exact hQn _ _ ⟨e,0,r1,k.stL 3 rfl h9,hr1,ho,rfl,rfl,rfl⟩
 clear kn hx8
 rintro e2 H6 ⟨e,v,r1,kn,hr1,ho,l6,l8,l9⟩
 have kn:Kn H H6 [] ([(x6,oO 0 0),(x8,.st [.ptr X.l 0]),(x9,oO e v)]++([(X.l,X.o r1)]++(r1.so++r1.tl))):=kn.perm (Qj fun f hf h0 hc hp=>by simp only[Rn.F,hf,h0];omega)
 obtain⟨Sf,hfL,hfB,hfr,kn2⟩:=kn.freeze0
 have hpc:=Qbkk hr1 hfL
 have hx8:=hfB (x8,.st [.ptr X.l 0]) (by simp)
 have hfr2:FrzH H6 Sf ((H6.frz Sf).set x8 (.st [.pp (X.pc r1)])):=hfr.set hx8.2 (by rw[hx8.1];exact (FrzKL.cons rfl hpc .nil).st)
 have kn:Kn H ((H6.frz Sf).set x8 (.st [.pp (X.pc r1)])) [] [(x6,oO 0 0),(x8,.st [.pp (X.pc r1)]),(x9,oO e v)]:=kn2.setL 1 rfl (by nofun)
 obtain⟨H7,hH7⟩:∃H7,(H6.frz Sf).set x8 (.st [.pp (X.pc r1)])=H7:=⟨_,rfl⟩
 rw[hH7]at hfr2 kn
 refine Q6 ?_
 refine c_gh (e':=[(6,.c (.ptr x6 0)),(8,.c (.ptr x8 0)),(9,.c (.ptr x9 0))]) (H':=H7) (Qdg Sf (Q0r fun p hp=>?_) hfr2) ?_
 ·simp only[List.mem_cons,List.not_mem_nil,or_false]at hp
  rcases hp with rfl|rfl|rfl
  ·rw[l6];exact .c _ _ (.same _ rfl)
  ·rw[l8];exact .c _ _ (.same _ rfl)
  ·rw[l9];exact .c _ _ (.same _ rfl)
 have hx8:H7 x8=.st [.pp (.sl X.fl 3 (Ql X.cs)::.int .i64 X.S::.int .i64 r1.u::.sl false 1 (Qb r1.s)::(Qh6 r1.c++[.sl false 1 (Qb r1.t)]))]:=kn.l 1 rfl
 have hlen:=Qbg8 r1.c (.sl false 1 (Qb r1.t)) 16 hr1.c
 have hrow:=Qbcd r1.c (.sl false 1 (Qb r1.t)) 16 hr1.c
 have hcl:=hr1.c
 refine Qag ?_
 simp only[go_sem,hx8,hlen,hrow]
 refine⟨by simp only[LIM];omega,?_⟩
 refine Q0a kn (by simp only[LIM];omega) fun t Lg H8 hgr how kn=>?_
 have hx8:H8 x8=.st [.pp (.sl X.fl 3 (Ql X.cs)::.int .i64 X.S::.int .i64 r1.u::.sl false 1 (Qb r1.s)::(Qh6 r1.c++[.sl false 1 (Qb r1.t)]))]:=kn.l 1 rfl
 have hx9:H8 x9=.st [.sl true 1 [],.int .i64 e,.int .i64 v,.sl true 1 []]:=kn.l 2 rfl
 simp only[go_sem,Qrs,hx8,hx9,how]
 intro H9 h9
 have kn:Kn H H9 [] ([(x6,oO 0 0),(x8,.st [.pp (X.pc r1)]),(x9,.st [.sl false 1 (Qb r1.s),.int .i64 e,.int .i64 v,.sl true 1 []])]++Lg):=kn.stL 2 rfl h9
 have hx9:H9 x9=.st [.sl false 1 (Qb r1.s),.int .i64 e,.int .i64 v,.sl true 1 []]:=kn.l 2 rfl
 simp only[go_sem,Qrr,hx9,how]
 intro H10 h10
 have kn:Kn H H10 [] ([(x6,oO 0 0),(x8,.st [.pp (X.pc r1)]),(x9,.st [.sl false 1 (Qb r1.s),.int .i64 e,.int .i64 v,t])]++Lg):=kn.stL 2 rfl h10
 have hx6:H10 x6=.st [.sl true 1 [],.int .i64 0,.int .i64 0,.sl true 1 []]:=kn.l 0 rfl
 have hx8:H10 x8=.st [.pp (.sl X.fl 3 (Ql X.cs)::.int .i64 X.S::.int .i64 r1.u::.sl false 1 (Qb r1.s)::(Qh6 r1.c++[.sl false 1 (Qb r1.t)]))]:=kn.l 1 rfl
 have hx9:H10 x9=.st [.sl false 1 (Qb r1.s),.int .i64 e,.int .i64 v,t]:=kn.l 2 rfl
 refine Qag ?_
 simp only[go_sem,hx6,hx8,hx9,how]
 intro H11 h11
 have kn:Kn H H11 [] ([(x6,.st [.sl false 1 (Qb r1.s),.int .i64 e,.int .i64 v,t]),(x8,.st [.pp (X.pc r1)]),(x9,.st [.sl false 1 (Qb r1.s),.int .i64 e,.int .i64 v,t])]++Lg):=kn.stL 0 rfl h11
 have hx6:H11 x6=.st [.sl false 1 (Qb r1.s),.int .i64 e,.int .i64 v,t]:=kn.l 0 rfl
 have hx8:H11 x8=.st [.pp (.sl X.fl 3 (Ql X.cs)::.int .i64 X.S::.int .i64 r1.u::.sl false 1 (Qb r1.s)::(Qh6 r1.c++[.sl false 1 (Qb r1.t)]))]:=kn.l 1 rfl
 simp only[go_sem,Qrt,hx8,how]
 refine Qk ?_
 simp only[go_sem,Q3,Q9,Q22,List.forall_mem_cons,RS.op,hx6,how]
 refine⟨_,Qa06 (FrzL.ag (.cons (Qf rfl) (.cons (Qf rfl) (.cons (Qf rfl) (.cons (hgr.frz kn (Qo _)) .nil))))) (.c _ _ (Qf rfl)),?_⟩
 exact hK e v r1.s r1.c _ _ ho kn.fin
end Go.AE.Y

namespace Go.AE.Y
open Go.Proofs.Tryz
def Qny:List Item:=[gF 45 39 (.not (.t 44)),pT 46 39 45]
def Qac0:SC:=cT 46 (sR [fB 4 false] [4] .ret) .skip
def Qnz:List Item:=[gF 81 67 (.not (.t 80)),pT 82 67 81]
def Qac1:SC:=cT 82 (sR [fB 4 false] [4] .ret) .skip
def Qac2:SC:=.reg [mJ 52 5,cJ 53 .add 52 1,mJ 5 53] [2,3,5]
def Qac3:SC:=.seq (.block 1 (.seq (.dreg 29 [0,1,2,3,4,5,6,7,8,9,10,11,12,13,14,15,16,17,18,19,20,21,22,23,24,25,26,27,28] ( fJ 54 0 2::lJ 55 54::mJ 56 5::iJ 57 2 55 56::fJ 58 0 57::lJ 59 58::fJ 60 0 3::lJ 61 60::mJ 62 5::iJ 63 2 61 62::fJ 64 0 63::lJ 65 64::bJ 66 .neq 59 65::mJ 67 66::gFf 68 67 0 2::gFl 69 67 68::gFm 70 67 5::gF 71 67 (.iad 2 (.t 69) (.t 70))::gFf 72 67 1 71::gFl 73 67 72::gFf 74 67 0 3::gFl 75 67 74::gFm 76 67 5::gF 77 67 (.iad 2 (.t 75) (.t 76))::gFf 78 67 1 77::gFl 79 67 78::.e (some 80) (some (67,false)) (.call Qpo [.t 73,.t 79])::Qnz) [2,3,5,82]) Qac1)) Qac2
def Q6x:SC:=.seq (sR [mJ 47 5,fJ 48 0 2,lJ 49 48,nJ 50 49,bJ 51 .lss 47 50] [2,3,5,51] (cT 51 .skip (.exit 0))) Qac3
def Qn0:List Item:=[sJ 4 7 94]
def Qn1:List Item:=[sJ 4 8 99]
def Qn2:List Item:=[gF 125 119 (.not (.t 124)),pT 126 119 125]
def Q6o:SC:=cT 126 (sR [fB 4 false] [4] .ret) .skip
def Q6p:SC:=sR (fJ 100 0 7::lJ 101 100::fJ 102 0 8::lJ 103 102::bJ 104 .neq 101 103::mJ 105 104::gFf 106 105 1 7::gFl 107 105 106::gFf 108 105 1 8::gFl 109 105 108::gF 110 105 (.bin 0 .neq (.t 107) (.t 109))::pT 111 105 110::mJ 112 111::gFf 113 112 3 7::gFl 114 112 113::gFf 115 112 3 8::gFl 116 112 115::gF 117 112 (.bin 0 .neq (.t 114) (.t 116))::pT 118 112 117::mJ 119 118::gFf 120 119 2 7::gFl 121 119 120::gFf 122 119 2 8::gFl 123 119 122::.e (some 124) (some (119,false)) (.call Qpo [.t 121,.t 123])::Qn2) [2,3,6,126] Q6o
def Q6q:SC:=sR (fJ 95 1 3::lJ 96 95::mJ 97 6::iJ 98 4 96 97::tJ 99 4 98::eI 8 (.alloc [.int .i64 0,.int .i64 0,.sl true 1 [],.int .i64 0])::Qn1) [2,3,6,7,8] Q6p
def Q6r:SC:=.reg [mJ 88 6,cJ 89 .add 88 1,mJ 6 89] [2,3,6]
def Q6s:SC:=.seq (.block 3 (sR (fJ 90 1 2::lJ 91 90::mJ 92 6::iJ 93 4 91 92::tJ 94 4 93::eI 7 (.alloc [.int .i64 0,.int .i64 0,.sl true 1 [],.int .i64 0])::Qn0) [2,3,6,7] Q6q)) Q6r
def Q2e:SC:=.seq (sR [mJ 83 6,fJ 84 1 2,lJ 85 84,nJ 86 85,bJ 87 .lss 83 86] [2,3,6,87] (cT 87 .skip (.exit 2))) Q6s
def Q6t:SC:=sR [fB 4 true] [4] .ret
def Q6u:SC:=.seq (sR [zJ 6 0] [2,3,6] (bL 2 Q2e)) Q6t
def Q6v:SC:=.seq (sR [zJ 5 0] [2,3,5] (bL 0 Q6x)) Q6u
def Q6w:SC:=.seq (sR (fJ 9 0 2::lJ 10 9::nJ 11 10::fJ 12 0 3::lJ 13 12::nJ 14 13::bJ 15 .neq 11 14::mJ 16 15::gFf 17 16 1 2::gFl 18 16 17::gF 19 16 (.len (.t 18))::gFf 20 16 1 3::gFl 21 16 20::gF 22 16 (.len (.t 21))::gF 23 16 (.bin 0 .neq (.t 19) (.t 22))::pT 24 16 23::mJ 25 24::gFf 26 25 2 2::gFl 27 25 26::gFf 28 25 2 3::gFl 29 25 28::gF 30 25 (.bin 0 .neq (.t 27) (.t 29))::pT 31 25 30::mJ 32 31::gFf 33 32 3 2::gFl 34 32 33::gFf 35 32 3 3::gFl 36 32 35::gF 37 32 (.bin 0 .neq (.t 34) (.t 36))::pT 38 32 37::mJ 39 38::gFf 40 39 4 2::gFl 41 39 40::gFf 42 39 4 3::gFl 43 39 42::.e (some 44) (some (39,false)) (.call Qpo [.t 41,.t 43])::Qny) [2,3,46] Qac0) Q6v
def Qan4:SC:=sR [vJ 2 0,vJ 3 1,fB 4 false] [2,3] Q6w
def Qyy:List RS:=[.tmp 4]
theorem Qalq:mFn prog Qja 2 127 Qan4 Qyy=true:=by kernel_rfl
def Qaib:SC:=cT 26 (sR [fB 4 false] [4] .ret) .skip
def Qth:List Item:=[oJ 45 44]
def Qaic:SC:=cT 45 (sR [fB 4 false] [4] .ret) .skip
def Qaid:SC:=.reg [mJ 32 5,cJ 33 .add 32 1,mJ 5 33] [2,3,5]
def Qaie:SC:=.seq (.block 1 (.seq (.dreg 12 [0,1,2,3,4,5,6,7,8,9,10,11] ( fJ 34 2 2::lJ 35 34::mJ 36 5::iJ 37 5 35 36::tJ 38 5 37::fJ 39 2 3::lJ 40 39::mJ 41 5::iJ 42 5 40 41::tJ 43 5 42::aJ 44 Qja [.t 38,.t 43]::Qth) [2,3,5,45]) Qaic)) Qaid
def Qac4:SC:=.seq (sR [mJ 27 5,fJ 28 2 2,lJ 29 28,nJ 30 29,bJ 31 .lss 27 30] [2,3,5,31] (cT 31 .skip (.exit 0))) Qaie
def Qaif:SC:=sR [fB 4 true] [4] .ret
def Qaig:SC:=.seq (sR [zJ 5 0] [2,3,5] (bL 0 Qac4)) Qaif
def Qaih:SC:=.seq (sR [fJ 6 0 2,lJ 7 6,fJ 8 0 3,lJ 9 8,bJ 10 .neq 7 9,mJ 11 10,gFf 12 11 1 2,gFl 13 11 12,gFf 14 11 1 3,gFl 15 11 14,gF 16 11 (.bin 0 .neq (.t 13) (.t 15)),pT 17 11 16,mJ 18 17,gFf 19 18 2 2,gFl 20 18 19,gF 21 18 (.len (.t 20)),gFf 22 18 2 3,gFl 23 18 22,gF 24 18 (.len (.t 23)),gF 25 18 (.bin 0 .neq (.t 21) (.t 24)),pT 26 18 25] [2,3,26] Qaib) Qaig
def Qas4:SC:=sR [vJ 2 0,vJ 3 1,fB 4 false] [2,3] Qaih
def Q27:List RS:=[.tmp 4]
theorem Qapx:mFn prog Qls 2 46 Qas4 Q27=true:=by kernel_rfl
def Qa4z:SC:=cT 10 (sR [fB 4 false] [4] .ret) .skip
def Qa40:SC:=cT 25 (sR [fB 4 false] [4] .ret) .skip
def Qa41:SC:=.reg [mJ 15 5,cJ 16 .add 15 1,mJ 5 16] [0,1,5]
def Qa42:SC:=.seq (.block 1 (.seq (.dreg 9 [0,1,2,3,4,5,6,7,8] ( mJ 17 0::mJ 18 5::iJ 19 1 17 18::lJ 20 19::mJ 21 1::mJ 22 5::iJ 23 1 21 22::lJ 24 23::bJ 25 .neq 20 24::[]) [0,1,5,25]) Qa40)) Qa41
def Qax2:SC:=.seq (sR [mJ 11 5,mJ 12 0,nJ 13 12,bJ 14 .lss 11 13] [0,1,5,14] (cT 14 .skip (.exit 0))) Qa42
def Qa43:SC:=sR [fB 4 true] [4] .ret
def Qa44:SC:=.seq (sR [zJ 5 0] [0,1,5] (bL 0 Qax2)) Qa43
def Qa45:SC:=.seq (sR [mJ 6 0,nJ 7 6,mJ 8 1,nJ 9 8,bJ 10 .neq 7 9] [0,1,10] Qa4z) Qa44
def Qbem:SC:=sR [fB 4 false] [0,1] Qa45
def Qa1o:List RS:=[.tmp 4]
theorem Qbdd:mFn prog Qpo 2 26 Qbem Qa1o=true:=by kernel_rfl
def Qatt:SC:=cT 10 (sR [fB 4 false] [4] .ret) .skip
def Qatu:SC:=cT 24 (sR [fB 4 false] [4] .ret) .skip
def Qatv:SC:=.seq (.dreg 9 [0,1,2,3,4,5,6,7,8] ( mJ 16 0::mJ 17 5::iJ 18 1 16 17::lJ 19 18::mJ 20 1::mJ 21 5::iJ 22 1 20 21::lJ 23 22::bJ 24 .neq 19 23::[]) [0,1,12,13,24]) Qatu
def Qatw:SC:=.reg [cJ 25 .add 13 1,mJ 13 25] [0,1,12,13]
def Qatx:SC:=.seq (.block 1 (sR [mJ 15 13,mJ 5 15] [0,1,5,12,13] Qatv)) Qatw
def Qaok:SC:=sR [bJ 14 .lss 13 12] [0,1,12,13,14] (cX 14 0 Qatx)
def Qaty:SC:=sR [fB 4 true] [4] .ret
def Qatz:SC:=.seq (sR [mJ 11 0,nJ 12 11,zJ 13 0] [0,1,12,13] (bL 0 Qaok)) Qaty
def Qat0:SC:=.seq (sR [mJ 6 0,nJ 7 6,mJ 8 1,nJ 9 8,bJ 10 .neq 7 9] [0,1,10] Qatt) Qatz
def Qa59:SC:=sR [fB 4 false] [0,1] Qat0
def Qake:List RS:=[.tmp 4]
theorem Qa3p:mFn prog Qlw 2 26 Qa59 Qake=true:=by kernel_rfl
def Q68:SC:=cT 12 (sR [fB 4 false] [4] .ret) .skip
def Qk9:List Item:=[oJ 31 30]
def Q69:SC:=cT 31 (sR [fB 4 false] [4] .ret) .skip
def Q7a:SC:=.reg [mJ 18 5,cJ 19 .add 18 1,mJ 5 19] [2,3,5]
def Q7b:SC:=.seq (.block 1 (.seq (.dreg 12 [0,1,2,3,4,5,6,7,8,9,10,11] ( fJ 20 0 2::lJ 21 20::mJ 22 5::iJ 23 3 21 22::tJ 24 3 23::fJ 25 0 3::lJ 26 25::mJ 27 5::iJ 28 3 26 27::tJ 29 3 28::aJ 30 Qls [.t 24,.t 29]::Qk9) [2,3,5,31]) Q69)) Q7a
def Q2i:SC:=.seq (sR [mJ 13 5,fJ 14 0 2,lJ 15 14,nJ 16 15,bJ 17 .lss 13 16] [2,3,5,17] (cT 17 .skip (.exit 0))) Q7b
def Q7c:SC:=sR [fB 4 true] [4] .ret
def Q7d:SC:=.seq (sR [zJ 5 0] [2,3,5] (bL 0 Q2i)) Q7c
def Q7e:SC:=.seq (sR [fJ 6 0 2,lJ 7 6,nJ 8 7,fJ 9 0 3,lJ 10 9,nJ 11 10,bJ 12 .neq 8 11] [2,3,12] Q68) Q7d
def Qajl:SC:=sR [vJ 2 0,vJ 3 1,fB 4 false] [2,3] Q7e
def Qvy:List RS:=[.tmp 4]
theorem Qafv:mFn prog Qdt 2 32 Qajl Qvy=true:=by kernel_rfl
end Go.AE.Y

namespace Go.AE.Y
attribute [local go_sem] cond_true cond_false Bool.not_true Bool.not_false
open Go.Proofs.Tryz
variable {H H0:Heap}{K:V→Heap→Prop}
theorem Qat8 {f g:Bool}{ns:List Int}(hK:K (.c (.bool true)) H):Qp prog Qlw [.c (.sl f 1 (Qb ns)),.c (.sl g 1 (Qb ns))] H K:=by
 refine Qd Qak Qa3p ?_
 refine Qa ?_
 simp only[go_sem]
 refine Q6 ?_
 refine Qa ?_
 simp only[go_sem,Qc,decide_true]
 intro hl
 try intro _
 simp only[LIM]at hl
 refine Qh (Qe rfl ?_ ?_)
 ·intro h;simp at h
 intro _
 refine Qi ?_
 try simp only[go_sem]
 refine Q6 ?_
 refine Qa ?_
 simp only[go_sem,Qc]
 try intro _
 refine Qh (Qg (Qy (fun m e1 H1=>∃(i:Nat),m=ns.length-i∧i≤ns.length∧H1=H∧lk 0 e1=.c (.sl f 1 (Qb ns))∧lk 1 e1=.c (.sl g 1 (Qb ns))∧lk 12 e1=.c (.int .i64 ns.length)∧lk 13 e1=.c (.int .i64 i)) ns.length ?_ ?_))
 ·exact⟨0,by omega,by omega,rfl,rfl,rfl,rfl,rfl⟩
 ·rintro m e1 H1 ⟨i,hm,hi,rfl,l0,l1,l12,l13⟩
  refine Qa ?_
  simp only[go_sem,l0,l1,l12,l13]
  refine Qh (Qe rfl ?_ ?_)
  ·intro hc
   have hlt:i<ns.length:=by simpa using hc
   refine Qi ?_
   try simp only[go_sem]
   refine Qh (Qg ?_)
   refine Qa ?_
   simp only[go_sem,l0,l1,l12,l13]
   refine Qag ?_
   simp only[go_sem,l0,l1,l12,l13,hlt,Qc,Qm _ _ hlt,decide_true]
   refine Qe rfl ?_ ?_
   ·intro h;simp at h
   intro _
   refine Qi ?_
   try simp only[go_sem]
   refine Qt ?_
   simp only[go_sem,l0,l1,l12,l13]
   refine⟨Qs (by omega) (by omega),?_⟩
   show ∃m,_
   exact⟨ns.length-(i+1),by omega,i+1,rfl,by omega,rfl,rfl,rfl,rfl,rfl⟩
  ·intro hc
   refine Q0 ?_
   simp only[go_sem,X.next]
   refine Qa ?_
   simp only[go_sem]
   refine Qk ?_
   simp only[go_sem,Q3,Q9,Qake,List.mem_singleton,forall_eq,RS.op]
   exact hK
theorem Qalc {f g:Bool}{ns:List Int}(hK:K (.c (.bool true)) H):Qp prog Qpo [.c (.sl f 1 (Qb ns)),.c (.sl g 1 (Qb ns))] H K:=by
 refine Qd Qak Qbdd ?_
 refine Qa ?_
 simp only[go_sem]
 refine Q6 ?_
 refine Qa ?_
 simp only[go_sem,Qc,decide_true]
 intro hl
 try intro _
 simp only[LIM]at hl
 refine Qh (Qe rfl ?_ ?_)
 ·intro h;simp at h
 intro _
 refine Qi ?_
 try simp only[go_sem]
 refine Q6 ?_
 refine Qa ?_
 simp only[go_sem,Qc]
 try intro _
 refine Qh (Qg (Qy (fun m e1 H1=>∃(i:Nat),m=ns.length-i∧i≤ns.length∧H1=H∧lk 0 e1=.c (.sl f 1 (Qb ns))∧lk 1 e1=.c (.sl g 1 (Qb ns))∧lk 5 e1=.c (.int .i64 i)) ns.length ?_ ?_))
 ·exact⟨0,by omega,by omega,rfl,rfl,rfl,rfl⟩
 ·rintro m e1 H1 ⟨i,hm,hi,rfl,l0,l1,l5⟩
  refine Q6 ?_
  refine Qa ?_
  simp only[go_sem,l0,l1,l5,Qc]
  try intro _
  refine Qh (Qe rfl ?_ ?_)
  ·intro hc
   have hlt:i<ns.length:=by simpa using hc
   refine Qi ?_
   try simp only[go_sem]
   refine Qh (Qg ?_)
   refine Qag ?_
   simp only[go_sem,l0,l1,l5,hlt,Qc,Qm _ _ hlt,decide_true]
   refine Qe rfl ?_ ?_
   ·intro h;simp at h
   intro _
   refine Qi ?_
   try simp only[go_sem]
   refine Qt ?_
   simp only[go_sem,l0,l1,l5]
   refine⟨Qs (by omega) (by omega),?_⟩
   show ∃m,_
   exact⟨ns.length-(i+1),by omega,i+1,rfl,by omega,rfl,rfl,rfl,rfl⟩
  ·intro hc
   refine Q0 ?_
   simp only[go_sem,X.next]
   refine Qa ?_
   simp only[go_sem]
   refine Qk ?_
   simp only[go_sem,Q3,Q9,Qa1o,List.mem_singleton,forall_eq,RS.op]
   exact hK
set_option maxHeartbeats 4000000 in
theorem Qale {p:BlkD}(hK:∀H',Upd H H' []→K (.c (.bool true)) H'):Qp prog Qja [.ag p.cells,.ag p.cells] H K:=by
 refine Qz ?_
 refine Qd Qak Qalq ?_
 refine Qa ?_
 simp only[go_sem,BlkD.cells]
 refine Q6 ?_
 refine Qa ?_
 simp only[go_sem,Qv,Qat,decide_true]
 intro hlp hli
 simp only[LIM]at hlp hli
 refine Qalc ?_
 simp only[go_sem,Qny]
 refine Qh (Qe rfl ?_ ?_)
 ·intro h;simp at h
 intro _
 refine Qi ?_
 try simp only[go_sem]
 refine Q6 ?_
 refine Qa ?_
 simp only[go_sem]
 refine Qh (Qg (Qy (fun m e1 H1=>∃(i:Nat),m=p.phis.length-i∧i≤p.phis.length∧H1=H∧lk 2 e1=.c (.pp p.cells)∧lk 3 e1=.c (.pp p.cells)∧lk 5 e1=.c (.int .i64 i)) p.phis.length ?_ ?_))
 ·exact⟨0,by omega,by omega,rfl,rfl,rfl,rfl⟩
 ·rintro m e1 H1 ⟨i,hm,hi,rfl,l2,l3,l5⟩
  simp only[BlkD.cells]at l2 l3
  refine Q6 ?_
  refine Qa ?_
  simp only[go_sem,l2,l3,l5,Qv]
  try intro _
  refine Qh (Qe rfl ?_ ?_)
  ·intro hc
   have hlt:i<p.phis.length:=by simpa using hc
   obtain⟨x,hx⟩:∃x,p.phis[i]=x:=⟨_,rfl⟩
   refine Qi ?_
   try simp only[go_sem]
   refine Qh (Qg ?_)
   refine Qag ?_
   simp only[go_sem,l2,l3,l5,hlt,Qv,Qay _ _ hlt,hx,PhiD.cells,decide_true]
   refine Qalc ?_
   simp only[go_sem,Qnz]
   refine Qe rfl ?_ ?_
   ·intro h;simp at h
   intro _
   refine Qi ?_
   try simp only[go_sem]
   refine Qt ?_
   simp only[go_sem,l2,l3,l5]
   refine⟨Qs (by omega) (by omega),?_⟩
   show ∃m,_
   exact⟨p.phis.length-(i+1),by omega,i+1,rfl,by omega,rfl,rfl,rfl,rfl⟩
  ·intro hc
   refine Q0 ?_
   simp only[go_sem,X.next]
   refine Q6 ?_
   refine Qa ?_
   simp only[go_sem,l2,l3]
   refine Qh (Qg (Qy (fun m e1 H2=>∃(i:Nat),m=p.ins.length-i∧i≤p.ins.length∧Kn H1 H2 [] []∧lk 2 e1=.c (.pp p.cells)∧lk 3 e1=.c (.pp p.cells)∧lk 6 e1=.c (.int .i64 i)) p.ins.length ?_ ?_))
   ·exact⟨0,by omega,by omega,.start0 H1,rfl,rfl,rfl⟩
   ·clear l2 l3 l5
    rintro m e1 H2 ⟨i,hm,hi,kn,l2,l3,l6⟩
    simp only[BlkD.cells]at l2 l3
    refine Q6 ?_
    refine Qa ?_
    simp only[go_sem,l2,l3,l6,Qat]
    try intro _
    refine Qh (Qe rfl ?_ ?_)
    ·intro hc
     have hlt:i<p.ins.length:=by simpa using hc
     obtain⟨x,hx⟩:∃x,p.ins[i]=x:=⟨_,rfl⟩
     refine Qi ?_
     try simp only[go_sem]
     refine Qh (Qg ?_)
     refine Qa ?_
     simp only[go_sem,l2,l3,l6,hlt,Qat,Qen _ _ hlt,hx,InsD.cells]
     intro x7 hx7 H3 h3
     have kn:=kn.al hx7 h3
     have hx7:=kn.l 0 rfl
     simp only[go_sem,Qn0,hx7]
     intro H4 h4
     have kn:Kn H1 H4 [] [(x7,.st x.cells)]:=kn.stL 0 rfl h4
     refine Qa ?_
     simp only[go_sem,l2,l3,l6,hlt,Qat,Qen _ _ hlt,hx,InsD.cells]
     intro x8 hx8 H5 h5
     have kn:=kn.al hx8 h5
     have hx8:=kn.l 1 rfl
     simp only[go_sem,Qn1,hx8]
     intro H6 h6
     have kn:Kn H1 H6 [] [(x7,.st x.cells),(x8,.st x.cells)]:=kn.stL 1 rfl h6
     have hx7:H6 x7=.st x.cells:=kn.l 0 rfl
     have hx8:H6 x8=.st x.cells:=kn.l 1 rfl
     refine Qa ?_
     simp only[go_sem,hx7,hx8,InsD.cells,decide_true]
     refine Qalc ?_
     simp only[go_sem,Qn2]
     refine Qe rfl ?_ ?_
     ·intro h;simp at h
     intro _
     refine Qi ?_
     try simp only[go_sem]
     refine Qt ?_
     simp only[go_sem,l2,l3,l6]
     refine⟨Qs (by omega) (by omega),?_⟩
     show ∃m,_
     exact⟨p.ins.length-(i+1),by omega,i+1,rfl,by omega,Kn.drop (A:=[]) (B:=[(x7,_),(x8,_)]) kn,rfl,rfl,rfl⟩
    ·intro hc
     refine Q0 ?_
     simp only[go_sem,X.next]
     refine Qa ?_
     simp only[go_sem]
     refine Qk ?_
     simp only[go_sem,Q3,Q9,Qyy,List.mem_singleton,forall_eq,RS.op]
     exact⟨_,.c _ _ (Qf rfl),hK _ kn.fin⟩
set_option maxHeartbeats 1000000 in
theorem Qapi {p:CodeD}(hK:∀H',Upd H H' []→K (.c (.bool true)) H'):Qp prog Qls [.ag p.cells,.ag p.cells] H K:=by
 refine Qz ?_
 refine Qd Qak Qapx ?_
 refine Qa ?_
 simp only[go_sem,CodeD.cells]
 refine Q6 ?_
 refine Qa ?_
 simp only[go_sem,Qq,decide_true]
 intro hl
 try intro _
 simp only[LIM]at hl
 refine Qh (Qe rfl ?_ ?_)
 ·intro h;simp at h
 intro _
 refine Qi ?_
 try simp only[go_sem]
 refine Q6 ?_
 refine Qa ?_
 simp only[go_sem]
 refine Qh (Qg (Qy (fun m e1 H1=>∃(i:Nat),m=p.blocks.length-i∧i≤p.blocks.length∧Kn H H1 [] []∧lk 2 e1=.c (.pp [.int .i64 p.params,.int .i64 p.regs,.sl false 5 (Qr p.blocks)])∧lk 3 e1=.c (.pp [.int .i64 p.params,.int .i64 p.regs,.sl false 5 (Qr p.blocks)])∧lk 5 e1=.c (.int .i64 i)) p.blocks.length ?_ ?_))
 ·exact⟨0,by omega,by omega,.start0 H,rfl,rfl,rfl⟩
 ·rintro m e1 H1 ⟨i,hm,hi,kn,l2,l3,l5⟩
  refine Q6 ?_
  refine Qa ?_
  simp only[go_sem,l2,l3,l5,Qq]
  try intro _
  refine Qh (Qe rfl ?_ ?_)
  ·intro hc
   have hlt:i<p.blocks.length:=by simpa using hc
   obtain⟨x,hx⟩:∃x,p.blocks[i]=x:=⟨_,rfl⟩
   refine Qi ?_
   try simp only[go_sem]
   refine Qh (Qg ?_)
   refine Qag ?_
   simp only[go_sem,l2,l3,l5,hlt,Qq,Qan _ _ hlt,hx,BlkD.cells]
   refine Qale (p:=x) fun H2 hu=>?_
   have kn:=kn.call0 hu
   simp only[go_sem,Qth]
   refine Qe rfl ?_ ?_
   ·intro h;simp at h
   intro _
   refine Qi ?_
   try simp only[go_sem]
   refine Qt ?_
   simp only[go_sem,l2,l3,l5]
   refine⟨Qs (by omega) (by omega),?_⟩
   show ∃m,_
   exact⟨p.blocks.length-(i+1),by omega,i+1,rfl,by omega,kn,rfl,rfl,rfl⟩
  ·intro hc
   refine Q0 ?_
   simp only[go_sem,X.next]
   refine Qa ?_
   simp only[go_sem]
   refine Qk ?_
   simp only[go_sem,Q3,Q9,Q27,List.mem_singleton,forall_eq,RS.op]
   exact⟨_,.c _ _ (Qf rfl),hK _ kn.fin⟩
set_option maxHeartbeats 1000000 in
theorem Qmr {f g:Bool}{cs:List CodeD}(hK:∀H',Upd H H' []→K (.c (.bool true)) H'):Qp prog Qdt [.ag [.sl f 3 (Ql cs)],.ag [.sl g 3 (Ql cs)]] H K:=by
 refine Qz ?_
 refine Qd Qak Qafv ?_
 refine Qa ?_
 simp only[go_sem]
 refine Q6 ?_
 refine Qa ?_
 simp only[go_sem,Q4,decide_true]
 intro hl
 try intro _
 simp only[LIM]at hl
 refine Qh (Qe rfl ?_ ?_)
 ·intro h;simp at h
 intro _
 refine Qi ?_
 try simp only[go_sem]
 refine Q6 ?_
 refine Qa ?_
 simp only[go_sem]
 refine Qh (Qg (Qy (fun m e1 H1=>∃(i:Nat),m=cs.length-i∧i≤cs.length∧Kn H H1 [] []∧lk 2 e1=.c (.pp [.sl f 3 (Ql cs)])∧lk 3 e1=.c (.pp [.sl g 3 (Ql cs)])∧lk 5 e1=.c (.int .i64 i)) cs.length ?_ ?_))
 ·exact⟨0,by omega,by omega,.start0 H,rfl,rfl,rfl⟩
 ·rintro m e1 H1 ⟨i,hm,hi,kn,l2,l3,l5⟩
  refine Q6 ?_
  refine Qa ?_
  simp only[go_sem,l2,l3,l5,Q4]
  try intro _
  refine Qh (Qe rfl ?_ ?_)
  ·intro hc
   have hlt:i<cs.length:=by simpa using hc
   obtain⟨x,hx⟩:∃x,cs[i]=x:=⟨_,rfl⟩
   refine Qi ?_
   try simp only[go_sem]
   refine Qh (Qg ?_)
   refine Qag ?_
   simp only[go_sem,l2,l3,l5,hlt,Q4,Qaj _ _ hlt,hx,CodeD.cells]
   refine Qapi (p:=x) fun H2 hu=>?_
   have kn:=kn.call0 hu
   simp only[go_sem,Qk9]
   refine Qe rfl ?_ ?_
   ·intro h;simp at h
   intro _
   refine Qi ?_
   try simp only[go_sem]
   refine Qt ?_
   simp only[go_sem,l2,l3,l5]
   refine⟨Qs (by omega) (by omega),?_⟩
   show ∃m,_
   exact⟨cs.length-(i+1),by omega,i+1,rfl,by omega,kn,rfl,rfl,rfl⟩
  ·intro hc
   refine Q0 ?_
   simp only[go_sem,X.next]
   refine Qa ?_
   simp only[go_sem]
   refine Qk ?_
   simp only[go_sem,Q3,Q9,Qvy,List.mem_singleton,forall_eq,RS.op]
   exact⟨_,.c _ _ (Qf rfl),hK _ kn.fin⟩
end Go.AE.Y

namespace Go.AE.Y
attribute [local go_sem] cond_true cond_false Bool.not_true Bool.not_false
attribute [local instance] Classical.propDecidable
open Go.Proofs.Tryz
variable {H H' H0:Heap}{K:V→Heap→Prop}{E A A' B Li:List (Nat×Obj)}{cs ds:List CodeD}{fl f2:Bool}{l:List Int}
def Qjg (cs:List CodeD):Int:=(Qu cs (cs.length-1)).params
theorem Q2x (h0:0<cs.length)(hK:K (.c (.int .i64 (Qjg cs))) H):Qp prog Qc7 [.ag [.sl fl 3 (Ql cs)]] H K:=by
 refine Qd Qak Q8u ?_
 have hi1:((cs.length:Int)-1)=((cs.length-1:Nat):Int):=by omega
 have hlt:cs.length-1<cs.length:=by omega
 rw[Qjg,Qcg hlt]at hK
 refine Qa ?_
 simp only[go_sem]
 refine Qa ?_
 simp only[go_sem,Q4,hi1,hlt,Qaj _ _ hlt,CodeD.cells]
 intro hl
 simp only[LIM]at hl
 refine⟨Qs (by omega) (by omega),?_⟩
 refine Qk ?_
 simp only[go_sem,Q3,Q9,Qqb,List.mem_singleton,forall_eq,RS.op]
 exact hK
theorem Qa2q {v:Int}(hK:K (.c (.bool (!(decide (0≤v)&&decide (v≤255))))) H):Qp prog Qfu [.c (.int .i64 v)] H K:=by
 refine Qd Qak Q8s ?_
 refine Qa ?_
 simp only[go_sem]
 refine Qa ?_
 simp only[go_sem]
 refine Qa09 ?_
 simp only[go_sem,Qiv]
 refine Qk ?_
 simp only[go_sem,Q3,Q9,Qp9,List.mem_singleton,forall_eq,RS.op]
 exact hK
theorem Qa60 {n:Int}(hn:(l.length:Int)=n)(hb:byL l)(hK:K (.c (.bool true)) H):Qp prog Qli [.c (.sl f2 1 (Qb l)),.c (.int .i64 n)] H K:=by
 have hd:decide ((l.length:Int)=n)=true:=decide_eq_true hn
 refine Qd Qak Qapm ?_
 refine Qa ?_
 simp only[go_sem]
 refine Qa ?_
 simp only[go_sem,Qc,hd]
 try intro _
 refine Qe1 (p:=fun v=>!(decide (0≤v)&&decide (v≤255))) (.mk' _ _ _ _) rfl (fun x K' _ hk=>Qa2q hk) ?_
 have hany:(l.any fun v=>!(decide (0≤v)&&decide (v≤255)))=false:=by
  rw[List.any_eq_false]
  intro v hv
  obtain⟨a,b⟩:=hb v hv
  simp[a,b]
 rw[hany]
 simp only[go_sem,Qqr]
 refine Qk ?_
 simp only[go_sem,Q3,Q9,Q21,List.mem_singleton,forall_eq,RS.op]
 exact hK
theorem Qa6f {S:Nat}(hfit:∀c∈cs,c.fits)(hg:Qbb cs=true)(hl:(l.length:Int)=Qjg cs)(hbl:byL l)(hS:S≤60000)(hK:∀H',Upd H H' []→K (.c (.bool true)) H') :
  Qp prog Qi7 [.ag [.sl fl 3 (Ql cs)],.c (.sl f2 1 (Qb l)),.c (.int .i64 S)] H K:=by
 have h0:=(runW hg).ro.n
 refine Qd Qak Qalm ?_
 refine Qa ?_
 simp only[go_sem]
 refine Qa ?_
 simp only[go_sem]
 refine Qdu hfit fun H1 hu=>?_
 rw[hg]
 simp only[go_sem,Qnc]
 refine Q2x h0 ?_
 simp only[go_sem,Qnb]
 refine Qa60 hl hbl ?_
 simp only[go_sem,Qna]
 refine Qda ?_
 have hw:(decide ((0:Int)≤(S:Int))&&decide ((S:Int)≤60000))=true:=by simp;omega
 rw[hw]
 simp only[go_sem,Qm9]
 refine Qk ?_
 simp only[go_sem,Q3,Q9,Qyr,List.mem_singleton,forall_eq,RS.op]
 exact hK _ hu
def Qmw (o:Int×Int×List Int×List Int):List C:=[.sl false 1 (Qb o.2.2.1),.int .i64 o.1,.int .i64 o.2.1,.sl false 1 (Qb o.2.2.2)]
theorem Qaow {S:Nat}(hfit:∀c∈cs,c.fits)(hg:Qbb cs=true)(hl:(l.length:Int)=Qjg cs)(hbl:byL l)(hS:S≤60000)(hK:∀H',Upd H H' []→K (.tup [.ag (Qmw (outR cs l S)),.c (.bool true)]) H') :
  Qp prog Qgh [.ag [.sl fl 3 (Ql cs)],.c (.sl f2 1 (Qb l)),.c (.int .i64 S)] H K:=by
 refine Qz ?_
 refine Qd Qak Qapl ?_
 refine Qa ?_
 simp only[go_sem]
 intro x6 hx6 H1 h1
 have kn:Kn H H1 [] [(x6,oO 0 0)]:=(Kn.start0 H).al hx6 h1
 simp only[go_sem,Qql]
 refine Q6 ?_
 refine Qa ?_
 simp only[go_sem]
 refine Qa6f hfit hg hl hbl hS fun H2 hu=>?_
 have kn:=kn.call0 hu
 simp only[go_sem,Qqm]
 refine Qh (Qe (c:=false) rfl (fun h=>by cases h) fun _=>?_)
 refine Qi ?_
 try simp only[go_sem]
 refine Qa ?_
 simp only[go_sem]
 refine Qa9b hg hl hbl hS fun e v s c u H3 ho hu=>?_
 have kn:=kn.call0 hu
 simp only[go_sem,Qqp,List.getD_cons_zero,List.getD_cons_succ]
 intro x8 hx8 H4 h4
 have kn:Kn H H4 [] [(x6,oO 0 0),(x8,oO 0 0)]:=kn.al hx8 h4
 have hx8:H4 x8=.st [.sl true 1 [],.int .i64 0,.int .i64 0,.sl true 1 []]:=kn.l 1 rfl
 simp only[go_sem,Qqo,hx8]
 intro H5 h5
 have kn:Kn H H5 [] [(x6,oO 0 0),(x8,.st [.sl false 1 (Qb s),.int .i64 e,.int .i64 v,.sl false 1 (Qb c)])]:=kn.stL 1 rfl h5
 have hx8:H5 x8=.st [.sl false 1 (Qb s),.int .i64 e,.int .i64 v,.sl false 1 (Qb c)]:=kn.l 1 rfl
 have hx6:H5 x6=.st [.sl true 1 [],.int .i64 0,.int .i64 0,.sl true 1 []]:=kn.l 0 rfl
 simp only[go_sem,Qqn]
 refine Qa ?_
 simp only[go_sem,hx8,hx6]
 intro H6 h6
 have kn:Kn H H6 [] [(x6,.st [.sl false 1 (Qb s),.int .i64 e,.int .i64 v,.sl false 1 (Qb c)]),(x8,.st [.sl false 1 (Qb s),.int .i64 e,.int .i64 v,.sl false 1 (Qb c)])]:=kn.stL 0 rfl h6
 have hx6:H6 x6=.st [.sl false 1 (Qb s),.int .i64 e,.int .i64 v,.sl false 1 (Qb c)]:=kn.l 0 rfl
 simp only[go_sem,Qqq]
 refine Qk ?_
 simp only[go_sem,Q3,Q9,Q20,List.forall_mem_cons,RS.op,hx6]
 refine⟨_,Qa06 (FrzL.ag (FrzL.same rfl)) (.c _ _ (Qf rfl)),?_⟩
 have:=hK _ kn.fin
 rw[ho]at this
 exact this
theorem Qakx {o:Int×Int×List Int×List Int}(hK:K (.c (.bool true)) H):Qp prog Qem [.ag (Qmw o),.ag (Qmw o)] H K:=by
 refine Qd Qak Q46 ?_
 refine Qa ?_
 simp only[go_sem,Qmw]
 refine Qa ?_
 simp only[go_sem]
 refine Qat8 ?_
 simp only[go_sem,Qhn,decide_true]
 refine Qat8 ?_
 simp only[go_sem,Qhm]
 refine Qk ?_
 simp only[go_sem,Q3,Q9,Qmx,List.mem_singleton,forall_eq,RS.op]
 exact hK
set_option maxHeartbeats 2000000 in
theorem Qa2k {S:Nat}(hf1:∀c∈cs,c.fits)(hf2:∀c∈ds,c.fits)(hg1:Qbb cs=true)(hg2:Qbb ds=true)(hl1:(l.length:Int)=Qjg cs)(hl2:(l.length:Int)=Qjg ds)(hbl:byL l)(hS:S≤60000)(hs:Qaum cs ds l S)
  (hK:∀H',Upd H H' []→K (.c (.bool true)) H'):Qp prog Qi5 [.ag [.sl fl 3 (Ql cs)],.ag [.sl fl 3 (Ql ds)],.c (.sl f2 1 (Qb l)),.c (.int .i64 S)] H K:=by
 refine Qz ?_
 refine Qd Qak Qalh ?_
 refine Qa ?_
 simp only[go_sem]
 refine Qa ?_
 simp only[go_sem]
 refine Qaow hf1 hg1 hl1 hbl hS fun H1 hu=>?_
 have kn:=(Kn.start0 H).call0 hu
 obtain⟨o,ho⟩:∃o,outR cs l S=o:=⟨_,rfl⟩
 rw[ho]
 simp only[go_sem,Qm2,List.getD_cons_zero,List.getD_cons_succ]
 intro x9 hx9 H2 h2
 have kn:Kn H H2 [] [(x9,oO 0 0)]:=kn.al hx9 h2
 have hx9:H2 x9=.st [.sl true 1 [],.int .i64 0,.int .i64 0,.sl true 1 []]:=kn.l 0 rfl
 simp only[go_sem,Qm1,hx9,Qmw]
 intro H3 h3
 have kn:Kn H H3 [] [(x9,.st (Qmw o))]:=kn.stL 0 rfl h3
 simp only[go_sem,Qm0]
 refine Qa ?_
 simp only[go_sem]
 refine Qaow (S:=60000) hf2 hg2 hl2 hbl (by omega) fun H4 hu=>?_
 have kn:=kn.call0 hu
 obtain⟨p,hp⟩:∃p,outR ds l 60000=p:=⟨_,rfl⟩
 rw[hp]
 simp only[go_sem,Qm5,List.getD_cons_zero,List.getD_cons_succ]
 intro x11 hx11 H5 h5
 have kn:Kn H H5 [] [(x9,.st (Qmw o)),(x11,oO 0 0)]:=kn.al hx11 h5
 have hx11:H5 x11=.st [.sl true 1 [],.int .i64 0,.int .i64 0,.sl true 1 []]:=kn.l 1 rfl
 simp only[go_sem,Qm4,hx11,Qmw]
 intro H6 h6
 have kn:Kn H H6 [] [(x9,.st (Qmw o)),(x11,.st (Qmw p))]:=kn.stL 1 rfl h6
 have hx9:H6 x9=.st [.sl false 1 (Qb o.2.2.1),.int .i64 o.1,.int .i64 o.2.1,.sl false 1 (Qb o.2.2.2)]:=kn.l 0 rfl
 have hx11:H6 x11=.st [.sl false 1 (Qb p.2.2.1),.int .i64 p.1,.int .i64 p.2.1,.sl false 1 (Qb p.2.2.2)]:=kn.l 1 rfl
 simp only[go_sem,Qm3]
 refine Qa ?_
 have hfin:∀H',Kn H H' [] [(x9,.st (Qmw o)),(x11,.st (Qmw p))]→unK H K (.c (.bool true)) H':=fun H' k=>⟨_,.c _ _ (Qf rfl),hK _ k.fin⟩
 rw[Qaum,ho,hp]at hs
 rcases hs with hs|hs
 ·have hd:decide (o.1=3)=true:=decide_eq_true hs
  simp only[go_sem,hx9,hx11,hd,Qc9]
  refine Qk ?_
  simp only[go_sem,Q3,Q9,Qgl,List.mem_singleton,forall_eq,RS.op]
  exact hfin _ kn
 ·subst hs
  by_cases h3:o.1=3
  ·have hd:decide (o.1=3)=true:=decide_eq_true h3
   simp only[go_sem,hx9,hx11,hd,Qc9]
   refine Qk ?_
   simp only[go_sem,Q3,Q9,Qgl,List.mem_singleton,forall_eq,RS.op]
   exact hfin _ kn
  ·have hd:decide (o.1=3)=false:=decide_eq_false h3
   simp only[go_sem,hx9,hx11,hd]
   refine Qakx (o:=o) ?_
   simp only[go_sem,Qc9]
   refine Qk ?_
   simp only[go_sem,Q3,Q9,Qgl,List.mem_singleton,forall_eq,RS.op]
   exact hfin _ kn
def tryC:List C:=Qh6 [0,0,0,1,2,3,255,16,7]
def tryL (j:Nat):List Int:=([[0,0,0],[1,2,3],[255,16,7]]:List (List Int)).getD j []
def triL (n:Nat):List (List C):=(List.range 3).map fun j=>[.sl false 1 (Qb ((tryL j).take n))]
theorem Qbbk {j:Nat}(h:j<3):(tryL j).length=3:=by
 have:j=0∨j=1∨j=2:=by omega
 rcases this with rfl|rfl|rfl <;> rfl
theorem Qblj {j:Nat}(h:j<3):byL (tryL j):=by
 have:j=0∨j=1∨j=2:=by omega
 intro v hv
 rcases this with rfl|rfl|rfl <;> (simp[tryL]at hv;rcases hv with rfl|rfl|rfl <;> exact⟨by omega,by omega⟩)
theorem Qbfs {j:Nat}(h:j<3):(tryC.drop (j * 3)).take 3=Qh6 (tryL j):=by
 have:j=0∨j=1∨j=2:=by omega
 rcases this with rfl|rfl|rfl <;> rfl
theorem Qbce (l:List Int)(n:Nat):((Qh6 l).take n).map (fun c=>[c])=Qb (l.take n):=by simp only[Qh6,Qb,List.map_take,List.map_map];rfl
theorem Qapg (l:List Int):noOw (Qh6 l)=true:=by simp[noOw,Qh6,C.isOw]
theorem Qbbe {S:Nat→Bool}{n:Nat}:∀(rs:List (C×List (Nat×Obj))) (k:Nat),(∀j (h:j<rs.length),Gr rs[j].2 1 (Qb ((tryL (k+j)).take n)) rs[j].1)→(∀p∈rs.flatMap Prod.snd,H p.1=p.2∧S p.1=true)→
  FrzR H S (rs.map fun p=>[p.1]) ((List.range' k rs.length).map fun j=>[.sl false 1 (Qb ((tryL j).take n))])
 |[],k,_,_=>.nil
 |p::rs,k,h,hm=>by
  refine .cons (.cons (Gr.frzM (h 0 (by simp)) (fun q hq=>hm q (by rw[List.flatMap_cons];exact List.mem_append_left _ hq)) (FrzR.same (Qo _))) .nil) ?_
  exact Qbbe rs (k+1) (fun j hj=>by
   have:=h (j+1) (by simpa using hj)
   rw[show k+(j+1)=k+1+j by omega]at this
   exact this) fun q hq=>hm q (by
    rw[List.flatMap_cons]
    exact List.mem_append_right _ hq)
set_option maxHeartbeats 4000000 in
theorem Qbbg {n:Nat}(hgl:H 0=.gl 0 tryC)(hn:n≤3)(hK:∀H',Upd H H' []→K (.c (.sl false 1 (triL n))) H'):Qp prog Qln [.c (.int .i64 n)] H K:=by
 refine Qz ?_
 refine Qd Qak Qapq ?_
 have hne:H 0≠.none:=by rw[hgl];nofun
 have htl:tryC.length=9:=rfl
 have htt:tryC.take 9=tryC:=rfl
 refine Qa ?_
 simp only[go_sem]
 refine Qa ?_
 simp only[go_sem]
 refine Q6 ?_
 refine Qa ?_
 simp only[go_sem,hgl,htl,htt]
 refine Qh (Qg (Qy (fun m e1 H1=>∃(i:Nat) (t:C) (Lg:List (Nat×Obj)) (rs:List (C×List (Nat×Obj))),m=3-i∧i≤3∧rs.length=i∧(∀p∈rs,p.1.isOw=false)∧Gr Lg 1 (rs.map fun p=>[p.1]) t∧(∀j (h:j<rs.length),Gr rs[j].2 1 (Qb ((tryL j).take n)) rs[j].1)∧Kn H H1 [] (rs.flatMap Prod.snd++Lg)∧
  lk 0 e1=.c (.int .i64 n)∧lk 3 e1=.c t∧lk 6 e1=.ag tryC∧lk 7 e1=.c (.int .i64 i)) 3 ?_ ?_))
 ·exact⟨0,_,[],[],rfl,by omega,rfl,by simp,.nil 1,by simp,.start0 H,rfl,rfl,rfl,rfl⟩
 ·rintro m e1 H1 ⟨i,t,Lg,rs,hm,hi,hrl,how,hgr,hrs,kn,l0,l3,l6,l7⟩
  have htw:=hgr.isOw
  refine Qa ?_
  simp only[go_sem,l0,l3,l6,l7,htw]
  refine Qh (Qe rfl ?_ ?_)
  ·intro hc
   have hlt:i<3:=by have:(i:Int)<3:=of_decide_eq_true hc;omega
   have hpart:=Qbfs hlt
   have htryl:=Qbbk hlt
   have hpl:(Qh6 (tryL i)).length=3:=by rw[Qh6,List.length_map,htryl]
   refine Qi ?_
   try simp only[go_sem]
   refine Qh (Qg ?_)
   refine Qa ?_
   simp only[go_sem,l0,l3,l6,l7,htw,htl,hpart,hpl]
   refine⟨by omega,?_⟩
   intro x5 hx5 H2 h2
   have kn:=kn.al hx5 h2
   have hx5:H2 x5=.st [.int .i64 0,.int .i64 0,.int .i64 0]:=(kn.get (x5,.st [.int .i64 0,.int .i64 0,.int .i64 0]) (by simp)).1
   simp only[go_sem,Qsg,hx5,hpl,htw]
   intro H3 h3
   have kn:Kn H H2 [] ([(x5,.st [.int .i64 0,.int .i64 0,.int .i64 0])]++(rs.flatMap Prod.snd++Lg)):=kn.perm List.perm_append_comm
   have kn:Kn H H3 [] ([(x5,.st (Qh6 (tryL i)))]++(rs.flatMap Prod.snd++Lg)):=kn.stL 0 rfl (by rw[h3];simp[htryl])
   have kn:Kn H H3 [] ((rs.flatMap Prod.snd++Lg)++[(x5,.st (Qh6 (tryL i)))]):=kn.perm List.perm_append_comm
   obtain⟨Sf,hfL,hfB,hfr,kn2⟩:=kn.freeze0
   obtain⟨hf1,hf2⟩:=hfL (x5,.st (Qh6 (tryL i))) (by simp)
   obtain⟨H4,hH4⟩:∃H4,H3.frz Sf=H4:=⟨_,rfl⟩
   refine c_gh (e':=[(0,.c (.int .i64 n)),(3,.c t),(5,.c (.pp (Qh6 (tryL i)))),(6,.ag tryC),(7,.c (.int .i64 i))]) (H':=H4) (by
    rw[←hH4]
    refine Qa7j Sf (Q0r fun p hp=>?_)
    simp only[List.mem_cons,List.not_mem_nil,or_false]at hp
    rcases hp with rfl|rfl|rfl|rfl|rfl
    ·exact .c _ _ (.same _ rfl)
    ·exact .c _ _ (.same _ htw)
    ·exact .c _ _ (FrzL.ptr hf2 hf1 (FrzL.same (Qapg _)))
    ·exact (FrzL.same (Qapg _)).ag
    ·exact .c _ _ (.same _ rfl)) ?_
   rw[hH4]at kn2
   refine Qt ?_
   have hrows:=Qbce (tryL i) n
   simp only[go_sem,htw,hpl,hrows]
   refine⟨⟨⟨by omega,by omega⟩,by simp only[LIM];omega⟩,?_⟩
   have hbd:((tryL i).take n).length≤LIM:=by rw[List.length_take,htryl];simp only[LIM];omega
   refine Q0a kn2 hbd fun t2 Lg2 H5 hg2 ht2 kn=>?_
   simp only[go_sem,Qsi,htw,ht2]
   have kn:Kn H H5 [] ((rs.flatMap Prod.snd++Lg2)++Lg):=kn.perm (Qj fun f hf h0 hc hp=>by simp only[hf];omega)
   refine kn.growR (new:=[[t2]]) hgr (.mk' _ _ _ _) (by simp[noOw,ht2]) (by simp only[List.length_map,hrl,LIM,List.length_cons,List.length_nil];omega) fun t3 Lg3 H6 hg3 ht3 kn=>?_
   simp only[go_sem,Qsh,ht3]
   refine Qt ?_
   simp only[go_sem,ht3]
   refine⟨Qs (by omega) (by omega),?_⟩
   show ∃m,_
   refine⟨3-(i+1),by omega,i+1,t3,Lg3,rs++[(t2,Lg2)],rfl,by omega,by simp[hrl],?_,?_,?_,?_,rfl,rfl,rfl,rfl⟩
   ·intro p hp
    rcases List.mem_append.1 hp with hp|hp
    ·exact how p hp
    ·rw[List.mem_singleton]at hp;subst hp;exact ht2
   ·rw[List.map_append];exact hg3
   ·intro j hj
    rw[List.length_append]at hj
    by_cases hj2:j<rs.length
    ·rw[List.getElem_append_left hj2];exact hrs j hj2
    ·have hje:j=i:=by simp at hj;omega
     subst hje
     rw[List.getElem_append_right (by omega)]
     simp only[hrl,Nat.sub_self,List.getElem_cons_zero]
     exact hg2
   ·rw[List.flatMap_append];simpa using kn
  ·intro hc
   have hge:i=3:=by
    have:¬((i:Int)<3):=of_decide_eq_false hc
    omega
   refine Q0 ?_
   simp only[go_sem,X.next]
   refine Qa ?_
   simp only[go_sem,l3,htw]
   refine Qk ?_
   simp only[go_sem,Q3,Q9,Q23,List.mem_singleton,forall_eq,RS.op,htw]
   have hz:=Qbbe (H:=H1) (S:=un H) (n:=n) rs 0 (by simpa using hrs) fun p hp=>⟨(kn.get p (by simp only[List.nil_append];exact List.mem_append_left _ hp)).1,Qh4 (kn.loc p (List.mem_append_left _ hp))⟩
   rw[hrl,hge]at hz
   exact⟨_,.c _ _ (hgr.frzR kn hz),hK _ kn.fin⟩
theorem Qaov (hgl:H 0=.gl 0 tryC)(hfit:∀c∈cs,c.fits)(hg:Qbb cs=true)(hK:∀H',Upd H H' []→K (.c (.sl false 1 (triL (Qjg cs).toNat))) H'):Qp prog Qfs [.ag [.sl fl 3 (Ql cs)]] H K:=by
 have hw:=runW hg
 have h0:=hw.ro.n
 obtain⟨p0,p3,_⟩:=hw.par (cs.length-1) (by omega)
 have hne:H 0≠.none:=by rw[hgl];nofun
 obtain⟨n,hn⟩:∃n:Nat,Qjg cs=n:=⟨(Qjg cs).toNat,by rw[Qjg];omega⟩
 have hn3:n≤3:=by rw[Qjg]at hn;omega
 rw[hn]at hK
 refine Qd Qak Q8q ?_
 refine Qa ?_
 simp only[go_sem]
 refine Q6 ?_
 refine Qa ?_
 simp only[go_sem]
 refine Qdu hfit fun H1 hu=>?_
 have kn:=(Kn.start0 H).call0 hu
 rw[hg]
 simp only[go_sem,Qio]
 refine Qh (Qe (c:=false) rfl (fun h=>by cases h) fun _=>?_)
 refine Qi ?_
 try simp only[go_sem]
 refine Qa ?_
 simp only[go_sem]
 refine Q2x h0 ?_
 rw[hn]
 simp only[go_sem,Qiq]
 refine Qbbg (by rw[kn.chg 0 hne (by simp)];exact hgl) hn3 fun H2 hu2=>?_
 have kn:=kn.call0 hu2
 simp only[go_sem,Qip]
 refine Qk ?_
 simp only[go_sem,Q3,Q9,Qp6,List.mem_singleton,forall_eq,RS.op]
 exact hK _ kn.upd
end Go.AE.Y

namespace Go.AE.Y
open Go.Proofs.Tryz
end Go.AE.Y

namespace Go.AE.Y
attribute [local go_sem] cond_true cond_false Bool.not_true Bool.not_false
attribute [local instance] Classical.propDecidable
open Go.Proofs.Tryz
variable {H H0:Heap}{K:V→Heap→Prop}{fl:Bool}{cs ds:List CodeD}
def Qbil:SC:=(.cond (.t 12) (.seq (.reg (
  .f (some 2) none (.mv (.k (.c (.bool true))))::
  []) [2]) .ret) .skip)
def Qa1x:List Item:=
  .e none none (.sto 1 (.t 3) (.t 14))::
  []
def Qa1y:List Item:=
  .e (some 3) none (.alloc [.sl true 3 []])::
  Qa1x
def Qa1z:List Item:=
  .f (some 5) none (.mv (.t 19))::
  []
def Qa10:List Item:=
  .e none none (.sto 1 (.t 4) (.t 18))::
  Qa1z
def Qa11:List Item:=
  .f (some 15) none (.mv (.t 17))::
  .f (some 18) none (.ext (.t 15) 0)::
  .f (some 19) none (.ext (.t 15) 1)::
  .e (some 4) none (.alloc [.sl true 3 []])::
  Qa10
def Qa12:List Item:=
  .f (some 7) none (.mv (.t 24))::
  []
def Qa13:List Item:=
  .e none none (.sto 1 (.t 6) (.t 23))::
  Qa12
def Qa14:List Item:=
  .f (some 20) none (.mv (.t 22))::
  .f (some 23) none (.ext (.t 20) 0)::
  .f (some 24) none (.ext (.t 20) 1)::
  .e (some 6) none (.alloc [.sl true 3 []])::
  Qa13
def Qaoi:List Item:=
  .f (some 32) (some (28,false)) (.not (.t 31))::
  .f (some 33) none (.pick (.t 28) (.k (.c (.bool true))) (.t 32))::
  .f (some 34) none (.mv (.t 33))::
  .f (some 35) (some (34,false)) (.mv (.t 5))::
  .f (some 36) (some (34,false)) (.not (.t 35))::
  .f (some 37) none (.pick (.t 34) (.k (.c (.bool true))) (.t 36))::
  []
def Qatk:List Item:=
  .f (some 45) none (.pick (.t 41) (.t 44) (.k (.c (.bool false))))::
  .f (some 2) none (.mv (.t 45))::
  []
def Qbe0:SC:=(.cond (.t 37) (.seq (.reg (
  .f (some 38) none (.mv (.t 5))::
  .f (some 39) none (.mv (.t 7))::
  .f (some 40) none (.bin 1 .eql (.t 38) (.t 39))::
  .f (some 41) none (.mv (.t 40))::
  .f (some 42) (some (41,true)) (.ld 1 true (.t 4))::
  .f (some 43) (some (41,true)) (.ld 1 true (.t 6))::
  .e (some 44) (some (41,true)) (.call Qdt [.t 42,.t 43])::
  Qatk) [2]) .ret) .skip)
def Qatl:List Item:=
  .f (some 48) none (.len (.t 47))::
  .f (some 49) none (.mv (.k (.c (.int .i64 0))))::
  []
def Qatm:List Item:=
  .f (some 57) none (.not (.t 56))::
  []
def Qbe1:SC:=(.cond (.t 57) (.seq (.reg (
  .f (some 2) none (.mv (.k (.c (.bool false))))::
  []) [2]) .ret) .skip)
def Qbe2:SC:=(.seq (.reg (
  .f (some 53) none (.ld 1 true (.t 3))::
  .f (some 54) none (.ld 1 true (.t 4))::
  .f (some 55) none (.mv (.t 9))::
  .e (some 56) none (.call Qi5 [.t 53,.t 54,.t 55,.k (.c (.int .i64 800))])::
  Qatm) [3,4,47,48,49,57]) Qbe1)
def Qbe3:SC:=(.reg (
  .f (some 58) none (.bin 0 .add (.t 49) (.k (.c (.int .i64 1))))::
  .f (some 49) none (.mv (.t 58))::
  []) [3,4,47,48,49])
def Qbe4:SC:=(.seq (.block 1 (.seq (.reg (
  .f (some 51) none (.iad 1 (.t 47) (.t 49))::
  .f (some 52) none (.ld 1 false (.t 51))::
  .f (some 9) none (.mv (.t 52))::
  []) [3,4,9,47,48,49]) Qbe2)) Qbe3)
def Qbar:SC:=(.seq (.reg (
  .f (some 50) none (.bin 0 .lss (.t 49) (.t 48))::
  []) [3,4,47,48,49,50]) (.seq (.cond (.t 50) .skip (.exit 0)) Qbe4))
def Qatn:List Item:=
  .f (some 2) none (.mv (.t 60))::
  []
def Qbe5:SC:=(.seq (.reg (
  .f (some 59) none (.ld 1 true (.t 4))::
  .e (some 60) none (.call Qbg [.t 59])::
  Qatn) [2]) .ret)
def Qbe6:SC:=(.seq (.seq (.reg (
  .f (some 46) none (.ld 1 true (.t 3))::
  .e (some 47) none (.call Qfs [.t 46])::
  Qatl) [3,4,47,48,49]) (.block 0 (.loop Qbar))) Qbe5)
def Qbe7:SC:=(.seq (.seq (.reg (
  .f (some 25) none (.mv (.t 5))::
  .f (some 26) none (.mv (.t 7))::
  .f (some 27) none (.bin 1 .neq (.t 25) (.t 26))::
  .f (some 28) none (.mv (.t 27))::
  .f (some 29) (some (28,false)) (.ld 1 true (.t 4))::
  .f (some 30) (some (28,false)) (.ld 1 true (.t 6))::
  .e (some 31) (some (28,false)) (.call Qdt [.t 29,.t 30])::
  Qaoi) [3,4,5,6,7,37]) Qbe0) Qbe6)
def Qbe8 (sp:Nat):SC:=(.seq (.reg (
  .f (some 21) none (.ld 1 true (.t 3))::
  .e (some 22) none (.call sp [.t 21])::
  Qa14) [3,4,5,6,7]) Qbe7)
def Qbe9 (im sp:Nat):SC:=(.seq (.reg (
  .f (some 16) none (.ld 1 true (.t 3))::
  .e (some 17) none (.call im [.t 16])::
  Qa11) [3,4,5]) (Qbe8 sp))
def Qbfa (dr im sp:Nat):SC:=(.seq (.reg (
  .f (some 13) none (.mv (.t 0))::
  .e (some 14) none (.call dr [.t 13])::
  Qa1y) [3]) (Qbe9 im sp))
def Qbfb (dr im sp:Nat):SC:=(.seq (.seq (.reg (
  .f (some 10) none (.mv (.t 0))::
  .f (some 11) none (.len (.t 10))::
  .f (some 12) none (.bin 0 .gtr (.t 11) (.k (.c (.int .i64 1048576))))::
  []) [0,12]) Qbil) (Qbfa dr im sp))
def Qbmj (dr im sp:Nat):SC:=(.seq (.reg (
  .f (some 2) none (.mv (.k (.c (.bool false))))::
  []) [0]) (Qbfb dr im sp))
def Qbid:List RS:=[.tmp 2]
theorem Qbbf (n:Nat):(triL n).length=3:=by simp[triL]
theorem Qbi0 (n:Nat){i:Nat}(h:i<3):(triL n).getD i []=[.sl false 1 (Qb ((tryL i).take n))]:=by
 have:i=0∨i=1∨i=2:=by omega
 rcases this with rfl|rfl|rfl <;> rfl
theorem Qa2e {i n:Nat}(h:i<3)(hn:n≤3):((tryL i).take n).length=n:=by rw[List.length_take,Qbbk h];omega
theorem Qbi1 {i n:Nat}(h:i<3):byL ((tryL i).take n):=fun v hv=>Qblj h v (List.mem_of_mem_take hv)
theorem Qbdn {f:CodeD→CodeD}(h:∀q,(f q).params=q.params):Qjg (cs.map f)=Qjg cs:=by
 rw[Qjg,Qjg,Qu,Qu,List.length_map]
 simp only[List.getD_eq_getElem?_getD,List.getElem?_map]
 cases cs[cs.length-1]? with
 |none=>rfl
 |some q=>exact h q
set_option maxHeartbeats 8000000 in
theorem Qa9c {f dr im sp:Nat}{P:List CodeD→List CodeD→Prop}{G:List CodeD→Bool}{bs:List UInt8}(hm:mFn prog f 1 61 (Qbmj dr im sp) Qbid=true)
  (hdr:∀(bs:List UInt8) (H:Heap) (K:V→Heap→Prop),(∀cs H',Upd H H' []→UnitOk cs→K (.ag [.sl false 3 (Ql cs)]) H')→Qp prog dr [.c (.sl false 1 (Qbl bs))] H K)
  (him:∀(cs:List CodeD) (H:Heap) (K:V→Heap→Prop),(∀c∈cs,c.fits)→(∀ds H',P cs ds→Upd H H' []→K (.tup [.ag [.sl false 3 (Ql ds)],.c (.bool (G cs))]) H')→Qp prog im [.ag [.sl false 3 (Ql cs)]] H K)
  (hsp:∀(cs:List CodeD) (H:Heap) (K:V→Heap→Prop),(∀c∈cs,c.fits)→(∀ds H',P cs ds→Upd H H' []→K (.tup [.ag [.sl false 3 (Ql ds)],.c (.bool (G cs))]) H')→Qp prog sp [.ag [.sl false 3 (Ql cs)]] H K)
  (hun:∀cs ds ds',P cs ds→P cs ds'→ds=ds') (hfits:∀cs ds,(∀c∈cs,c.fits)→P cs ds→∀c∈ds,c.fits)
  (hG:∀cs ds,P cs ds→G cs=true→Qbb cs=true∧Qbb ds=true∧Qjg ds=Qjg cs∧∀l,Qaum cs ds l 800)
  (hgl:H 0=.gl 0 tryC) (hK:∀H',K (.c (.bool true)) H'):Qp prog f [.c (.sl false 1 (Qbl bs))] H K:=by
 refine Qd Qak hm ?_
 have hne:H 0≠.none:=by rw[hgl];nofun
 have retT':∀(e:Env) (H':Heap),lk 2 e=.c (.bool true)→Q3 Qbid K .ret e H':=by
  intro e H' h2
  simp only[go_sem,Q3,Q9,Qbid,List.mem_singleton,forall_eq,RS.op,h2]
  exact hK H'
 refine Qa ?_
 simp only[go_sem]
 refine Q6 ?_
 refine Qa ?_
 simp only[go_sem,Qap]
 intro _
 refine Qh (Qe rfl (fun hc=>?_) (fun hc=>?_))
 ·refine Qa ?_
  simp only[go_sem]
  refine Qk ?_
  exact retT' _ _ rfl
 refine Qi ?_
 try simp only[go_sem]
 refine Qa ?_
 simp only[go_sem]
 refine hdr bs _ _ fun cs H1 hu hok=>?_
 have hfit:=hok.fits
 have kn:=(Kn.start0 H).call0 hu
 simp only[go_sem,Qa1y]
 intro x3 hx3 H2 h2
 have kn:=kn.al hx3 h2
 have hx3:=kn.l 0 rfl
 simp only[go_sem,Qa1x,hx3]
 intro H3 h3
 have kn:Kn H H3 [] [(x3,.st [.sl false 3 (Ql cs)])]:=kn.stL 0 rfl h3
 have hx3:=kn.l 0 rfl
 refine Qa ?_
 simp only[go_sem,hx3]
 refine him cs _ _ hfit fun ds H4 hds hu=>?_
 have hfd:=hfits cs ds hfit hds
 have kn:=kn.call0 hu
 simp only[go_sem,Qa11,List.getD_cons_zero,List.getD_cons_succ]
 intro x4 hx4 H5 h5
 have kn:=kn.al hx4 h5
 have hx4:=kn.l 1 rfl
 simp only[go_sem,Qa10,hx4]
 intro H6 h6
 have kn:Kn H H6 [] [(x3,.st [.sl false 3 (Ql cs)]),(x4,.st [.sl false 3 (Ql ds)])]:=kn.stL 1 rfl h6
 have hx3:=kn.l 0 rfl
 simp only[go_sem,Qa1z]
 refine Qa ?_
 simp only[go_sem,hx3]
 refine hsp cs _ _ hfit fun ds' H7 hds' hu=>?_
 obtain rfl:=hun cs ds ds' hds hds'
 have kn:=kn.call0 hu
 simp only[go_sem,Qa14,List.getD_cons_zero,List.getD_cons_succ]
 intro x6 hx6 H8 h8
 have kn:=kn.al hx6 h8
 have hx6:=kn.l 2 rfl
 simp only[go_sem,Qa13,hx6]
 intro H9 h9
 have kn:Kn H H9 [] [(x3,.st [.sl false 3 (Ql cs)]),(x4,.st [.sl false 3 (Ql ds)]),(x6,.st [.sl false 3 (Ql ds)])]:=kn.stL 2 rfl h9
 have hx4:=kn.l 1 rfl
 have hx6:=kn.l 2 rfl
 simp only[go_sem,Qa12]
 refine Q6 ?_
 cases hg:G cs with
 |false=>
  refine Qa ?_
  simp only[go_sem,hx4,hx6,decide_true]
  refine Qmr fun H10 hu=>?_
  have kn:=kn.call0 hu
  have hx4:=kn.l 1 rfl
  have hx6:=kn.l 2 rfl
  simp only[go_sem,Qaoi]
  refine Qh (Qe rfl ?_ ?_)
  ·intro _
   refine Qa ?_
   simp only[go_sem,hx4,hx6,decide_true]
   refine Qmr fun H11 hu=>?_
   simp only[go_sem,Qatk]
   refine Qk ?_
   exact retT' _ _ rfl
  ·intro h;simp at h
 |true=>
  obtain⟨hg1,hg2,hmp,hsame⟩:=hG cs ds hds hg
  refine Qa ?_
  simp only[go_sem,hx4,hx6,decide_true]
  refine Qmr fun H10 hu=>?_
  have kn:=kn.call0 hu
  simp only[go_sem,Qaoi]
  refine Qh (Qe rfl ?_ ?_)
  ·intro h;simp at h
  intro _
  refine Qi ?_
  try simp only[go_sem]
  have kn:Kn H H10 [] [(x3,.st [.sl false 3 (Ql cs)]),(x4,.st [.sl false 3 (Ql ds)])]:=Kn.drop (A:=[_,_]) (B:=[_]) kn
  have hx3:=kn.l 0 rfl
  refine Q6 ?_
  refine Qa ?_
  simp only[go_sem,hx3]
  refine Qaov (by rw[kn.chg 0 hne (by simp)];exact hgl) hfit hg1 fun H11 hu=>?_
  have kn:=kn.call0 hu
  obtain⟨p0,p3,_⟩:=(runW hg1).par (cs.length-1) (by have:=(runW hg1).ro.n;omega)
  obtain⟨n,hn⟩:∃n:Nat,Qjg cs=n:=⟨(Qjg cs).toNat,by rw[Qjg];omega⟩
  have hn3:n≤3:=by rw[Qjg]at hn;omega
  rw[hn,Int.toNat_natCast]
  simp only[go_sem,Qatl,Qbbf]
  try intro _
  refine Qh (Qg (Qy (fun mm e1 H1=>∃(i:Nat),mm=3-i∧i≤3∧Kn H H1 [] [(x3,.st [.sl false 3 (Ql cs)]),(x4,.st [.sl false 3 (Ql ds)])]∧
   lk 3 e1=.c (.ptr x3 0)∧lk 4 e1=.c (.ptr x4 0)∧lk 47 e1=.c (.sl false 1 (triL n))∧lk 48 e1=.c (.int .i64 3)∧lk 49 e1=.c (.int .i64 i)) 3 ?_ ?_))
  ·exact⟨0,by omega,by omega,kn,rfl,rfl,rfl,rfl,rfl⟩
  ·clear kn hx3 hx4 hx6
   rintro mm e1 H12 ⟨i,hmm,hi,kn,l3,l4,l47,l48,l49⟩
   have hx3:=kn.l 0 rfl
   have hx4:=kn.l 1 rfl
   refine Qa ?_
   simp only[go_sem,l3,l4,l47,l48,l49]
   refine Qh (Qe rfl ?_ ?_)
   ·intro hc1
    have hlt:i<3:=by have:(i:Int)<3:=of_decide_eq_true hc1;omega
    refine Qi ?_
    try simp only[go_sem]
    refine Qh (Qg ?_)
    refine Qa ?_
    simp only[go_sem,l3,l4,l47,l48,l49,hlt,Qbbf,Qbi0 n hlt]
    refine Qa ?_
    simp only[go_sem,hx3,hx4]
    refine Qa2k (S:=800) hfit hfd hg1 hg2 (by rw[Qa2e hlt hn3,hn]) (by rw[Qa2e hlt hn3,hmp,hn]) (Qbi1 hlt) (by omega) (hsame _) fun H13 hu=>?_
    have kn:=kn.call0 hu
    simp only[go_sem,Qatm]
    refine Qe (c:=false) rfl (fun h=>by cases h) fun _=>?_
    refine Qi ?_
    try simp only[go_sem]
    refine Qt ?_
    simp only[go_sem]
    refine⟨Qs (by omega) (by omega),?_⟩
    show ∃m,_
    exact⟨3-(i+1),by omega,i+1,rfl,by omega,kn,rfl,rfl,rfl,rfl,rfl⟩
   ·intro hc1
    refine Q0 ?_
    simp only[go_sem,X.next]
    refine Qa ?_
    simp only[go_sem,l3,l4,hx4]
    refine Qdu hfd fun H13 hu=>?_
    rw[hg2]
    simp only[go_sem,Qatn]
    refine Qk ?_
    exact retT' _ _ rfl
end Go.AE.Y

namespace Go.AE.Y
def mix {α:Type}(f:α→α)(is:List α)(k:Nat):List α:=(is.take k).map f++is.drop k
theorem Q8z {α:Type}(f:α→α)(is:List α)(k:Nat):(mix f is k).length=is.length:=by
 simp only[mix,List.length_append,List.length_map,List.length_take,List.length_drop];omega
theorem Qa1i {α:Type}{f:α→α}{is:List α}{i:Nat}(h:i<is.length)(h2:i<(mix f is i).length):(mix f is i)[i]=is[i]:=by
 have hl:((is.take i).map f).length=i:=by rw[List.length_map,List.length_take];omega
 simp only[mix]
 rw[List.getElem_append_right (by omega)]
 simp only[hl,Nat.sub_self,List.getElem_drop,Nat.add_zero]
theorem Qalw {α:Type}{f:α→α}{is:List α}{i:Nat}(h:i<is.length):(mix f is i).set i (f is[i])=mix f is (i+1):=by
 have hl:((is.take i).map f).length=i:=by rw[List.length_map,List.length_take];omega
 rw[mix,mix,List.set_append_right _ _ (by omega),hl,Nat.sub_self,List.drop_eq_getElem_cons h,List.set_cons_zero,List.take_succ_eq_append_getElem h,List.map_append,List.append_assoc]
 rfl
theorem Q7o {α:Type}(f:α→α)(is:List α):mix f is 0=is:=by simp[mix]
theorem Q8y {α:Type}(f:α→α)(is:List α){i:Nat}(h:is.length≤i):mix f is i=is.map f:=by
 rw[mix,List.take_of_length_le h,List.drop_of_length_le h,List.append_nil]
def twoB (ns:List Int):Bool:=ns.any fun v=>v != ns.headD 0
def shV (nx:Nat→List Int)(n b:Nat)(v:Int):Bool:=twoB (nx b)&&decide (1<(Q1 nx v n).length)
def shL (nx:Nat→List Int)(n b:Nat):List Int:=(nx b).filter (shV nx n b)
def Qbx (nx:Nat→List Int)(n m:Nat):List (Nat×Int):=(List.range m).flatMap fun b=>(shL nx n b).map fun v=>(b,v)
def offN (nx:Nat→List Int)(n b:Nat):Nat:=n+(Qbx nx n b).length
def spV (nx:Nat→List Int)(n b:Nat)(v:Int):Int:=if shV nx n b v=true then ((offN nx n b+(shL nx n b).idxOf v:Nat):Int)else v
def spX (nx:Nat→List Int)(n b:Nat):List Int:=if b<n then (nx b).map (spV nx n b)else match (Qbx nx n n)[b-n]? with
 |some e=>[e.2]
 |none=>[]
def org (nx:Nat→List Int)(n j:Nat):Nat:=if j<n then j else match (Qbx nx n n)[j-n]? with
 |some e=>e.1
 |none=>0
structure SpF (nx:Nat→List Int)(n:Nat):Prop where
 len:∀b,b<n→(nx b).length≤2
 rng:∀b,b<n→∀v∈nx b,1≤v∧v<n
theorem Qua {ns:List Int}(h:ns.length≤2):(twoB ns=true→∃a c,ns=[a,c]∧a≠c)∧(twoB ns=false→ns=[]∨∃a,ns=[a]∨ns=[a,a]):=by
 match ns with
 |[]=>simp[twoB]
 |[a]=>simp[twoB]
 |[a,c]=>
  simp only[twoB,List.any_cons,List.any_nil,List.headD_cons]
  by_cases h:c=a
  ·subst h;simp
  ·refine⟨fun _=>⟨a,c,rfl,fun e=>h e.symm⟩,fun hh=>?_⟩
   simp[h]at hh
 |_::_::_::_=>simp only[List.length_cons]at h;omega
variable {nx:Nat→List Int}{n:Nat}
theorem SpF.nd (F:SpF nx n){b:Nat}(hb:b<n):(shL nx n b).Nodup:=by
 cases ht:twoB (nx b)with
 |true=>
  obtain⟨a,c,e,hne⟩:=(Qua (F.len b hb)).1 ht
  refine List.Nodup.sublist List.filter_sublist ?_
  rw[e];simp[hne]
 |false=>
  have:shL nx n b=[]:=by
   rw[shL,List.filter_eq_nil_iff]
   intro v _;simp[shV,ht]
  rw[this];exact List.nodup_nil
theorem Qp0 (m:Nat):Qbx nx n (m+1)=Qbx nx n m++(shL nx n m).map fun v=>(m,v):=by
 simp[Qbx,List.range_succ,List.flatMap_append]
theorem mem_newL {m b:Nat}{v:Int}:(b,v)∈Qbx nx n m↔b<m∧v∈nx b∧shV nx n b v=true:=by
 simp only[Qbx,List.mem_flatMap,List.mem_range,List.mem_map,shL,List.mem_filter,Prod.mk.injEq]
 constructor
 ·rintro⟨b',h1,v',⟨h2,h3⟩,rfl,rfl⟩;exact⟨h1,h2,h3⟩
 ·rintro⟨h1,h2,h3⟩;exact⟨b,h1,v,⟨h2,h3⟩,rfl,rfl⟩
theorem SpF.newNd (F:SpF nx n):∀{m:Nat},m≤n→(Qbx nx n m).Nodup
 |0,_=>by simp[Qbx]
 |m+1,h=>by
  rw[Qp0,List.nodup_append]
  refine⟨F.newNd (by omega),?_,?_⟩
  ·rw[List.nodup_iff_pairwise_ne,List.pairwise_map]
   exact List.Pairwise.imp (fun hne he=>hne (Prod.mk.inj he).2) (F.nd (b:=m) (by omega))
  ·rintro⟨b,v⟩ h1 ⟨b',v'⟩ h2 he
   have h3:=(mem_newL.1 h1).1
   obtain⟨w,_,h4⟩:=List.mem_map.1 h2
   cases he;cases h4;omega
theorem Qalx {b i:Nat}(hi:i<(shL nx n b).length):∀{m:Nat},b<m→(Qbx nx n m)[(Qbx nx n b).length+i]? = some (b,(shL nx n b)[i])
 |0,h=>by omega
 |m+1,h=>by
  rw[Qp0]
  by_cases hb:b=m
  ·subst hb
   rw[List.getElem?_append_right (by omega)]
   simp[hi]
  ·have ih:=Qalx (m:=m) hi (by omega)
   have hl:(Qbx nx n b).length+i<(Qbx nx n m).length:=by
    rcases Nat.lt_or_ge ((Qbx nx n b).length+i) (Qbx nx n m).length with h|h
    ·exact h
    ·rw[List.getElem?_eq_none h]at ih;simp at ih
   rw[List.getElem?_append_left hl];exact ih
theorem Qat9 {b:Nat}{v:Int}(hb:b<n)(hv:v∈nx b)(hs:shV nx n b v=true):∃i,(Qbx nx n n)[i]? = some (b,v)∧spV nx n b v=((n+i:Nat):Int)∧i=(Qbx nx n b).length+(shL nx n b).idxOf v:=by
 have hm:v∈shL nx n b:=List.mem_filter.2 ⟨hv,hs⟩
 have hi:=List.idxOf_lt_length_of_mem hm
 refine⟨_,?_,?_,rfl⟩
 ·rw[Qalx hi hb];simp
 ·rw[spV,if_pos hs,offN,Nat.add_assoc]
theorem Qa8s (F:SpF nx n){i j:Nat}{e:Nat×Int}(h1:(Qbx nx n n)[i]? = some e)(h2:(Qbx nx n n)[j]? = some e):i=j:=by
 obtain⟨hi,e1⟩:=List.getElem?_eq_some_iff.1 h1
 obtain⟨hj,e2⟩:=List.getElem?_eq_some_iff.1 h2
 have nd:=F.newNd (Nat.le_refl n)
 exact (List.getElem_inj nd).1 (e1.trans e2.symm)
theorem Qae4 {j:Nat}(h:n≤j):spX nx n j=match (Qbx nx n n)[j-n]? with
 |some e=>[e.2]
 |none=>[]:=by rw[spX,if_neg (by omega)]
theorem Qbk4 (F:SpF nx n){i p:Nat}{e:Nat×Int}(h:(Qbx nx n n)[i]? = some e):((n+i:Nat):Int)∈spX nx n p↔p=e.1:=by
 obtain⟨b,v⟩:=e
 obtain⟨hb,hv,hs⟩:=mem_newL.1 (List.mem_of_getElem? h)
 by_cases hp:p<n
 ·rw[spX,if_pos hp,List.mem_map]
  constructor
  ·rintro⟨w,hw,he⟩
   cases hsw:shV nx n p w with
   |true=>
    obtain⟨i',h1,h2,_⟩:=Qat9 hp hw hsw
    rw[h2]at he
    have:i'=i:=by omega
    subst this
    rw[h]at h1
    have:=Option.some.inj h1
    simp only[Prod.mk.injEq]at this
    exact this.1.symm
   |false=>
    rw[spV,if_neg (by simp[hsw])]at he
    have:=(F.rng p hp w hw).2
    omega
  ·rintro rfl
   obtain⟨i',h1,h2,_⟩:=Qat9 hb hv hs
   exact⟨v,hv,by rw[h2,Qa8s F h1 h]⟩
 ·constructor
  ·intro hm
   rw[Qae4 (by omega)]at hm
   split at hm
   ·rename_i e he
    obtain⟨b',v'⟩:=e
    obtain⟨hb',hv',_⟩:=mem_newL.1 (List.mem_of_getElem? he)
    have:=(F.rng b' hb' v' hv').2
    simp only[List.mem_singleton]at hm
    omega
   ·simp at hm
  ·rintro rfl;exact absurd hb hp
theorem Qajv {f:Nat→Bool}{p:Nat}:∀{N:Nat},p<N→(∀x,x<N→(f x=true↔x=p))→(List.range N).filter f=[p]
 |0,h,_=>by omega
 |N+1,h,hf=>by
  rw[List.range_succ,List.filter_append]
  by_cases hp:p=N
  ·subst hp
   have h1:(List.range p).filter f=[]:=by
    rw[List.filter_eq_nil_iff]
    intro x hx
    rw[List.mem_range]at hx
    rw[hf x (by omega)];omega
   have h2:f p=true:=(hf p (by omega)).2 rfl
   rw[h1];simp[h2]
  ·have h2:¬f N=true:=by rw[hf N (by omega)];omega
   rw[Qajv (p:=p) (N:=N) (by omega) fun x hx=>hf x (by omega)]
   simp[h2]
theorem Qa80 (F:SpF nx n){i:Nat}{e:Nat×Int}(h:(Qbx nx n n)[i]? = some e):Q1 (spX nx n) ((n+i:Nat):Int) (offN nx n n)=[(e.1:Int)]:=by
 have hb:=(mem_newL.1 (List.mem_of_getElem? (a:=(e.1,e.2)) h)).1
 rw[Q1,Qajv (p:=e.1) (by rw[offN];omega) fun x hx=>by rw[List.contains_iff_mem];exact Qbk4 F h]
 rfl
theorem Qbay (F:SpF nx n){j t:Nat}(ht:t<n):(t:Int)∈spX nx n j↔(j<n∧(t:Int)∈nx j∧shV nx n j t=false)∨(n≤j∧∃p,(Qbx nx n n)[j-n]? = some (p,(t:Int))):=by
 by_cases hj:j<n
 ·rw[spX,if_pos hj,List.mem_map]
  constructor
  ·rintro⟨w,hw,he⟩
   cases hsw:shV nx n j w with
   |true=>
    obtain⟨i',h1,h2,_⟩:=Qat9 hj hw hsw
    rw[h2]at he;omega
   |false=>
    rw[spV,if_neg (by simp[hsw])]at he
    subst he
    exact .inl ⟨hj,hw,hsw⟩
  ·rintro (⟨_,h1,h2⟩|⟨h1,_⟩)
   ·exact⟨t,h1,by rw[spV,if_neg (by simp[h2])]⟩
   ·omega
 ·rw[Qae4 (by omega)]
  constructor
  ·intro hm
   split at hm
   ·rename_i e he
    simp only[List.mem_singleton]at hm
    exact .inr ⟨by omega,e.1,by rw[he,hm]⟩
   ·simp at hm
  ·rintro (⟨h1,_⟩|⟨_,p,h1⟩)
   ·omega
   ·rw[h1];simp
theorem Qbh4 (F:SpF nx n){j t:Nat}(ht:t<n)(h:(t:Int)∈spX nx n j):org nx n j<n∧(t:Int)∈nx (org nx n j):=by
 rcases (Qbay F ht).1 h with ⟨h1,h2,_⟩|⟨h1,p,h2⟩
 ·rw[org,if_pos h1];exact⟨h1,h2⟩
 ·rw[org,if_neg (by omega),h2]
  obtain⟨a,b,_⟩:=mem_newL.1 (List.mem_of_getElem? h2)
  exact⟨a,b⟩
theorem Qbd4 (nx:Nat→List Int)(b:Int)(n:Nat):(Q1 nx b n).Nodup:=by
 rw[Q1,List.nodup_iff_pairwise_ne,List.pairwise_map]
 exact List.Pairwise.imp (fun hne he=>hne (Int.ofNat.inj he)) (List.Nodup.sublist List.filter_sublist List.nodup_range)
theorem preds_mem {nx:Nat→List Int}{b w:Int}{n:Nat}:w∈Q1 nx b n↔∃j:Nat,j<n∧b∈nx j∧w=j:=by
 simp only[Q1,List.mem_map,List.mem_filter,List.mem_range,List.contains_iff_mem]
 constructor
 ·rintro⟨j,⟨h1,h2⟩,rfl⟩;exact⟨j,h1,h2,rfl⟩
 ·rintro⟨j,h1,h2,rfl⟩;exact⟨j,⟨h1,h2⟩,rfl⟩
def spA (q:CodeD)(b:Nat)(aa:List Int):List Int:=(Q1 (spX (gnx q) q.blocks.length) (b:Int) (offN (gnx q) q.blocks.length q.blocks.length)).map fun w=>aa.getD ((Q1 (gnx q) (b:Int) q.blocks.length).idxOf ((org (gnx q) q.blocks.length w.toNat:Nat):Int)) 0
def spP (q:CodeD)(b:Nat)(p:PhiD):PhiD:=⟨p.to,spA q b p.args⟩
def spB (q:CodeD)(b:Nat):BlkD:=⟨(Qah q b).phis.map (spP q b),(Qah q b).ins,(Qah q b).jump,(Qah q b).on,spX (gnx q) q.blocks.length b⟩
def goB (v:Int):BlkD:=⟨[],[],1,0,[v]⟩
def spD (q:CodeD):CodeD:=⟨q.params,q.regs,(List.range q.blocks.length).map (spB q)++(Qbx (gnx q) q.blocks.length q.blocks.length).map fun e=>goB e.2⟩
theorem Qmq (q:CodeD):(spD q).blocks.length=offN (gnx q) q.blocks.length q.blocks.length:=by simp[spD,offN]
theorem Qbax {q:CodeD}{b:Nat}(h:b<q.blocks.length):(spD q).blocks[b]? = some (spB q b):=by
 rw[spD];simp only
 rw[List.getElem?_append_left (by simpa using h)];simp[h]
theorem Qbaw {q:CodeD}{b:Nat}(h:q.blocks.length≤b):(spD q).blocks[b]? = ((Qbx (gnx q) q.blocks.length q.blocks.length)[b-q.blocks.length]?).map fun e=>goB e.2:=by
 rw[spD];simp only
 rw[List.getElem?_append_right (by simpa using h)];simp
theorem Qbjz (q:CodeD):gnx (spD q)=spX (gnx q) q.blocks.length:=by
 funext b
 rw[gnx,List.getD_eq_getElem?_getD,List.getElem?_map]
 by_cases hb:b<q.blocks.length
 ·rw[Qbax hb];rfl
 ·rw[Qbaw (by omega),Qae4 (by omega)]
  cases (Qbx (gnx q) q.blocks.length q.blocks.length)[b-q.blocks.length]? <;> rfl
def palB (q:CodeD):Prop:=∀b (h:b<q.blocks.length),∀p∈(q.blocks[b]'h).phis,p.args.length=(Q1 (gnx q) (b:Int) q.blocks.length).length
def hasS (q:CodeD):Bool:=(List.range q.blocks.length).any fun b=>(gnx q b).any (shV (gnx q) q.blocks.length b)
variable {q:CodeD}
theorem CodeD.ok.spF (h:q.ok):SpF (gnx q) q.blocks.length:=⟨fun b hb=>by rw[Qpw hb];exact (h.bs b hb).nxl,fun b hb v hv=>by rw[Qpw hb]at hv;exact (h.bs b hb).nx v hv⟩
theorem CodeD.ok.palB (h:q.ok):palB q:=fun b hb p hp=>(h.bs b hb).pal p hp
end Go.AE.Y

namespace Go.AE.Y
attribute [local go_sem] cond_true cond_false Bool.not_true Bool.not_false
open Go.Proofs.Tryz
variable {H H0:Heap}{K:V→Heap→Prop}{E B Lg:List (Nat×Obj)}
theorem OBlk.row_eq (o:OBlk):o.row=[o.pc,o.ic,.int .i64 o.jump,.int .i64 o.on,.vsl o.nx.y 1 0 o.nx.ns.length]:=rfl
def OBlk.rest (o:OBlk):List (Nat×Obj):=o.phis.flatMap OPhi.lg++(o.pl++(o.ins.flatMap OIns.lg++o.il))
theorem OBlk.lg_eq (o:OBlk):o.lg=[(o.nx.y,.vec 1 (Qb o.nx.ns))]++o.rest:=rfl
theorem KBlk.row_eq (b:KBlk):b.row=[b.pc,.sl false 4 (Qav b.y.ins),.int .i64 b.y.jump,.int .i64 b.y.on,.sl false 1 (Qb b.y.next)]:=rfl
structure PkS (q:CodeD)(P:List Int)(l:List Nat)(i:Nat)(ks:List KBlk):Prop where
 n:ks.length=l.length
 b:∀j (h:j<ks.length),PkB q P (l.getD j 0) ks[j].y
 ok:∀b∈ks,b.ok
 a:∀j (h:j<ks.length),j<i→∀p∈ks[j].y.phis,PkA q P l j p
 u:∀j (h:j<ks.length),i≤j→ks[j].y.phis=(Qah q (l.getD j 0)).phis
theorem Qbn {α β:Type}{f:α→List β}:∀{l:List α} {i:Nat} (h:i<l.length),(l.flatMap f).Perm (f l[i]++(l.eraseIdx i).flatMap f)
 |[],i,h=>by simp at h
 |x::l,0,h=>by simp
 |x::l,i+1,h=>by
  have:=Qbn (f:=f) (l:=l) (i:=i) (by simpa using h)
  simp only[List.flatMap_cons,List.getElem_cons_succ,List.eraseIdx_cons_succ]
  refine (List.Perm.append_left _ this).trans ?_
  rw[←List.append_assoc,←List.append_assoc]
  exact List.Perm.append_right _ List.perm_append_comm
theorem vslc {H:Heap}{z sz n:Nat}{rows:List (List C)}(h:H z=.vec sz rows)(hn:n=rows.length):Slc H sz rows (.vsl z sz 0 n):=by
 subst hn
 exact⟨by simp only[okSl,h,Nat.zero_add,Nat.le_refl,and_self],rfl,by simp only[rowsOf,h,List.drop_zero,List.take_length],rfl⟩
variable {q:CodeD}{P:List Int}{l:List Nat}{ks:List KBlk}
theorem PkS.step {i:Nat}(hS:PkS q P l i ks)(hi:i<ks.length){ph:List PhiD}{pl:List (Nat×Obj)}(h1:ph.map PhiD.to=(Qah q (l.getD i 0)).phis.map PhiD.to)(h2:∀p∈ph,PkA q P l i p)(hg:Gr pl 2 (Qw ph) ks[i].pc) :
  PkS q P l (i+1) (ks.set i ⟨⟨ph,ks[i].y.ins,ks[i].y.jump,ks[i].y.on,ks[i].y.next⟩,ks[i].pc,pl⟩):=by
 have hb:=hS.b i hi
 refine⟨by rw[List.length_set];exact hS.n,fun j h=>?_,fun w hw=>?_,fun j h hj=>?_,fun j h hj=>?_⟩
 ·have h':j<ks.length:=by simpa using h
  rw[List.getElem_set]
  split
  ·rename_i e;subst e;exact⟨hb.j,hb.o,hb.i,hb.n,h1⟩
  ·exact hS.b j h'
 ·rcases List.mem_or_eq_of_mem_set hw with h|rfl
  ·exact hS.ok w h
  ·exact hg
 ·have h':j<ks.length:=by simpa using h
  rw[List.getElem_set]
  split
  ·rename_i e;subst e;exact h2
  ·exact hS.a j h' (by omega)
 ·have h':j<ks.length:=by simpa using h
  rw[List.getElem_set]
  split
  ·omega
  ·exact hS.u j h' (by omega)
theorem PkS.rows {i:Nat}{ph:List PhiD}{pl:List (Nat×Obj)}(hi:i<ks.length):(ks.set i ⟨⟨ph,ks[i].y.ins,ks[i].y.jump,ks[i].y.on,ks[i].y.next⟩,ks[i].pc,pl⟩).map KBlk.row=ks.map KBlk.row:=by
 rw[List.map_set]
 have:(KBlk.mk ⟨ph,ks[i].y.ins,ks[i].y.jump,ks[i].y.on,ks[i].y.next⟩ ks[i].pc pl).row=(ks.map KBlk.row)[i]'(by simpa using hi):=by simp[KBlk.row,kRow]
 rw[this,List.set_getElem_self]
end Go.AE.Y

namespace Go.AE.Y
attribute [local go_sem] cond_true cond_false Bool.not_true Bool.not_false
open Go.Proofs.Tryz
variable {H H0:Heap}{K:V→Heap→Prop}{E B Lg:List (Nat×Obj)}{q:CodeD}
theorem CodeD.ok.gd (h:q.ok):q.gd:=⟨h.b0,h.b1,fun y hy=>by
 obtain⟨b,hb,rfl⟩:=List.mem_iff_getElem.1 hy
 exact (h.bs b hb).nxl,h.fts⟩
def zRow (v:Int):List C:=[.int .i64 1,.int .i64 v,.sl true 1 [],.int .i64 0]
def zIns (v:Int):InsD:=⟨1,v,[],0⟩
end Go.AE.Y

namespace Go.AE.Y
open Go.Proofs.Tryz
def Qir:List Item:=[fB 3 false]
def Qis:List Item:=[mJ 3 10]
def Qit:List Item:=fI 9 (.ext (.t 8) 0)::fI 10 (.ext (.t 8) 1)::sJ 1 2 9::Qis
def Qiu:List Item:=fI 6 (.ext (.t 5) 0)::fI 7 (.ext (.t 5) 1)::aJ 8 Qg7 [.t 6,.t 7]::Qit
def Q1a:SC:=sR (tJ 4 1 1::eI 5 (.call Qll [.t 4,.k (.c (.fn Qg9 []))])::Qiu) [2,3] .ret
def Q90:SC:=sR (vJ 1 0::eI 2 (.alloc [.sl true 3 []])::Qir) [1,2] Q1a
def Qp8:List RS:=[.cell 2 1 true,.tmp 3]
theorem Q8r:mFn prog Qft 1 11 Q90 Qp8=true:=by kernel_rfl
def Qd9:List Item:=[mJ 5 19]
def Qea:List Item:=fI 18 (.bsl 1 [.t 17])::xJ 19 1 14 18::Qd9
def Qrd:SC:=.reg (mJ 14 5::mJ 15 1::mJ 16 7::eI 17 (.callv (.t 15) [.t 16])::Qea) [1,5,8,9,10]
def Qre:SC:=.reg [cJ 20 .add 10 1,mJ 10 20] [1,5,8,9,10]
def Qrf:SC:=.seq (.block 1 (sR [iJ 12 1 8 10,lJ 13 12,mJ 7 13] [1,5,7,8,9,10] Qrd)) Qre
def Qop:SC:=sR [bJ 11 .lss 10 9] [1,5,8,9,10,11] (cX 11 0 Qrf)
def Qrg:SC:=sR [mJ 21 5,mJ 4 21] [4] .ret
def Qrh:SC:=.seq (sR [mJ 8 0,nJ 9 8,zJ 10 0] [1,5,8,9,10] (bL 0 Qop)) Qrg
def Qri:SC:=sR [fI 5 (.mv (.k (.c (.sl true 1 []))))] [0,1,5] Qrh
def Qxr:SC:=sR [fI 4 (.mv (.k (.c (.sl true 1 []))))] [0,1] Qri
def Qhj:List RS:=[.tmp 4]
theorem Qxh:mFn prog Qcw 2 22 Qxr Qhj=true:=by kernel_rfl
def Qkw:List Item:=[fB 5 false]
def Qeq:List Item:=[gF 11 8 (.not (.t 10)),pT 12 8 11]
def Qer:List Item:=[fB 5 false]
def Q50:SC:=cT 12 (sR (fI 13 (.bld [.sl true 3 []] [])::sJ 1 4 13::Qer) [4,5] .ret) .skip
def Qkx:List Item:=[fB 5 true]
def Q51:SC:=sR (tJ 14 1 2::sJ 1 4 14::Qkx) [4,5] .ret
def Q52:SC:=.seq (sR (mJ 6 1::oJ 7 6::mJ 8 7::gF 9 8 (.ld 1 true (.t 2))::.e (some 10) (some (8,false)) (.call Qbg [.t 9])::Qeq) [2,4,12] Q50) Q51
def Qagv:SC:=sR (vJ 2 0::eI 4 (.alloc [.sl true 3 []])::Qkw) [1,2,4] Q52
def Qe4:List RS:=[.cell 4 1 true,.tmp 5]
theorem Qafp:mFn prog Qg7 2 15 Qagv Qe4=true:=by kernel_rfl
def Qwb:List Item:=[mJ 3 15]
def Qwc:List Item:=[mJ 4 21,sJ 5 5 23]
def Qwd:List Item:=[mJ 6 26]
def Qwe:List Item:=[sJ 2 8 33]
def Qwf:List Item:=[mJ 9 34]
def Qamr:SC:=.reg [mJ 42 9,mJ 43 11,fJ 44 1 8,lJ 45 44,mJ 46 10,iJ 47 1 45 46,lJ 48 47,.e none none (.upd 0 (.t 42) (.t 43) (.t 48))] [1,3,4,6,8,9,17,18,19,28,29,30,35,36,37]
def Qams:SC:=.reg [cJ 49 .add 37 1,mJ 37 49] [1,3,4,6,8,9,17,18,19,28,29,30,35,36,37]
def Qamt:SC:=.seq (.block 5 (sR [mJ 39 37,iJ 40 1 35 37,lJ 41 40,mJ 10 39,mJ 11 41] [1,3,4,6,8,9,10,11,17,18,19,28,29,30,35,36,37] Qamr)) Qams
def Qahb:SC:=sR [bJ 38 .lss 37 36] [1,3,4,6,8,9,17,18,19,28,29,30,35,36,37,38] (cX 38 4 Qamt)
def Qwg:List Item:=[iJ 59 1 50 51,sJ 1 59 58]
def Qagz:SC:=.reg (mJ 50 3::mJ 51 4::mJ 52 3::mJ 53 4::iJ 54 1 52 53::lJ 55 54::mJ 56 9::fI 57 (.bsl 1 [.t 56])::xJ 58 1 55 57::Qwg) [1,3,4,6,17,18,19,28,29,30]
def Qag0:SC:=.seq (sR [mJ 35 6,nJ 36 35,zJ 37 0] [1,3,4,6,8,9,17,18,19,28,29,30,35,36,37] (bL 4 Qahb)) Qagz
def Qag1:SC:=sR (eI 34 (.mkm)::Qwf) [1,3,4,6,8,9,17,18,19,28,29,30] Qag0
def Qag2:SC:=.reg [cJ 60 .add 30 1,mJ 30 60] [1,3,4,6,17,18,19,28,29,30]
def Qag3:SC:=.seq (.block 3 (sR (iJ 32 2 28 30::tJ 33 2 32::eI 8 (.alloc [.int .i64 0,.sl true 1 []])::Qwe) [1,3,4,6,8,17,18,19,28,29,30] Qag1)) Qag2
def Qaac:SC:=sR [bJ 31 .lss 30 29] [1,3,4,6,17,18,19,28,29,30,31] (cX 31 2 Qag3)
def Qag4:SC:=sR [fJ 27 0 5,lJ 28 27,nJ 29 28,zJ 30 0] [1,3,4,6,17,18,19,28,29,30] (bL 2 Qaac)
def Qag5:SC:=sR (tJ 24 3 1::mJ 25 4::aJ 26 Qb0 [.t 24,.t 25]::Qwd) [1,3,4,5,6,17,18,19] Qag4
def Qag6:SC:=.reg [cJ 61 .add 19 1,mJ 19 61] [1,3,17,18,19]
def Qag7:SC:=.seq (.block 1 (sR (mJ 21 19::iJ 22 5 17 19::tJ 23 5 22::eI 5 (.alloc [.sl true 2 [],.sl true 4 [],.int .i64 0,.int .i64 0,.sl true 1 []])::Qwc) [1,3,4,5,17,18,19] Qag5)) Qag6
def Qaad:SC:=sR [bJ 20 .lss 19 18] [1,3,17,18,19,20] (cX 20 0 Qag7)
def Qag8:SC:=sR [mJ 62 3,mJ 2 62] [2] .ret
def Qag9:SC:=.seq (sR [fJ 16 2 1,lJ 17 16,nJ 18 17,zJ 19 0] [1,3,17,18,19] (bL 0 Qaad)) Qag8
def Qaha:SC:=sR (fJ 12 2 1::lJ 13 12::nJ 14 13::eI 15 (.mks 1 [.sl true 1 []] (.t 14))::Qwb) [1,3] Qag9
def Qav5:SC:=sR [vJ 1 0,fI 2 (.mv (.k (.c (.sl true 1 []))))] [1] Qaha
def Q88:List RS:=[.tmp 2]
theorem Qave:mFn prog Qpm 1 63 Qav5 Q88=true:=by kernel_rfl
def Qwh:List Item:=[mJ 5 20]
def Qwi:List Item:=[mJ 6 28,sJ 1 7 30]
def Qwj:List Item:=[hJ 34 33,.chk 36 none (.iad 5 (.t 34) (.t 35)),hJ 38 37,iJ 43 2 38 39,fJ 44 1 43,sJ 1 44 42]
def Qamu:SC:=.dreg 15 [0,1,2,3,4,5,6,7,8,9,10,11,3,5,7,12,13,14] ( mJ 31 0::kJ 32 31::fJ 33 2 32::lJ 34 33::mJ 35 4::iJ 36 5 34 35::fJ 37 0 36::lJ 38 37::mJ 39 6::mJ 40 5::fI 41 (.mkf Qch [.t 7])::aJ 42 Qcw [.t 40,.t 41]::Qwj) [0,1,4,5,12,13,24,25,26]
def Qamv:SC:=.reg [cJ 45 .add 26 1,mJ 26 45] [0,1,4,5,12,13,24,25,26]
def Qamw:SC:=.seq (.block 3 (sR (mJ 28 26::iJ 29 1 24 26::lJ 30 29::eI 7 (.alloc [.mnil])::Qwi) [0,1,4,5,6,7,12,13,24,25,26] Qamu)) Qamv
def Qahh:SC:=sR [bJ 27 .lss 26 25] [0,1,4,5,12,13,24,25,26,27] (cX 27 2 Qamw)
def Qamx:SC:=sR [mJ 21 1,mJ 22 4,iJ 23 1 21 22,lJ 24 23,nJ 25 24,zJ 26 0] [0,1,4,5,12,13,24,25,26] (bL 2 Qahh)
def Qamy:SC:=sR (mJ 16 0::kJ 17 16::tJ 18 3 17::mJ 19 4::aJ 20 Qb0 [.t 18,.t 19]::Qwh) [0,1,4,5,12,13] Qamx
def Qamz:SC:=.reg [cJ 46 .add 13 1,mJ 13 46] [0,1,12,13]
def Qahf:SC:=.seq (.block 1 (sR [mJ 15 13,mJ 4 15] [0,1,4,12,13] Qamy)) Qamz
def Qaah:SC:=sR [bJ 14 .lss 13 12] [0,1,12,13,14] (cX 14 0 Qahf)
def Qav7:SC:=sR [mJ 8 0,kJ 9 8,fJ 10 2 9,lJ 11 10,nJ 12 11,zJ 13 0] [0,1,12,13] (bL 0 Qaah)
def Q89:List RS:=[]
theorem Qavf:mFn prog Qpn 2 47 Qav7 Q89=true:=by kernel_rfl
def Q53:SC:=sR [lJ 4 1,mJ 5 0,fI 6 (.lup 0 (.c (.int .i64 0)) (.t 4) (.t 5)),mJ 3 6] [3] .ret
def Qahg:SC:=sR [zJ 3 0] [0,1] Q53
def Qvw:List RS:=[.tmp 3]
theorem Qafq:mFn prog Qch 2 7 Qahg Qvw=true:=by kernel_rfl
def Qky:List Item:=[nJ 17 16,cJ 18 .lss 17 2]
def Q54:SC:=cT 18 (sR [fI 4 (.mv (.k (.c (.sl true 1 []))))] [4] .ret) .skip
def Qes:List Item:=[gT 34 30 (.not (.t 33)),pF 35 30 34]
def Qet:List Item:=nJ 28 27::cJ 29 .gtr 28 1::mJ 30 29::gTm 31 30 6::gTm 32 30 8::.e (some 33) (some (30,true)) (.call Qe3 [.t 31,.t 32])::Qes
def Qkz:List Item:=[mJ 6 39]
def Q55:SC:=cT 35 (.reg (mJ 36 6::mJ 37 8::fI 38 (.bsl 1 [.t 37])::xJ 39 1 36 38::Qkz) [2,6,19,20,21]) .skip
def Q56:SC:=sR (tJ 25 3 2::mJ 26 8::aJ 27 Qb0 [.t 25,.t 26]::Qet) [2,6,8,19,20,21,35] Q55
def Q57:SC:=.reg [cJ 40 .add 21 1,mJ 21 40] [2,6,19,20,21]
def Q58:SC:=.seq (.block 1 (sR [iJ 23 1 19 21,lJ 24 23,mJ 8 24] [2,6,8,19,20,21] Q56)) Q57
def Q1s:SC:=sR [bJ 22 .lss 21 20] [2,6,19,20,21,22] (cX 22 0 Q58)
def Q1n:SC:=sR [mJ 41 6,mJ 4 41] [4] .ret
def Q1o:SC:=.seq (sR [mJ 19 5,nJ 20 19,zJ 21 0] [2,6,19,20,21] (bL 0 Q1s)) Q1n
def Q1p:SC:=sR [fI 6 (.mv (.k (.c (.sl true 1 []))))] [2,5,6] Q1o
def Q1q:SC:=.seq (sR (mJ 15 5::aJ 16 Q0g [.t 15]::Qky) [2,5,18] Q54) Q1p
def Q1r:SC:=sR [fJ 9 2 2,lJ 10 9,mJ 11 1,iJ 12 5 10 11,fJ 13 4 12,lJ 14 13,mJ 5 14] [2,5] Q1q
def Qahi:SC:=sR [vJ 2 0,fI 4 (.mv (.k (.c (.sl true 1 []))))] [1,2] Q1r
def Qjj:List RS:=[.tmp 4]
theorem Qafr:mFn prog Qg8 2 42 Qahi Qjj=true:=by kernel_rfl
def Qk2:List Item:=[sJ 3 3 14]
def Qk3:List Item:=eI 3 (.alloc [.int .i64 0,.int .i64 0,.sl true 5 []])::Qk2
def Qk4:List Item:=[mJ 4 16]
def Qk5:List Item:=[nJ 26 25,zJ 27 0]
def Qk6:List Item:=[fJ 41 2 3,sJ 1 41 40]
def Qk7:List Item:=[mJ 4 44]
def Q59:SC:=cT 59 (.reg [fJ 60 2 3,lJ 61 60,mJ 62 5,iJ 63 5 61 62,fJ 64 4 63,lJ 65 64,mJ 66 9,mJ 67 8,iJ 68 1 65 66,sJ 1 68 67] [1,2,3,4,5,7,8,19,20,25,26,27,50,51,52]) .skip
def Q6a:SC:=sR [mJ 57 10,mJ 58 7,bJ 59 .eql 57 58] [1,2,3,4,5,7,8,9,19,20,25,26,27,50,51,52,59] Q59
def Q6b:SC:=.reg [cJ 69 .add 52 1,mJ 52 69] [1,2,3,4,5,7,8,19,20,25,26,27,50,51,52]
def Q6c:SC:=.seq (.block 5 (sR [mJ 54 52,iJ 55 1 50 52,lJ 56 55,mJ 9 54,mJ 10 56] [1,2,3,4,5,7,8,9,10,19,20,25,26,27,50,51,52] Q6a)) Q6b
def Qzk:SC:=sR [bJ 53 .lss 52 51] [1,2,3,4,5,7,8,19,20,25,26,27,50,51,52,53] (cX 53 4 Q6c)
def Q1t:SC:=.reg [mJ 84 12,mJ 85 5,.e none none (.del 0 (.t 84) (.t 85))] [1,2,3,4,5,8,19,20,25,26,27,73,74,75]
def Q1u:SC:=sR [mJ 79 12,mJ 80 8,mJ 81 12,mJ 82 5,fI 83 (.lup 0 (.c (.int .i64 0)) (.t 81) (.t 82)),.e none none (.upd 0 (.t 79) (.t 80) (.t 83))] [1,2,3,4,5,8,12,19,20,25,26,27,73,74,75] Q1t
def Q1v:SC:=.reg [cJ 86 .add 75 1,mJ 75 86] [1,2,3,4,5,8,19,20,25,26,27,73,74,75]
def Q1w:SC:=.seq (.block 7 (sR [iJ 77 1 73 75,lJ 78 77,mJ 12 78] [1,2,3,4,5,8,12,19,20,25,26,27,73,74,75] Q1u)) Q1v
def Qzl:SC:=sR [bJ 76 .lss 75 74] [1,2,3,4,5,8,19,20,25,26,27,73,74,75,76] (cX 76 6 Q1w)
def Q1x:SC:=sR [mJ 70 4,mJ 71 7,iJ 72 1 70 71,lJ 73 72,nJ 74 73,zJ 75 0] [1,2,3,4,5,8,19,20,25,26,27,73,74,75] (bL 6 Qzl)
def Q1y:SC:=.seq (sR [fJ 45 2 3,lJ 46 45,mJ 47 5,iJ 48 5 46 47,fJ 49 4 48,lJ 50 49,nJ 51 50,zJ 52 0] [1,2,3,4,5,7,8,19,20,25,26,27,50,51,52] (bL 4 Qzk)) Q1x
def Q1z:SC:=sR (mJ 42 4::fI 43 (.bsl 1 [.k (.c (.sl true 1 []))])::xJ 44 1 42 43::Qk7) [1,2,3,4,5,7,8,19,20,25,26,27] Q1y
def Q10:SC:=sR (fJ 34 2 3::lJ 35 34::mJ 36 7::fI 37 (.bsl 1 [.t 36])::fI 38 (.bld [.sl true 2 [],.sl true 4 [],.int .i64 0,.int .i64 0,.sl true 1 []] [(2,1,kI 1),(4,1,.t 37)])::fI 39 (.bsl 5 [.t 38])::xJ 40 5 35 39::Qk6) [1,2,3,4,5,7,8,19,20,25,26,27] Q1z
def Qk0:SC:=sR [fJ 31 2 3,lJ 32 31,nJ 33 32,mJ 8 33] [1,2,3,4,5,7,8,19,20,25,26,27] Q10
def Q11:SC:=.reg [cJ 87 .add 27 1,mJ 27 87] [1,2,3,4,5,19,20,25,26,27]
def Q12:SC:=.seq (.block 3 (sR [iJ 29 1 25 27,lJ 30 29,mJ 7 30] [1,2,3,4,5,7,19,20,25,26,27] Qk0)) Q11
def Qzm:SC:=sR [bJ 28 .lss 27 26] [1,2,3,4,5,19,20,25,26,27,28] (cX 28 2 Q12)
def Q13:SC:=sR (tJ 23 3 1::mJ 24 5::aJ 25 Qg8 [.t 23,.t 24]::Qk5) [1,2,3,4,5,19,20,25,26,27] (bL 2 Qzm)
def Q14:SC:=.reg [cJ 88 .add 20 1,mJ 20 88] [1,2,3,4,19,20]
def Q15:SC:=.seq (.block 1 (sR [mJ 22 20,mJ 5 22] [1,2,3,4,5,19,20] Q13)) Q14
def Qzn:SC:=sR [bJ 21 .lss 20 19] [1,2,3,4,19,20,21] (cX 21 0 Q15)
def Q16:SC:=sR [tJ 91 3 3,sJ 3 2 91] [2] .ret
def Qk1:SC:=.seq (.seq .gh (.reg [mJ 89 4,aJ 90 Qpn [.t 3,.t 89]] [2,3])) Q16
def Q17:SC:=.seq (sR [fJ 17 2 1,lJ 18 17,nJ 19 18,zJ 20 0] [1,2,3,4,19,20] (bL 0 Qzn)) Qk1
def Q18:SC:=sR (tJ 15 3 1::aJ 16 Qpm [.t 15]::Qk4) [1,2,3,4] Q17
def Q19:SC:=sR (tJ 13 3 1::aJ 14 Qg1 [.t 13]::Qk3) [1,2,3] Q18
def Qahj:SC:=sR [vJ 1 0,eI 2 (.alloc [.int .i64 0,.int .i64 0,.sl true 5 []])] [1,2] Q19
def Qvx:List RS:=[.cell 2 3 true]
theorem Qafs:mFn prog Qg9 1 92 Qahj Qvx=true:=by kernel_rfl
def Qaq6:SC:=.reg [mJ 20 9,cJ 21 .add 20 1,mJ 9 21] [2,3,7,8,9]
def Qaq7:SC:=.seq (.block 1 (.dreg 12 [0,1,2,3,4,5,6,7,8,9,10,11] ( mJ 22 8::mJ 23 22::gFm 24 23 7::gFm 25 23 9::gF 26 23 (.iad 1 (.t 24) (.t 25))::gFl 27 23 26::gFm 28 23 7::gF 29 23 (.iad 1 (.t 28) (kI 0))::gFl 30 23 29::gF 31 23 (.bin 0 .neq (.t 27) (.t 30))::pT 32 23 31::mJ 8 32::[]) [2,3,7,8,9])) Qaq6
def Qam3:SC:=.seq (sR [mJ 16 9,mJ 17 7,nJ 18 17,bJ 19 .lss 16 18] [2,3,7,8,9,19] (cT 19 .skip (.exit 0))) Qaq7
def Qmg:List Item:=[gT 41 34 (.len (.t 40)),gT 42 34 (.bin 0 .gtr (.t 41) (kI 1)),pF 43 34 42,mJ 6 43]
def Qaq8:SC:=.seq (.dreg 12 [0,1,2,3,4,5,6,7,8,9,10,11] ( mJ 33 8::mJ 34 33::gT 35 34 (.ld 3 true (.t 3))::gTm 36 34 7::gTm 37 34 2::gT 38 34 (.iad 1 (.t 36) (.t 37))::gTl 39 34 38::.e (some 40) (some (34,true)) (.call Qde [.t 35,.t 39])::Qmg) [6]) .ret
def Qaq9:SC:=.seq (sR [zJ 9 0] [2,3,7,8,9] (bL 0 Qam3)) Qaq8
def Qara:SC:=sR [fB 8 false] [2,3,7,8] Qaq9
def Qarb:SC:=sR [fJ 10 2 3,lJ 11 10,mJ 12 1,iJ 13 5 11 12,fJ 14 4 13,lJ 15 14,mJ 7 15] [2,3,7] Qara
def Qa39:SC:=sR [vJ 3 0,fB 6 false] [1,2,3] Qarb
def Q04:List RS:=[.tmp 6]
theorem Qa3k:mFn prog Qxc 3 44 Qa39 Q04=true:=by kernel_rfl
def Qzr:List Item:=[sJ 3 3 15]
def Qzs:List Item:=eI 3 (.alloc [.int .i64 0,.int .i64 0,.sl true 5 []])::Qzr
def Qzt:List Item:=[fJ 67 2 3,sJ 1 67 66]
def Qarc:SC:=.reg (fJ 58 2 3::lJ 59 58::fI 60 (.bsl 2 [])::fI 61 (.bsl 4 [])::mJ 62 6::fI 63 (.bsl 1 [.t 62])::fI 64 (.bld [.sl true 2 [],.sl true 4 [],.int .i64 0,.int .i64 0,.sl true 1 []] [(0,1,.t 60),(1,1,.t 61),(2,1,kI 1),(4,1,.t 63)])::fI 65 (.bsl 5 [.t 64])::xJ 66 5 59 65::Qzt) [1,2,3,4,5]
def Q3n:SC:=.seq (.dreg 12 [0,1,2,3,4,5,6,7,8,9,10,11] ( fJ 47 2 3::lJ 48 47::mJ 49 4::iJ 50 5 48 49::fJ 51 4 50::lJ 52 51::mJ 53 5::fJ 54 2 3::lJ 55 54::nJ 56 55::iJ 57 1 52 53::sJ 1 57 56::[]) [1,2,3,4,5,6]) Qarc
def Qard:SC:=cT 37 (sR [fJ 38 2 1,lJ 39 38,mJ 40 4,iJ 41 5 39 40,fJ 42 4 41,lJ 43 42,mJ 44 5,iJ 45 1 43 44,lJ 46 45,mJ 6 46] [1,2,3,4,5,6] Q3n) .skip
def Qare:SC:=.reg [mJ 32 5,cJ 33 .add 32 1,mJ 5 33] [1,2,3,4,5]
def Qarf:SC:=.seq (.block 3 (sR [tJ 34 3 1,mJ 35 4,mJ 36 5,aJ 37 Qxc [.t 34,.t 35,.t 36]] [1,2,3,4,5,37] Qard)) Qare
def Qanm:SC:=.seq (sR [mJ 23 5,fJ 24 2 1,lJ 25 24,mJ 26 4,iJ 27 5 25 26,fJ 28 4 27,lJ 29 28,nJ 30 29,bJ 31 .lss 23 30] [1,2,3,4,5,31] (cT 31 .skip (.exit 2))) Qarf
def Qarg:SC:=.reg [mJ 21 4,cJ 22 .add 21 1,mJ 4 22] [1,2,3,4]
def Qam4:SC:=.seq (.block 1 (sR [zJ 5 0] [1,2,3,4,5] (bL 2 Qanm))) Qarg
def Qwp:SC:=.seq (sR [mJ 16 4,fJ 17 2 1,lJ 18 17,nJ 19 18,bJ 20 .lss 16 19] [1,2,3,4,20] (cT 20 .skip (.exit 0))) Qam4
def Qwk:List Item:=[mJ 8 77]
def Qwl:List Item:=[mJ 9 80]
def Qwm:List Item:=[fI 111 (.iad 1 (.t 110) (kI 0)),lJ 112 111,mJ 13 112]
def Qam5:SC:=cT 107 (.reg (tJ 108 3 3::mJ 109 13::aJ 110 Qde [.t 108,.t 109]::Qwm) [1,2,3,7,8,9,10,11,12,13]) .skip
def Qwn:List Item:=[mJ 11 130]
def Qwo:List Item:=hJ 115 114::.chk 117 none (.iad 5 (.t 115) (.t 116))::hJ 119 118::.chk 121 none (.iad 2 (.t 119) (.t 120))::hJ 123 122::iJ 127 1 123 126::lJ 128 127::fI 129 (.bsl 1 [.t 128])::xJ 130 1 113 129::Qwn
def Qam6:SC:=.dreg 19 [0,1,2,3,4,5,6,7,8,9,10,11,12,13,2,4,6,8,10,14,15,16,17,18] ( mJ 113 11::fJ 114 2 1::lJ 115 114::mJ 116 7::iJ 117 5 115 116::fJ 118 0 117::lJ 119 118::mJ 120 10::iJ 121 2 119 120::fJ 122 1 121::lJ 123 122::mJ 124 8::mJ 125 13::aJ 126 Qak2 [.t 124,.t 125]::Qwo) [1,2,3,7,8,9,10,11,12]
def Qam7:SC:=.seq (sR [mJ 103 13,fJ 104 2 1,lJ 105 104,nJ 106 105,bJ 107 .geq 103 106] [1,2,3,7,8,9,10,11,12,13,107] Qam5) Qam6
def Qam8:SC:=.reg [mJ 97 12,cJ 98 .add 97 1,mJ 12 98] [1,2,3,7,8,9,10,11,12]
def Qam9:SC:=.seq (.block 9 (sR [mJ 99 9,mJ 100 12,iJ 101 1 99 100,lJ 102 101,mJ 13 102] [1,2,3,7,8,9,10,11,12,13] Qam7)) Qam8
def Qahq:SC:=.seq (sR [mJ 93 12,mJ 94 9,nJ 95 94,bJ 96 .lss 93 95] [1,2,3,7,8,9,10,11,12,96] (cT 96 .skip (.exit 8))) Qam9
def Qana:SC:=.seq .gh (.reg [fJ 131 2 3,lJ 132 131,mJ 133 7,iJ 134 5 132 133,fJ 135 0 134,lJ 136 135,mJ 137 10,mJ 138 11,iJ 139 2 136 137,fJ 140 1 139,sJ 1 140 138] [1,2,3,7,8,9,10])
def Qanb:SC:=.seq (sR [zJ 12 0] [1,2,3,7,8,9,10,11,12] (bL 8 Qahq)) Qana
def Qanc:SC:=.reg [mJ 90 10,cJ 91 .add 90 1,mJ 10 91] [1,2,3,7,8,9,10]
def Qand:SC:=.seq (.block 7 (sR [fI 92 (.bsl 1 []),mJ 11 92] [1,2,3,7,8,9,10,11] Qanb)) Qanc
def Qahr:SC:=.seq (sR [mJ 81 10,fJ 82 2 3,lJ 83 82,mJ 84 7,iJ 85 5 83 84,fJ 86 0 85,lJ 87 86,nJ 88 87,bJ 89 .lss 81 88] [1,2,3,7,8,9,10,89] (cT 89 .skip (.exit 6))) Qand
def Qane:SC:=sR [zJ 10 0] [1,2,3,7,8,9,10] (bL 6 Qahr)
def Qanf:SC:=sR (tJ 78 3 3::mJ 79 7::aJ 80 Qde [.t 78,.t 79]::Qwl) [1,2,3,7,8,9] Qane
def Qang:SC:=.reg [mJ 73 7,cJ 74 .add 73 1,mJ 7 74] [1,2,3,7]
def Qanh:SC:=.seq (.block 5 (sR (tJ 75 3 1::mJ 76 7::aJ 77 Qde [.t 75,.t 76]::Qwk) [1,2,3,7,8] Qanf)) Qang
def Qwq:SC:=.seq (sR [mJ 68 7,fJ 69 2 1,lJ 70 69,nJ 71 70,bJ 72 .lss 68 71] [1,2,3,7,72] (cT 72 .skip (.exit 4))) Qanh
def Qani:SC:=sR [tJ 141 3 3,sJ 3 2 141] [2] .ret
def Qanj:SC:=.seq (.seq (.seq .gh (.reg [zJ 7 0] [1,2,3,7])) (bL 4 Qwq)) Qani
def Qank:SC:=.seq (sR [zJ 4 0] [1,2,3,4] (bL 0 Qwp)) Qanj
def Qanl:SC:=sR (tJ 14 3 1::aJ 15 Qpq [.t 14]::Qzs) [1,2,3] Qank
def Qa4a:SC:=sR [vJ 1 0,eI 2 (.alloc [.int .i64 0,.int .i64 0,.sl true 5 []])] [1,2] Qanl
def Qakc:List RS:=[.cell 2 3 true]
theorem Qa3l:mFn prog Qxd 1 142 Qa4a Qakc=true:=by kernel_rfl
def Qei:List Item:=[sJ 1 2 5]
def Qej:List Item:=aJ 5 Q0h [.t 4]::Qei
def Qt6:SC:=sR (mJ 3 0::aJ 4 Q0m [.t 3]::Qej) [2] .ret
def Qx7:SC:=sR [eI 2 (.alloc [.sl true 3 []])] [0,2] Qt6
def Qhl:List RS:=[.cell 2 1 true]
theorem Qxj:mFn prog Qcx 1 6 Qx7 Qhl=true:=by kernel_rfl
def Qi0:List Item:=[fB 3 false]
def Qi1:List Item:=[mJ 3 7]
def Qi2:List Item:=fI 6 (.ext (.t 5) 0)::fI 7 (.ext (.t 5) 1)::sJ 1 2 6::Qi1
def Q2j:SC:=sR (tJ 4 1 1::eI 5 (.call Q0i [.t 4,.k (.c (.str [115,112,108,105,116]))])::Qi2) [2,3] .ret
def Qae3:SC:=sR (vJ 1 0::eI 2 (.alloc [.sl true 3 []])::Qi0) [1,2] Q2j
def Qqg:List RS:=[.cell 2 1 true,.tmp 3]
theorem Q8w:mFn prog Qfw 1 8 Qae3 Qqg=true:=by kernel_rfl
end Go.AE.Y

namespace Go.AE.Y
attribute [local go_sem] cond_true cond_false Bool.not_true Bool.not_false
open Go.Proofs.Tryz
variable {H H0:Heap}{K:V→Heap→Prop}{q:CodeD}
theorem Qbdx {ns ns':List Int}(h:ns.length≤2)(hp:ns'.Pairwise (· < ·))(hm:∀x,x∈ns'↔x∈ns):ns'.length<2↔twoB ns=false:=by
 cases ht:twoB ns with
 |true=>
  obtain⟨a,c,rfl,hne⟩:=(Qua h).1 ht
  have ha:=(hm a).2 (by simp)
  have hc:=(hm c).2 (by simp)
  refine⟨fun hl=>?_,fun h=>by simp at h⟩
  match ns',hl with
  |[],_=>simp at ha
  |[x],_=>
   simp only[List.mem_singleton]at ha hc
   exact absurd (ha.trans hc.symm) hne
 |false=>
  refine⟨fun _=>rfl,fun _=>?_⟩
  match ns',hp,hm with
  |[],_,_=>simp
  |[x],_,_=>simp
  |x::y::r,hp,hm=>
   have hx:=(hm x).1 (by simp)
   have hy:=(hm y).1 (by simp)
   have hxy:x<y:=(List.pairwise_cons.1 hp).1 y (by simp)
   rcases (Qua h).2 ht with h|⟨a,h|h⟩
   ·rw[h]at hx;simp at hx
   ·rw[h]at hx hy;simp only[List.mem_singleton]at hx hy;omega
   ·rw[h]at hx hy;simp only[List.mem_cons,List.not_mem_nil,or_false,or_self]at hx hy;omega
theorem Qbin {b:Nat}(h:twoB (gnx q b)=false):shL (gnx q) q.blocks.length b=[]:=by
 rw[shL,List.filter_eq_nil_iff]
 intro v _;simp[shV,h]
set_option maxHeartbeats 2000000 in
theorem Qa0h {fl:Bool}{b:Nat}(ho:q.ok)(hb:b<q.blocks.length)(hK:∀fl H',Upd H H' []→K (.c (.sl fl 1 (Qb (shL (gnx q) q.blocks.length b)))) H') :
  Qp prog Qg8 [.ag [.int .i64 q.params,.int .i64 q.regs,.sl fl 5 (Qr q.blocks)],.c (.int .i64 b)] H K:=by
 have hb1:=ho.b1
 have hnl:=(ho.bs b hb).nxl
 have hrg:=(ho.bs b hb).nx
 rw[←Qpw hb]at hnl hrg
 have hgn:q.blocks[b].next=gnx q b:=(Qpw hb).symm
 obtain⟨ns,hns⟩:∃ns,gnx q b=ns:=⟨_,rfl⟩
 rw[hns]at hnl hrg hgn
 refine Qz ?_
 refine Qd Qak Qafr ?_
 refine Qa ?_
 simp only[go_sem]
 refine Qa ?_
 simp only[go_sem,hb,Qq,Qan _ _ hb,BlkD.cells,hgn]
 refine Q6 ?_
 refine Qa ?_
 simp only[go_sem]
 refine Qbkj (by omega) fun ns' H2 hu h1 h2 h3=>?_
 have kn:=(Kn.start0 H).call0 hu
 have hot:=Qbdx hnl h1 h2
 simp only[go_sem,Qky,Qc]
 intro _
 refine Qh (Qe rfl ?_ ?_)
 ·intro hc
  have hlt:ns'.length<2:=by simp only[V.c.injEq,C.bool.injEq,decide_eq_true_eq]at hc;omega
  have ht:=hot.1 hlt
  refine Qa ?_
  simp only[go_sem]
  refine Qk ?_
  simp only[go_sem,X.next,Q3,Q9,Qjj,List.mem_singleton,forall_eq,RS.op]
  have:=hK true _ kn.fin
  rw[Qbin (by rw[hns];exact ht)]at this
  exact⟨_,.c _ _ (Qf rfl),this⟩
 ·intro hc
  have ht:twoB ns=true:=by
   cases h:twoB ns with
   |true=>rfl
   |false=>have:=hot.2 h;simp at hc;omega
  refine Qi ?_
  try simp only[go_sem]
  refine Qa ?_
  simp only[go_sem]
  refine Q6 ?_
  refine Qa ?_
  simp only[go_sem,Qc]
  try intro _
  refine Qh (Qg (Qy (fun m e1 H1=>∃(i:Nat) (t:C) (Lg:List (Nat×Obj)),m=ns.length-i∧i≤ns.length∧Gr Lg 1 (Qb ((ns.take i).filter (shV (gnx q) q.blocks.length b))) t∧Kn H H1 [] ([]++Lg)∧
   lk 2 e1=.c (.pp [.int .i64 q.params,.int .i64 q.regs,.sl fl 5 (Qr q.blocks)])∧lk 6 e1=.c t∧lk 19 e1=.c (.sl false 1 (Qb ns))∧lk 20 e1=.c (.int .i64 ns.length)∧lk 21 e1=.c (.int .i64 i)) ns.length ?_ ?_))
  ·exact⟨0,_,[],by omega,by omega,.nil 1,kn,rfl,rfl,rfl,rfl,rfl⟩
  ·clear kn
   rintro m e1 H1 ⟨i,t,Lg,hm,hi,hgr,kn,l2,l6,l19,l20,l21⟩
   have htw:=hgr.isOw
   refine Qa ?_
   simp only[go_sem,l2,l6,l19,l20,l21,htw]
   refine Qh (Qe rfl ?_ ?_)
   ·intro hc1
    have hlt:i<ns.length:=by simpa using hc1
    obtain⟨v,hv⟩:∃v,ns[i]=v:=⟨_,rfl⟩
    have hgd:ns.getD i 0=v:=by simp[List.getD_eq_getElem?_getD,hlt,hv]
    have hvm:v∈ns:=by rw[←hv];exact List.getElem_mem hlt
    have hvr:=hrg v hvm
    obtain⟨a,c,hac,hne⟩:=(Qua hnl).1 ht
    have hnm:v∉(ns.take i).filter (shV (gnx q) q.blocks.length b):=fun hh=>by
     have hh:=(List.mem_filter.1 hh).1
     subst hac
     match i,hlt,hv with
     |0,_,_=>simp at hh
     |1,_,hv=>simp at hh hv;omega
     |i+2,h,_=>simp at h;omega
    have hnc:((ns.take i).filter (shV (gnx q) q.blocks.length b)).contains v=false:=by
     rw[Bool.eq_false_iff];exact fun h=>hnm (List.contains_iff_mem.1 h)
    have hshv:shV (gnx q) q.blocks.length b v=decide (1<(Q1 (gnx q) v q.blocks.length).length):=by rw[shV,hns,ht,Bool.true_and]
    have hpi:Qfx (gnx q) v q.blocks.length=Q1 (gnx q) v q.blocks.length:=by rw[Qfx,if_pos (by simp only[Bool.and_eq_true,decide_eq_true_eq];omega)]
    have hpl:=Qbq (gnx q) v q.blocks.length
    have hfl:((ns.take i).filter (shV (gnx q) q.blocks.length b)).length≤2:=Nat.le_trans (List.length_filter_le _ _) (by rw[List.length_take];omega)
    have hfs:(ns.take (i+1)).filter (shV (gnx q) q.blocks.length b)=(ns.take i).filter (shV (gnx q) q.blocks.length b)++if shV (gnx q) q.blocks.length b v=true then [v]else []:=by
     rw[List.take_succ_eq_append_getElem hlt,List.filter_append,hv,List.filter_cons]
     split <;> rfl
    refine Qi ?_
    try simp only[go_sem]
    refine Qw6 (fun e2 H2=>∃(t:C) (Lg:List (Nat×Obj)),Gr Lg 1 (Qb ((ns.take (i+1)).filter (shV (gnx q) q.blocks.length b))) t∧Kn H H2 [] ([]++Lg)∧
     lk 2 e2=.c (.pp [.int .i64 q.params,.int .i64 q.regs,.sl fl 5 (Qr q.blocks)])∧lk 6 e2=.c t∧lk 19 e2=.c (.sl false 1 (Qb ns))∧lk 20 e2=.c (.int .i64 ns.length)∧lk 21 e2=.c (.int .i64 i)) ?_ ?_
    ·intro Q hnr _ _
     refine Qg ?_
     refine Qa ?_
     simp only[go_sem,l2,l6,l19,l20,l21,htw,hlt,Qc,Qm _ _ hlt,hgd]
     refine Qa ?_
     simp only[go_sem,htw]
     refine Qpe (Quh H1 q fl) fun fl2 H3 hu=>?_
     have kn:=kn.call0 hu
     rw[Qq,hpi]
     by_cases hs:1<(Q1 (gnx q) v q.blocks.length).length
     ·have hs2:decide ((1:Int)<((Q1 (gnx q) v q.blocks.length).length:Nat))=true:=decide_eq_true (by omega)
      have hsv:shV (gnx q) q.blocks.length b v=true:=by rw[hshv];exact decide_eq_true hs
      rw[hsv,if_pos rfl]at hfs
      simp only[go_sem,Qet,Qc,hs2,htw]
      intro _
      refine Qajo (hgr.slc kn) htw ?_
      rw[hnc]
      simp only[go_sem,Qes,hs2,htw]
      refine Qe rfl (fun _=>?_) (fun h=>by simp at h)
      refine Qt ?_
      simp only[go_sem,htw]
      refine kn.growR (B:=[]) (new:=Qb [v]) hgr (.mk' _ _ _ _) (Qo _) (by simp only[Qc,LIM,List.length_cons,List.length_nil];omega) fun t2 Lg2 H4 hgr2 ht2 kn=>?_
      simp only[go_sem,Qkz,ht2]
      refine hnr _ _ ⟨t2,Lg2,?_,kn,rfl,rfl,rfl,rfl,rfl⟩
      rw[hfs,Qa2];exact hgr2
     ·have hs2:decide ((1:Int)<((Q1 (gnx q) v q.blocks.length).length:Nat))=false:=decide_eq_false (by omega)
      have hsv:shV (gnx q) q.blocks.length b v=false:=by rw[hshv];exact decide_eq_false hs
      rw[hsv,if_neg (by simp),List.append_nil]at hfs
      simp only[go_sem,Qet,Qc,hs2,htw]
      intro _
      simp only[go_sem,Qes,hs2,htw]
      refine Qe rfl (fun h=>by simp at h) (fun _=>?_)
      refine Qi ?_
      try simp only[go_sem]
      refine hnr _ _ ⟨t,Lg,?_,kn,rfl,rfl,rfl,rfl,rfl⟩
      rw[hfs];exact hgr
    ·rintro e2 H2 ⟨t,Lg,hgr,kn,l2,l6,l19,l20,l21⟩
     refine Qt ?_
     simp only[go_sem,l2,l6,l19,l20,l21]
     refine⟨Qs (by omega) (by omega),?_⟩
     show ∃m,_
     exact⟨ns.length-(i+1),by omega,i+1,t,Lg,rfl,by omega,hgr,kn,rfl,rfl,rfl,rfl,rfl⟩
   ·intro hc1
    have hge:ns.length≤i:=by simpa using hc1
    rw[List.take_of_length_le hge]at hgr
    refine Q0 ?_
    simp only[go_sem,X.next]
    refine Qa ?_
    simp only[go_sem,l6,htw]
    refine Qk ?_
    simp only[go_sem,Q3,Q9,Qjj,List.mem_singleton,forall_eq,RS.op,htw]
    have:=hK false _ kn.fin
    rw[shL,hns]at this
    exact⟨_,.c _ _ (hgr.frz kn (Qo _)),this⟩
end Go.AE.Y

namespace Go.AE.Y
attribute [local go_sem] cond_true cond_false Bool.not_true Bool.not_false
open Go.Proofs.Tryz
variable {H H0:Heap}{K:V→Heap→Prop}{q:CodeD}
def twoT (ns:List Int)(k:Nat):Bool:=(ns.take k).any fun v=>v != ns.headD 0
theorem Qbbl {ns:List Int}{k:Nat}(h:k<ns.length):twoT ns (k+1)=(twoT ns k || (ns[k] != ns.headD 0)):=by
 rw[twoT,twoT,List.take_succ_eq_append_getElem h,List.any_append];simp
set_option maxHeartbeats 2000000 in
theorem Qa3d {fl:Bool}{b i:Nat}(ho:q.ok)(hb:b<q.blocks.length)(hi:i<(gnx q b).length)(hK:∀H',Upd H H' []→K (.c (.bool (shV (gnx q) q.blocks.length b ((gnx q b).getD i 0)))) H') :
  Qp prog Qxc [.ag [.int .i64 q.params,.int .i64 q.regs,.sl fl 5 (Qr q.blocks)],.c (.int .i64 b),.c (.int .i64 i)] H K:=by
 have hb1:=ho.b1
 have hnl:=(ho.bs b hb).nxl
 rw[←Qpw hb]at hnl
 have hgn:q.blocks[b].next=gnx q b:=(Qpw hb).symm
 obtain⟨ns,hns⟩:∃ns,gnx q b=ns:=⟨_,rfl⟩
 rw[hns]at hnl hgn hi hK
 have h0:0<ns.length:=by omega
 have hhd:ns.headD 0=ns.getD 0 0:=by cases ns <;> rfl
 refine Qz ?_
 refine Qd Qak Qa3k ?_
 refine Qa ?_
 simp only[go_sem]
 refine Qa ?_
 simp only[go_sem,hb,Qq,Qan _ _ hb,BlkD.cells,hgn]
 refine Qa ?_
 simp only[go_sem]
 refine Q6 ?_
 refine Qa ?_
 simp only[go_sem]
 refine Qh (Qg (Qy (fun m e1 H1=>∃(k:Nat),m=ns.length-k∧k≤ns.length∧Kn H H1 [] []∧
  lk 2 e1=.c (.int .i64 i)∧lk 3 e1=.c (.pp [.int .i64 q.params,.int .i64 q.regs,.sl fl 5 (Qr q.blocks)])∧lk 7 e1=.c (.sl false 1 (Qb ns))∧lk 8 e1=.c (.bool (twoT ns k))∧lk 9 e1=.c (.int .i64 k)) ns.length ?_ ?_))
 ·exact⟨0,by omega,by omega,Kn.start0 H,rfl,rfl,rfl,rfl,rfl⟩
 ·rintro m e1 H1 ⟨k,hm,hk,kn,l2,l3,l7,l8,l9⟩
  refine Q6 ?_
  refine Qa ?_
  simp only[go_sem,l2,l3,l7,l8,l9,Qc]
  try intro _
  refine Qh (Qe rfl ?_ ?_)
  ·intro hc
   have hlt:k<ns.length:=by simpa using hc
   have hsucc:=Qbbl hlt
   have hgd:ns.getD k 0=ns[k]:=by simp[List.getD_eq_getElem?_getD,hlt]
   refine Qi ?_
   try simp only[go_sem]
   refine Qw6 (fun e1 H1=>Kn H H1 [] []∧lk 2 e1=.c (.int .i64 i)∧lk 3 e1=.c (.pp [.int .i64 q.params,.int .i64 q.regs,.sl fl 5 (Qr q.blocks)])∧lk 7 e1=.c (.sl false 1 (Qb ns))∧lk 8 e1=.c (.bool (twoT ns (k+1)))∧lk 9 e1=.c (.int .i64 k)) ?_ ?_
   ·intro Q hnr _ _
    refine Qg ?_
    cases ht:twoT ns k with
    |true=>
     rw[ht]at l8 hsucc
     rw[Bool.true_or]at hsucc
     refine Qbf ?_
     simp only[go_sem,l2,l3,l7,l8,l9,Qc,hlt,h0,Qm _ _ hlt,Qm _ _ h0,Qap9]
     exact hnr _ _ ⟨kn,rfl,rfl,rfl,by rw[hsucc];rfl,rfl⟩
    |false=>
     rw[ht]at l8 hsucc
     rw[Bool.false_or]at hsucc
     refine Qbf ?_
     simp only[go_sem,l2,l3,l7,l8,l9,Qc,hlt,h0,Qm _ _ hlt,Qm _ _ h0,Qap9]
     have e:(ns[k] != ns.headD 0) = !decide (ns.getD k 0=ns.getD 0 0):=by
      rw[hhd,hgd]
      cases h:decide (ns[k]=ns.getD 0 0)with
      |true=>have:=of_decide_eq_true h;rw[this];simp
      |false=>have:=of_decide_eq_false h;exact bne_iff_ne.2 this
     exact⟨Int.le_refl 0,hnr _ _ ⟨kn,rfl,rfl,rfl,by rw[hsucc,e];rfl,rfl⟩⟩
   ·rintro e4 H6 ⟨kn,l2,l3,l7,l8,l9⟩
    refine Qt ?_
    simp only[go_sem,l2,l3,l7,l8,l9]
    refine⟨Qs (by omega) (by omega),?_⟩
    show ∃m,_
    exact⟨ns.length-(k+1),by omega,k+1,rfl,by omega,kn,rfl,rfl,rfl,rfl,rfl⟩
  ·intro hc
   have hge:ns.length≤k:=by simpa using hc
   have htw:twoT ns k=twoB ns:=by rw[twoT,List.take_of_length_le hge,twoB]
   refine Q0 ?_
   simp only[go_sem,X.next]
   have hsh:shV (gnx q) q.blocks.length b (ns.getD i 0)=(twoB ns&&decide (1<(Q1 (gnx q) (ns.getD i 0) q.blocks.length).length)):=by rw[shV,hns]
   cases ht:twoB ns with
   |false=>
    rw[ht]at hsh htw
    refine Qag ?_
    simp only[go_sem,htw,Qmg,Qc,hi,Qm _ _ hi,Qap9]
    refine Qk ?_
    simp only[go_sem,Q3,Q9,Q04,List.mem_singleton,forall_eq,RS.op]
    have:=hK _ kn.fin
    rw[hsh]at this
    exact⟨_,.c _ _ (Qf rfl),this⟩
   |true=>
    rw[ht]at hsh htw
    refine Qag ?_
    simp only[go_sem,htw,Qc,hi,Qm _ _ hi]
    refine Qj5 (nx:=gnx q) (.mk' _ _ _ _) rfl (Quh H1 q fl).x fun H2 hu=>?_
    have kn:=kn.call0 hu
    rw[Qq]
    simp only[go_sem,Qmg,Qc,Qap9]
    try intro _
    refine Qk ?_
    simp only[go_sem,Q3,Q9,Q04,List.mem_singleton,forall_eq,RS.op]
    have:=hK _ kn.fin
    rw[hsh]at this
    have e:decide ((1:Int)<((Q1 (gnx q) (ns.getD i 0) q.blocks.length).length:Nat))=(true&&decide (1<(Q1 (gnx q) (ns.getD i 0) q.blocks.length).length)):=by
     rw[Bool.true_and];exact decide_eq_decide.2 (by omega)
    rw[←e]at this
    exact⟨_,.c _ _ (Qf rfl),this⟩
end Go.AE.Y

namespace Go.AE.Y
variable {H H0:Heap}{E:List (Nat×Obj)}{S:Nat→Bool}
theorem Qau4:∀(bs:List OBlk) {H3:Heap} {R:List (Nat×Obj)},FrzH H S H3→(∀b∈bs,b.ok∧Held H S (b.phis.flatMap OPhi.lg)∧∀p∈b.pl,H p.1=p.2∧S p.1=false)→Kn H0 H3 E (R++bs.flatMap OBlk.pl)→
  ∃(H4:Heap) (ks:List KBlk),FrzH H S H4∧ks.map KBlk.y=bs.map OBlk.d∧ks.map KBlk.pc=bs.map OBlk.pc∧(∀k∈ks,k.ok)∧Kn H0 H4 E (R++ks.flatMap KBlk.pl)
 |[],H3,R,hf,_,kn=>⟨H3,[],hf,rfl,rfl,by simp,by simpa using kn⟩
 |b::bs,H3,R,hf,hb,kn=>by
  obtain⟨hok,hHd,hpl⟩:=hb b List.mem_cons_self
  have hb':=fun x hx=>hb x (List.mem_cons_of_mem _ hx)
  rw[List.flatMap_cons]at kn
  rcases hok.p with ⟨h1,h2,h3⟩|⟨z,h1,h2⟩
  ·have hph0:b.phis=[]:=List.map_eq_nil_iff.1 h2
   rw[h3,List.nil_append]at kn
   obtain⟨H4,ks,g1,g2,g3,g4,g5⟩:=Qau4 bs hf hb' kn
   refine⟨H4,⟨b.d,b.pc,[]⟩::ks,g1,by simp[g2],by simp[g3],fun k hk=>?_,by simpa using g5⟩
   rcases List.mem_cons.1 hk with rfl|hk
   ·show Gr [] 2 (Qw b.d.phis) b.pc
    rw[h1];simp only[OBlk.d,hph0,List.map_nil];exact .nil 2
   ·exact g4 k hk
  ·obtain⟨hz1,hz2⟩:=hpl (z,.vec 2 (b.phis.map OPhi.row)) (by rw[h2];simp)
   have hph:=Qap8 hok.a hHd
   have hno:∀r∈b.phis.map OPhi.row,Go.AE.noOw r=true:=fun r hr=>by
    obtain⟨p,hp,rfl⟩:=List.mem_map.1 hr
    exact p.noOw (hok.a p hp)
   have hf2:=hf.set (o:=.vec 2 (Qw b.d.phis)) hz2 (by rw[hz1];exact .vecR hph hno)
   rw[h2]at kn
   have kn:Kn H0 H3 E ([(z,.vec 2 (b.phis.map OPhi.row))]++(R++bs.flatMap OBlk.pl)):=kn.perm (Qj fun f hf h0 hc hp=>by simp only[hf];omega)
   have kn:=kn.setL (o':=.vec 2 (Qw b.d.phis)) 0 rfl (by simp)
   have kn:Kn H0 (H3.set z (.vec 2 (Qw b.d.phis))) E (([(z,.vec 2 (Qw b.d.phis))]++R)++bs.flatMap OBlk.pl):=kn.perm (Qj fun f hf h0 hc hp=>by
    show f ([(z,_)]++(R++bs.flatMap OBlk.pl))=_
    simp only[hf];omega)
   obtain⟨H4,ks,g1,g2,g3,g4,g5⟩:=Qau4 bs hf2 hb' kn
   refine⟨H4,⟨b.d,b.pc,[(z,.vec 2 (Qw b.d.phis))]⟩::ks,g1,by simp[g2],by simp[g3],fun k hk=>?_,g5.perm (Qj fun f hf h0 hc hp=>by
    rw[List.flatMap_cons]
    simp only[hf];omega)⟩
   rcases List.mem_cons.1 hk with rfl|hk
   ·show Gr [(z,.vec 2 (Qw b.d.phis))] 2 (Qw b.d.phis) b.pc
    rw[h1];exact .mk _ _ _ (by simp[OBlk.d,Qv])
   ·exact g4 k hk
end Go.AE.Y

namespace Go.AE.Y
attribute [local go_sem] cond_true cond_false Bool.not_true Bool.not_false
open Go.Proofs.Tryz
variable {H H0:Heap}{K:V→Heap→Prop}{q:CodeD}{E L:List (Nat×Obj)}
def mI (l:List (Int×Int)):List (C×V):=l.map fun p=>(.int .i64 p.1,.c (.int .i64 p.2))
def lkI (k:Int):List (Int×Int)→Option Int
 |[]=>none
 |p::l=>if k=p.1 then some p.2 else lkI k l
def upI (k v:Int):List (Int×Int)→List (Int×Int)
 |[]=>[(k,v)]
 |p::l=>if k=p.1 then (k,v)::l else p::upI k v l
def deI (k:Int):List (Int×Int)→List (Int×Int)
 |[]=>[]
 |p::l=>if k=p.1 then l else p::deI k l
theorem Qbf2 (l:List (Int×Int)):(mI l).length=l.length:=by simp[mI]
theorem Q7p (k:Int)(l:List (Int×Int)):Qp1 0 (.int .i64 k) (mI l)=True:=by
 refine eq_true ?_
 simp only[Qp1,mI,List.mem_map]
 rintro e ⟨p,_,rfl⟩
 exact⟨p.1,rfl⟩
theorem Qa04 (k:Int):∀(l:List (Int×Int)),Qpi (.int .i64 k) (mI l)=(lkI k l).map fun v=>.c (.int .i64 v)
 |[]=>rfl
 |p::l=>by
  have ih:=Qa04 k l
  simp only[mI,List.map_cons,Qpi,Qfb,lkI]at ih⊢
  by_cases h:k=p.1
  ·simp[h]
  ·simp only[h,decide_false,Bool.false_eq_true,if_false];exact ih
theorem Qa7d (k:Int)(l:List (Int×Int)):(Qpi (.int .i64 k) (mI l)).getD (.c (.int .i64 0))=.c (.int .i64 ((lkI k l).getD 0)):=by
 rw[Qa04];cases lkI k l <;> rfl
theorem Qa0s (k v:Int):∀(l:List (Int×Int)),updE (.int .i64 k) (.c (.int .i64 v)) (mI l)=mI (upI k v l)
 |[]=>rfl
 |p::l=>by
  have ih:=Qa0s k v l
  simp only[mI,List.map_cons,updE,Qfb,upI]at ih⊢
  by_cases h:k=p.1
  ·simp[h]
  ·simp only[h,decide_false,Bool.false_eq_true,if_false,List.map_cons,ih]
theorem Qa65 (k:Int):∀(l:List (Int×Int)),delE (.int .i64 k) (mI l)=mI (deI k l)
 |[]=>rfl
 |p::l=>by
  have ih:=Qa65 k l
  simp only[mI,List.map_cons,delE,Qfb,deI]at ih⊢
  by_cases h:k=p.1
  ·simp[h]
  ·simp only[h,decide_false,Bool.false_eq_true,if_false,List.map_cons,ih]
theorem Qbbm (k v:Int):∀(l:List (Int×Int)),(upI k v l).length≤l.length+1
 |[]=>by simp[upI]
 |p::l=>by
  have ih:=Qbbm k v l
  simp only[upI]
  split
  ·simp
  ·simp only[List.length_cons];omega
theorem Qa64 (k:Int):∀(l:List (Int×Int)),(deI k l).length≤l.length
 |[]=>by simp[deI]
 |p::l=>by
  have ih:=Qa64 k l
  simp only[deI]
  split
  ·simp
  ·simp only[List.length_cons];omega
theorem Qbhr (k v j:Int):∀(l:List (Int×Int)),lkI j (upI k v l)=if j=k then some v else lkI j l
 |[]=>by simp[upI,lkI]
 |p::l=>by
  have ih:=Qbhr k v j l
  simp only[upI]
  by_cases h:k=p.1
  ·simp only[h,if_true,lkI]
   by_cases hj:j=p.1 <;> simp[hj]
  ·simp only[h,if_false,lkI,ih]
   by_cases hj:j=p.1
   ·have:¬j=k:=fun e=>h (e▸hj)
    simp[hj,this]
    intro e;exact absurd e.symm h
   ·simp[hj]
theorem Qbhq {k j:Int}(hjk:¬j=k):∀(l:List (Int×Int)),lkI j (deI k l)=lkI j l
 |[]=>rfl
 |p::l=>by
  have ih:=Qbhq hjk l
  simp only[deI]
  by_cases h:k=p.1
  ·have:¬j=p.1:=fun e=>hjk (e.trans h.symm)
   simp[h,lkI,this]
  ·simp only[h,if_false,lkI,ih]
theorem Qbbn {k v:Int}:∀{l:List (Int×Int)},(∀p∈l,¬k=p.1)→upI k v l=l++[(k,v)]
 |[],_=>rfl
 |p::l,h=>by
  have ih:=Qbbn (v:=v) fun q hq=>h q (List.mem_cons_of_mem _ hq)
  simp only[upI,h p List.mem_cons_self,if_false,ih,List.cons_append]
theorem Qbf1 {w:Int}:∀{l:List Int} {aa:List Int},w∈l→l.length≤aa.length→lkI w (l.zip aa)=some (aa.getD (l.idxOf w) 0)
 |[],_,h,_=>by simp at h
 |x::l,[],_,h=>by simp at h
 |x::l,a::aa,h,hl=>by
  simp only[List.zip_cons_cons,lkI]
  by_cases hx:w=x
  ·subst hx;simp
  ·have hm:w∈l:=by
    rcases List.mem_cons.1 h with h|h
    ·exact absurd h hx
    ·exact h
   have:=Qbf1 hm (aa:=aa) (by simpa using hl)
   rw[if_neg hx,this,List.idxOf_cons]
   have hb:(x == w)=false:=by simp;exact fun e=>hx e.symm
   rw[hb];simp
theorem Qbfv {l aa:List Int}{i:Nat}(h:i<l.length)(h2:i<aa.length)(hnd:l.Nodup):upI l[i] aa[i] ((l.zip aa).take i)=(l.zip aa).take (i+1):=by
 have hz:i<(l.zip aa).length:=by rw[List.length_zip];omega
 rw[List.take_succ_eq_append_getElem hz,List.getElem_zip,Qbbn]
 intro p hp he
 obtain⟨j,hj,rfl⟩:=List.mem_iff_getElem.1 hp
 rw[List.length_take]at hj
 rw[List.getElem_take,List.getElem_zip]at he
 simp only at he
 have:=(List.getElem_inj hnd).1 he
 omega
structure PMap where
 m:Nat
 ver:Nat
 l:List (Int×Int)
def PMap.lg (p:PMap):List (Nat×Obj):=[(p.m,.map p.ver (mI p.l))]
def Qdz (ms:List PMap):List (List C):=ms.map fun p=>[.mp p.m]
theorem Qck (ms:List PMap):(Qdz ms).length=ms.length:=by simp[Qdz]
theorem Qaj7 (ms:List PMap)(i:Nat)(h:i<ms.length):(Qdz ms).getD i []=[.mp ms[i].m]:=by simp[Qdz,List.getD_eq_getElem?_getD,h]
structure PSl where
 ms:List PMap
 c:C
 g:List (Nat×Obj)
def PSl.row (s:PSl):List C:=[s.c]
def PSl.ok (s:PSl):Prop:=Gr s.g 1 (Qdz s.ms) s.c
def PSl.lg (s:PSl):List (Nat×Obj):=s.ms.flatMap PMap.lg++s.g
def psL (ss:List PSl):List (Nat×Obj):=ss.flatMap PSl.lg
structure PInv (F:Nat→List (List (Int×Int)))(ss:List PSl):Prop where
 f:∀r (h:r<ss.length),ss[r].ms.map PMap.l=F r
 ok:∀s∈ss,s.ok
variable {F F':Nat→List (List (Int×Int))}{ss:List PSl}
theorem PInv.set (h:PInv F ss){x:Nat}{s:PSl}(hs:s.ok)(hF:∀r,r<ss.length→F' r=if r=x then s.ms.map PMap.l else F r):PInv F' (ss.set x s):=by
 refine⟨fun r hr=>?_,fun w hw=>?_⟩
 ·have hr':r<ss.length:=by simpa using hr
  rw[List.getElem_set,hF r hr']
  split
  ·rename_i e;rw[if_pos e.symm]
  ·rename_i e;rw[if_neg (fun hh=>e hh.symm)];exact h.f r hr'
 ·rcases List.mem_or_eq_of_mem_set hw with hw|rfl
  ·exact h.ok w hw
  ·exact hs
theorem Q83 {x:Nat}{s:PSl}(hx:x<ss.length)(hs:ss[x]=s):(psL ss).Perm (psL (ss.eraseIdx x)++s.lg):=by
 subst hs
 exact (Qbn (f:=PSl.lg) hx).trans List.perm_append_comm
theorem Qa81 {x:Nat}{s:PSl}(hx:x<ss.length):(psL (ss.set x s)).Perm (psL (ss.eraseIdx x)++s.lg):=by
 have h1:=Q83 (ss:=ss.set x s) (x:=x) (s:=s) (by rw[List.length_set];exact hx) (by simp)
 rw[List.eraseIdx_set_eq]at h1
 exact h1
def zpA (q:CodeD)(b:Nat)(p:PhiD):List (Int×Int):=(Q1 (gnx q) (b:Int) q.blocks.length).zip p.args
def phT (q:CodeD)(b r:Nat):List (List (Int×Int)):=if r<b then (Qah q r).phis.map (zpA q r)else []
set_option maxHeartbeats 4000000 in
theorem Qbd3 {fl:Bool}(ho:q.ok)(hK:∀o ss H',ss.length=q.blocks.length→PInv (phT q q.blocks.length) ss→Kn H H' [] ([(o,.vec 1 (ss.map PSl.row))]++psL ss)→K (.c (.vsl o 1 0 q.blocks.length)) H') :
  Qp prog Qpm [.ag [.int .i64 q.params,.int .i64 q.regs,.sl fl 5 (Qr q.blocks)]] H K:=by
 have hb1:=ho.b1
 refine Qdo ?_
 refine Qd Qak Qave ?_
 refine Qa ?_
 simp only[go_sem]
 refine Qa ?_
 simp only[go_sem,Qq]
 intro _
 refine⟨by simp only[LIM];omega,fun o ho2 H1 h1=>?_⟩
 obtain⟨ss0,hss0⟩:∃ss0:List PSl,ss0=List.replicate q.blocks.length ⟨[],.sl true 1 [],[]⟩:=⟨_,rfl⟩
 have hs0l:ss0.length=q.blocks.length:=by rw[hss0];simp
 have hS0:PInv (phT q 0) ss0:=by
  rw[hss0]
  refine⟨fun r h=>by simp[phT],fun s hs=>?_⟩
  rw[List.eq_of_mem_replicate hs];exact .nil 1
 have kn:Kn H H1 [] ([(o,.vec 1 (ss0.map PSl.row))]++psL ss0):=by
  have e:psL ss0=[]:=by rw[hss0];exact List.flatMap_eq_nil_iff.2 fun s hs=>by rw[List.eq_of_mem_replicate hs];rfl
  have:=(Kn.start0 H).al ho2 h1
  rw[e,hss0]
  simpa[PSl.row]using this
 clear hss0 h1 ho2
 simp only[go_sem,Qwb]
 refine Q6 ?_
 refine Qa ?_
 simp only[go_sem,Qq]
 try intro _
 refine Qh (Qg (Qy (fun m e1 H1=>∃(b:Nat) (ss:List PSl),m=q.blocks.length-b∧b≤q.blocks.length∧ss.length=q.blocks.length∧PInv (phT q b) ss∧Kn H H1 [] ([(o,.vec 1 (ss.map PSl.row))]++psL ss)∧
  lk 1 e1=.c (.pp [.int .i64 q.params,.int .i64 q.regs,.sl fl 5 (Qr q.blocks)])∧lk 3 e1=.c (.vsl o 1 0 q.blocks.length)∧lk 17 e1=.c (.sl fl 5 (Qr q.blocks))∧lk 18 e1=.c (.int .i64 q.blocks.length)∧lk 19 e1=.c (.int .i64 b)) q.blocks.length ?_ ?_))
 ·exact⟨0,ss0,by omega,by omega,hs0l,hS0,kn,rfl,rfl,rfl,rfl,rfl⟩
 ·clear kn hS0 hs0l
  clear ss0
  rintro m e1 H1 ⟨b,ss,hm,hb,hsl,hS,kn,l1,l3,l17,l18,l19⟩
  refine Qa ?_
  simp only[go_sem,l1,l3,l17,l18,l19]
  refine Qh (Qe rfl ?_ ?_)
  ·intro hc
   have hlt:b<q.blocks.length:=by simpa using hc
   obtain⟨y,hy⟩:∃y,q.blocks[b]=y:=⟨_,rfl⟩
   have hya:Qah q b=y:=by rw[Qbh hlt,hy]
   have hyo:=ho.bs b hlt
   have hil:=ho.il b hlt
   rw[hy]at hyo hil
   refine Qi ?_
   try simp only[go_sem]
   refine Qh (Qg ?_)
   refine Qa ?_
   simp only[go_sem,l1,l3,l17,l18,l19,hlt,Qq,Qan _ _ hlt,BlkD.cells,hy]
   intro x5 hx5 H2 h2
   have kn:Kn H H2 [] ([(x5,_)]++([(o,.vec 1 (ss.map PSl.row))]++psL ss)):=(kn.al hx5 h2).perm List.perm_append_comm
   have hx5:=kn.l 0 rfl
   simp only[go_sem,Qwc,hx5]
   intro H3 h3
   have kn:=kn.stL 0 rfl h3
   have kn:Kn H H3 [] ([(x5,.st y.cells)]++([(o,.vec 1 (ss.map PSl.row))]++psL ss)):=kn
   clear hx5
   refine Qa ?_
   simp only[go_sem]
   refine Qpe (Quh H3 q fl) fun fl2 H4 hu=>?_
   have kn:=kn.call0 hu
   have hpi:Qfx (gnx q) (b:Int) q.blocks.length=Q1 (gnx q) (b:Int) q.blocks.length:=by rw[Qfx,if_pos (by simp only[Bool.and_eq_true,decide_eq_true_eq];omega)]
   rw[Qq,hpi]
   obtain⟨ps,hps⟩:∃ps,Q1 (gnx q) (b:Int) q.blocks.length=ps:=⟨_,rfl⟩
   have hpnd:ps.Nodup:=by rw[←hps];exact Qbd4 _ _ _
   have hpl:ps.length≤q.blocks.length:=by rw[←hps];exact Qbq _ _ _
   have hpal:∀p∈y.phis,p.args.length=ps.length:=fun p hp=>by rw[hyo.pal p hp,hps]
   rw[hps]
   simp only[go_sem,Qwd]
   have hx5:=kn.l 0 rfl
   refine Qa ?_
   simp only[go_sem,hx5,BlkD.cells,Qv]
   try intro _
   refine Qg (Qy (fun m e1 H1=>∃(k:Nat) (ss:List PSl),m=y.phis.length-k∧k≤y.phis.length∧ss.length=q.blocks.length∧PInv (fun r=>if r=b then (y.phis.take k).map (zpA q b)else phT q b r) ss∧Kn H H1 [] ([(x5,.st y.cells)]++([(o,.vec 1 (ss.map PSl.row))]++psL ss))∧
    lk 1 e1=.c (.pp [.int .i64 q.params,.int .i64 q.regs,.sl fl 5 (Qr q.blocks)])∧lk 3 e1=.c (.vsl o 1 0 q.blocks.length)∧lk 4 e1=.c (.int .i64 b)∧lk 6 e1=.c (.sl fl2 1 (Qb ps))∧lk 17 e1=.c (.sl fl 5 (Qr q.blocks))∧lk 18 e1=.c (.int .i64 q.blocks.length)∧lk 19 e1=.c (.int .i64 b)∧lk 28 e1=.c (.sl false 2 (Qw y.phis))∧lk 29 e1=.c (.int .i64 y.phis.length)∧lk 30 e1=.c (.int .i64 k)) y.phis.length ?_ ?_)
   ·refine⟨0,ss,by omega,by omega,hsl,⟨fun r hr=>?_,hS.ok⟩,kn,rfl,rfl,rfl,rfl,rfl,rfl,rfl,rfl,rfl,rfl⟩
    rw[hS.f r hr]
    by_cases hrb:r=b
    ·subst hrb;simp[phT]
    ·rw[if_neg hrb]
   ·clear kn hS l1 l3 l17 l18 l19 hx5 hsl
    rintro m2 e2 H5 ⟨k,ss,hm2,hk,hsl,hS,kn,l1,l3,l4,l6,l17,l18,l19,l28,l29,l30⟩
    refine Qa ?_
    simp only[go_sem,l1,l3,l4,l6,l17,l18,l19,l28,l29,l30]
    refine Qh (Qe rfl ?_ ?_)
    ·intro hc2
     have hlt2:k<y.phis.length:=by simpa using hc2
     obtain⟨p,hp⟩:∃p,y.phis[k]=p:=⟨_,rfl⟩
     have hpm:p∈y.phis:=by rw[←hp];exact List.getElem_mem hlt2
     have hpl2:=hpal p hpm
     refine Qi ?_
     try simp only[go_sem]
     refine Qh (Qg ?_)
     refine Qa ?_
     simp only[go_sem,l1,l3,l4,l6,l17,l18,l19,l28,l29,l30,hlt2,Qv,Qay _ _ hlt2,PhiD.cells,hp]
     intro x8 hx8 H6 h6
     have kn:Kn H H6 [] ([(x8,_)]++([(x5,.st y.cells)]++([(o,.vec 1 (ss.map PSl.row))]++psL ss))):=(kn.al hx8 h6).perm List.perm_append_comm
     have hx8:=kn.l 0 rfl
     simp only[go_sem,Qwe,hx8]
     intro H7 h7
     have kn:=kn.stL 0 rfl h7
     have kn:Kn H H7 [] ([(x8,.st p.cells)]++([(x5,.st y.cells)]++([(o,.vec 1 (ss.map PSl.row))]++psL ss))):=kn
     clear hx8
     refine Qa ?_
     simp only[go_sem]
     intro M hM H8 h8
     have kn:Kn H H8 [] ([(M,.map 0 (mI []))]++([(x8,.st p.cells)]++([(x5,.st y.cells)]++([(o,.vec 1 (ss.map PSl.row))]++psL ss)))):=(kn.al hM h8).perm List.perm_append_comm
     clear hM
     simp only[go_sem,Qwf]
     refine Q6 ?_
     refine Qa ?_
     simp only[go_sem,Qc]
     try intro _
     refine Qh (Qg (Qy (fun m e1 H1=>∃(i ver:Nat),m=ps.length-i∧i≤ps.length∧Kn H H1 [] ([(M,.map ver (mI ((ps.zip p.args).take i)))]++([(x8,.st p.cells)]++([(x5,.st y.cells)]++([(o,.vec 1 (ss.map PSl.row))]++psL ss))))∧
      lk 1 e1=.c (.pp [.int .i64 q.params,.int .i64 q.regs,.sl fl 5 (Qr q.blocks)])∧lk 3 e1=.c (.vsl o 1 0 q.blocks.length)∧lk 4 e1=.c (.int .i64 b)∧lk 6 e1=.c (.sl fl2 1 (Qb ps))∧lk 8 e1=.c (.ptr x8 0)∧lk 9 e1=.c (.mp M)∧lk 17 e1=.c (.sl fl 5 (Qr q.blocks))∧lk 18 e1=.c (.int .i64 q.blocks.length)∧lk 19 e1=.c (.int .i64 b)∧lk 28 e1=.c (.sl false 2 (Qw y.phis))∧lk 29 e1=.c (.int .i64 y.phis.length)∧lk 30 e1=.c (.int .i64 k)∧
      lk 35 e1=.c (.sl fl2 1 (Qb ps))∧lk 36 e1=.c (.int .i64 ps.length)∧lk 37 e1=.c (.int .i64 i)) ps.length ?_ ?_))
     ·exact⟨0,0,by omega,by omega,by simpa using kn,rfl,rfl,rfl,rfl,rfl,rfl,rfl,rfl,rfl,rfl,rfl,rfl,rfl,rfl,rfl⟩
     ·clear kn l1 l3 l4 l6 l17 l18 l19 l28 l29 l30
      rintro m3 e3 H9 ⟨i,ver,hm3,hi,kn,l1,l3,l4,l6,l8,l9,l17,l18,l19,l28,l29,l30,l35,l36,l37⟩
      have hM:=kn.l 0 rfl
      have hx8:=kn.l 1 rfl
      refine Qa ?_
      simp only[go_sem,l1,l3,l4,l6,l8,l9,l17,l18,l19,l28,l29,l30,l35,l36,l37]
      refine Qh (Qe rfl ?_ ?_)
      ·intro hc3
       have hlt3:i<ps.length:=by simpa using hc3
       have hlt4:i<p.args.length:=by omega
       obtain⟨w,hw⟩:∃w,ps[i]=w:=⟨_,rfl⟩
       obtain⟨a,ha⟩:∃a,p.args[i]=a:=⟨_,rfl⟩
       have hgw:ps.getD i 0=w:=by simp[List.getD_eq_getElem?_getD,hlt3,hw]
       have hga:p.args.getD i 0=a:=by simp[List.getD_eq_getElem?_getD,hlt4,ha]
       have hzt:=Qbfv hlt3 hlt4 hpnd
       rw[hw,ha]at hzt
       have hzl:((ps.zip p.args).take i).length≤i:=by rw[List.length_take];omega
       refine Qi ?_
       try simp only[go_sem]
       refine Qh (Qg ?_)
       refine Qa ?_
       simp only[go_sem,l1,l3,l4,l6,l8,l9,l17,l18,l19,l28,l29,l30,l35,l36,l37,hlt3,Qc,Qm _ _ hlt3,hgw]
       refine Qt ?_
       simp only[go_sem,hx8,PhiD.cells,hM,hlt4,Qc,Qm _ _ hlt4,hga,Q7p,Qbf2,Qa0s,hzt]
       refine⟨by simp only[LIM];omega,fun H10 h10=>?_⟩
       have kn:=kn.stL 0 rfl h10
       refine Qt ?_
       simp only[go_sem]
       refine⟨Qs (by omega) (by omega),?_⟩
       show ∃m,_
       exact⟨ps.length-(i+1),by omega,i+1,ver+1,rfl,by omega,kn,rfl,rfl,rfl,rfl,rfl,rfl,rfl,rfl,rfl,rfl,rfl,rfl,rfl,rfl,rfl⟩
      ·intro hc3
       have hge:ps.length≤i:=by simpa using hc3
       have hzf:(ps.zip p.args).take i=zpA q b p:=by
        rw[List.take_of_length_le (by rw[List.length_zip];omega),zpA,hps]
       rw[hzf]at kn
       refine Q0 ?_
       simp only[go_sem,X.next]
       have hbl:b<ss.length:=by omega
       obtain⟨s,hs⟩:∃s,ss[b]=s:=⟨_,rfl⟩
       have hsok:s.ok:=by rw[←hs];exact hS.ok _ (List.getElem_mem hbl)
       have hsf:=hS.f b hbl
       rw[hs]at hsf
       simp only[if_true]at hsf
       have hsw:=Gr.isOw hsok
       have hsm:s.ms.length=k:=by have:=congrArg List.length hsf;simp only[List.length_map,List.length_take]at this;omega
       have hsg:(ss.map PSl.row).getD b []=[s.c]:=by simp[List.getD_eq_getElem?_getD,hbl,hs,PSl.row]
       have hrl:(ss.map PSl.row).length=q.blocks.length:=by rw[List.length_map,hsl]
       have hrt:(ss.map PSl.row).take q.blocks.length=ss.map PSl.row:=List.take_of_length_le (by omega)
       have hsp:=Q83 hbl hs
       have kn:Kn H H9 [] (([(o,.vec 1 (ss.map PSl.row)),(M,.map ver (mI (zpA q b p))),(x8,.st p.cells),(x5,.st y.cells)]++(psL (ss.eraseIdx b)++s.ms.flatMap PMap.lg))++s.g):=kn.perm (Qj fun f hf h0 hc hp=>by
        have e4:∀(a b c d:Nat×Obj),f [a,b,c,d]=f [a]+f [b]+f [c]+f [d]:=fun a b c d=>by rw[hc a [b,c,d],hc b [c,d],hc c [d]];omega
        have:=hp _ _ hsp
        rw[PSl.lg]at this
        simp only[hf,e4]at this⊢;omega)
       have hob:=kn.l 0 rfl
       refine Qt ?_
       simp only[go_sem,l1,l3,l4,l6,l8,l9,hob,hrl,hrt,hlt,hsg,hsw,Nat.zero_add,Nat.le_refl]
       refine kn.growR (new:=[[.mp M]]) hsok (.mk' _ _ _ _) (by intro r hr;simp only[List.mem_singleton]at hr;rw[hr];rfl) (by simp only[Qck,LIM,List.length_cons,List.length_nil];omega) fun t2 g2 H10 hg2 ht2 kn=>?_
       have hob:=kn.l 0 rfl
       simp only[go_sem,Qwg,hob,hrl,hrt,hlt,hsg,hsw,ht2,Nat.zero_add,Nat.le_refl]
       intro H11 h11
       obtain⟨s',hs'⟩:∃s':PSl,s'=⟨s.ms++[⟨M,ver,zpA q b p⟩],t2,g2⟩:=⟨_,rfl⟩
       have hs'ok:s'.ok:=by
        rw[hs']
        show Gr g2 1 (Qdz (s.ms++[⟨M,ver,zpA q b p⟩])) t2
        have e:Qdz (s.ms++[⟨M,ver,zpA q b p⟩])=Qdz s.ms++[[.mp M]]:=by simp[Qdz]
        rw[e];exact hg2
       have hset:(ss.map PSl.row).set b [t2]=(ss.set b s').map PSl.row:=by rw[List.map_set,hs'];rfl
       rw[hset]at h11
       have kn:=kn.stL 0 rfl h11
       have hps2:=Qa81 (s:=s') hbl
       have kn:Kn H H11 [] (([(x5,.st y.cells)]++([(o,.vec 1 ((ss.set b s').map PSl.row))]++psL (ss.set b s')))++[(x8,.st p.cells)]):=kn.perm (Qj fun f hf h0 hc hp=>by
        have e4:∀(a b c d:Nat×Obj),f [a,b,c,d]=f [a]+f [b]+f [c]+f [d]:=fun a b c d=>by rw[hc a [b,c,d],hc b [c,d],hc c [d]];omega
        have:=hp _ _ hps2
        have es:s'.lg=(s.ms.flatMap PMap.lg++[(M,.map ver (mI (zpA q b p)))])++g2:=by rw[hs',PSl.lg,List.flatMap_append];simp[PMap.lg]
        rw[es]at this
        show f ([(o,_),(M,_),(x8,_),(x5,_)]++(psL (ss.eraseIdx b)++s.ms.flatMap PMap.lg)++g2)=_
        simp only[hf,e4]at this⊢;omega)
       have kn:=kn.drop
       refine Qt ?_
       simp only[go_sem]
       refine⟨Qs (by omega) (by omega),?_⟩
       show ∃m,_
       refine⟨y.phis.length-(k+1),by omega,k+1,ss.set b s',rfl,by omega,by rw[List.length_set];exact hsl,hS.set hs'ok fun r hr=>?_,kn,rfl,rfl,rfl,rfl,rfl,rfl,rfl,rfl,rfl,rfl⟩
       by_cases hrb:r=b
       ·subst hrb
        rw[if_pos rfl,if_pos rfl,hs',List.map_append,hsf,List.take_succ_eq_append_getElem hlt2,List.map_append,hp];rfl
       ·rw[if_neg hrb,if_neg hrb,if_neg hrb]
    ·intro hc2
     have hke:k=y.phis.length:=by have:y.phis.length≤k:=(by simpa using hc2);omega
     subst hke
     rw[List.take_length]at hS
     refine Q0 ?_
     simp only[go_sem,X.next]
     have kn:Kn H H5 [] (([(o,.vec 1 (ss.map PSl.row))]++psL ss)++[(x5,.st y.cells)]):=kn.perm List.perm_append_comm
     have kn:=kn.drop
     refine Qt ?_
     simp only[go_sem,l1,l3,l17,l18,l19]
     refine⟨Qs (by omega) (by omega),?_⟩
     show ∃m,_
     refine⟨q.blocks.length-(b+1),by omega,b+1,ss,rfl,by omega,hsl,⟨fun r hr=>?_,hS.ok⟩,kn,rfl,rfl,rfl,rfl,rfl⟩
     rw[hS.f r hr]
     by_cases hrb:r=b
     ·subst hrb;rw[if_pos rfl,phT,if_pos (by omega),hya]
     ·rw[if_neg hrb,phT,phT]
      by_cases hr2:r<b
      ·rw[if_pos hr2,if_pos (by omega)]
      ·rw[if_neg hr2,if_neg (by omega)]
  ·intro hc
   have hbe:b=q.blocks.length:=by have:q.blocks.length≤b:=(by simpa using hc);omega
   subst hbe
   refine Q0 ?_
   simp only[go_sem,X.next]
   refine Qa ?_
   simp only[go_sem,l3]
   refine Qk ?_
   simp only[go_sem,Q3,Q9,Q88,List.mem_singleton,forall_eq,RS.op]
   have kn:Kn H H1 [] ([]++([(o,.vec 1 (ss.map PSl.row))]++psL ss)):=kn
   exact⟨unx H ([(o,.vec 1 (ss.map PSl.row))]++psL ss),.c (.vsl o 1 0 q.blocks.length),H1.frz (unx H ([(o,.vec 1 (ss.map PSl.row))]++psL ss)),.c _ _ (.same _ rfl),Qc8 _ _,hK o ss _ hsl hS kn.finK⟩
end Go.AE.Y

namespace Go.AE.Y
variable {nx:Nat→List Int}{n:Nat}{q:CodeD}
theorem Qau8 (F:SpF nx n){s:Nat}{e:Nat×Int}(h:(Qbx nx n n)[s]? = some e):(Qbx nx n n).idxOf e=s:=by
 obtain⟨hs,he⟩:=List.getElem?_eq_some_iff.1 h
 rw[←he];exact List.Nodup.idxOf_getElem (F.newNd (Nat.le_refl n)) s hs
theorem Qup {s:Nat}{e x:Nat×Int}(h:(Qbx nx n n)[s]? = some e):x∈(Qbx nx n n).take (s+1)↔x∈(Qbx nx n n).take s∨x=e:=by
 obtain⟨hs,he⟩:=List.getElem?_eq_some_iff.1 h
 rw[List.take_succ_eq_append_getElem hs,List.mem_append,List.mem_singleton,he]
theorem Qa8v (F:SpF nx n){s:Nat}{e:Nat×Int}(h:(Qbx nx n n)[s]? = some e):e∉(Qbx nx n n).take s:=fun hm=>by
 obtain⟨i,hi,he⟩:=List.mem_iff_getElem.1 hm
 rw[List.length_take]at hi
 rw[List.getElem_take]at he
 have h2:(Qbx nx n n)[i]? = some e:=by rw[List.getElem?_eq_getElem (by omega),he]
 have:=Qa8s F h h2
 omega
def stV (nx:Nat→List Int)(n s b:Nat)(v:Int):Int:=if (b,v)∈(Qbx nx n n).take s then ((n+(Qbx nx n n).idxOf (b,v):Nat):Int)else v
def stX (nx:Nat→List Int)(n s b:Nat):List Int:=(nx b).map (stV nx n s b)
theorem Qa17 (b:Nat):stX nx n 0 b=nx b:=by
 rw[stX]
 refine (List.map_congr_left (g:=id) fun v _=>?_).trans (List.map_id _)
 simp[stV]
theorem Qba6 (F:SpF nx n){b:Nat}(hb:b<n):stX nx n (Qbx nx n n).length b=spX nx n b:=by
 rw[stX,spX,if_pos hb]
 refine List.map_congr_left fun v hv=>?_
 rw[stV,List.take_length]
 cases hs:shV nx n b v with
 |true=>
  obtain⟨i,h1,h2,_⟩:=Qat9 hb hv hs
  rw[if_pos (List.mem_of_getElem? h1),Qau8 F h1,h2]
 |false=>
  rw[if_neg (fun hm=>by have:=(mem_newL.1 hm).2.2;rw[hs]at this;simp at this),spV,if_neg (by simp[hs])]
theorem Qba5 (F:SpF nx n){s b:Nat}{v w:Int}(h:(Qbx nx n n)[s]? = some (b,v))(hw:w<n):stV nx n (s+1) b w=if stV nx n s b w=v then ((n+s:Nat):Int)else stV nx n s b w:=by
 obtain⟨hb,hv,hs⟩:=mem_newL.1 (List.mem_of_getElem? h)
 have hvr:=F.rng b hb v hv
 have hn:=Qa8v F h
 have e1:stV nx n (s+1) b w=if (b,w)∈(Qbx nx n n).take s∨(b,w)=(b,v)then ((n+(Qbx nx n n).idxOf (b,w):Nat):Int)else w:=by simp only[stV,Qup h]
 have e0:stV nx n s b w=if (b,w)∈(Qbx nx n n).take s then ((n+(Qbx nx n n).idxOf (b,w):Nat):Int)else w:=rfl
 by_cases hm:(b,w)∈(Qbx nx n n).take s
 ·rw[if_pos hm]at e0
  rw[if_pos (.inl hm)]at e1
  rw[e1,e0,if_neg (by omega)]
 ·rw[if_neg hm]at e0
  by_cases hwv:w=v
  ·subst hwv
   rw[if_pos (.inr rfl),Qau8 F h]at e1
   rw[e1,e0,if_pos rfl]
  ·have:¬((b,w)∈(Qbx nx n n).take s∨(b,w)=(b,v)):=by
    rintro (h|h)
    ·exact hm h
    ·exact hwv (Prod.mk.inj h).2
   rw[if_neg this]at e1
   rw[e1,e0,if_neg hwv]
theorem Qbis (F:SpF nx n){s b:Nat}{v:Int}(h:(Qbx nx n n)[s]? = some (b,v)):stX nx n (s+1) b=(stX nx n s b).map fun w=>if w=v then ((n+s:Nat):Int)else w:=by
 obtain⟨hb,_,_⟩:=mem_newL.1 (List.mem_of_getElem? h)
 rw[stX,stX,List.map_map]
 exact List.map_congr_left fun w hw=>Qba5 F h (F.rng b hb w hw).2
theorem Qba7 (F:SpF nx n){s b b':Nat}{v:Int}(h:(Qbx nx n n)[s]? = some (b,v))(hne:b'≠b):stX nx n (s+1) b'=stX nx n s b':=by
 rw[stX,stX]
 refine List.map_congr_left fun w _=>?_
 have:((b',w)∈(Qbx nx n n).take (s+1))↔(b',w)∈(Qbx nx n n).take s:=by
  rw[Qup h]
  exact⟨fun hh=>hh.resolve_right fun e=>hne (Prod.mk.inj e).1,.inl⟩
 simp only[stV,this]
theorem Qbit (F:SpF nx n){s b i:Nat}{v:Int}(h:(Qbx nx n n)[s]? = some (b,v))(hi:(nx b)[i]? = some v):(stX nx n s b).set i ((n+s:Nat):Int)=stX nx n (s+1) b:=by
 obtain⟨hb,_,hs⟩:=mem_newL.1 (List.mem_of_getElem? h)
 have hnd:(nx b).Nodup:=by
  rw[shV,Bool.and_eq_true]at hs
  obtain⟨a,c,e,hne⟩:=(Qua (F.len b hb)).1 hs.1
  rw[e];simp[hne]
 obtain⟨hil,hiv⟩:=List.getElem?_eq_some_iff.1 hi
 refine List.ext_getElem (by simp[stX]) fun j h1 h2=>?_
 have hj:j<(nx b).length:=by simpa[stX]using h2
 rw[List.getElem_set]
 simp only[stX,List.getElem_map]
 have hjr:=(F.rng b hb _ (List.getElem_mem hj)).2
 by_cases hij:i=j
 ·subst hij
  rw[if_pos rfl,hiv,stV,if_pos ((Qup h).2 (.inr rfl)),Qau8 F h]
 ·rw[if_neg hij,Qba5 F h hjr,if_neg]
  intro e
  rw[stV]at e
  split at e
  ·have hvr:=F.rng b hb v (List.mem_of_getElem? hi)
   omega
  ·exact hij ((List.getElem_inj hnd).1 (hiv.trans e.symm))
theorem Qbkh {b i:Nat}{v:Int}(hb:b<n)(hi:(nx b)[i]? = some v)(hs:shV nx n b v=true):(Qbx nx n n)[(Qbx nx n b).length+(((nx b).take i).filter (shV nx n b)).length]? = some (b,v):=by
 obtain⟨hil,hiv⟩:=List.getElem?_eq_some_iff.1 hi
 have e:shL nx n b=((nx b).take i).filter (shV nx n b)++v::((nx b).drop (i+1)).filter (shV nx n b):=by
  have:nx b=(nx b).take i++v::(nx b).drop (i+1):=by rw[←hiv,←List.drop_eq_getElem_cons hil,List.take_append_drop]
  rw[shL]
  conv=>lhs;rw[this]
  rw[List.filter_append,List.filter_cons,if_pos hs]
 have hl:(((nx b).take i).filter (shV nx n b)).length<(shL nx n b).length:=by rw[e];simp
 rw[Qalx hl hb]
 congr 1
 refine Prod.ext rfl ?_
 show (shL nx n b)[_]=v
 simp only[e]
 rw[List.getElem_append_right (Nat.le_refl _)]
 simp
theorem Q0z (F:SpF nx n):∀{m:Nat},m≤n→(Qbx nx n m).length≤2 * m
 |0,_=>by simp[Qbx]
 |m+1,h=>by
  rw[Qp0,List.length_append,List.length_map,shL]
  have h1:=Q0z F (m:=m) (by omega)
  have h2:=List.length_filter_le (shV nx n m) (nx m)
  have h3:=F.len m (by omega)
  omega
def mpS (q:CodeD)(r:Nat)(p:PhiD):Nat→List (Int×Int)
 |0=>zpA q r p
 |s+1=>match (Qbx (gnx q) q.blocks.length q.blocks.length)[s]? with
  |some e=>if e.2=(r:Int)then deI (e.1:Int) (upI ((q.blocks.length+s:Nat):Int) ((lkI (e.1:Int) (mpS q r p s)).getD 0) (mpS q r p s))else mpS q r p s
  |none=>mpS q r p s
theorem Qa8q (q:CodeD)(r:Nat)(p:PhiD):∀s,(mpS q r p s).length≤q.blocks.length+s
 |0=>by
  rw[mpS,zpA,List.length_zip]
  have:=Qbq (gnx q) (r:Int) q.blocks.length
  omega
 |s+1=>by
  have ih:=Qa8q q r p s
  rw[mpS]
  split
  ·split
   ·refine Nat.le_trans (Qa64 _ _) (Nat.le_trans (Qbbm _ _ _) ?_);omega
   ·omega
  ·omega
theorem Qbf4 {r:Nat}{p:PhiD}(F:SpF (gnx q) q.blocks.length)(hr:r<q.blocks.length)(hal:p.args.length=(Q1 (gnx q) (r:Int) q.blocks.length).length):∀{s:Nat},s≤(Qbx (gnx q) q.blocks.length q.blocks.length).length→
  (∀w:Nat,w<q.blocks.length→(r:Int)∈gnx q w→(w,(r:Int))∉(Qbx (gnx q) q.blocks.length q.blocks.length).take s→lkI (w:Int) (mpS q r p s)=some (p.args.getD ((Q1 (gnx q) (r:Int) q.blocks.length).idxOf (w:Int)) 0))∧
  (∀(i w:Nat),i<s→(Qbx (gnx q) q.blocks.length q.blocks.length)[i]? = some (w,(r:Int))→lkI ((q.blocks.length+i:Nat):Int) (mpS q r p s)=some (p.args.getD ((Q1 (gnx q) (r:Int) q.blocks.length).idxOf (w:Int)) 0))
 |0,_=>⟨fun w hw hm _=>by
   rw[mpS,zpA]
   exact Qbf1 (preds_mem.2 ⟨w,hw,hm,rfl⟩) (by omega),fun i w hi=>by omega⟩
 |s+1,hs=>by
  obtain⟨ih1,ih2⟩:=Qbf4 F hr hal (s:=s) (by omega)
  have hlt:s<(Qbx (gnx q) q.blocks.length q.blocks.length).length:=by omega
  obtain⟨⟨b,v⟩,he⟩:∃e,(Qbx (gnx q) q.blocks.length q.blocks.length)[s]? = some e:=⟨_,List.getElem?_eq_getElem hlt⟩
  obtain⟨hb,hv,_⟩:=mem_newL.1 (List.mem_of_getElem? he)
  rw[mpS,he]
  simp only
  by_cases hvr:v=(r:Int)
  ·subst hvr
   rw[if_pos rfl]
   have hb1:=ih1 b hb hv (Qa8v F he)
   refine⟨fun w hw hm hn=>?_,fun i w hi hx=>?_⟩
   ·have hwb:¬w=b:=fun e=>hn ((Qup he).2 (.inr (by rw[e])))
    rw[Qbhq (by omega),Qbhr,if_neg (by omega)]
    exact ih1 w hw hm fun hh=>hn ((Qup he).2 (.inl hh))
   ·rw[Qbhq (by omega),Qbhr]
    by_cases his:i=s
    ·subst his
     rw[he]at hx
     have hbw:b=w:=(Prod.mk.inj (Option.some.inj hx)).1
     subst hbw
     rw[if_pos rfl,hb1];rfl
    ·rw[if_neg (by omega)]
     exact ih2 i w (by omega) hx
  ·rw[if_neg hvr]
   refine⟨fun w hw hm hn=>ih1 w hw hm fun hh=>hn ((Qup he).2 (.inl hh)),fun i w hi hx=>?_⟩
   by_cases his:i=s
   ·subst his
    rw[he]at hx
    exact absurd (Prod.mk.inj (Option.some.inj hx)).2 hvr
   ·exact ih2 i w (by omega) hx
theorem Qa8p {r:Nat}{p:PhiD}(F:SpF (gnx q) q.blocks.length)(hr:r<q.blocks.length)(hal:p.args.length=(Q1 (gnx q) (r:Int) q.blocks.length).length) :
  (Q1 (spX (gnx q) q.blocks.length) (r:Int) (offN (gnx q) q.blocks.length q.blocks.length)).map (fun w=>(lkI w (mpS q r p (Qbx (gnx q) q.blocks.length q.blocks.length).length)).getD 0)=spA q r p.args:=by
 obtain⟨h1,h2⟩:=Qbf4 F hr hal (Nat.le_refl _)
 rw[spA]
 refine List.map_congr_left fun w hw=>?_
 obtain⟨j,hj,hm,rfl⟩:=preds_mem.1 hw
 rcases (Qbay F hr).1 hm with ⟨g1,g2,g3⟩|⟨g1,x,g2⟩
 ·rw[h1 j g1 g2 (by rw[List.take_length];intro hh;have:=(mem_newL.1 hh).2.2;rw[g3]at this;simp at this)]
  simp only[Int.toNat_natCast,Option.getD_some]
  rw[org,if_pos g1]
 ·have hl:j-q.blocks.length<(Qbx (gnx q) q.blocks.length q.blocks.length).length:=(List.getElem?_eq_some_iff.1 g2).1
  have:=h2 (j-q.blocks.length) x hl g2
  have e:q.blocks.length+(j-q.blocks.length)=j:=by omega
  rw[e]at this
  rw[this]
  simp only[Int.toNat_natCast,Option.getD_some]
  rw[org,if_neg (by omega),g2]
end Go.AE.Y

namespace Go.AE.Y
attribute [local go_sem] cond_true cond_false Bool.not_true Bool.not_false
open Go.Proofs.Tryz
variable {H H0:Heap}{K:V→Heap→Prop}{E L:List (Nat×Obj)}
theorem Qa6c {w:Int}{x7 M ver:Nat}{l:List (Int×Int)}(h7:H x7=.st [.mp M])(hM:H M=.map ver (mI l))(hK:K (.c (.int .i64 ((lkI w l).getD 0))) H) :
  Qp prog Qch [.c (.int .i64 w),.c (.ptr x7 0)] H K:=by
 have hokM:Qyn H (.mp M)=True:=by simp only[Qyn,hM]
 have henM:Qaf H (.mp M)=mI l:=by simp only[Qaf,hM]
 refine Qd Qak Qafq ?_
 refine Qa ?_
 simp only[go_sem]
 refine Qa ?_
 simp only[go_sem,h7,hokM,henM,Q7p,Qa7d]
 refine Qk ?_
 simp only[go_sem,Q3,Q9,Qvw,List.mem_singleton,forall_eq,RS.op]
 exact hK
theorem Qbh0 {f:Bool}{ps:List Int}{x7 M ver:Nat}{l:List (Int×Int)}(hpl:ps.length≤2 ^ 38)(h7:H x7=.st [.mp M])(hM:H M=.map ver (mI l))(hne:x7≠M)
  (hK:∀H',Upd H H' []→K (.c (.sl false 1 (Qb (ps.map fun w=>(lkI w l).getD 0)))) H') :
  Qp prog Qcw [.c (.sl f 1 (Qb ps)),.c (.fn Qch [.ptr x7 0])] H K:=by
 obtain⟨av,hav⟩:∃av,(ps.map fun w=>(lkI w l).getD 0)=av:=⟨_,rfl⟩
 have havl:av.length=ps.length:=by rw[←hav,List.length_map]
 rw[hav]at hK
 refine Qz ?_
 refine Qd Qak Qxh ?_
 have kn:=Kn.start2 h7 (by nofun) hM (by nofun) hne
 refine Qa ?_
 simp only[go_sem]
 refine Qa ?_
 simp only[go_sem]
 refine Q6 ?_
 refine Qa ?_
 simp only[go_sem,Qc]
 try intro _
 refine Qh (Qg (Qy (fun m e1 H1=>∃(i:Nat) (t:C) (Lg:List (Nat×Obj)),m=ps.length-i∧i≤ps.length∧Gr Lg 1 (Qb (av.take i)) t∧Kn H H1 [(x7,.st [.mp M]),(M,.map ver (mI l))] ([]++Lg)∧
  lk 1 e1=.c (.fn Qch [.ptr x7 0])∧lk 5 e1=.c t∧lk 8 e1=.c (.sl f 1 (Qb ps))∧lk 9 e1=.c (.int .i64 ps.length)∧lk 10 e1=.c (.int .i64 i)) ps.length ?_ ?_))
 ·exact⟨0,_,[],by omega,by omega,.nil 1,kn,rfl,rfl,rfl,rfl,rfl⟩
 ·clear kn
  rintro m e1 H1 ⟨i,t,Lg,hm,hi,hgr,kn,l1,l5,l8,l9,l10⟩
  have htw:=hgr.isOw
  refine Qa ?_
  simp only[go_sem,l1,l5,l8,l9,l10,htw]
  refine Qh (Qe rfl ?_ ?_)
  ·intro hc
   have hlt:i<ps.length:=by simpa using hc
   obtain⟨w,hw⟩:∃w,ps[i]=w:=⟨_,rfl⟩
   have hgd:ps.getD i 0=w:=by simp[List.getD_eq_getElem?_getD,hlt,hw]
   have hia:i<av.length:=by omega
   have hva:av[i]=(lkI w l).getD 0:=by subst hav;rw[List.getElem_map,hw]
   have htk:av.take (i+1)=av.take i++[(lkI w l).getD 0]:=by rw[List.take_succ_eq_append_getElem hia,hva]
   refine Qi ?_
   try simp only[go_sem]
   refine Qh (Qg ?_)
   refine Qa ?_
   simp only[go_sem,l1,l5,l8,l9,l10,htw,hlt,Qc,Qm _ _ hlt,hgd]
   refine Qt ?_
   simp only[go_sem,htw]
   refine Qa6c (kn.e 0 rfl) (kn.e 1 rfl) ?_
   simp only[go_sem,Qea,htw]
   refine kn.growR (new:=Qb [(lkI w l).getD 0]) hgr (.mk' _ _ _ _) (Qo _) (by simp only[Qc,List.length_take,LIM,List.length_cons,List.length_nil];omega) fun t2 Lg2 H5 hgr2 ht2 kn=>?_
   simp only[go_sem,Qd9,ht2]
   refine Qt ?_
   simp only[go_sem,ht2]
   refine⟨Qs (by omega) (by omega),?_⟩
   show ∃m,_
   refine⟨ps.length-(i+1),by omega,i+1,t2,Lg2,rfl,by omega,?_,kn,rfl,rfl,rfl,rfl,rfl⟩
   rw[htk,Qa2];exact hgr2
  ·intro hc
   have hge:ps.length≤i:=by simpa using hc
   rw[List.take_of_length_le (by omega)]at hgr
   refine Q0 ?_
   simp only[go_sem,X.next]
   refine Qa ?_
   simp only[go_sem,l5,htw]
   refine Qk ?_
   simp only[go_sem,Q3,Q9,Qhj,List.mem_singleton,forall_eq,RS.op,htw]
   exact⟨_,.c _ _ (hgr.frz kn (Qo _)),hK _ ((kn.fin.drop2 hM).drop1 h7)⟩
def stlP (nx:Nat→List Int)(N:Nat)(g:Nat→PhiD→Int→Int)(j:Nat)(p:PhiD):PhiD:=⟨p.to,(Q1 nx (j:Int) N).map (g j p)⟩
def stlY (nx:Nat→List Int)(N:Nat)(g:Nat→PhiD→Int→Int)(j:Nat)(y:BlkD):BlkD:=⟨y.phis.map (stlP nx N g j),y.ins,y.jump,y.on,y.next⟩
variable {nx:Nat→List Int}{N:Nat}{g:Nat→PhiD→Int→Int}{Y:Nat→BlkD}
structure StS (nx:Nat→List Int)(N:Nat)(g:Nat→PhiD→Int→Int)(Y:Nat→BlkD)(b:Nat)(ks:List KBlk):Prop where
 n:ks.length=N
 y:∀j (h:j<ks.length),ks[j].y=if j<b then stlY nx N g j (Y j)else Y j
 ok:∀k∈ks,k.ok
theorem StS.step {b:Nat}{ks:List KBlk}(hS:StS nx N g Y b ks)(hb:b<ks.length){ph:List PhiD}{pl:List (Nat×Obj)}(h2:ph=(Y b).phis.map (stlP nx N g b))(hg:Gr pl 2 (Qw ph) ks[b].pc) :
  StS nx N g Y (b+1) (ks.set b ⟨⟨ph,ks[b].y.ins,ks[b].y.jump,ks[b].y.on,ks[b].y.next⟩,ks[b].pc,pl⟩):=by
 refine⟨by rw[List.length_set];exact hS.n,fun j h=>?_,fun w hw=>?_⟩
 ·have h':j<ks.length:=by simpa using h
  rw[List.getElem_set]
  split
  ·rename_i e;subst e
   have:=hS.y b hb
   rw[if_neg (Nat.lt_irrefl b)]at this
   rw[if_pos (Nat.lt_succ_self b),this,h2];rfl
  ·rename_i e
   rw[hS.y j h']
   by_cases hj:j<b
   ·rw[if_pos hj,if_pos (by omega)]
   ·rw[if_neg hj,if_neg (by omega)]
 ·rcases List.mem_or_eq_of_mem_set hw with h|rfl
  ·exact hS.ok w h
  ·exact hg
structure PTel (nx:Nat→List Int)(N:Nat)(g:Nat→PhiD→Int→Int)(Y:Nat→BlkD)(ss:List PSl):Prop where
 ml:∀r (h:r<ss.length),ss[r].ms.length=(Y r).phis.length
 f:∀r (h:r<ss.length) i (h1:i<ss[r].ms.length) (h2:i<(Y r).phis.length),∀w∈Q1 nx (r:Int) N,(lkI w (ss[r].ms[i]).l).getD 0=g r (Y r).phis[i] w
 ok:∀s∈ss,s.ok
theorem PTel.of {G:Nat→PhiD→List (Int×Int)}{ss:List PSl}(h:PInv (fun j=>(Y j).phis.map (G j)) ss)(hg:∀j p w,g j p w=(lkI w (G j p)).getD 0):PTel nx N g Y ss:=
 ⟨fun r hr=>by have:=congrArg List.length (h.f r hr);simpa using this,fun r hr i h1 h2 w _=>by
  have e:(ss[r].ms.map PMap.l)[i]? = some (ss[r].ms[i]).l:=by simp[h1]
  rw[h.f r hr]at e
  simp only[List.getElem?_map,List.getElem?_eq_getElem h2,Option.map_some,Option.some.injEq]at e
  rw[←e,hg],h.ok⟩
set_option maxHeartbeats 8000000 in
theorem Qbfc {x zb o:Nat}{P G:Int}{ks0:List KBlk}{ss:List PSl}{R:List (Nat×Obj)}(hN:N≤100000)(hk:StS nx N g Y 0 ks0)(hnx:∀j,j<N→(Y j).next=nx j)(hpl:∀j,j<N→(Y j).phis.length≤100000)
  (hsl:ss.length=N) (hs:PTel nx N g Y ss)
  (kn:Kn H0 H E ([(x,.st [.int .i64 P,.int .i64 G,.vsl zb 5 0 N]),(zb,.vec 5 (ks0.map KBlk.row)),(o,.vec 1 (ss.map PSl.row))]++(ks0.flatMap KBlk.pl++(psL ss++R))))
  (hK:∀ks H',StS nx N g Y N ks→ks.map KBlk.row=ks0.map KBlk.row→Kn H0 H' E ([(x,.st [.int .i64 P,.int .i64 G,.vsl zb 5 0 N]),(zb,.vec 5 (ks0.map KBlk.row)),(o,.vec 1 (ss.map PSl.row))]++(ks.flatMap KBlk.pl++(psL ss++R)))→K (.tup []) H') :
  Qp prog Qpn [.c (.ptr x 0),.c (.vsl o 1 0 N)] H K:=by
 obtain⟨X0,hX0⟩:∃X0,X0=Obj.st [.int .i64 P,.int .i64 G,.vsl zb 5 0 N]:=⟨_,rfl⟩
 obtain⟨RW,hRW⟩:∃RW,ks0.map KBlk.row=RW:=⟨_,rfl⟩
 obtain⟨SW,hSW⟩:∃SW,ss.map PSl.row=SW:=⟨_,rfl⟩
 have hRWl:RW.length=N:=by rw[←hRW,List.length_map,hk.n]
 have hRWt:RW.take N=RW:=List.take_of_length_le (by omega)
 have hSWl:SW.length=N:=by rw[←hSW,List.length_map,hsl]
 have hSWt:SW.take N=SW:=List.take_of_length_le (by omega)
 rw[hRW,hSW,←hX0]at kn
 rw[hRW,hSW,←hX0]at hK
 have hRWno:∀r∈RW,Go.AE.noOw r=true:=fun r hr=>by
  rw[←hRW]at hr
  obtain⟨k,hk2,rfl⟩:=List.mem_map.1 hr
  exact KBlk.noOw (hk.ok k hk2)
 have hRWx:∀j,j<RW.length→∃a1 a2 a3 a4 fl,RW.getD j []=[a1,a2,a3,a4,.sl fl 1 (Qb (nx j))]:=fun j hj=>by
  have hj':j<ks0.length:=by rw[hk.n];omega
  have hy:=hk.y j hj'
  rw[if_neg (Nat.not_lt_zero j)]at hy
  refine⟨ks0[j].pc,.sl false 4 (Qav ks0[j].y.ins),.int .i64 ks0[j].y.jump,.int .i64 ks0[j].y.on,false,?_⟩
  rw[←hRW,List.getD_eq_getElem?_getD]
  simp only[List.getElem?_map,List.getElem?_eq_getElem hj',Option.map_some,Option.getD_some]
  rw[←hnx j (by omega),←hy]
  exact KBlk.row_eq _
 refine Qd Qak Qavf ?_
 have hx:=kn.l 0 rfl
 rw[hX0]at hx
 have hzb:=kn.l 1 rfl
 refine Qa ?_
 simp only[go_sem,hx,hzb,hRWl,Nat.zero_add,Nat.le_refl]
 try intro _
 refine Qg (Qy (fun m e1 H1=>∃(b:Nat) (ks:List KBlk),m=N-b∧b≤N∧StS nx N g Y b ks∧ks.map KBlk.row=RW∧
  Kn H0 H1 E ([(x,X0),(zb,.vec 5 RW),(o,.vec 1 SW)]++(ks.flatMap KBlk.pl++(psL ss++R)))∧
  lk 0 e1=.c (.ptr x 0)∧lk 1 e1=.c (.vsl o 1 0 N)∧lk 12 e1=.c (.int .i64 N)∧lk 13 e1=.c (.int .i64 b)) N ?_ ?_)
 ·exact⟨0,ks0,by omega,by omega,hk,hRW,kn,rfl,rfl,rfl,rfl⟩
 ·clear kn hx hzb
  rintro m e1 H1 ⟨b,ks,hm,hb,hS,hkr,kn,l0,l1,l12,l13⟩
  refine Qa ?_
  simp only[go_sem,l0,l1,l12,l13]
  refine Qh (Qe rfl ?_ ?_)
  ·intro hc
   have hlt:b<N:=by simpa using hc
   have hkb:b<ks.length:=by rw[hS.n];exact hlt
   obtain⟨kb,hkbe⟩:∃kb,ks[b]=kb:=⟨_,rfl⟩
   have hkbo:Gr kb.pl 2 (Qw kb.y.phis) kb.pc:=by rw[←hkbe];exact hS.ok _ (List.getElem_mem hkb)
   have hkby:kb.y=Y b:=by have:=hS.y b hkb;rw[if_neg (Nat.lt_irrefl b),hkbe]at this;exact this
   have hsb:b<ss.length:=by omega
   obtain⟨s,hse⟩:∃s,ss[b]=s:=⟨_,rfl⟩
   have hsm:s∈ss:=by rw[←hse];exact List.getElem_mem hsb
   have hsok:=hs.ok s hsm
   have hsml:s.ms.length=(Y b).phis.length:=by have:=hs.ml b hsb;rw[hse]at this;exact this
   have hsF:∀i (h1:i<s.ms.length) (h2:i<(Y b).phis.length),∀w∈Q1 nx (b:Int) N,(lkI w (s.ms[i]).l).getD 0=g b (Y b).phis[i] w:=by
    have:=hs.f b hsb
    rw[hse]at this
    exact this
   have hRWg:RW.getD b []=[kb.pc,.sl false 4 (Qav kb.y.ins),.int .i64 kb.y.jump,.int .i64 kb.y.on,.sl false 1 (Qb kb.y.next)]:=by
    rw[←hkr,List.getD_eq_getElem?_getD]
    simp only[List.getElem?_map,List.getElem?_eq_getElem hkb,hkbe,Option.map_some,Option.getD_some]
    exact kb.row_eq
   have hSWg:SW.getD b []=[s.c]:=by
    rw[←hSW,List.getD_eq_getElem?_getD]
    simp only[List.getElem?_map,List.getElem?_eq_getElem hsb,hse,Option.map_some,Option.getD_some]
    rfl
   have hsw:=Gr.isOw hsok
   obtain⟨KR,hKR⟩:∃KR,(ks.eraseIdx b).flatMap KBlk.pl=KR:=⟨_,rfl⟩
   have hflat:(ks.flatMap KBlk.pl).Perm (kb.pl++KR):=by rw[←hKR,←hkbe];exact Qbn hkb
   refine Qi ?_
   try simp only[go_sem]
   refine Qh (Qg ?_)
   refine Qa ?_
   simp only[go_sem,l0,l1,l12,l13]
   have hx:=kn.l 0 rfl
   rw[hX0]at hx
   have hzb:=kn.l 1 rfl
   refine Qa ?_
   simp only[go_sem,hx]
   refine Qpe (nx:=nx) ⟨vslc hzb hRWl.symm,rfl,hRWno,hRWx⟩ fun fl2 H2 hu=>?_
   have kn:=kn.call0 hu
   have hpi:Qfx nx (b:Int) RW.length=Q1 nx (b:Int) N:=by rw[hRWl,Qfx,if_pos (by simp only[Bool.and_eq_true,decide_eq_true_eq];omega)]
   rw[hpi]
   obtain⟨ps,hps⟩:∃ps,Q1 nx (b:Int) N=ps:=⟨_,rfl⟩
   have hpsl:ps.length≤N:=by rw[←hps];exact Qbq _ _ _
   rw[hps]
   simp only[go_sem,Qwh]
   have ho:=kn.l 2 rfl
   have hgmem:∀p∈s.g,p∈psL ss:=fun p hp=>List.mem_flatMap.2 ⟨s,hsm,List.mem_append_right _ hp⟩
   have hsc:okSl H2 s.c=True∧lenC s.c=s.ms.length:=by
    refine⟨eq_true ?_,by have:=Gr.lenC hsok;rw[Qck]at this;exact this⟩
    rcases hsok with ⟨h1,_,_⟩|⟨z,h1,h2⟩
    ·rw[h1];trivial
    ·have hz:=(kn.get (z,.vec 1 (Qdz s.ms)) (List.mem_append_right _ (List.mem_append_right _ (List.mem_append_right _ (List.mem_append_left _ (hgmem _ (by rw[h2];simp))))))).1
     rw[h1];simp only[okSl,hz,Nat.zero_add,Nat.le_refl,and_self]
   refine Qa ?_
   simp only[go_sem,ho,hSWl,hSWt,hSWg,hlt,hsw,hsc.1,hsc.2,Nat.zero_add,Nat.le_refl]
   try intro _
   have kn:Kn H0 H2 E (([(x,X0),(zb,.vec 5 RW),(o,.vec 1 SW)]++(KR++(psL ss++R)))++kb.pl):=kn.perm (Qj fun f hf h0 hc hp=>by
    have:=hp _ _ hflat
    simp only[hf]at this⊢;omega)
   refine Qg (Qy (fun m e1 H1=>∃(i:Nat) (ph:List PhiD) (pl:List (Nat×Obj)),m=s.ms.length-i∧i≤s.ms.length∧ph=mix (stlP nx N g b) (Y b).phis i∧Gr pl 2 (Qw ph) kb.pc∧
    Kn H0 H1 E (([(x,X0),(zb,.vec 5 RW),(o,.vec 1 SW)]++(KR++(psL ss++R)))++pl)∧
    lk 0 e1=.c (.ptr x 0)∧lk 1 e1=.c (.vsl o 1 0 N)∧lk 4 e1=.c (.int .i64 b)∧lk 5 e1=.c (.sl fl2 1 (Qb ps))∧lk 12 e1=.c (.int .i64 N)∧lk 13 e1=.c (.int .i64 b)∧lk 24 e1=.c s.c∧lk 25 e1=.c (.int .i64 s.ms.length)∧lk 26 e1=.c (.int .i64 i)) s.ms.length ?_ ?_)
   ·exact⟨0,kb.y.phis,kb.pl,by omega,by omega,by rw[Q7o,hkby],hkbo,kn,rfl,rfl,rfl,rfl,rfl,rfl,rfl,rfl,rfl⟩
   ·clear kn hx hzb ho hsc l0 l1 l12 l13 hflat
    rintro m2 e2 H3 ⟨i,ph,pl,hm2,hi,hphe,hgr,kn,l0,l1,l4,l5,l12,l13,l24,l25,l26⟩
    have hphl:ph.length=(Y b).phis.length:=by rw[hphe,Q8z]
    refine Qa ?_
    simp only[go_sem,l0,l1,l4,l5,l12,l13,l24,l25,l26,hsw]
    refine Qh (Qe rfl ?_ ?_)
    ·intro hc2
     have hlt2:i<s.ms.length:=by simpa using hc2
     have hiY:i<(Y b).phis.length:=by omega
     have hYl:=hpl b hlt
     have hip:i<ph.length:=by omega
     obtain⟨zs,hzs,hsg⟩:∃z,s.c=.vsl z 1 0 s.ms.length∧s.g=[(z,.vec 1 (Qdz s.ms))]:=by
      rcases hsok with ⟨_,h,_⟩|⟨z,h1,h2⟩
      ·have:=congrArg List.length h;rw[Qck]at this;simp only[List.length_nil]at this;omega
      ·exact⟨z,by rw[h1,Qck],h2⟩
     obtain⟨zp,hpc,hplz⟩:∃z,kb.pc=.vsl z 2 0 ph.length∧pl=[(z,.vec 2 (Qw ph))]:=by
      rcases hgr with ⟨_,h,_⟩|⟨y,h1,h2⟩
      ·have:=congrArg List.length h;rw[Qv]at this;simp only[List.length_nil]at this;omega
      ·exact⟨y,by rw[h1,Qv],h2⟩
     rw[hpc]at hRWg
     rw[hplz]at kn
     obtain⟨pm,hpm⟩:∃pm,s.ms[i]=pm:=⟨_,rfl⟩
     obtain⟨p,hp⟩:∃p,(Y b).phis[i]=p:=⟨_,rfl⟩
     obtain⟨gl,hgl⟩:∃gl,pm.l=gl:=⟨_,rfl⟩
     have hpl2:ps.map (fun w=>(lkI w gl).getD 0)=ps.map (g b p):=List.map_congr_left fun w hw=>by
      have:=hsF i hlt2 hiY w (by rw[hps];exact hw)
      rw[hpm,hgl,hp]at this
      exact this
     have hphi:ph[i]=p:=by rw[←hp];subst hphe;exact Qa1i hiY hip
     have hmpg:(Qdz s.ms).getD i []=[.mp pm.m]:=by rw[Qaj7 _ _ hlt2,hpm]
     have hmpt:(Qdz s.ms).take s.ms.length=Qdz s.ms:=List.take_of_length_le (by rw[Qck];omega)
     have hzsm:(zs,Obj.vec 1 (Qdz s.ms))∈psL ss:=hgmem _ (by rw[hsg];simp)
     have hMm:(pm.m,Obj.map pm.ver (mI gl))∈psL ss:=List.mem_flatMap.2 ⟨s,hsm,List.mem_append_left _ (List.mem_flatMap.2 ⟨pm,by rw[←hpm];exact List.getElem_mem hlt2,by rw[PMap.lg,hgl];simp⟩)⟩
     have hzv:=(kn.get (zs,.vec 1 (Qdz s.ms)) (by simp[hzsm])).1
     have hMv:=(kn.get (pm.m,.map pm.ver (mI gl)) (by simp[hMm])).1
     refine Qi ?_
     try simp only[go_sem]
     refine Qh (Qg ?_)
     refine Qa ?_
     simp only[go_sem,l0,l1,l4,l5,l12,l13,l24,l25,l26,hzs,hzv,Qck,hmpt,hlt2,hmpg,Nat.zero_add,Nat.le_refl]
     intro x7 hx7 H4 h4
     have hne:x7≠pm.m:=fun e=>by rw[e,hMv]at hx7;simp at hx7
     have kn:Kn H0 H4 E ([(x7,.st [.mnil])]++(([(x,X0),(zb,.vec 5 RW),(o,.vec 1 SW)]++(KR++(psL ss++R)))++[(zp,.vec 2 (Qw ph))])):=(kn.al hx7 h4).perm List.perm_append_comm
     have hx7:=kn.l 0 rfl
     simp only[go_sem,Qwi,hx7]
     intro H5 h5
     have kn:Kn H0 H5 E ([(x7,.st [.mp pm.m])]++(([(x,X0),(zb,.vec 5 RW),(o,.vec 1 SW)]++(KR++(psL ss++R)))++[(zp,.vec 2 (Qw ph))])):=kn.stL 0 rfl h5
     have hx7:=kn.l 0 rfl
     have hx:=kn.l 1 rfl
     rw[hX0]at hx
     have hzb:=kn.l 2 rfl
     have hMv:=(kn.get (pm.m,.map pm.ver (mI gl)) (by simp[hMm])).1
     have hzp:=(kn.get (zp,.vec 2 (Qw ph)) (by simp)).1
     have hptk:(Qw ph).take ph.length=Qw ph:=List.take_of_length_le (by rw[Qv];omega)
     have hpg:(Qw ph).getD i []=[.int .i64 p.to,.sl false 1 (Qb p.args)]:=by rw[Qay _ _ hip,hphi];rfl
     refine Qbf ?_
     simp only[go_sem,hx,hzb,hRWl,hRWt,hRWg,hlt,hzp,Qv,hptk,hip,Nat.zero_add,Nat.le_refl]
     refine Qbh0 (by omega) hx7 hMv hne fun H6 hu=>?_
     have kn:=kn.call0 hu
     have hx:=kn.l 1 rfl
     rw[hX0]at hx
     have hzb:=kn.l 2 rfl
     have hzp:=(kn.get (zp,.vec 2 (Qw ph)) (by simp)).1
     simp only[go_sem,Qwj,hx,hzb,hRWl,hRWt,hRWg,hlt,hzp,Qv,hptk,hip,hpg,Nat.zero_add,Nat.le_refl]
     intro H7 h7
     have hrow:(Qw ph).set i [.int .i64 p.to,.sl false 1 (Qb (ps.map fun w=>(lkI w gl).getD 0))]=Qw (mix (stlP nx N g b) (Y b).phis (i+1)):=by
      rw[hpl2,←Qalw hiY,hp,stlP,hps,←hphe,Qw,Qw,List.map_set];rfl
     rw[hrow]at h7
     have kn:Kn H0 H7 E ((([(x,X0),(zb,.vec 5 RW),(o,.vec 1 SW)]++(KR++(psL ss++R)))++[(zp,.vec 2 (Qw (mix (stlP nx N g b) (Y b).phis (i+1))))])++[(x7,.st [.mp pm.m])]):=
      ((kn.perm (L':=[(zp,.vec 2 (Qw ph))]++([(x7,.st [.mp pm.m])]++([(x,X0),(zb,.vec 5 RW),(o,.vec 1 SW)]++(KR++(psL ss++R))))) (Qj fun f hf h0 hc hp=>by simp only[hf];omega)).stL 0 rfl h7).perm (Qj fun f hf h0 hc hp=>by
       show f ([(zp,_)]++([(x7,_)]++([(x,X0),(zb,.vec 5 RW),(o,.vec 1 SW)]++(KR++(psL ss++R)))))=_
       simp only[hf];omega)
     have kn:=kn.drop
     refine Qt ?_
     simp only[go_sem,l26]
     refine⟨Qs (by omega) (by omega),?_⟩
     show ∃m,_
     refine⟨s.ms.length-(i+1),by omega,i+1,_,_,rfl,by omega,rfl,?_,kn,rfl,rfl,rfl,rfl,rfl,rfl,by first|rfl|exact congrArg V.c hzs.symm,rfl,rfl⟩
     rw[hpc]
     exact .mk _ _ _ (by rw[Qv,Q8z,hphl])
    ·intro hc2
     have hie:s.ms.length≤i:=by simpa using hc2
     rw[Q8y _ _ (by omega)]at hphe
     refine Q0 ?_
     simp only[go_sem,X.next]
     have hy2:ks[b].y=Y b:=by rw[hkbe,hkby]
     obtain⟨ks2,hks2⟩:∃ks2,ks2=ks.set b ⟨⟨ph,ks[b].y.ins,ks[b].y.jump,ks[b].y.on,ks[b].y.next⟩,ks[b].pc,pl⟩:=⟨_,rfl⟩
     have hst:=hS.step hkb hphe (pl:=pl) (by rw[hkbe];exact hgr)
     have hrw:=PkS.rows (ks:=ks) (ph:=ph) (pl:=pl) hkb
     have h1:((ks.set b ⟨⟨ph,ks[b].y.ins,ks[b].y.jump,ks[b].y.on,ks[b].y.next⟩,ks[b].pc,pl⟩).flatMap KBlk.pl).Perm (pl++KR):=by
      have:=Qbn (f:=KBlk.pl) (l:=ks.set b ⟨⟨ph,ks[b].y.ins,ks[b].y.jump,ks[b].y.on,ks[b].y.next⟩,ks[b].pc,pl⟩) (i:=b) (by rw[List.length_set];exact hkb)
      rw[List.getElem_set_self,List.eraseIdx_set_eq,hKR]at this
      exact this
     rw[←hks2]at hst hrw h1
     have kn:Kn H0 H3 E ([(x,X0),(zb,.vec 5 RW),(o,.vec 1 SW)]++(ks2.flatMap KBlk.pl++(psL ss++R))):=kn.perm (Qj fun f hf h0 hc hp=>by
      have:=hp _ _ h1
      simp only[hf]at this⊢;omega)
     refine Qt ?_
     simp only[go_sem,l0,l1,l12,l13]
     refine⟨Qs (by omega) (by omega),?_⟩
     show ∃m,_
     exact⟨N-(b+1),by omega,b+1,ks2,rfl,by omega,hst,hrw.trans hkr,kn,rfl,rfl,rfl,rfl⟩
  ·intro hc
   have hbe:b=N:=by have:N≤b:=(by simpa using hc);omega
   subst hbe
   refine Q0 ?_
   simp only[go_sem,X.next,Q3,Q9,Q89,List.not_mem_nil]
   exact⟨fun _=>trivial,hK ks _ hS hkr kn⟩
end Go.AE.Y

namespace Go.AE.Y
attribute [local go_sem] cond_true cond_false Bool.not_true Bool.not_false
open Go.Proofs.Tryz
variable {H H0 F:Heap}{K:V→Heap→Prop}{E L B pl:List (Nat×Obj)}
theorem Qak0 {y:BlkD}(hy:y.cl)(hK:∀pc N nc nl H',Gr N 2 (Qw y.phis) pc→Gr nl 1 (Qb y.next) nc→Kn H H' [] (N++nl)→K (.ag [pc,.sl false 4 (Qav y.ins),.int .i64 y.jump,.int .i64 y.on,nc]) H'):Qp prog Qb5 [.ag y.cells] H K:=by
 refine Qdo ?_
 refine Qd Qak Q47 ?_
 refine Qa ?_
 simp only[go_sem,BlkD.cells]
 intro x1 hx1 H0 h0
 have kn:=(Kn.start0 H).al hx1 h0
 intro x2 hx2 H1 h1
 have kn:=kn.al hx2 h1
 have hx1:=kn.l 0 rfl
 refine Qa ?_
 simp only[go_sem,hx1]
 refine Qbdp hy.p hy.pa kn fun pc N H2 hgp kn=>?_
 have hpw:=hgp.isOw
 have hx1:=kn.l 0 rfl
 simp only[go_sem,Qho,hpw,hx1]
 intro H3 h3
 have kn:=kn.stL 0 rfl h3
 have hx1:=kn.l 0 rfl
 refine Qa ?_
 simp only[go_sem,hx1,hpw]
 refine Qbdo hy.i hy.ia fun H4 hu=>?_
 have kn:=kn.call0 hu
 have hx1:=kn.l 0 rfl
 simp only[go_sem,Qhp,hpw,hx1]
 intro H5 h5
 have kn:=kn.stL 0 rfl h5
 have hx1:=kn.l 0 rfl
 refine Qa ?_
 simp only[go_sem,hx1,hpw]
 refine Q0a kn hy.n fun t Lg H6 hgr how kn=>?_
 have hx1:=kn.l 0 rfl
 simp only[go_sem,Qhq,hpw,how,hx1]
 intro H7 h7
 have kn:=kn.stL 0 rfl h7
 have hx1:=kn.l 0 rfl
 have hx2:=kn.l 1 rfl
 refine Qa ?_
 simp only[go_sem,hx1,hx2,hpw,how]
 intro H8 h8
 have kn:Kn H H8 [] ([(x1,.st [pc,.sl false 4 (Qav y.ins),.int .i64 y.jump,.int .i64 y.on,t]),(x2,.st [pc,.sl false 4 (Qav y.ins),.int .i64 y.jump,.int .i64 y.on,t])]++(N++Lg)):=
  (kn.stL 1 rfl h8).perm (Qj fun f hf h0 hc hp=>by
   have e1:=hc (x1,.st [pc,.sl false 4 (Qav y.ins),.int .i64 y.jump,.int .i64 y.on,t]) ([(x2,.st [pc,.sl false 4 (Qav y.ins),.int .i64 y.jump,.int .i64 y.on,t])]++N++Lg)
   have e2:=hc (x1,.st [pc,.sl false 4 (Qav y.ins),.int .i64 y.jump,.int .i64 y.on,t]) [(x2,.st [pc,.sl false 4 (Qav y.ins),.int .i64 y.jump,.int .i64 y.on,t])]
   show f ((x1,_)::([(x2,_)]++N++Lg))=_
   rw[e1]
   simp only[hf,e2];omega)
 have hx2:=kn.l 1 rfl
 refine Qk ?_
 simp only[go_sem,Q3,Q9,Qmy,List.mem_singleton,forall_eq,RS.op,hpw,how,hx2]
 exact⟨unx H (N++Lg),.ag [pc,.sl false 4 (Qav y.ins),.int .i64 y.jump,.int .i64 y.on,t],H8.frz (unx H (N++Lg)),FrzL.ag (.cons (.same _ hpw) (.cons (Qf rfl) (.cons (Qf rfl) (.cons (Qf rfl) (.cons (.same _ how) .nil))))),Qc8 _ _,hK pc N t Lg _ hgp hgr kn.finK⟩
structure NBlk where
 y:BlkD
 pc:C
 pl:List (Nat×Obj)
 nc:C
 nl:List (Nat×Obj)
def NBlk.row (b:NBlk):List C:=[b.pc,.sl false 4 (Qav b.y.ins),.int .i64 b.y.jump,.int .i64 b.y.on,b.nc]
def NBlk.ok (b:NBlk):Prop:=Gr b.pl 2 (Qw b.y.phis) b.pc∧Gr b.nl 1 (Qb b.y.next) b.nc
def NBlk.lg (b:NBlk):List (Nat×Obj):=b.pl++b.nl
theorem NBlk.noOw {b:NBlk}(h:b.ok):Go.AE.noOw b.row=true:=by
 have h1:=h.1.isOw
 have h2:=h.2.isOw
 simp only[Go.AE.noOw,NBlk.row,List.all_cons,List.all_nil,h1,h2];rfl
theorem Qa8o {l:List BlkD}{fl:Bool}(hl:l.length≤2 ^ 38)(ha:∀y∈l,y.cl)(kn:Kn H0 H E L)
  (hK:∀(ks:List NBlk) t Lg H',ks.map NBlk.y=l→(∀b∈ks,b.ok)→Gr Lg 5 (ks.map NBlk.row) t→Kn H0 H' E ((L++ks.flatMap NBlk.lg)++Lg)→K (.c t) H') :
  Qp prog Qbu [.c (.sl fl 5 (Qr l)),.c (.fn Qb5 [])] H K:=by
 refine Qd Qak Qly ?_
 refine Qa ?_
 simp only[go_sem]
 refine Qa ?_
 simp only[go_sem]
 refine Q6 ?_
 refine Qa ?_
 simp only[go_sem,Qq]
 intro _
 refine Qh (Qg (Qy (fun m e1 H1=>∃(ks:List NBlk) (t:C) (Lg:List (Nat×Obj)),m=l.length-ks.length∧ks.length≤l.length∧ks.map NBlk.y=l.take ks.length∧(∀b∈ks,b.ok)∧Gr Lg 5 (ks.map NBlk.row) t∧Kn H0 H1 E ((L++ks.flatMap NBlk.lg)++Lg)∧
  e1=[(1,.c (.fn Qb5 [])),(5,.c t),(8,.c (.sl fl 5 (Qr l))),(9,.c (.int .i64 l.length)),(10,.c (.int .i64 ks.length))]) l.length ?_ ?_))
 ·exact⟨[],_,[],by simp,by simp,by simp,by simp,.nil 5,by simpa using kn,rfl⟩
 ·clear kn
  rintro m e1 H1 ⟨ks,t,Lg,hm,hi,hky,hko,hgr,kn,rfl⟩
  have htw:=hgr.isOw
  refine Qa ?_
  simp only[go_sem,htw]
  refine Qh (Qe rfl ?_ ?_)
  ·intro hc
   have hlt:ks.length<l.length:=by simpa using hc
   obtain⟨y,hy⟩:∃y,l[ks.length]=y:=⟨_,rfl⟩
   have hym:y∈l:=by rw[←hy];exact List.getElem_mem hlt
   have htk:l.take (ks.length+1)=l.take ks.length++[y]:=by rw[List.take_succ_eq_append_getElem hlt,hy]
   refine Qi ?_
   try simp only[go_sem]
   refine Qh (Qg ?_)
   refine Qa ?_
   simp only[go_sem,htw,hlt,Qq,Qan _ _ hlt,BlkD.cells,hy]
   intro x7 hx7 H2 h2
   have kn:=kn.al hx7 h2
   have hx7:H2 x7=.st [.sl true 2 [],.sl true 4 [],.int .i64 0,.int .i64 0,.sl true 1 []]:=(kn.get (x7,.st [.sl true 2 [],.sl true 4 [],.int .i64 0,.int .i64 0,.sl true 1 []]) (by simp)).1
   simp only[go_sem,Qcq,hx7,htw]
   intro H3 h3
   have kn:Kn H0 H3 E (((L++ks.flatMap NBlk.lg)++Lg)++[(x7,blkC y)]):=by
    have:=kn.stL ((L++ks.flatMap NBlk.lg)++Lg).length (x:=x7) (o:=.st [.sl true 2 [],.sl true 4 [],.int .i64 0,.int .i64 0,.sl true 1 []]) (by simp) h3
    simpa[blkC]using this
   have hx7:H3 x7=.st [.sl false 2 (Qw y.phis),.sl false 4 (Qav y.ins),.int .i64 y.jump,.int .i64 y.on,.sl false 1 (Qb y.next)]:=(kn.get (x7,blkC y) (by simp)).1
   have kn:=kn.drop
   refine Qt ?_
   simp only[go_sem,htw,hx7,List.append_nil,List.map_nil]
   refine Qak0 (y:=y) (ha y hym) fun pc N nc nl H4 hgp hgn k2=>?_
   have kn:Kn H0 H4 E ((L++(ks++[(⟨y,pc,N,nc,nl⟩:NBlk)]).flatMap NBlk.lg)++Lg):=(kn.comp0 k2).perm (Qj fun f hf h0 hc hp=>by
    simp only[hf,List.flatMap_append,List.flatMap_cons,List.flatMap_nil,List.append_nil,NBlk.lg];omega)
   have hpw:=hgp.isOw
   have hnw:=hgn.isOw
   simp only[go_sem,Qcs,htw,hpw,hnw]
   refine kn.growR (new:=[NBlk.row ⟨y,pc,N,nc,nl⟩]) hgr (.mk' _ _ _ _) (by intro r hr;simp only[List.mem_singleton]at hr;subst hr;exact NBlk.noOw ⟨hgp,hgn⟩) (by simp only[List.length_map,LIM,List.length_cons,List.length_nil];omega) fun t2 Lg2 H5 hgr2 ht2 kn=>?_
   simp only[go_sem,Qcr,ht2]
   refine Qt ?_
   simp only[go_sem,X.next,ht2]
   refine⟨Qs (by omega) (by omega),l.length-(ks.length+1),by omega,ks++[⟨y,pc,N,nc,nl⟩],t2,Lg2,by simp,by simp;omega,?_,fun b hb=>?_,?_,kn,?_⟩
   ·rw[List.length_append,List.length_singleton,htk,List.map_append,hky];rfl
   ·rcases List.mem_append.1 hb with hb|hb
    ·exact hko b hb
    ·simp only[List.mem_singleton]at hb;subst hb;exact⟨hgp,hgn⟩
   ·rw[List.map_append];exact hgr2
   ·simp
  ·intro hc
   have hge:ks.length=l.length:=by have:l.length≤ks.length:=(by simpa using hc);omega
   rw[hge,List.take_length]at hky
   refine Q0 ?_
   simp only[go_sem,X.next]
   refine Qa ?_
   simp only[go_sem,htw]
   refine Qk ?_
   simp only[go_sem,Q3,Q9,Qdx,List.mem_singleton,forall_eq,RS.op,htw]
   exact hK ks t Lg H1 hky hko hgr kn
theorem Qao3 {q:CodeD}{fl:Bool}(hb:q.blocks.length≤2 ^ 38)(ha:∀y∈q.blocks,y.cl)
  (hK:∀(ks:List NBlk) bc bl H',ks.map NBlk.y=q.blocks→(∀b∈ks,b.ok)→Gr bl 5 (ks.map NBlk.row) bc→Kn H H' [] (ks.flatMap NBlk.lg++bl)→K (.ag [.int .i64 q.params,.int .i64 q.regs,bc]) H') :
  Qp prog Qg1 [.ag [.int .i64 q.params,.int .i64 q.regs,.sl fl 5 (Qr q.blocks)]] H K:=by
 refine Qdo ?_
 refine Qd Qak Q8t ?_
 refine Qa ?_
 simp only[go_sem]
 intro x1 hx1 H0 h0
 have kn:=(Kn.start0 H).al hx1 h0
 intro x2 hx2 H1 h1
 have kn:=kn.al hx2 h1
 have hx1:=kn.l 0 rfl
 refine Qa ?_
 simp only[go_sem,hx1]
 refine Qa8o hb ha kn fun ks bc bl H2 hky hko hgr kn=>?_
 have hbw:=hgr.isOw
 have hx1:=kn.l 0 rfl
 simp only[go_sem,Qiw,hbw,hx1]
 intro H3 h3
 have kn:=kn.stL 0 rfl h3
 have hx1:=kn.l 0 rfl
 have hx2:=kn.l 1 rfl
 refine Qa ?_
 simp only[go_sem,hx1,hx2,hbw]
 intro H4 h4
 have kn:Kn H H4 [] ([(x1,.st [.int .i64 q.params,.int .i64 q.regs,bc]),(x2,.st [.int .i64 q.params,.int .i64 q.regs,bc])]++(ks.flatMap NBlk.lg++bl)):=by
  have:=kn.stL 1 rfl h4
  refine this.perm ?_
  simp only[List.set,List.cons_append,List.nil_append,List.append_assoc]
  exact .refl _
 have hx2:=kn.l 1 rfl
 refine Qk ?_
 simp only[go_sem,Q3,Q9,Qqa,List.mem_singleton,forall_eq,RS.op,hbw,hx2]
 exact⟨unx H (ks.flatMap NBlk.lg++bl),.ag [.int .i64 q.params,.int .i64 q.regs,bc],H4.frz (unx H (ks.flatMap NBlk.lg++bl)),FrzL.ag (.cons (Qf rfl) (.cons (Qf rfl) (.cons (.same _ hbw) .nil))),Qc8 _ _,hK ks bc bl _ hky hko hgr kn.finK⟩
end Go.AE.Y

namespace Go.AE.Y
attribute [local go_sem] cond_true cond_false Bool.not_true Bool.not_false
open Go.Proofs.Tryz
variable {H H0:Heap}{K:V→Heap→Prop}{E L:List (Nat×Obj)}{q:CodeD}
def Qau7 (e:Nat×Int):List C:=[.sl true 2 [],.sl true 4 [],.int .i64 1,.int .i64 0,.sl true 1 [[.int .i64 e.2]]]
def blkN (q:CodeD)(s j:Nat):BlkD:=⟨(Qah q j).phis,(Qah q j).ins,(Qah q j).jump,(Qah q j).on,stX (gnx q) q.blocks.length s j⟩
def nwL (q:CodeD):List (Nat×Int):=Qbx (gnx q) q.blocks.length q.blocks.length
def mpF (q:CodeD)(s r:Nat):List (List (Int×Int)):=if r<q.blocks.length then (Qah q r).phis.map fun p=>mpS q r p s else []
structure SpI (q:CodeD)(s:Nat)(ks:List NBlk)(ss:List PSl):Prop where
 kn:ks.length=q.blocks.length
 ky:∀j (h:j<ks.length),ks[j].y=blkN q s j
 ko:∀k∈ks,k.ok
 sl:ss.length=q.blocks.length+s
 sf:PInv (mpF q s) ss
def rwN (q:CodeD)(s:Nat)(ks:List NBlk):List (List C):=ks.map NBlk.row++((nwL q).take s).map Qau7
theorem Qavz {s:Nat}{ks:List NBlk}(hk:ks.length=q.blocks.length)(hs:s≤(nwL q).length):(rwN q s ks).length=q.blocks.length+s:=by
 simp only[rwN,List.length_append,List.length_map,List.length_take];omega
theorem Qbkr {s b:Nat}{ks:List NBlk}{kb:NBlk}(hb:b<ks.length)(e:ks[b]=kb):(rwN q s ks).getD b []=kb.row:=by
 rw[rwN,List.getD_eq_getElem?_getD,List.getElem?_append_left (by rw[List.length_map];exact hb)]
 simp[hb,e]
theorem Qaj8 {ks:List NBlk}{b:Nat}(hb:b<ks.length):(ks.flatMap NBlk.lg).Perm ((ks.eraseIdx b).flatMap NBlk.lg++(ks[b].pl++ks[b].nl)):=(Qbn hb).trans List.perm_append_comm
theorem Qbdr {ks:List NBlk}{b:Nat}{k:NBlk}(hb:b<ks.length):((ks.set b k).flatMap NBlk.lg).Perm ((ks.eraseIdx b).flatMap NBlk.lg++(k.pl++k.nl)):=by
 have:=Qaj8 (ks:=ks.set b k) (b:=b) (by rw[List.length_set];exact hb)
 rw[List.getElem_set_self,List.eraseIdx_set_eq]at this
 exact this
theorem Qaqa {ms:List PMap}{j:Nat}(hj:j<ms.length):(ms.flatMap PMap.lg).Perm ([(ms[j].m,.map ms[j].ver (mI ms[j].l))]++(ms.eraseIdx j).flatMap PMap.lg):=Qbn hj
theorem Qbic {ms:List PMap}{j:Nat}{p:PMap}(hj:j<ms.length):((ms.set j p).flatMap PMap.lg).Perm ([(p.m,.map p.ver (mI p.l))]++(ms.eraseIdx j).flatMap PMap.lg):=by
 have:=Qaqa (ms:=ms.set j p) (j:=j) (by rw[List.length_set];exact hj)
 rw[List.getElem_set_self,List.eraseIdx_set_eq]at this
 exact this
def mvM (k b:Nat)(p:PMap):PMap:=⟨p.m,p.ver+1+1,deI (b:Int) (upI (k:Int) ((lkI (b:Int) p.l).getD 0) p.l)⟩
theorem Qbdq (k b:Nat)(ms:List PMap)(j:Nat):Qdz (mix (mvM k b) ms j)=Qdz ms:=by
 simp only[Qdz,mix,List.map_append,List.map_map]
 have:(ms.take j).map ((fun p:PMap=>[C.mp p.m]) ∘ mvM k b)=(ms.take j).map fun p=>[C.mp p.m]:=rfl
 rw[this,←List.map_append,List.take_append_drop]
theorem SpI.step {s b:Nat}{v:Int}{ks:List NBlk}{ss:List PSl}{k:NBlk}{sv s0:PSl}(h:SpI q s ks ss)(F:SpF (gnx q) q.blocks.length)(he:(nwL q)[s]? = some (b,v))
  (hky:k.y=blkN q (s+1) b) (hko:k.ok) (hv:v.toNat<ss.length) (hs0:ss[v.toNat]=s0) (hsv:sv.ms=s0.ms.map (mvM (q.blocks.length+s) b)) (hsvo:sv.ok) :
  SpI q (s+1) (ks.set b k) ((ss++[(⟨[],.sl true 1 [],[]⟩:PSl)]).set v.toNat sv):=by
 obtain⟨hb,hvm,_⟩:=mem_newL.1 (List.mem_of_getElem? he)
 have hvr:=F.rng b hb v hvm
 refine⟨by rw[List.length_set];exact h.kn,fun j hj=>?_,fun w hw=>?_,by rw[List.length_set,List.length_append,h.sl];simp;omega,⟨fun r hr=>?_,fun w hw=>?_⟩⟩
 ·have hj':j<ks.length:=by simpa using hj
  rw[List.getElem_set]
  split
  ·rename_i e;subst e;exact hky
  ·rename_i e
   rw[h.ky j hj',blkN,blkN,Qba7 F he (fun hh=>e hh.symm)]
 ·rcases List.mem_or_eq_of_mem_set hw with hw|rfl
  ·exact h.ko w hw
  ·exact hko
 ·have hr':r<ss.length+1:=by simpa using hr
  rw[List.getElem_set]
  split
  ·rename_i e
   have hrn:r<q.blocks.length:=by omega
   have h1:=h.sf.f v.toNat hv
   rw[hs0,e,mpF,if_pos hrn]at h1
   rw[hsv,List.map_map,mpF,if_pos hrn]
   have h2:(s0.ms.map PMap.l).map (fun l=>deI (b:Int) (upI ((q.blocks.length+s:Nat):Int) ((lkI (b:Int) l).getD 0) l))=(Qah q r).phis.map fun p=>mpS q r p (s+1):=by
    rw[h1,List.map_map]
    refine List.map_congr_left fun p _=>?_
    have he2:(Qbx (gnx q) q.blocks.length q.blocks.length)[s]? = some (b,v):=he
    simp only[Function.comp_apply]
    rw[mpS,he2]
    simp only
    rw[if_pos (by omega)]
   rw[←h2,List.map_map];rfl
  ·rename_i e
   by_cases hrs:r<ss.length
   ·rw[List.getElem_append_left hrs,h.sf.f r hrs,mpF,mpF]
    by_cases hrn:r<q.blocks.length
    ·rw[if_pos hrn,if_pos hrn]
     refine List.map_congr_left fun p _=>?_
     have he2:(Qbx (gnx q) q.blocks.length q.blocks.length)[s]? = some (b,v):=he
     rw[mpS,he2]
     simp only
     rw[if_neg (by omega)]
    ·rw[if_neg hrn,if_neg hrn]
   ·have:r=ss.length:=by omega
    subst this
    have hsl:=h.sl
    rw[List.getElem_append_right (Nat.le_refl _),mpF,if_neg (by omega)]
    simp
 ·rcases List.mem_or_eq_of_mem_set hw with hw|rfl
  ·rcases List.mem_append.1 hw with hw|hw
   ·exact h.sf.ok w hw
   ·simp only[List.mem_singleton]at hw;subst hw;exact .nil 1
  ·exact hsvo
end Go.AE.Y

namespace Go.AE.Y
attribute [local go_sem] cond_true cond_false Bool.not_true Bool.not_false
open Go.Proofs.Tryz
variable {H H0:Heap}{K:V→Heap→Prop}{E L:List (Nat×Obj)}{q:CodeD}
def spO (x2 x3:Nat)(q:CodeD)(bc:C):List (Nat×Obj):=[(x2,.st [.int .i64 0,.int .i64 0,.sl true 5 []]),(x3,.st [.int .i64 q.params,.int .i64 q.regs,bc])]
theorem Qajz (e:Nat×Int):noOw (Qau7 e)=true:=rfl
theorem Qbd7 {s:Nat}{ks:List NBlk}{e:Nat×Int}(he:(nwL q)[s]? = some e):rwN q s ks++[Qau7 e]=rwN q (s+1) ks:=by
 obtain⟨h1,h2⟩:=List.getElem?_eq_some_iff.1 he
 rw[rwN,rwN,List.take_succ_eq_append_getElem h1,h2,List.map_append,List.append_assoc];rfl
set_option maxHeartbeats 8000000 in
theorem Qba2 {Q:X→Env→Heap→Prop}{e:Env}{fl fls:Bool}{x2 x3 s b i:Nat}{v:Int}{Ls:List Int}{ks:List NBlk}{ss:List PSl}{bc gc:C}{bl gl:List (Nat×Obj)}(ho:q.ok)
  (he:(nwL q)[s]? = some (b,v)) (hI:SpI q s ks ss) (hgb:Gr bl 5 (rwN q s ks) bc) (hgg:Gr gl 1 (ss.map PSl.row) gc)
  (kn:Kn H0 H [] ((spO x2 x3 q bc++(ks.flatMap NBlk.lg++psL ss))++(bl++gl)))
  (l1:lk 1 e=.c (.pp [.int .i64 q.params,.int .i64 q.regs,.sl fl 5 (Qr q.blocks)])) (l2:lk 2 e=.c (.ptr x2 0)) (l3:lk 3 e=.c (.ptr x3 0)) (l4:lk 4 e=.c gc) (l5:lk 5 e=.c (.int .i64 b)) (l7:lk 7 e=.c (.int .i64 v))
  (l19:lk 19 e=.c (.int .i64 q.blocks.length)) (l20:lk 20 e=.c (.int .i64 b)) (l25:lk 25 e=.c (.sl fls 1 (Qb Ls))) (l26:lk 26 e=.c (.int .i64 Ls.length)) (l27:lk 27 e=.c (.int .i64 i))
  (hQ:∀(e:Env) (H':Heap) (ks:List NBlk) (ss:List PSl) (bc gc:C) (bl gl:List (Nat×Obj)),SpI q (s+1) ks ss→Gr bl 5 (rwN q (s+1) ks) bc→Gr gl 1 (ss.map PSl.row) gc→
   Kn H0 H' [] ((spO x2 x3 q bc++(ks.flatMap NBlk.lg++psL ss))++(bl++gl))→
   lk 1 e=.c (.pp [.int .i64 q.params,.int .i64 q.regs,.sl fl 5 (Qr q.blocks)])→lk 2 e=.c (.ptr x2 0)→lk 3 e=.c (.ptr x3 0)→lk 4 e=.c gc→lk 5 e=.c (.int .i64 b)→
   lk 19 e=.c (.int .i64 q.blocks.length)→lk 20 e=.c (.int .i64 b)→lk 25 e=.c (.sl fls 1 (Qb Ls))→lk 26 e=.c (.int .i64 Ls.length)→lk 27 e=.c (.int .i64 i)→Q .nrm e H') :
  Qad prog Qk0 Q e H:=by
 have F:=ho.spF
 have hb1:=ho.b1
 obtain⟨hb,hvm,_⟩:=mem_newL.1 (List.mem_of_getElem? he)
 have hvr:=F.rng b hb v hvm
 have hsl:s<(nwL q).length:=(List.getElem?_eq_some_iff.1 he).1
 have hnl:(nwL q).length≤2 * q.blocks.length:=Q0z F (Nat.le_refl _)
 have hrl:=Qavz (q:=q) (s:=s) hI.kn (by omega)
 obtain⟨N,hN⟩:∃N,q.blocks.length+s=N:=⟨_,rfl⟩
 rw[hN]at hrl
 have hbw:=hgb.isOw
 have hgw:=hgg.isOw
 have hbL:=hgb.lenC
 rw[hrl]at hbL
 have kn:Kn H0 H [] ((spO x2 x3 q bc++(ks.flatMap NBlk.lg++psL ss)++gl)++bl):=kn.perm (Qj fun f hf h0 hc hp=>by simp only[hf];omega)
 have hx3:=kn.l 1 rfl
 have hbok:=eq_true (hgb.slc kn).ok
 refine Qa ?_
 simp only[go_sem,l1,l2,l3,l4,l5,l7,l19,l20,l25,l26,l27,hx3,hbw,hgw,hbL,hbok]
 try intro _
 refine Qa ?_
 simp only[go_sem,hx3,hbw,hgw,Qgk,List.take,List.drop,List.length,List.append]
 refine kn.growR (new:=[Qau7 (b,v)]) hgb (.mk' _ _ _ _) (by intro r hr;simp only[List.mem_singleton]at hr;rw[hr];exact Qajz _) (by simp only[hrl,LIM,List.length_cons,List.length_nil];omega) fun bc2 bl2 H2 hgb2 hbw2 kn=>?_
 rw[Qbd7 he]at hgb2
 have hx3:=kn.l 1 rfl
 simp only[go_sem,Qk6,hx3,hbw2,hgw]
 intro H3 h3
 have kn:Kn H0 H3 [] ((spO x2 x3 q bc2++(ks.flatMap NBlk.lg++psL ss)++bl2)++gl):=(kn.stL 1 rfl h3).perm (Qj fun f hf h0 hc hp=>by
  show f ((spO x2 x3 q bc2++(ks.flatMap NBlk.lg++psL ss)++gl)++bl2)=_
  simp only[hf];omega)
 refine Qa ?_
 simp only[go_sem,hbw2,hgw]
 refine kn.growR (new:=[PSl.row ⟨[],.sl true 1 [],[]⟩]) hgg (.mk' _ _ _ _) (by intro r hr;simp only[List.mem_singleton]at hr;rw[hr];rfl) (by simp only[List.length_map,hI.sl,LIM,List.length_cons,List.length_nil];omega) fun gc2 gl2 H4 hgg2 hgw2 kn=>?_
 obtain⟨ss1,hss1⟩:∃ss1:List PSl,ss1=ss++[⟨[],.sl true 1 [],[]⟩]:=⟨_,rfl⟩
 have hs1r:ss.map PSl.row++[PSl.row ⟨[],.sl true 1 [],[]⟩]=ss1.map PSl.row:=by rw[hss1,List.map_append];rfl
 rw[hs1r]at hgg2
 have hs1l:ss1.length=N+1:=by rw[hss1,List.length_append,hI.sl];simp;omega
 have hs1p:psL ss1=psL ss:=by rw[hss1,psL,psL,List.flatMap_append];simp[PSl.lg]
 rw[←hs1p]at kn
 simp only[go_sem,Qk7,hgw2]
 have hbk:b<ks.length:=by rw[hI.kn];exact hb
 obtain⟨kb,hkb⟩:∃kb,ks[b]=kb:=⟨_,rfl⟩
 have hkbo:kb.ok:=by rw[←hkb];exact hI.ko _ (List.getElem_mem hbk)
 have hkby:kb.y=blkN q s b:=by rw[←hkb];exact hI.ky b hbk
 obtain⟨ns0,hns0⟩:∃ns0,stX (gnx q) q.blocks.length s b=ns0:=⟨_,rfl⟩
 have hkbn:kb.y.next=ns0:=by rw[hkby,←hns0];rfl
 have hn0l:ns0.length=(gnx q b).length:=by rw[←hns0,stX,List.length_map]
 have hn02:ns0.length≤2:=by rw[hn0l];exact F.len b hb
 have hn0p:0<ns0.length:=by rw[hn0l];exact List.length_pos_of_mem hvm
 have hnew:=Qbis F he
 rw[hns0,hN]at hnew
 obtain⟨f1,hf1⟩:∃f1:Int→Int,f1=fun w=>if w=v then ((N:Nat):Int)else w:=⟨_,rfl⟩
 rw[←hf1]at hnew
 have hrl1:=Qavz (q:=q) (s:=s+1) hI.kn (by omega)
 have hrl2:(rwN q (s+1) ks).length=N+1:=by omega
 obtain⟨zb,rfl,rfl⟩:∃z,bc2=.vsl z 5 0 (N+1)∧bl2=[(z,.vec 5 (rwN q (s+1) ks))]:=by
  rcases hgb2 with ⟨_,h,_⟩|⟨z,h1,h2⟩
  ·have:=congrArg List.length h;rw[hrl2]at this;simp at this
  ·exact⟨z,by rw[h1,hrl2],h2⟩
 obtain⟨og,rfl,rfl⟩:∃z,gc2=.vsl z 1 0 (N+1)∧gl2=[(z,.vec 1 (ss1.map PSl.row))]:=by
  rcases hgg2 with ⟨_,h,_⟩|⟨z,h1,h2⟩
  ·have:=congrArg List.length h;rw[List.length_map,hs1l]at this;simp at this
  ·exact⟨z,by rw[h1,List.length_map,hs1l],h2⟩
 obtain⟨zn,hnc,hnl2⟩:∃z,kb.nc=.vsl z 1 0 ns0.length∧kb.nl=[(z,.vec 1 (Qb ns0))]:=by
  have h2:=hkbo.2
  rw[hkbn]at h2
  rcases h2 with ⟨_,h,_⟩|⟨z,h1,h2⟩
  ·have:=congrArg List.length h;rw[Qc]at this;simp only[List.length_nil]at this;omega
  ·exact⟨z,by rw[h1,Qc],h2⟩
 have hrow:=Qbkr (q:=q) (s:=s+1) hbk hkb
 rw[NBlk.row,hnc]at hrow
 obtain⟨RW,hRW⟩:∃RW,rwN q (s+1) ks=RW:=⟨_,rfl⟩
 obtain⟨SW,hSW⟩:∃SW,ss1.map PSl.row=SW:=⟨_,rfl⟩
 obtain⟨KR,hKR⟩:∃KR,(ks.eraseIdx b).flatMap NBlk.lg=KR:=⟨_,rfl⟩
 have hsp:=Qaj8 hbk
 rw[hkb,hnl2,hKR]at hsp
 rw[hRW]at kn hrow hrl2
 rw[hSW]at kn
 have hRt:RW.take (N+1)=RW:=List.take_of_length_le (by omega)
 have hbN:b<N+1:=by omega
 have hpcw:=hkbo.1.isOw
 obtain⟨A,hA⟩:∃A,KR++(kb.pl++psL ss1)=A:=⟨_,rfl⟩
 have kn:Kn H0 H4 [] ([(zn,.vec 1 (Qb ns0))]++([(x3,.st [.int .i64 q.params,.int .i64 q.regs,.vsl zb 5 0 (N+1)]),(zb,.vec 5 RW),(og,.vec 1 SW),(x2,.st [.int .i64 0,.int .i64 0,.sl true 5 []])]++A)):=kn.perm (Qj fun f hf h0 hc hp=>by
  have e4:∀(a b c d:Nat×Obj),f [a,b,c,d]=f [a]+f [b]+f [c]+f [d]:=fun a b c d=>by rw[hc a [b,c,d],hc b [c,d],hc c [d]];omega
  have e2:∀(a b:Nat×Obj),f [a,b]=f [a]+f [b]:=fun a b=>hc a [b]
  have:=hp _ _ hsp
  rw[←hA]
  simp only[hf,spO,e4,e2]at this⊢;omega)
 have hzn:=kn.l 0 rfl
 have hx3:=kn.l 1 rfl
 have hzb:=kn.l 2 rfl
 refine Q6 ?_
 refine Qa ?_
 simp only[go_sem,hx3,hzb,hrl2,hRt,hrow,hbN,hpcw,hzn,Qc,Nat.zero_add,Nat.le_refl]
 try intro _
 refine Qh (Qg (Qy (fun m e1 H1=>∃(j:Nat) (ns:List Int),m=ns0.length-j∧j≤ns0.length∧ns=mix f1 ns0 j∧Kn H0 H1 [] ([(zn,.vec 1 (Qb ns))]++([(x3,.st [.int .i64 q.params,.int .i64 q.regs,.vsl zb 5 0 (N+1)]),(zb,.vec 5 RW),(og,.vec 1 SW),(x2,.st [.int .i64 0,.int .i64 0,.sl true 5 []])]++A))∧
  lk 1 e1=.c (.pp [.int .i64 q.params,.int .i64 q.regs,.sl fl 5 (Qr q.blocks)])∧lk 2 e1=.c (.ptr x2 0)∧lk 3 e1=.c (.ptr x3 0)∧lk 4 e1=.c (.vsl og 1 0 (N+1))∧lk 5 e1=.c (.int .i64 b)∧lk 7 e1=.c (.int .i64 v)∧lk 8 e1=.c (.int .i64 N)∧lk 19 e1=.c (.int .i64 q.blocks.length)∧lk 20 e1=.c (.int .i64 b)∧lk 25 e1=.c (.sl fls 1 (Qb Ls))∧lk 26 e1=.c (.int .i64 Ls.length)∧lk 27 e1=.c (.int .i64 i)∧lk 50 e1=.c (.vsl zn 1 0 ns0.length)∧lk 51 e1=.c (.int .i64 ns0.length)∧lk 52 e1=.c (.int .i64 j)) ns0.length ?_ ?_))
 ·exact⟨0,ns0,by omega,by omega,(Q7o _ _).symm,kn,rfl,rfl,rfl,rfl,rfl,rfl,rfl,rfl,rfl,rfl,rfl,rfl,rfl,rfl,rfl⟩
 ·clear kn hx3 hzb hzn l1 l2 l3 l4 l5 l7 l19 l20 l25 l26 l27
  rintro m e1 H5 ⟨j,ns,hm,hj,hns,kn,l1,l2,l3,l4,l5,l7,l8,l19,l20,l25,l26,l27,l50,l51,l52⟩
  have hzn:=kn.l 0 rfl
  have hx3:=kn.l 1 rfl
  have hzb:=kn.l 2 rfl
  have hnsl:ns.length=ns0.length:=by rw[hns,Q8z]
  have hnst:(Qb ns).take ns0.length=Qb ns:=List.take_of_length_le (by rw[Qc];omega)
  refine Qa ?_
  simp only[go_sem,l1,l2,l3,l4,l5,l7,l8,l19,l20,l25,l26,l27,l50,l51,l52]
  refine Qh (Qe rfl ?_ ?_)
  ·intro hc
   have hlt:j<ns0.length:=by simpa using hc
   have hjn:j<ns.length:=by omega
   obtain⟨w,hw⟩:∃w,ns0[j]=w:=⟨_,rfl⟩
   have hwn:ns[j]=w:=by rw[←hw];subst hns;exact Qa1i hlt hjn
   have hgd:ns.getD j 0=w:=by simp[List.getD_eq_getElem?_getD,hjn,hwn]
   have hset:=Qalw (f:=f1) hlt
   rw[hw]at hset
   refine Qi ?_
   try simp only[go_sem]
   refine Qw6 (fun e1 H1=>Kn H0 H1 [] ([(zn,.vec 1 (Qb (mix f1 ns0 (j+1))))]++([(x3,.st [.int .i64 q.params,.int .i64 q.regs,.vsl zb 5 0 (N+1)]),(zb,.vec 5 RW),(og,.vec 1 SW),(x2,.st [.int .i64 0,.int .i64 0,.sl true 5 []])]++A))∧
    lk 1 e1=.c (.pp [.int .i64 q.params,.int .i64 q.regs,.sl fl 5 (Qr q.blocks)])∧lk 2 e1=.c (.ptr x2 0)∧lk 3 e1=.c (.ptr x3 0)∧lk 4 e1=.c (.vsl og 1 0 (N+1))∧lk 5 e1=.c (.int .i64 b)∧lk 7 e1=.c (.int .i64 v)∧lk 8 e1=.c (.int .i64 N)∧lk 19 e1=.c (.int .i64 q.blocks.length)∧lk 20 e1=.c (.int .i64 b)∧lk 25 e1=.c (.sl fls 1 (Qb Ls))∧lk 26 e1=.c (.int .i64 Ls.length)∧lk 27 e1=.c (.int .i64 i)∧lk 50 e1=.c (.vsl zn 1 0 ns0.length)∧lk 51 e1=.c (.int .i64 ns0.length)∧lk 52 e1=.c (.int .i64 j)) ?_ ?_
   ·intro Q2 hnr _ _
    refine Qg ?_
    refine Qa ?_
    simp only[go_sem,l1,l2,l3,l4,l5,l7,l8,l19,l20,l25,l26,l27,l50,l51,l52,hzn,Qc,hnsl,hnst,hlt,Qm _ _ hjn,hgd,Nat.zero_add,Nat.le_refl]
    refine Qa ?_
    simp only[go_sem]
    refine Qe rfl ?_ ?_
    ·intro hc2
     have hwv:w=v:=by simpa using hc2
     refine Qt ?_
     simp only[go_sem,hx3,hzb,hrl2,hRt,hrow,hbN,hpcw,hzn,Qc,hnsl,hnst,hlt,Qm _ _ hjn,Qaj1,Nat.zero_add,Nat.le_refl]
     intro H6 h6
     have hfw:f1 w=((N:Nat):Int):=by rw[hf1];simp[hwv]
     have e:ns.set j ((N:Nat):Int)=mix f1 ns0 (j+1):=by rw[←hset,←hns,hfw]
     rw[e]at h6
     have kn:=kn.stL 0 rfl h6
     exact hnr _ _ ⟨kn,rfl,rfl,rfl,rfl,rfl,rfl,rfl,rfl,rfl,rfl,rfl,rfl,rfl,rfl,rfl⟩
    ·intro hc2
     have hwv:¬w=v:=by simpa using hc2
     refine Qi ?_
     try simp only[go_sem]
     have e:mix f1 ns0 (j+1)=ns:=by
      have hfw:f1 w=w:=by rw[hf1];simp[hwv]
      rw[←hset,←hns,hfw]
      conv=>lhs;rw[←hwn]
      exact List.set_getElem_self hjn
     refine hnr _ _ ⟨?_,rfl,rfl,rfl,rfl,rfl,rfl,rfl,rfl,rfl,rfl,rfl,rfl,rfl,rfl,rfl⟩
     rw[e];exact kn
   ·rintro e4 H6 ⟨kn,l1,l2,l3,l4,l5,l7,l8,l19,l20,l25,l26,l27,l50,l51,l52⟩
    refine Qt ?_
    simp only[go_sem,l1,l2,l3,l4,l5,l7,l8,l19,l20,l25,l26,l27,l50,l51,l52]
    refine⟨Qs (by omega) (by omega),?_⟩
    show ∃m,_
    exact⟨ns0.length-(j+1),by omega,j+1,_,rfl,by omega,rfl,kn,rfl,rfl,rfl,rfl,rfl,rfl,rfl,rfl,rfl,rfl,rfl,rfl,rfl,rfl,rfl⟩
  ·intro hc
   have hge:ns0.length≤j:=by simpa using hc
   rw[Q8y _ _ hge,←hnew]at hns
   refine Q0 ?_
   simp only[go_sem,X.next]
   obtain⟨kb2,hkb2⟩:∃kb2:NBlk,kb2=⟨blkN q (s+1) b,kb.pc,kb.pl,kb.nc,[(zn,.vec 1 (Qb ns))]⟩:=⟨_,rfl⟩
   have hkb2o:kb2.ok:=by
    rw[hkb2]
    refine⟨?_,?_⟩
    ·have:=hkbo.1
     rw[hkby]at this
     exact this
    ·show Gr [(zn,.vec 1 (Qb ns))] 1 (Qb (stX (gnx q) q.blocks.length (s+1) b)) kb.nc
     rw[←hns,hnc]
     exact .mk _ _ _ (by rw[Qc,hnsl])
   have hkb2y:kb2.y=blkN q (s+1) b:=by rw[hkb2]
   have hkb2r:kb2.row=kb.row:=by rw[hkb2,NBlk.row,NBlk.row,hkby];rfl
   have hkb2l:kb2.pl++kb2.nl=kb.pl++[(zn,.vec 1 (Qb ns))]:=by rw[hkb2]
   obtain⟨r,hr⟩:∃r,v.toNat=r:=⟨_,rfl⟩
   have hrv:v=(r:Int):=by omega
   have hrn:r<q.blocks.length:=by omega
   have hrs:r<ss.length:=by rw[hI.sl];omega
   have hrs1:r<ss1.length:=by omega
   obtain⟨s0,hs0⟩:∃s0,ss[r]=s0:=⟨_,rfl⟩
   have hs01:ss1[r]=s0:=by rw[←hs0];subst hss1;exact List.getElem_append_left hrs
   have hs0o:s0.ok:=by rw[←hs0];exact hI.sf.ok _ (List.getElem_mem hrs)
   have hs0f:s0.ms.map PMap.l=mpF q s r:=by rw[←hs0];exact hI.sf.f r hrs
   have hpml:∀pm∈s0.ms,pm.l.length≤N:=fun pm hpm=>by
    have h1:pm.l∈s0.ms.map PMap.l:=List.mem_map.2 ⟨pm,hpm,rfl⟩
    rw[hs0f,mpF,if_pos hrn]at h1
    obtain⟨p,_,h2⟩:=List.mem_map.1 h1
    rw[←h2,←hN];exact Qa8q q r p s
   have hs0l:s0.ms.length≤1200:=by
    have h1:=congrArg List.length hs0f
    rw[mpF,if_pos hrn,List.length_map,List.length_map,Qbh hrn]at h1
    have:=(ho.il r hrn).2
    omega
   have hSg:SW.getD r []=[s0.c]:=by
    rw[←hSW,List.getD_eq_getElem?_getD]
    simp only[List.getElem?_map,List.getElem?_eq_getElem hrs1,hs01,Option.map_some,Option.getD_some]
    rfl
   have hSl:SW.length=N+1:=by rw[←hSW,List.length_map,hs1l]
   have hSt:SW.take (N+1)=SW:=List.take_of_length_le (by omega)
   have hs0w:=Gr.isOw hs0o
   have hsp2:=Q83 hrs1 hs01
   obtain⟨B1,hB1⟩:∃B1,[(zn,Obj.vec 1 (Qb ns)),(x3,.st [.int .i64 q.params,.int .i64 q.regs,.vsl zb 5 0 (N+1)]),(zb,.vec 5 RW),(og,.vec 1 SW),(x2,.st [.int .i64 0,.int .i64 0,.sl true 5 []])]++(KR++(kb.pl++psL (ss1.eraseIdx r)))=B1:=⟨_,rfl⟩
   have hogB:(og,Obj.vec 1 SW)∈B1:=by rw[←hB1];simp
   have kn:Kn H0 H5 [] (s0.ms.flatMap PMap.lg++(B1++s0.g)):=kn.perm (Qj fun f hf h0 hc hp=>by
    have e5:∀(a b c d e:Nat×Obj),f [a,b,c,d,e]=f [a]+f [b]+f [c]+f [d]+f [e]:=fun a b c d e=>by rw[hc a [b,c,d,e],hc b [c,d,e],hc c [d,e],hc d [e]];omega
    have e4:∀(a b c d:Nat×Obj),f [a,b,c,d]=f [a]+f [b]+f [c]+f [d]:=fun a b c d=>by rw[hc a [b,c,d],hc b [c,d],hc c [d]];omega
    have:=hp _ _ hsp2
    rw[PSl.lg]at this
    rw[←hB1,←hA]
    simp only[hf,e4,e5]at this⊢;omega)
   have hog:=(kn.get (og,.vec 1 SW) (by simp[hogB])).1
   have hs0k:okSl H5 s0.c=True∧lenC s0.c=s0.ms.length:=by
    refine⟨eq_true ?_,by have:=Gr.lenC hs0o;rw[Qck]at this;exact this⟩
    rcases hs0o with ⟨h1,_,_⟩|⟨z,h1,h2⟩
    ·rw[h1];trivial
    ·have hz:=(kn.get (z,.vec 1 (Qdz s0.ms)) (by rw[h2];simp)).1
     rw[h1];simp only[okSl,hz,Nat.zero_add,Nat.le_refl,and_self]
   refine Qa ?_
   simp only[go_sem,l1,l2,l3,l4,l5,l7,l8,l19,l20,l25,l26,l27,hrv,hog,hSl,hSt,hSg,hs0w,hs0k.1,hs0k.2,show r<N+1 from by omega,Nat.zero_add,Nat.le_refl]
   try intro _
   refine Qg (Qy (fun m e1 H1=>∃(j:Nat) (ms:List PMap),m=s0.ms.length-j∧j≤s0.ms.length∧ms=mix (mvM N b) s0.ms j∧Kn H0 H1 [] (ms.flatMap PMap.lg++(B1++s0.g))∧
    lk 1 e1=.c (.pp [.int .i64 q.params,.int .i64 q.regs,.sl fl 5 (Qr q.blocks)])∧lk 2 e1=.c (.ptr x2 0)∧lk 3 e1=.c (.ptr x3 0)∧lk 4 e1=.c (.vsl og 1 0 (N+1))∧lk 5 e1=.c (.int .i64 b)∧lk 8 e1=.c (.int .i64 N)∧lk 19 e1=.c (.int .i64 q.blocks.length)∧lk 20 e1=.c (.int .i64 b)∧lk 25 e1=.c (.sl fls 1 (Qb Ls))∧lk 26 e1=.c (.int .i64 Ls.length)∧lk 27 e1=.c (.int .i64 i)∧lk 73 e1=.c s0.c∧lk 74 e1=.c (.int .i64 s0.ms.length)∧lk 75 e1=.c (.int .i64 j)) s0.ms.length ?_ ?_)
   ·exact⟨0,s0.ms,by omega,by omega,(Q7o _ _).symm,kn,rfl,rfl,rfl,rfl,rfl,rfl,rfl,rfl,rfl,rfl,rfl,rfl,rfl,rfl⟩
   ·clear kn hog hs0k hzn hx3 hzb l1 l2 l3 l4 l5 l7 l8 l19 l20 l25 l26 l27 l50 l51 l52
    rintro m2 e2 H6 ⟨j2,ms,hm2,hj2,hms,kn,l1,l2,l3,l4,l5,l8,l19,l20,l25,l26,l27,l73,l74,l75⟩
    refine Qa ?_
    simp only[go_sem,l1,l2,l3,l4,l5,l8,l19,l20,l25,l26,l27,l73,l74,l75,hs0w]
    refine Qh (Qe rfl ?_ ?_)
    ·intro hc2
     have hlt:j2<s0.ms.length:=by simpa using hc2
     have hmsl:ms.length=s0.ms.length:=by rw[hms,Q8z]
     have hjm:j2<ms.length:=by omega
     obtain⟨pm,hpm⟩:∃pm,s0.ms[j2]=pm:=⟨_,rfl⟩
     have hpmm:pm∈s0.ms:=by rw[←hpm];exact List.getElem_mem hlt
     have hpl:=hpml pm hpmm
     have hmj:ms[j2]=pm:=by rw[←hpm];subst hms;exact Qa1i hlt hjm
     have hset:=Qalw (f:=mvM N b) hlt
     rw[hpm,←hms]at hset
     obtain⟨zs,hzs,hsg⟩:∃z,s0.c=.vsl z 1 0 s0.ms.length∧s0.g=[(z,.vec 1 (Qdz s0.ms))]:=by
      rcases hs0o with ⟨_,h,_⟩|⟨z,h1,h2⟩
      ·have:=congrArg List.length h;rw[Qck]at this;simp only[List.length_nil]at this;omega
      ·exact⟨z,by rw[h1,Qck],h2⟩
     have hzv:=(kn.get (zs,.vec 1 (Qdz s0.ms)) (by rw[hsg];simp)).1
     have hmpg:(Qdz s0.ms).getD j2 []=[.mp pm.m]:=by rw[Qaj7 _ _ hlt,hpm]
     have hmpt:(Qdz s0.ms).take s0.ms.length=Qdz s0.ms:=List.take_of_length_le (by rw[Qck];omega)
     have hs1:=Qaqa hjm
     rw[hmj]at hs1
     have hs2:=Qbic (p:=mvM N b pm) hjm
     obtain⟨MR,hMR⟩:∃MR,(ms.eraseIdx j2).flatMap PMap.lg=MR:=⟨_,rfl⟩
     rw[hMR]at hs1 hs2
     have kn:Kn H0 H6 [] ([(pm.m,.map pm.ver (mI pm.l))]++(MR++(B1++s0.g))):=kn.perm (Qj fun f hf h0 hc hp=>by
      have:=hp _ _ hs1
      simp only[hf]at this⊢;omega)
     have hM:=kn.l 0 rfl
     have hokM:Qyn H6 (.mp pm.m)=True:=by simp only[Qyn,hM]
     have henM:Qaf H6 (.mp pm.m)=mI pm.l:=by simp only[Qaf,hM]
     refine Qi ?_
     try simp only[go_sem]
     refine Qh (Qg ?_)
     refine Qa ?_
     simp only[go_sem,l1,l2,l3,l4,l5,l8,l19,l20,l25,l26,l27,l73,l74,l75,hzs,hzv,Qck,hmpt,hlt,hmpg,Nat.zero_add,Nat.le_refl]
     refine Qa ?_
     simp only[go_sem,hM,hokM,henM,Q7p,Qa7d,Qbf2,Qa0s]
     refine⟨by simp only[LIM];omega,fun H7 h7=>?_⟩
     have kn:=kn.stL 0 rfl h7
     have hM:=kn.l 0 rfl
     refine Qt ?_
     simp only[go_sem,hM,Q7p,Qa65]
     intro H8 h8
     have kn:=kn.stL 0 rfl h8
     have kn:Kn H0 H8 [] ((mix (mvM N b) s0.ms (j2+1)).flatMap PMap.lg++(B1++s0.g)):=kn.perm (Qj fun f hf h0 hc hp=>by
      have:=hp _ _ hs2
      rw[hset]at this
      show f ([((mvM N b pm).m,.map (mvM N b pm).ver (mI (mvM N b pm).l))]++(MR++(B1++s0.g)))=_
      simp only[hf]at this⊢;omega)
     refine Qt ?_
     simp only[go_sem]
     refine⟨Qs (by omega) (by omega),?_⟩
     show ∃m,_
     exact⟨s0.ms.length-(j2+1),by omega,j2+1,_,rfl,by omega,rfl,kn,rfl,rfl,rfl,rfl,rfl,rfl,rfl,rfl,rfl,rfl,rfl,by first|rfl|exact congrArg V.c hzs.symm,rfl,rfl⟩
    ·intro hc2
     have hge:s0.ms.length≤j2:=by simpa using hc2
     rw[Q8y _ _ hge]at hms
     refine Q0 ?_
     simp only[go_sem,X.next]
     obtain⟨sv,hsv⟩:∃sv:PSl,sv=⟨ms,s0.c,s0.g⟩:=⟨_,rfl⟩
     have hrows:Qdz ms=Qdz s0.ms:=by
      have:=Qbdq N b s0.ms s0.ms.length
      rw[Q8y _ _ (Nat.le_refl _),←hms]at this
      exact this
     have hsvo:sv.ok:=by
      rw[hsv]
      show Gr s0.g 1 (Qdz ms) s0.c
      rw[hrows];exact hs0o
     have hst:=hI.step F he (k:=kb2) (sv:=sv) (s0:=s0) hkb2y hkb2o (by rw[hr];exact hrs) (by simp only[hr];exact hs0) (by rw[hsv,hN];exact hms) hsvo
     rw[←hss1,hr]at hst
     have hRW2:rwN q (s+1) (ks.set b kb2)=RW:=by
      rw[←hRW,rwN,rwN,List.map_set,hkb2r]
      congr 1
      have e:kb.row=(ks.map NBlk.row)[b]'(by rw[List.length_map];exact hbk):=by simp[hkb]
      rw[e,List.set_getElem_self]
     have hSW2:(ss1.set r sv).map PSl.row=SW:=by
      rw[←hSW,List.map_set]
      have e:sv.row=(ss1.map PSl.row)[r]'(by rw[List.length_map];exact hrs1):=by simp[hs01,hsv,PSl.row]
      rw[e,List.set_getElem_self]
     have hns2:=Qbdr (k:=kb2) hbk
     rw[hKR,hkb2l]at hns2
     have hps2:=Qa81 (s:=sv) hrs1
     have hsvl:sv.lg=ms.flatMap PMap.lg++s0.g:=by rw[hsv];rfl
     rw[hsvl]at hps2
     refine hQ _ H6 (ks.set b kb2) (ss1.set r sv) (.vsl zb 5 0 (N+1)) (.vsl og 1 0 (N+1)) [(zb,.vec 5 RW)] [(og,.vec 1 SW)] hst ?_ ?_ (kn.perm (Qj fun f hf h0 hc hp=>?_)) rfl rfl rfl rfl rfl rfl rfl rfl rfl rfl
     ·rw[hRW2];exact .mk _ _ _ hrl2.symm
     ·rw[hSW2];exact .mk _ _ _ hSl.symm
     ·have e5:∀(a b c d e:Nat×Obj),f [a,b,c,d,e]=f [a]+f [b]+f [c]+f [d]+f [e]:=fun a b c d e=>by rw[hc a [b,c,d,e],hc b [c,d,e],hc c [d,e],hc d [e]];omega
      have e2:∀(a b:Nat×Obj),f [a,b]=f [a]+f [b]:=fun a b=>hc a [b]
      have h1:=hp _ _ hns2
      have h2:=hp _ _ hps2
      rw[←hB1]
      simp only[hf,spO,e5,e2]at h1 h2⊢;omega
end Go.AE.Y

namespace Go.AE.Y
attribute [local go_sem] cond_true cond_false Bool.not_true Bool.not_false
open Go.Proofs.Tryz
variable {H H0:Heap}{K:V→Heap→Prop}{E L:List (Nat×Obj)}{q:CodeD}
def spY (q:CodeD)(j:Nat):BlkD:=if j<q.blocks.length then blkN q (nwL q).length j else match (nwL q)[j-q.blocks.length]? with
 |some e=>goB e.2
 |none=>⟨[],[],0,0,[]⟩
def spG (q:CodeD)(r:Nat)(p:PhiD)(w:Int):Int:=(lkI w (mpS q r p (nwL q).length)).getD 0
theorem Qa16 (ho:q.ok)(j:Nat):(spY q j).next=spX (gnx q) q.blocks.length j:=by
 rw[spY]
 by_cases h:j<q.blocks.length
 ·rw[if_pos h];exact Qba6 ho.spF h
 ·rw[if_neg h,Qae4 (by omega)]
  show (match (nwL q)[j-q.blocks.length]? with
   |some e=>goB e.2
   |none=>⟨[],[],0,0,[]⟩:BlkD).next=match (nwL q)[j-q.blocks.length]? with
   |some e=>[e.2]
   |none=>[]
  cases (nwL q)[j-q.blocks.length]? <;> rfl
theorem Q7u (q:CodeD)(j:Nat):(spY q j).phis=if j<q.blocks.length then (Qah q j).phis else []:=by
 rw[spY]
 by_cases h:j<q.blocks.length
 ·rw[if_pos h,if_pos h];rfl
 ·rw[if_neg h,if_neg h]
  cases (nwL q)[j-q.blocks.length]? <;> rfl
theorem Qbk5 (q:CodeD)(j:Nat):mpF q (nwL q).length j=(spY q j).phis.map fun p=>mpS q j p (nwL q).length:=by
 rw[Q7u,mpF]
 by_cases h:j<q.blocks.length
 ·rw[if_pos h,if_pos h]
 ·rw[if_neg h,if_neg h];rfl
theorem Qbaz (ho:q.ok){j:Nat}(h:j<(spD q).blocks.length):stlY (spX (gnx q) q.blocks.length) (spD q).blocks.length (spG q) j (spY q j)=(spD q).blocks[j]:=by
 by_cases hj:j<q.blocks.length
 ·have e:=Qbax hj
  rw[List.getElem?_eq_getElem h]at e
  have hp:(Qah q j).phis.map (stlP (spX (gnx q) q.blocks.length) (spD q).blocks.length (spG q) j)=(Qah q j).phis.map (spP q j):=List.map_congr_left fun p hp=>by
   rw[stlP,spP,Qmq]
   rw[Qbh hj]at hp
   exact congrArg _ (Qa8p ho.spF hj ((ho.bs j hj).pal p hp))
  rw[Option.some.inj e,stlY,spY,if_pos hj,spB,←hp,←Qba6 ho.spF hj];rfl
 ·have e:=Qbaw (q:=q) (b:=j) (by omega)
  rw[List.getElem?_eq_getElem h]at e
  have e2:(nwL q)[j-q.blocks.length]?.map (fun e=>goB e.2)=some (spD q).blocks[j]:=e.symm
  obtain⟨x,hx,hy⟩:=Option.map_eq_some_iff.1 e2
  rw[←hy,stlY,spY,if_neg hj,hx];rfl
def ksN (q:CodeD)(ks:List NBlk):List KBlk:=ks.map (fun k=>⟨k.y,k.pc,k.pl⟩)++(nwL q).map fun e=>⟨goB e.2,.sl true 2 [],[]⟩
theorem Qbj7 (q:CodeD)(ks:List NBlk):(ksN q ks).flatMap KBlk.pl=ks.flatMap NBlk.pl:=by
 have e:((nwL q).map fun e=>(⟨goB e.2,.sl true 2 [],[]⟩:KBlk)).flatMap KBlk.pl=[]:=List.flatMap_eq_nil_iff.2 fun k hk=>by
  obtain⟨e,_,rfl⟩:=List.mem_map.1 hk;rfl
 rw[ksN,List.flatMap_append,e,List.append_nil,List.flatMap_map]
theorem Qa1l:∀(ks:List NBlk),(ks.flatMap NBlk.lg).Perm (ks.flatMap NBlk.pl++ks.flatMap NBlk.nl)
 |[]=>.refl _
 |k::ks=>by
  have ih:=Qa1l ks
  refine Qj fun f hf h0 hc hp=>?_
  have:=hp _ _ ih
  simp only[List.flatMap_cons,NBlk.lg,hf]at this⊢;omega
theorem Qbj8 {ks:List NBlk}{ss:List PSl}(ho:q.ok)(h:SpI q (nwL q).length ks ss):StS (spX (gnx q) q.blocks.length) (spD q).blocks.length (spG q) (spY q) 0 (ksN q ks):=by
 have hl:(ksN q ks).length=(spD q).blocks.length:=by
  rw[Qmq,offN,ksN,List.length_append,List.length_map,List.length_map,h.kn];rfl
 refine⟨hl,fun j hj=>?_,fun k hk=>?_⟩
 ·rw[if_neg (Nat.not_lt_zero j)]
  by_cases hjn:j<q.blocks.length
  ·have hjk:j<ks.length:=by rw[h.kn];exact hjn
   have e:(ksN q ks)[j]=⟨ks[j].y,ks[j].pc,ks[j].pl⟩:=by
    simp only[ksN];rw[List.getElem_append_left (by rw[List.length_map];exact hjk)];simp
   rw[e,spY,if_pos hjn,h.ky j hjk]
  ·have hkl:(ks.map fun k=>(⟨k.y,k.pc,k.pl⟩:KBlk)).length=q.blocks.length:=by rw[List.length_map,h.kn]
   have hjw:j-q.blocks.length<(nwL q).length:=by
    rw[hl,Qmq,offN]at hj
    have:(Qbx (gnx q) q.blocks.length q.blocks.length).length=(nwL q).length:=rfl
    omega
   have e:(ksN q ks)[j]=⟨goB ((nwL q)[j-q.blocks.length]).2,.sl true 2 [],[]⟩:=by
    simp only[ksN];rw[List.getElem_append_right (by omega)];simp[hkl]
   rw[e,spY,if_neg hjn,List.getElem?_eq_getElem hjw]
 ·rcases List.mem_append.1 hk with hk|hk
  ·obtain⟨k',hk',rfl⟩:=List.mem_map.1 hk
   exact (h.ko k' hk').1
  ·obtain⟨e,_,rfl⟩:=List.mem_map.1 hk
   exact .nil 2
end Go.AE.Y

namespace Go.AE.Y
variable {q:CodeD}
structure RsI (q:CodeD)(s:Nat)(os:List OBlk):Prop where
 n:os.length=q.blocks.length
 y:∀j (h:j<os.length),os[j].d=blkN q s j
 ok:∀b∈os,b.ok
def rwO (q:CodeD)(s:Nat)(os:List OBlk):List (List C):=os.map OBlk.row++((nwL q).take s).map Qau7
theorem Qa9d {s:Nat}{os:List OBlk}(hk:os.length=q.blocks.length)(hs:s≤(nwL q).length):(rwO q s os).length=q.blocks.length+s:=by
 simp only[rwO,List.length_append,List.length_map,List.length_take];omega
theorem Qbks {s b:Nat}{os:List OBlk}{kb:OBlk}(hb:b<os.length)(e:os[b]=kb):(rwO q s os).getD b []=kb.row:=by
 rw[rwO,List.getD_eq_getElem?_getD,List.getElem?_append_left (by rw[List.length_map];exact hb)]
 simp[hb,e]
theorem Qbd8 {s:Nat}{os:List OBlk}{e:Nat×Int}(he:(nwL q)[s]? = some e):rwO q s os++[Qau7 e]=rwO q (s+1) os:=by
 obtain⟨h1,h2⟩:=List.getElem?_eq_some_iff.1 he
 rw[rwO,rwO,List.take_succ_eq_append_getElem h1,h2,List.map_append,List.append_assoc];rfl
def OBlk.nxt (o:OBlk)(ns:List Int):OBlk:=⟨o.phis,o.pc,o.pl,o.ins,o.ic,o.il,o.jump,o.on,⟨ns,o.nx.y⟩⟩
theorem RsI.step {s b:Nat}{v:Int}{os:List OBlk}(h:RsI q s os)(F:SpF (gnx q) q.blocks.length)(he:(nwL q)[s]? = some (b,v))(hb:b<os.length) :
  RsI q (s+1) (os.set b (os[b].nxt (stX (gnx q) q.blocks.length (s+1) b))):=by
 refine⟨by rw[List.length_set];exact h.n,fun j hj=>?_,fun w hw=>?_⟩
 ·have hj':j<os.length:=by simpa using hj
  rw[List.getElem_set]
  split
  ·rename_i e;subst e
   have:=h.y b hb
   rw[OBlk.d,blkN]at this
   simp only[BlkD.mk.injEq]at this
   obtain⟨e1,e2,e3,e4,_⟩:=this
   simp only[OBlk.nxt,OBlk.d,blkN,e1,e2,e3,e4]
  ·rename_i e
   rw[h.y j hj',blkN,blkN,Qba7 F he (fun hh=>e hh.symm)]
 ·rcases List.mem_or_eq_of_mem_set hw with hw|rfl
  ·exact h.ok w hw
  ·have:=h.ok _ (List.getElem_mem hb)
   exact⟨this.p,this.i,this.a⟩
end Go.AE.Y

namespace Go.AE.Y
attribute [local go_sem] cond_true cond_false Bool.not_true Bool.not_false
open Go.Proofs.Tryz
variable {H H0:Heap}{K:V→Heap→Prop}{E L:List (Nat×Obj)}{q:CodeD}
set_option maxHeartbeats 4000000 in
theorem Qa34 {Q:X→Env→Heap→Prop}{e:Env}{fl:Bool}{x2 x3 s b i:Nat}{v:Int}{os:List OBlk}{bc:C}{bl:List (Nat×Obj)}(ho:q.ok)
  (he:(nwL q)[s]? = some (b,v)) (hi:(gnx q b)[i]? = some v) (hI:RsI q s os) (hgb:Gr bl 5 (rwO q s os) bc)
  (kn:Kn H0 H [] ((spO x2 x3 q bc++os.flatMap OBlk.lg)++bl))
  (l1:lk 1 e=.c (.pp [.int .i64 q.params,.int .i64 q.regs,.sl fl 5 (Qr q.blocks)])) (l2:lk 2 e=.c (.ptr x2 0)) (l3:lk 3 e=.c (.ptr x3 0)) (l4:lk 4 e=.c (.int .i64 b)) (l5:lk 5 e=.c (.int .i64 i)) (l6:lk 6 e=.c (.int .i64 v))
  (hQ:∀(e:Env) (H':Heap) (os:List OBlk) (bc:C) (bl:List (Nat×Obj)),RsI q (s+1) os→Gr bl 5 (rwO q (s+1) os) bc→Kn H0 H' [] ((spO x2 x3 q bc++os.flatMap OBlk.lg)++bl)→
   lk 1 e=.c (.pp [.int .i64 q.params,.int .i64 q.regs,.sl fl 5 (Qr q.blocks)])→lk 2 e=.c (.ptr x2 0)→lk 3 e=.c (.ptr x3 0)→lk 4 e=.c (.int .i64 b)→lk 5 e=.c (.int .i64 i)→Q .nrm e H') :
  Qad prog Q3n Q e H:=by
 have F:=ho.spF
 have hb1:=ho.b1
 obtain⟨hb,hvm,_⟩:=mem_newL.1 (List.mem_of_getElem? he)
 have hsl:s<(nwL q).length:=(List.getElem?_eq_some_iff.1 he).1
 have hnl:(nwL q).length≤2 * q.blocks.length:=Q0z F (Nat.le_refl _)
 have hrl:=Qa9d (q:=q) (s:=s) hI.n (by omega)
 obtain⟨N,hN⟩:∃N,q.blocks.length+s=N:=⟨_,rfl⟩
 rw[hN]at hrl
 have hbk:b<os.length:=by rw[hI.n];exact hb
 obtain⟨kb,hkb⟩:∃kb,os[b]=kb:=⟨_,rfl⟩
 have hkbo:kb.ok:=by rw[←hkb];exact hI.ok _ (List.getElem_mem hbk)
 have hkn:kb.nx.ns=stX (gnx q) q.blocks.length s b:=by
  have:=hI.y b hbk
  rw[hkb]at this
  exact congrArg BlkD.next this
 have hil:i<kb.nx.ns.length:=by rw[hkn,stX,List.length_map];exact (List.getElem?_eq_some_iff.1 hi).1
 have hset:=Qbit F he hi
 rw[←hkn,hN]at hset
 have hstep:=hI.step F he hbk
 rw[hkb]at hstep
 obtain⟨zb,rfl,rfl⟩:∃z,bc=.vsl z 5 0 N∧bl=[(z,.vec 5 (rwO q s os))]:=by
  rcases hgb with ⟨_,h,_⟩|⟨z,h1,h2⟩
  ·have:=congrArg List.length h;rw[hrl]at this;simp only[List.length_nil]at this;omega
  ·exact⟨z,by rw[h1,hrl],h2⟩
 have hrow:=Qbks (q:=q) (s:=s) hbk hkb
 have hRt:(rwO q s os).take N=rwO q s os:=List.take_of_length_le (by omega)
 have hbN:b<N:=by omega
 have hpw:=hkbo.p.isOw
 have hiw:=hkbo.i.isOw
 have hsp:=Qbn (f:=OBlk.lg) hbk
 rw[hkb]at hsp
 have hsp2:=Qbn (f:=OBlk.lg) (l:=os.set b (kb.nxt (stX (gnx q) q.blocks.length (s+1) b))) (i:=b) (by rw[List.length_set];exact hbk)
 rw[List.getElem_set_self,List.eraseIdx_set_eq]at hsp2
 obtain⟨KR,hKR⟩:∃KR,(os.eraseIdx b).flatMap OBlk.lg=KR:=⟨_,rfl⟩
 rw[hKR]at hsp hsp2
 have kn:Kn H0 H [] ([(kb.nx.y,.vec 1 (Qb kb.nx.ns))]++(((spO x2 x3 q (.vsl zb 5 0 N))++(kb.rest++KR))++[(zb,.vec 5 (rwO q s os))])):=kn.perm (Qj fun f hf h0 hc hp=>by
  have:=hp _ _ hsp
  rw[OBlk.lg_eq]at this
  simp only[hf]at this⊢;omega)
 have hy:=kn.l 0 rfl
 have hx3:=kn.l 2 rfl
 have hzb:=(kn.get (zb,.vec 5 (rwO q s os)) (by simp)).1
 refine Qag ?_
 simp only[go_sem,l1,l2,l3,l4,l5,l6,hx3,hzb,hrl,hRt,hrow,OBlk.row_eq,hbN,hpw,hiw,hy,hil,Qc,Qm _ _ hil,Qaj1,Nat.zero_add,Nat.le_refl]
 intro H2 h2
 rw[hset]at h2
 have kn:=kn.stL 0 rfl h2
 obtain⟨os2,hos2⟩:∃os2,os.set b (kb.nxt (stX (gnx q) q.blocks.length (s+1) b))=os2:=⟨_,rfl⟩
 rw[hos2]at hsp2 hstep
 have hrows:rwO q s os=rwO q s os2:=by
  rw[rwO,rwO,←hos2,List.map_set]
  congr 1
  have e1:(kb.nxt (stX (gnx q) q.blocks.length (s+1) b)).row=kb.row:=by
   rw[OBlk.row_eq,OBlk.row_eq]
   have:(stX (gnx q) q.blocks.length (s+1) b).length=kb.nx.ns.length:=by rw[hkn,stX,stX,List.length_map,List.length_map]
   simp only[OBlk.nxt,this]
  have e2:kb.row=(os.map OBlk.row)[b]'(by rw[List.length_map];exact hbk):=by simp[hkb]
  rw[e1,e2,List.set_getElem_self]
 have kn:Kn H0 H2 [] ((spO x2 x3 q (.vsl zb 5 0 N)++os2.flatMap OBlk.lg)++[(zb,.vec 5 (rwO q s os))]):=kn.perm (Qj fun f hf h0 hc hp=>by
  have:=hp _ _ hsp2
  have e:(kb.nxt (stX (gnx q) q.blocks.length (s+1) b)).lg=[(kb.nx.y,.vec 1 (Qb (stX (gnx q) q.blocks.length (s+1) b)))]++kb.rest:=rfl
  rw[e]at this
  show f ([(kb.nx.y,_)]++(((spO x2 x3 q (.vsl zb 5 0 N))++(kb.rest++KR))++[(zb,.vec 5 (rwO q s os))]))=_
  simp only[hf]at this⊢;omega)
 rw[hrows]at kn
 have hgb2:Gr [(zb,.vec 5 (rwO q s os2))] 5 (rwO q s os2) (.vsl zb 5 0 N):=.mk _ _ _ (by rw[←hrows,hrl])
 obtain⟨bc1,hbc1⟩:∃c,C.vsl zb 5 0 N=c:=⟨_,rfl⟩
 obtain⟨bl1,hbl1⟩:∃l,[(zb,Obj.vec 5 (rwO q s os2))]=l:=⟨_,rfl⟩
 rw[hbc1,hbl1]at kn hgb2
 have hbw1:=hgb2.isOw
 have hx3:=kn.l 1 rfl
 refine Qt ?_
 simp only[go_sem,hx3,hbw1,Qgk,List.take,List.drop,List.length,List.append,List.map_nil]
 refine kn.growR (new:=[Qau7 (b,v)]) hgb2 (.mk' _ _ _ _) (by intro r hr;simp only[List.mem_singleton]at hr;rw[hr];exact Qajz _) (by simp only[←hrows,hrl,LIM,List.length_cons,List.length_nil];omega) fun bc2 bl2 H3 hgb3 hbw2 kn=>?_
 rw[Qbd8 he]at hgb3
 have hx3:=kn.l 1 rfl
 simp only[go_sem,Qzt,hx3,hbw2]
 intro H4 h4
 have kn:=kn.stL 1 rfl h4
 exact hQ _ H4 os2 bc2 bl2 hstep hgb3 kn rfl rfl rfl rfl rfl
end Go.AE.Y

namespace Go.AE.Y
attribute [local go_sem] cond_true cond_false Bool.not_true Bool.not_false
open Go.Proofs.Tryz
variable {H H0:Heap}{K:V→Heap→Prop}{E L:List (Nat×Obj)}{q:CodeD}
def shN (q:CodeD)(b i:Nat):Nat:=(Qbx (gnx q) q.blocks.length b).length+(((gnx q b).take i).filter (shV (gnx q) q.blocks.length b)).length
set_option maxHeartbeats 4000000 in
theorem Qa32 {Q:X→Env→Heap→Prop}{e:Env}{fl:Bool}{x2 x3:Nat}{os:List OBlk}{bc:C}{bl:List (Nat×Obj)}(ho:q.ok)
  (hI:RsI q 0 os) (hgb:Gr bl 5 (rwO q 0 os) bc)
  (kn:Kn H0 H [] ((spO x2 x3 q bc++os.flatMap OBlk.lg)++bl))
  (l1:lk 1 e=.c (.pp [.int .i64 q.params,.int .i64 q.regs,.sl fl 5 (Qr q.blocks)])) (l2:lk 2 e=.c (.ptr x2 0)) (l3:lk 3 e=.c (.ptr x3 0)) (l4:lk 4 e=.c (.int .i64 0))
  (hQ:∀(e:Env) (H':Heap) (os:List OBlk) (bc:C) (bl:List (Nat×Obj)),RsI q (nwL q).length os→Gr bl 5 (rwO q (nwL q).length os) bc→Kn H0 H' [] ((spO x2 x3 q bc++os.flatMap OBlk.lg)++bl)→
   lk 1 e=.c (.pp [.int .i64 q.params,.int .i64 q.regs,.sl fl 5 (Qr q.blocks)])→lk 2 e=.c (.ptr x2 0)→lk 3 e=.c (.ptr x3 0)→Q .nrm e H') :
  Qad prog (.block 0 (.loop Qwp)) Q e H:=by
 have F:=ho.spF
 have hb1:=ho.b1
 refine Qg (Qy (fun m e1 H1=>∃(b:Nat) (os:List OBlk) (bc:C) (bl:List (Nat×Obj)),m=q.blocks.length-b∧b≤q.blocks.length∧RsI q (Qbx (gnx q) q.blocks.length b).length os∧Gr bl 5 (rwO q (Qbx (gnx q) q.blocks.length b).length os) bc∧
  Kn H0 H1 [] ((spO x2 x3 q bc++os.flatMap OBlk.lg)++bl)∧
  lk 1 e1=.c (.pp [.int .i64 q.params,.int .i64 q.regs,.sl fl 5 (Qr q.blocks)])∧lk 2 e1=.c (.ptr x2 0)∧lk 3 e1=.c (.ptr x3 0)∧lk 4 e1=.c (.int .i64 b)) q.blocks.length ?_ ?_)
 ·exact⟨0,os,bc,bl,by omega,by omega,hI,hgb,kn,l1,l2,l3,l4⟩
 ·clear kn hI hgb l1 l2 l3 l4
  rintro m e1 H1 ⟨b,os,bc,bl,hm,hb,hI,hgb,kn,l1,l2,l3,l4⟩
  refine Q6 ?_
  refine Qa ?_
  simp only[go_sem,l1,l2,l3,l4,Qq]
  try intro _
  refine Qh (Qe rfl ?_ ?_)
  ·intro hc
   have hlt:b<q.blocks.length:=by simpa using hc
   have hgn:q.blocks[b].next=gnx q b:=(Qpw hlt).symm
   have hnl:=F.len b hlt
   obtain⟨ns,hns⟩:∃ns,gnx q b=ns:=⟨_,rfl⟩
   rw[hns]at hgn hnl
   refine Qi ?_
   try simp only[go_sem]
   refine Qh (Qg ?_)
   refine Qa ?_
   simp only[go_sem,l1,l2,l3,l4]
   refine Qg (Qy (fun m e1 H1=>∃(i:Nat) (os:List OBlk) (bc:C) (bl:List (Nat×Obj)),m=ns.length-i∧i≤ns.length∧RsI q (shN q b i) os∧Gr bl 5 (rwO q (shN q b i) os) bc∧
    Kn H0 H1 [] ((spO x2 x3 q bc++os.flatMap OBlk.lg)++bl)∧
    lk 1 e1=.c (.pp [.int .i64 q.params,.int .i64 q.regs,.sl fl 5 (Qr q.blocks)])∧lk 2 e1=.c (.ptr x2 0)∧lk 3 e1=.c (.ptr x3 0)∧lk 4 e1=.c (.int .i64 b)∧lk 5 e1=.c (.int .i64 i)) ns.length ?_ ?_)
   ·have e:shN q b 0=(Qbx (gnx q) q.blocks.length b).length:=by simp[shN]
    exact⟨0,os,bc,bl,by omega,by omega,by rw[e];exact hI,by rw[e];exact hgb,kn,rfl,rfl,rfl,rfl,rfl⟩
   ·clear kn hI hgb l1 l2 l3 l4
    rintro m2 e2 H2 ⟨i,os,bc,bl,hm2,hi,hI,hgb,kn,l1,l2,l3,l4,l5⟩
    refine Q6 ?_
    refine Qa ?_
    simp only[go_sem,l1,l2,l3,l4,l5,hlt,Qq,Qan _ _ hlt,BlkD.cells,hgn,Qc]
    try intro _
    refine Qh (Qe rfl ?_ ?_)
    ·intro hc2
     have hlt2:i<ns.length:=by simpa using hc2
     obtain⟨v,hv⟩:∃v,ns[i]=v:=⟨_,rfl⟩
     have hgd:ns.getD i 0=v:=by simp[List.getD_eq_getElem?_getD,hlt2,hv]
     have hiv:(gnx q b)[i]? = some v:=by rw[hns,List.getElem?_eq_getElem hlt2,hv]
     have hsucc:shN q b (i+1)=shN q b i+if shV (gnx q) q.blocks.length b v=true then 1 else 0:=by
      rw[shN,shN,hns,List.take_succ_eq_append_getElem hlt2,List.filter_append,List.length_append,hv,List.filter_cons]
      split <;> simp <;> omega
     refine Qi ?_
     try simp only[go_sem]
     refine Qw6 (fun e1 H1=>∃(os:List OBlk) (bc:C) (bl:List (Nat×Obj)),RsI q (shN q b (i+1)) os∧Gr bl 5 (rwO q (shN q b (i+1)) os) bc∧
      Kn H0 H1 [] ((spO x2 x3 q bc++os.flatMap OBlk.lg)++bl)∧
      lk 1 e1=.c (.pp [.int .i64 q.params,.int .i64 q.regs,.sl fl 5 (Qr q.blocks)])∧lk 2 e1=.c (.ptr x2 0)∧lk 3 e1=.c (.ptr x3 0)∧lk 4 e1=.c (.int .i64 b)∧lk 5 e1=.c (.int .i64 i)) ?_ ?_
     ·intro Q2 hnr _ _
      refine Qg ?_
      refine Qa ?_
      simp only[go_sem,l1,l2,l3,l4,l5]
      refine Qa3d ho hlt (by rw[hns];exact hlt2) fun H3 hu=>?_
      have kn:=kn.call0 hu
      rw[hns,hgd]
      refine Qe rfl ?_ ?_
      ·intro hc3
       have hsv:shV (gnx q) q.blocks.length b v=true:=by simpa using hc3
       rw[hsv,if_pos rfl]at hsucc
       refine Qa ?_
       simp only[go_sem,hlt,Qq,Qan _ _ hlt,BlkD.cells,hgn,Qc,hlt2,Qm _ _ hlt2,hgd]
       refine Qa34 ho (Qbkh hlt hiv hsv) hiv hI hgb kn rfl rfl rfl rfl rfl rfl fun e3 H9 os bc bl hI hgb kn l1 l2 l3 l4 l5=>?_
       exact hnr _ _ ⟨os,bc,bl,by rw[hsucc];exact hI,by rw[hsucc];exact hgb,kn,l1,l2,l3,l4,l5⟩
      ·intro hc3
       have hsv:¬shV (gnx q) q.blocks.length b v=true:=by simpa using hc3
       rw[if_neg hsv]at hsucc
       refine Qi ?_
       try simp only[go_sem]
       exact hnr _ _ ⟨os,bc,bl,by rw[hsucc];exact hI,by rw[hsucc];exact hgb,kn,rfl,rfl,rfl,rfl,rfl⟩
     ·rintro e4 H6 ⟨os,bc,bl,hI,hgb,kn,l1,l2,l3,l4,l5⟩
      refine Qt ?_
      simp only[go_sem,l1,l2,l3,l4,l5]
      refine⟨Qs (by omega) (by omega),?_⟩
      show ∃m,_
      exact⟨ns.length-(i+1),by omega,i+1,os,bc,bl,rfl,by omega,hI,hgb,kn,rfl,rfl,rfl,rfl,rfl⟩
    ·intro hc2
     have hge:ns.length≤i:=by simpa using hc2
     have e:shN q b i=(Qbx (gnx q) q.blocks.length (b+1)).length:=by
      rw[shN,hns,List.take_of_length_le hge,Qp0,List.length_append,List.length_map,shL,hns]
     rw[e]at hI hgb
     refine Q0 ?_
     simp only[go_sem,X.next]
     refine Qt ?_
     simp only[go_sem,l1,l2,l3,l4]
     refine⟨Qs (by omega) (by omega),?_⟩
     show ∃m,_
     exact⟨q.blocks.length-(b+1),by omega,b+1,os,bc,bl,rfl,by omega,hI,hgb,kn,rfl,rfl,rfl,rfl⟩
  ·intro hc
   have hbe:b=q.blocks.length:=by have:q.blocks.length≤b:=(by simpa using hc);omega
   subst hbe
   refine Q0 ?_
   simp only[go_sem,X.next]
   exact hQ _ _ os bc bl hI hgb kn rfl rfl rfl
end Go.AE.Y

namespace Go.AE.Y
attribute [local go_sem] cond_true cond_false Bool.not_true Bool.not_false
open Go.Proofs.Tryz
variable {H H0:Heap}{K:V→Heap→Prop}{E L:List (Nat×Obj)}{q:CodeD}
set_option maxHeartbeats 8000000 in
theorem Qba1 {Q:X→Env→Heap→Prop}{e:Env}{x2 x3:Nat}{ks:List NBlk}{ss:List PSl}{bc gc:C}{bl gl:List (Nat×Obj)}(ho:q.ok)
  (hI:SpI q (nwL q).length ks ss) (hgb:Gr bl 5 (rwN q (nwL q).length ks) bc) (hgg:Gr gl 1 (ss.map PSl.row) gc)
  (kn:Kn H0 H [] ((spO x2 x3 q bc++(ks.flatMap NBlk.lg++psL ss))++(bl++gl)))
  (l2:lk 2 e=.c (.ptr x2 0)) (l3:lk 3 e=.c (.ptr x3 0)) (l4:lk 4 e=.c gc)
  (hQ:∀(e:Env) (H':Heap) (ks:List KBlk) (z:Nat),ks.length=(spD q).blocks.length→ks.map KBlk.y=(spD q).blocks→(∀k∈ks,k.ok)→
   Kn H0 H' [] ([(x2,.st [.int .i64 q.params,.int .i64 q.regs,.vsl z 5 0 (spD q).blocks.length]),(z,.vec 5 (ks.map KBlk.row))]++ks.flatMap KBlk.pl)→lk 2 e=.c (.ptr x2 0)→Q .ret e H') :
  Qad prog Qk1 Q e H:=by
 have F:=ho.spF
 have hb1:=ho.b1
 have hb0:=ho.b0
 have hnl:(nwL q).length≤2 * q.blocks.length:=Q0z F (Nat.le_refl _)
 have hrl:=Qavz (q:=q) (s:=(nwL q).length) hI.kn (Nat.le_refl _)
 have hND:(spD q).blocks.length=q.blocks.length+(nwL q).length:=by rw[Qmq];rfl
 obtain⟨N,hN⟩:∃N,(spD q).blocks.length=N:=⟨_,rfl⟩
 rw[←hND,hN]at hrl
 have hsl:ss.length=N:=by rw[hI.sl,←hND,hN]
 obtain⟨zb,rfl,rfl⟩:∃z,bc=.vsl z 5 0 N∧bl=[(z,.vec 5 (rwN q (nwL q).length ks))]:=by
  rcases hgb with ⟨_,h,_⟩|⟨z,h1,h2⟩
  ·have:=congrArg List.length h;rw[hrl]at this;simp only[List.length_nil]at this;omega
  ·exact⟨z,by rw[h1,hrl],h2⟩
 obtain⟨og,rfl,rfl⟩:∃z,gc=.vsl z 1 0 N∧gl=[(z,.vec 1 (ss.map PSl.row))]:=by
  rcases hgg with ⟨_,h,_⟩|⟨z,h1,h2⟩
  ·have:=congrArg List.length h;rw[List.length_map,hsl]at this;simp only[List.length_nil]at this;omega
  ·exact⟨z,by rw[h1,List.length_map,hsl],h2⟩
 have hkp:=Qa1l ks
 have kn:Kn H0 H [] (([(zb,.vec 5 (rwN q (nwL q).length ks)),(x3,.st [.int .i64 q.params,.int .i64 q.regs,.vsl zb 5 0 N]),(og,.vec 1 (ss.map PSl.row)),(x2,.st [.int .i64 0,.int .i64 0,.sl true 5 []])]++(ks.flatMap NBlk.pl++psL ss))++ks.flatMap NBlk.nl):=kn.perm (Qj fun f hf h0 hc hp=>by
  have e4:∀(a b c d:Nat×Obj),f [a,b,c,d]=f [a]+f [b]+f [c]+f [d]:=fun a b c d=>by rw[hc a [b,c,d],hc b [c,d],hc c [d]];omega
  have e2:∀(a b:Nat×Obj),f [a,b]=f [a]+f [b]:=fun a b=>hc a [b]
  have:=hp _ _ hkp
  simp only[hf,spO,e4,e2]at this⊢;omega)
 obtain⟨S,hSL,hSB,hfz,kn⟩:=kn.freeze0
 have hz:=hSB (zb,.vec 5 (rwN q (nwL q).length ks)) (by simp)
 have hrows:FrzR H S (rwN q (nwL q).length ks) ((ksN q ks).map KBlk.row):=by
  rw[rwN,ksN,List.map_append,List.map_map,List.map_map,List.take_length]
  refine FrzR.app (Qgj ks fun k hk=>?_) (Qgj _ fun e he=>?_)
  ·have hk2:=hI.ko k hk
   refine .cons (.same _ hk2.1.isOw) (.cons (Qf rfl) (.cons (Qf rfl) (.cons (Qf rfl) (.cons ?_ .nil))))
   exact Gr.frzM hk2.2 (fun p hp=>hSL p (List.mem_flatMap.2 ⟨k,hk,hp⟩)) (FrzR.same (Qo _))
  ·refine .cons (.same _ rfl) (.cons FrzR.nil.sl (.cons (Qf rfl) (.cons (Qf rfl) (.cons ?_ .nil))))
   exact FrzR.sl (FrzR.same (Qo [e.2]))
 have hno:∀r∈rwN q (nwL q).length ks,Go.AE.noOw r=true:=fun r hr=>by
  rcases List.mem_append.1 hr with hr|hr
  ·obtain⟨k,hk,rfl⟩:=List.mem_map.1 hr
   exact NBlk.noOw (hI.ko k hk)
  ·obtain⟨e,_,rfl⟩:=List.mem_map.1 hr;rfl
 have hfz2:=hfz.set (o:=.vec 5 ((ksN q ks).map KBlk.row)) hz.2 (by rw[hz.1];exact .vecR hrows hno)
 have kn:=kn.setL (o':=.vec 5 ((ksN q ks).map KBlk.row)) 0 rfl (by simp)
 generalize hH2:(H.frz S).set zb (.vec 5 ((ksN q ks).map KBlk.row))=H2 at hfz2 kn
 have hpl:=Qbj7 q ks
 have kn:Kn H0 H2 [] ([(x3,.st [.int .i64 q.params,.int .i64 q.regs,.vsl zb 5 0 N]),(zb,.vec 5 ((ksN q ks).map KBlk.row)),(og,.vec 1 (ss.map PSl.row))]++((ksN q ks).flatMap KBlk.pl++(psL ss++[(x2,.st [.int .i64 0,.int .i64 0,.sl true 5 []])]))):=kn.perm (Qj fun f hf h0 hc hp=>by
  have e4:∀(a b c d:Nat×Obj),f [a,b,c,d]=f [a]+f [b]+f [c]+f [d]:=fun a b c d=>by rw[hc a [b,c,d],hc b [c,d],hc c [d]];omega
  have e3:∀(a b c:Nat×Obj),f [a,b,c]=f [a]+f [b]+f [c]:=fun a b c=>by rw[hc a [b,c],hc b [c]];omega
  rw[hpl]
  show f ([(zb,_),(x3,_),(og,_),(x2,_)]++(ks.flatMap NBlk.pl++psL ss))=_
  simp only[hf,e4,e3];omega)
 refine Q6 ?_
 refine c_gh (Qdg S (Q0r ?_) hfz2) (e':=[(2,.c (.ptr x2 0)),(3,.c (.ptr x3 0)),(4,.c (.vsl og 1 0 N))]) ?_
 ·simp only[List.forall_mem_cons,l2,l3,l4]
  exact⟨.c _ _ (.same _ rfl),.c _ _ (.same _ rfl),.c _ _ (.same _ rfl),by simp⟩
 clear hfz hfz2 hSL hSB hz hrows hno hH2
 refine Qa ?_
 simp only[go_sem]
 have hst:=Qbj8 ho hI
 rw[hN]at hst
 refine Qbfc (nx:=spX (gnx q) q.blocks.length) (N:=N) (g:=spG q) (Y:=spY q) (by omega) hst (fun j _=>Qa16 ho j) (fun j _=>?_) hsl (PTel.of (G:=fun j p=>mpS q j p (nwL q).length) ⟨fun j hj=>?_,hI.sf.ok⟩ fun _ _ _=>rfl) kn fun ks2 H3 hS2 hkr kn=>?_
 ·rw[Q7u]
  split
  ·rename_i h
   rw[Qbh h]
   have:=(ho.il j h).2
   omega
  ·simp
 ·rw[hI.sf.f j hj,Qbk5]
 have hx3:=kn.l 0 rfl
 have kn:Kn H0 H3 [] ([(x2,.st [.int .i64 0,.int .i64 0,.sl true 5 []]),(x3,.st [.int .i64 q.params,.int .i64 q.regs,.vsl zb 5 0 N])]++([(zb,.vec 5 (ks2.map KBlk.row))]++(ks2.flatMap KBlk.pl++([(og,.vec 1 (ss.map PSl.row))]++psL ss)))):=kn.perm (Qj fun f hf h0 hc hp=>by
  have e3:∀(a b c:Nat×Obj),f [a,b,c]=f [a]+f [b]+f [c]:=fun a b c=>by rw[hc a [b,c],hc b [c]];omega
  have e2:∀(a b:Nat×Obj),f [a,b]=f [a]+f [b]:=fun a b=>hc a [b]
  rw[hkr]
  simp only[hf,e3,e2];omega)
 have hx2:=kn.l 0 rfl
 have hx3:=kn.l 1 rfl
 refine Qa ?_
 simp only[go_sem,hx2,hx3]
 intro H4 h4
 have kn:=kn.stL 0 rfl h4
 refine Qk ?_
 rw[hN]at hQ
 refine hQ _ H4 ks2 zb hS2.n ?_ hS2.ok ?_ rfl
 ·refine List.ext_getElem (by rw[List.length_map,hS2.n,hN]) fun j h1 h2=>?_
  have hj:j<ks2.length:=by simpa using h1
  rw[List.getElem_map,hS2.y j hj,if_pos (by rw[←hS2.n];exact hj),←hN]
  exact Qbaz ho h2
 ·have kn:Kn H0 H4 [] (([(x2,.st [.int .i64 q.params,.int .i64 q.regs,.vsl zb 5 0 N]),(zb,.vec 5 (ks2.map KBlk.row))]++ks2.flatMap KBlk.pl)++([(x3,.st [.int .i64 q.params,.int .i64 q.regs,.vsl zb 5 0 N])]++([(og,.vec 1 (ss.map PSl.row))]++psL ss))):=kn.perm (Qj fun f hf h0 hc hp=>by
   have e2:∀(a b:Nat×Obj),f [a,b]=f [a]+f [b]:=fun a b=>hc a [b]
   show f ([(x2,_),(x3,_)]++([(zb,_)]++(ks2.flatMap KBlk.pl++([(og,_)]++psL ss))))=_
   simp only[hf,e2];omega)
  exact kn.drop
end Go.AE.Y

namespace Go.AE.Y
variable {H H0:Heap}{q:CodeD}
def goK (e:Nat×Int):KBlk:=⟨goB e.2,.sl true 2 [],[]⟩
theorem Qa33 {x2 x3:Nat}{os:List OBlk}{bc:C}{bl:List (Nat×Obj)}(ho:q.ok)(hI:RsI q (nwL q).length os)(hgb:Gr bl 5 (rwO q (nwL q).length os) bc)(kn:Kn H0 H [] ((spO x2 x3 q bc++os.flatMap OBlk.lg)++bl)) :
  ∃(S:Nat→Bool) (H4:Heap) (ks:List KBlk) (zb:Nat),FrzH H S H4∧ks.length=(spD q).blocks.length∧(∀j (h:j<ks.length),ks[j].y=spY q j)∧(∀k∈ks,k.ok)∧
   Kn H0 H4 [] (spO x2 x3 q (.vsl zb 5 0 (spD q).blocks.length)++([(zb,.vec 5 (ks.map KBlk.row))]++ks.flatMap KBlk.pl)):=by
 have hb0:=ho.b0
 have hrl:=Qa9d (q:=q) (s:=(nwL q).length) hI.n (Nat.le_refl _)
 have hND:(spD q).blocks.length=q.blocks.length+(nwL q).length:=by rw[Qmq];rfl
 rw[←hND]at hrl
 obtain⟨zb,rfl,rfl⟩:∃z,bc=.vsl z 5 0 (spD q).blocks.length∧bl=[(z,.vec 5 (rwO q (nwL q).length os))]:=by
  rcases hgb with ⟨_,h,_⟩|⟨z,h1,h2⟩
  ·have:=congrArg List.length h;rw[hrl]at this;simp only[List.length_nil]at this;omega
  ·exact⟨z,by rw[h1,hrl],h2⟩
 have hp1:∀(l:List OBlk),(l.flatMap OBlk.lg).Perm (l.flatMap OBlk.pl++l.flatMap fun o=>o.nx.lg++(o.phis.flatMap OPhi.lg++(o.ins.flatMap OIns.lg++o.il))):=fun l=>by
  induction l with
  |nil=>exact .refl _
  |cons o l ih=>
   refine Qj fun f hf h0 hc hp=>?_
   have:=hp _ _ ih
   simp only[List.flatMap_cons,OBlk.lg,hf]at this⊢;omega
 have hp2:=hp1 os
 obtain⟨LF,hLF⟩:∃LF,(os.flatMap fun o=>o.nx.lg++(o.phis.flatMap OPhi.lg++(o.ins.flatMap OIns.lg++o.il)))=LF:=⟨_,rfl⟩
 rw[hLF]at hp2
 have kn:Kn H0 H [] ((([(zb,.vec 5 (rwO q (nwL q).length os))]++spO x2 x3 q (.vsl zb 5 0 (spD q).blocks.length))++os.flatMap OBlk.pl)++LF):=kn.perm (Qj fun f hf h0 hc hp=>by
  have:=hp _ _ hp2
  simp only[hf]at this⊢;omega)
 obtain⟨S,hSL,hSB,hfz,kn⟩:=kn.freeze0
 have hHd:∀o∈os,Held H S (o.nx.lg++(o.phis.flatMap OPhi.lg++(o.ins.flatMap OIns.lg++o.il))):=fun o h p hp=>hSL p (by rw[←hLF];exact List.mem_flatMap.2 ⟨o,h,hp⟩)
 have hz:=hSB (zb,.vec 5 (rwO q (nwL q).length os)) (by simp)
 obtain⟨H4,ks,g1,g2,g3,g4,g5⟩:=Qau4 (S:=S) os hfz (fun o h=>⟨hI.ok o h,(hHd o h).r.l,fun p hp=>hSB p (List.mem_append_right _ (List.mem_flatMap.2 ⟨o,h,hp⟩))⟩) kn
 have hkl:ks.length=os.length:=by have:=congrArg List.length g2;simpa using this
 have hyj:∀j (h:j<ks.length) (h2:j<os.length),ks[j].y=os[j].d∧ks[j].pc=os[j].pc:=fun j h h2=>by
  have e1:(ks.map KBlk.y)[j]? = some ks[j].y:=by simp[h]
  have e2:(ks.map KBlk.pc)[j]? = some ks[j].pc:=by simp[h]
  rw[g2]at e1
  rw[g3]at e2
  simp only[List.getElem?_map,List.getElem?_eq_getElem h2,Option.map_some,Option.some.injEq]at e1 e2
  exact⟨e1.symm,e2.symm⟩
 have hkr:ks.map KBlk.row=os.map fun o=>kRow o.d o.pc:=List.ext_getElem (by simp[hkl]) fun j h1 h2=>by
  have hj:j<ks.length:=by simpa using h1
  obtain⟨e1,e2⟩:=hyj j hj (by omega)
  simp only[List.getElem_map,KBlk.row,e1,e2]
 have hrows:FrzR H S (rwO q (nwL q).length os) ((ks++(nwL q).map goK).map KBlk.row):=by
  rw[rwO,List.map_append,hkr,List.map_map,List.take_length]
  refine FrzR.app (Qgj os fun o h=>?_) (Qgj _ fun e he=>?_)
  ·have hk:=hI.ok o h
   have hh:=hHd o h
   exact .cons (.same _ hk.p.isOw) (.cons (Gr.frzM hk.i hh.r.r.r (Qa08 hh.r.r.l)) (.cons (Qf rfl) (.cons (Qf rfl) (.cons (o.nx.frz hh.l) .nil))))
  ·refine .cons (.same _ rfl) (.cons FrzR.nil.sl (.cons (Qf rfl) (.cons (Qf rfl) (.cons ?_ .nil))))
   exact FrzR.sl (FrzR.same (Qo [e.2]))
 have hno:∀r∈rwO q (nwL q).length os,Go.AE.noOw r=true:=fun r hr=>by
  rcases List.mem_append.1 hr with hr|hr
  ·obtain⟨k,hk,rfl⟩:=List.mem_map.1 hr
   exact k.noOw (hI.ok k hk)
  ·obtain⟨e,_,rfl⟩:=List.mem_map.1 hr;rfl
 have hl2:(ks++(nwL q).map goK).length=(spD q).blocks.length:=by rw[List.length_append,List.length_map,hkl,hI.n,hND]
 have hpl:(ks++(nwL q).map goK).flatMap KBlk.pl=ks.flatMap KBlk.pl:=by
  have e:((nwL q).map goK).flatMap KBlk.pl=[]:=List.flatMap_eq_nil_iff.2 fun k hk=>by
   obtain⟨e,_,rfl⟩:=List.mem_map.1 hk;rfl
  rw[List.flatMap_append,e,List.append_nil]
 have kn:=g5
 rw[List.append_assoc]at kn
 have kn:=kn.setL (o':=.vec 5 ((ks++(nwL q).map goK).map KBlk.row)) 0 rfl (by simp)
 refine⟨S,H4.set zb (.vec 5 ((ks++(nwL q).map goK).map KBlk.row)),ks++(nwL q).map goK,zb,g1.set hz.2 (by rw[hz.1];exact .vecR hrows hno),hl2,fun j hj=>?_,fun k hk=>?_,kn.perm (Qj fun f hf h0 hc hp=>by
  rw[hpl]
  show f ([(zb,_)]++(spO x2 x3 q (.vsl zb 5 0 (spD q).blocks.length)++ks.flatMap KBlk.pl))=_
  simp only[hf];omega)⟩
 ·by_cases hjn:j<q.blocks.length
  ·have hjk:j<ks.length:=by rw[hkl,hI.n];exact hjn
   have hjo:j<os.length:=by omega
   rw[List.getElem_append_left hjk,(hyj j hjk hjo).1,spY,if_pos hjn,hI.y j hjo]
  ·have hkn:ks.length=q.blocks.length:=by rw[hkl,hI.n]
   have hjw:j-q.blocks.length<(nwL q).length:=by omega
   have e:(ks++(nwL q).map goK)[j]=goK ((nwL q)[j-q.blocks.length]):=by
    rw[List.getElem_append_right (by omega)];simp[hkn]
   rw[e,spY,if_neg hjn,List.getElem?_eq_getElem hjw];rfl
 ·rcases List.mem_append.1 hk with hk|hk
  ·exact g4 k hk
  ·obtain⟨e,_,rfl⟩:=List.mem_map.1 hk
   exact .nil 2
end Go.AE.Y

