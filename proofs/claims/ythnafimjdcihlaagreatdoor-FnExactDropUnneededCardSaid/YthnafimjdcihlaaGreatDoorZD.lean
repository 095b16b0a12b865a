/- Part 4 of the proof: the engine, codes, walks and plain laws, each named where it stands. -/
import Derived.Test.YthnafimjdcihlaaGreatDoorZC
import Derived.ProofKit
import Derived.Shelf.Sort.Plain
import Derived.Shelf.Sort.So_math_bits_LenIn
open Nat (reduceEqDiff reduceAdd reduceLeDiff reduceLT)
set_option linter.unusedVariables false
set_option linter.unusedSimpArgs false
set_option maxRecDepth 4000
set_option maxHeartbeats 4000000
namespace Go.AE
variable {H0 H H' F:Heap}{E L B A M:List (Nat×Obj)}{S:Nat→Bool}
theorem Kn.stM {x:Nat}{o o':Obj}(kn:Kn H0 H E (A++(x,o)::B))(h1:H'=H.set x o')(ho:o'≠.none:=by nofun):Kn H0 H' E (A++(x,o')::B):=by
 have:=kn.stL A.length (x:=x) (o:=o) (by simp) h1 ho
 simpa using this
theorem Kn.getM {x:Nat}{o:Obj}(kn:Kn H0 H E (A++(x,o)::B)):H x=o:=(kn.get (x,o) (by simp)).1
theorem Qa80 {e e':Env}(h:∀p∈e',FrzV H S (lk p.1 e) p.2):∀t,FrzV H S (lk t e) (lk t e'):=fun t=>by
 induction e' with
 |nil=>exact .unk _
 |cons p e' ih=>
  obtain⟨s,v⟩:=p
  by_cases ht:t=s
  ·subst ht
   have:=h (t,v) List.mem_cons_self
   simpa[lk]using this
  ·have:=ih fun p hp=>h p (List.mem_cons_of_mem _ hp)
   simpa[lk,ht]using this
end Go.AE
namespace Go.AE.Y
attribute [local go_sem] cond_true cond_false Bool.not_true Bool.not_false
open Go.Proofs.Tryz
variable {H H0 F:Heap}{K:V→Heap→Prop}{E E' L:List (Nat×Obj)}
def StsW (w k:Nat)(fl:Bool)(fns:List Fn)(n:Nat):Prop:=∀(sts:List St) (f5:Bool) (b:List (List UInt8×Nat)) (r:Vars) (s:Ck) (vc:C) (Lg:List (Nat×Obj)) (F H:Heap) (K:V→Heap→Prop),
 Qg sts≤n→s.v=b::r→(r≠[]→b=[])→Gp Lg 3 (Qa7 (b::r)) vc→Kn F H [] ((w,wO fl fns k vc s.n s.c)::Lg)→(Qa7 (b::r)).length≤s.n→s.n+Qg sts≤2^38→r.length+Qg sts≤2^38→
 (∀out H' vc' Lg',(r=[]→Gp Lg' 3 (Qa7 (Qao fns k sts s).v) vc')→(r≠[]→Gp Lg' 3 (Qa7 r) vc')→Kn F H' [] ((w,wO fl fns k vc' (Qao fns k sts s).n (Qao fns k sts s).c)::Lg')→K (.c (.sl false 5 (Ql out))) H')→
 Qj prog Qde [.c (.ptr w 0),.c (.sl f5 5 (Ql sts)),.c (.int .i64 r.length)] H K
abbrev stX (op:Int)(nm:List UInt8)(a b c:C):Obj:=.st [.int .i64 op,.str nm,a,b,c]
theorem Qa2t {w k x10 i many:Nat}{fl f5:Bool}{fns:List Fn}{x:St}{sts:List St}{outs:List St}{ars:List Ex}{nm:List UInt8}{t vc:C}{Lz Lg:List (Nat×Obj)}{e:Env}{Q:X→Env→Heap→Prop}{s1:Ck}{b1:List (List UInt8×Nat)}{r:Vars}
  (hN:∀n,n<x.size→StsW w k fl fns n) (hv:s1.v=b1::r) (hg:Gp Lg 3 (Qa7 (b1::r)) vc) (hz:Gr Lz 5 (Ql outs) t) (ho:outs.length<2^38)
  (kn:Kn F H [] (((w,wO fl fns k vc s1.n s1.c)::Lg)++((x10,stX x.op nm (.sl false 4 (Q2 ars)) (.sl false 5 (Ql x.body)) (.sl false 5 (Ql x.els)))::Lz)))
  (hrow:(Qa7 (b1::r)).length≤s1.n) (hn:s1.n+Qg x.body+Qg x.els≤2^38) (hr:r.length+x.size≤2^38)
  (f0:lk 0 e=.c (.ptr w 0)) (f1:lk 1 e=.c (.sl f5 5 (Ql sts))) (f2:lk 2 e=.c (.int .i64 r.length)) (f7:lk 7 e=.c t) (f8:lk 8 e=.c (.int .i64 many)) (f9:lk 9 e=.c (.int .i64 i)) (f10:lk 10 e=.c (.ptr x10 0))
  (hQ:∀(s2 s3:Ck) H' out vc' Lg' Lz' t',Qao fns k x.body ⟨[]::s1.v,s1.c,s1.n⟩=s2→Qao fns k x.els ⟨[]::s1.v,s2.c,s2.n⟩=s3→Gp Lg' 3 (Qa7 (b1::r)) vc'→Gr Lz' 5 (Ql (outs++[out])) t'→
   Kn F H' [] (((w,wO fl fns k vc' s3.n s3.c)::Lg')++Lz')→Q .nrm [(0,.c (.ptr w 0)),(1,.c (.sl f5 5 (Ql sts))),(2,.c (.int .i64 r.length)),(7,.c t'),(8,.c (.int .i64 many)),(9,.c (.int .i64 i))] H') :
  Qah prog Qg1 Q e H:=by
 have hto:=hz.isOw
 have hse:=x.size_eq
 have g10:=kn.getM
 have elen:((r.length:Int)+1)=(((b1::r).length:Nat):Int):=by simp
 obtain⟨s2,hs2⟩:∃s2,Qao fns k x.body ⟨[]::s1.v,s1.c,s1.n⟩=s2:=⟨_,rfl⟩
 obtain⟨s3,hs3⟩:∃s3,Qao fns k x.els ⟨[]::s1.v,s2.c,s2.n⟩=s3:=⟨_,rfl⟩
 have hn2:=Qy3 fns k x.body ⟨[]::s1.v,s1.c,s1.n⟩
 rw[hs2]at hn2
 simp only at hn2
 refine Qa ?_
 simp only[go_sem,f0,f1,f2,f7,f8,f9,f10,g10,hto]
 refine⟨Qo (by omega) (by omega),?_⟩
 rw[elen]
 obtain⟨F',kn',back⟩:=kn.side
 refine hN (Qg x.body) (by omega) x.body false [] (b1::r) ⟨[]::s1.v,s1.c,s1.n⟩ vc Lg F' H _ (Nat.le_refl _) (by rw[hv]) (fun _=>rfl) (by rw[Qn8];exact hg) kn' (by rw[Qn8];exact hrow) (by show s1.n+_≤_;omega) (by simp only[List.length_cons];omega) fun out1 H1 vc1 Lg1 _ hg1 kn=>?_
 have hg1:=hg1 (by simp)
 rw[hs2]at kn
 have kn:=back _ _ kn
 clear back kn'
 have g10:=kn.getM
 simp only[go_sem,Qlw,f0,f1,f2,f7,f8,f9,f10,g10,hto]
 intro H2 h2
 have kn:=kn.stM h2
 have g10:=kn.getM
 refine Qa ?_
 simp only[go_sem,g10,hto]
 refine⟨Qo (by omega) (by omega),?_⟩
 rw[elen]
 obtain⟨F',kn',back⟩:=kn.side
 refine hN (Qg x.els) (by omega) x.els false [] (b1::r) ⟨[]::s1.v,s2.c,s2.n⟩ vc1 Lg1 F' H2 _ (Nat.le_refl _) (by rw[hv]) (fun _=>rfl) (by rw[Qn8];exact hg1) kn' (by rw[Qn8];show _≤s2.n;omega) (by show s2.n+_≤_;omega) (by simp only[List.length_cons];omega) fun out2 H3 vc2 Lg2 _ hg2 kn=>?_
 have hg2:=hg2 (by simp)
 rw[hs3]at kn
 have kn:=back _ _ kn
 clear back kn'
 have g10:=kn.getM
 simp only[go_sem,Qlx,g10,hto]
 intro H4 h4
 have kn:=kn.stM h4
 have g10:=kn.getM
 refine Qn ?_
 simp only[go_sem,g10,hto]
 have kn:Kn F H4 [] ((((w,wO fl fns k vc2 s3.n s3.c)::Lg2)++[(x10,stX x.op nm (.sl false 4 (Q2 ars)) (.sl false 5 (Ql out1)) (.sl false 5 (Ql out2)))])++Lz):=by
  rw[List.append_assoc];exact kn
 refine kn.growR hz (new:=[(St.mk x.op nm ars out1 out2).cells]) (.mk' _ true 5 _) (by simpa using (St.mk x.op nm ars out1 out2).noOw) (by simp only[Qw,List.length_cons,List.length_nil,LIM];omega) fun t' Lz' H5 hz' hto' kn=>?_
 rw[Qn7]at hz'
 simp only[go_sem,Qly,hto']
 refine hQ s2 s3 H5 (St.mk x.op nm ars out1 out2) vc2 Lg2 Lz' t' hs2 hs3 hg2 hz' ?_
 refine kn.sub ?_
 rw[List.append_assoc]
 exact List.Sublist.append (List.Sublist.refl _) (List.sublist_append_right _ _)
theorem Qa8f {w k x10 i many:Nat}{fl f5:Bool}{fns:List Fn}{x:St}{sts:List St}{outs:List St}{ars:List Ex}{t vc:C}{Lz Lg:List (Nat×Obj)}{e:Env}{Q:X→Env→Heap→Prop}{s:Ck}{b:List (List UInt8×Nat)}{r:Vars}
  (hN:∀n,n<x.size→StsW w k fl fns n) (hv:s.v=b::r) (hg:Gp Lg 3 (Qa7 (b::r)) vc) (hz:Gr Lz 5 (Ql outs) t) (ho:outs.length<2^38)
  (kn:Kn F H [] (((w,wO fl fns k vc s.n (Qat fns k (b::r) (Qaa x.args) s.c))::Lg)++((x10,stX x.op x.name (.sl false 4 (Q2 ars)) (.sl false 5 (Ql x.body)) (.sl false 5 (Ql x.els)))::Lz)))
  (hrow:(Qa7 (b::r)).length≤s.n) (hn:s.n+x.size≤2^38) (hr:r.length+x.size≤2^38)
  (f0:lk 0 e=.c (.ptr w 0)) (f1:lk 1 e=.c (.sl f5 5 (Ql sts))) (f2:lk 2 e=.c (.int .i64 r.length)) (f7:lk 7 e=.c t) (f8:lk 8 e=.c (.int .i64 many)) (f9:lk 9 e=.c (.int .i64 i)) (f10:lk 10 e=.c (.ptr x10 0))
  (hQ:∀H' out vc' Lg' Lz' t' b1,(x.ck fns k s).v=b1::r→Gp Lg' 3 (Qa7 (b1::r)) vc'→(Qa7 (b1::r)).length≤(x.ck fns k s).n→Gr Lz' 5 (Ql (outs++[out])) t'→
   Kn F H' [] (((w,wO fl fns k vc' (x.ck fns k s).n (x.ck fns k s).c)::Lg')++Lz')→Q .nrm [(0,.c (.ptr w 0)),(1,.c (.sl f5 5 (Ql sts))),(2,.c (.int .i64 r.length)),(7,.c t'),(8,.c (.int .i64 many)),(9,.c (.int .i64 i))] H') :
  Qah prog Qne Q e H:=by
 have hto:=hz.isOw
 have hse:=x.size_eq
 have how:=hg.isOw
 have g10:=kn.getM
 obtain⟨s1,hs1⟩:∃s1,stC fns k x.op x.name x.args s=s1:=⟨_,rfl⟩
 have hn1:=Qa9u fns k x.op x.name x.args s
 have hr1:=Qa49 fns k x.op x.name x.args s hv hrow
 obtain⟨b1,hv1⟩:=Qa5a fns k x.op x.name x.args s hv
 have hc1:=Qa56 fns k x.op x.name x.args s
 rw[hs1]at hn1 hr1 hv1 hc1
 rw[hv1]at hr1
 rw[hv]at hc1
 have hck:=x.ck_eq fns k s
 rw[hs1]at hck
 have tail:∀(H1:Heap) (e1:Env) (nm:List UInt8) (vc1:C) (Lg1:List (Nat×Obj)),Gp Lg1 3 (Qa7 (b1::r)) vc1→
   Kn F H1 [] (((w,wO fl fns k vc1 s1.n s1.c)::Lg1)++((x10,stX x.op nm (.sl false 4 (Q2 ars)) (.sl false 5 (Ql x.body)) (.sl false 5 (Ql x.els)))::Lz))→
   lk 0 e1=.c (.ptr w 0)→lk 1 e1=.c (.sl f5 5 (Ql sts))→lk 2 e1=.c (.int .i64 r.length)→lk 7 e1=.c t→lk 8 e1=.c (.int .i64 many)→lk 9 e1=.c (.int .i64 i)→lk 10 e1=.c (.ptr x10 0)→
   Qah prog Qg1 Q e1 H1:=by
  intro H1 e1 nm vc1 Lg1 hg1 kn f0 f1 f2 f7 f8 f9 f10
  refine Qa2t hN hv1 hg1 hz ho kn hr1 (by omega) hr f0 f1 f2 f7 f8 f9 f10 fun s2 s3 H' out vc' Lg' Lz' t' e2 e3 hg' hz' kn=>?_
  rw[e2,e3]at hck
  refine hQ H' out vc' Lg' Lz' t' b1 (by rw[hck];exact hv1) hg' ?_ hz' (by rw[hck];exact kn)
  have:=(St.ck_n fns k x s).1
  rw[hck]at this⊢
  have h2:=Qy3 fns k x.body ⟨[]::s1.v,s1.c,s1.n⟩
  have h3:=Qy3 fns k x.els ⟨[]::s1.v,s2.c,s2.n⟩
  rw[e2]at h2
  rw[e3]at h3
  simp only at h2 h3⊢
  omega
 refine Qz ?_
 refine Qa ?_
 simp only[go_sem,f0,f1,f2,f7,f8,f9,f10,g10,hto]
 refine Qe (Qc rfl ?_ ?_)
 ·intro hc
  have h1:x.op=1:=by simpa using hc
  have es1:s1=⟨((x.name,s.n)::b)::r,Qcb (Qat fns k (b::r) (Qaa x.args) s.c) (if Qgl (b::r) x.name then 2 else 0),s.n+1⟩:=by
   rw[←hs1,stC,if_pos h1,hv];rfl
  rw[es1]at tail hv1
  simp only[List.cons.injEq]at hv1
  obtain⟨hb1,_⟩:=hv1
  subst hb1
  refine Qn ?_
  simp only[go_sem,g10,hto]
  obtain⟨F',kn',back⟩:=kn.side
  refine Qa2u hg kn' (by omega) (by simp only[LIM];omega) fun t2 H1 vc1 Lg1 hg1 kn=>?_
  have kn:=back _ _ kn
  have g10:=kn.getM
  simp only[go_sem,Qnj,g10,hto]
  intro H2 h2
  have kn:=kn.stM h2
  have g10:=kn.getM
  try simp only[go_sem,AE.X.next,hto]
  refine Qz ?_
  refine Qa ?_
  simp only[go_sem,g10,hto]
  refine Qe (Qc rfl (fun h=>?_) (fun _=>?_))
  ·have:=of_decide_eq_true h;omega
  ·refine Qf ?_
   try simp only[go_sem,AE.X.next,hto]
   exact tail _ _ t2 vc1 Lg1 hg1 kn rfl rfl rfl rfl rfl rfl rfl
 ·intro hc
  have h1:¬x.op=1:=by simpa using hc
  refine Qf ?_
  try simp only[go_sem,AE.X.next,hto]
  refine Qz ?_
  refine Qa ?_
  simp only[go_sem,g10,hto]
  refine Qe (Qc rfl ?_ ?_)
  ·intro hc2
   have h2:x.op=2:=by simpa using hc2
   have es1:s1=⟨b::r,Qcb (Qat fns k (b::r) (Qaa x.args) s.c) (if (Vars.find (b::r) x.name).isSome then 0 else 3),s.n⟩:=by
    rw[←hs1,stC,if_neg h1,if_pos h2,hv]
   rw[es1]at tail hv1
   simp only[List.cons.injEq]at hv1
   obtain⟨hb1,_⟩:=hv1
   subst hb1
   refine Qn ?_
   simp only[go_sem,g10,hto]
   refine Qa2w how (kn.l 0 rfl) (hg.slc fun p hp=>(kn.get p (by simp[hp])).1) fun t2 H1 hu=>?_
   have kn:Kn F H1 [] (((w,wO fl fns k vc s.n (Qcb (Qat fns k (b::r) (Qaa x.args) s.c) (if (Vars.find (b::r) x.name).isSome then 0 else 3)))::Lg)++((x10,stX x.op x.name (.sl false 4 (Q2 ars)) (.sl false 5 (Ql x.body)) (.sl false 5 (Ql x.els)))::Lz)):=kn.callL 0 rfl hu (by nofun)
   have g10:=kn.getM
   simp only[go_sem,Qnk,g10,hto]
   intro H2 h2
   have kn:=kn.stM h2
   try simp only[go_sem,AE.X.next,hto]
   exact tail _ _ t2 vc Lg hg kn rfl rfl rfl rfl rfl rfl rfl
  ·intro hc2
   have h2:¬x.op=2:=by simpa using hc2
   have es1:s1=⟨b::r,Qat fns k (b::r) (Qaa x.args) s.c,s.n⟩:=by
    rw[←hs1,stC,if_neg h1,if_neg h2,hv]
   rw[es1]at tail hv1
   simp only[List.cons.injEq]at hv1
   obtain⟨hb1,_⟩:=hv1
   subst hb1
   refine Qf ?_
   try simp only[go_sem,AE.X.next,hto]
   exact tail _ _ x.name vc Lg hg kn rfl rfl rfl rfl rfl rfl rfl
theorem Qa2v (w k:Nat)(fl:Bool)(fns:List Fn):∀n,StsW w k fl fns n:=by
 intro n
 induction n using Nat.strongRecOn with
 |_ n ih=>
 intro sts f5 b r s vc Lg F H K hn hsv hbr hg kn hrow hsn hrl hK
 have how:=hg.isOw
 have hslen:=Qg4 sts
 refine Qax5 ?_
 refine Qb Qaj Qadi ?_
 refine Qa ?_
 simp only[go_sem]
 refine Qa ?_
 simp only[go_sem]
 have gw:=kn.l 0 rfl
 have hs0:=hg.slc fun p hp=>(kn.get p (by simp[hp])).1
 have hok0:=eq_true hs0.ok
 have hln0:=hs0.len
 refine Qa ?_
 simp only[go_sem,gw,how,hok0,hln0]
 intro hl0
 simp only[LIM]at hl0
 refine Qz ?_
 refine Qa ?_
 simp only[go_sem]
 refine Qe (Qd (Qt (fun m e1 H1=>∃(i:Nat) (outs:List St) (Lz Lgi:List (Nat×Obj)) (t vci:C) (bi:List (List UInt8×Nat)),m=sts.length-i∧i≤sts.length∧(Qao fns k (sts.take i) s).v=bi::r∧Gr Lz 5 (Ql outs) t∧outs.length=i∧
   Gp Lgi 3 (Qa7 (bi::r)) vci∧(Qa7 (bi::r)).length≤(Qao fns k (sts.take i) s).n∧Kn F H1 [] (((w,wO fl fns k vci (Qao fns k (sts.take i) s).n (Qao fns k (sts.take i) s).c)::Lgi)++Lz)∧
   e1=[(0,.c (.ptr w 0)),(1,.c (.sl f5 5 (Ql sts))),(2,.c (.int .i64 r.length)),(7,.c t),(8,.c (.int .i64 (Qa7 (b::r)).length)),(9,.c (.int .i64 i))]) sts.length ?_ ?_))
 ·exact⟨0,[],[],Lg,.sl true 5 [],vc,b,by omega,by omega,by simpa[Qao]using hsv,.nil 5,rfl,hg,by simpa[Qao]using hrow,by simpa[Qao]using kn,rfl⟩
 ·clear kn gw hs0 hok0 hln0
  rintro m e1 H1 ⟨i,outs,Lz,Lgi,t,vci,bi,hm,hi,hvi,hz,hol,hgi,hri,kn,rfl⟩
  have hni:=Qy3 fns k (sts.take i) s
  have hsl:=Qca sts i
  obtain⟨si,hsi⟩:∃si,Qao fns k (sts.take i) s=si:=⟨_,rfl⟩
  rw[hsi]at hvi kn hri hni
  have hto:=hz.isOw
  have howi:=hgi.isOw
  refine Qz ?_
  refine Qa ?_
  simp only[go_sem,hto,Qw]
  intro hl
  simp only[LIM]at hl
  refine Qe (Qc rfl ?_ ?_)
  ·intro hc
   have hlt:i<sts.length:=by simpa using hc
   have hms:=Qai (List.getElem_mem hlt)
   obtain⟨x,hx⟩:∃x,sts[i]=x:=⟨_,rfl⟩
   have htk:=Qaif fns k hlt s
   have hst:=Ql0 hlt
   have hsl2:=Qca sts (i+1)
   rw[hx]at hms hst
   rw[hsi,hx]at htk
   have hse:=x.size_eq
   refine Qf ?_
   try simp only[go_sem]
   refine Qe (Qd ?_)
   refine Qa ?_
   simp only[go_sem,hto,hlt,Qw,Qar _ _ hlt,hx,x.cells_eq]
   intro x10 hx10 H3 h3
   have kn:Kn F H3 [] (((w,wO fl fns k vci si.n si.c)::Lgi)++((x10,stX 0 [] (.sl true 4 []) (.sl true 5 []) (.sl true 5 []))::Lz)):=(kn.al hx10 h3).perm (by
    rw[List.append_assoc]
    exact List.Perm.append_left _ (List.perm_append_comm (l₁:=Lz) (l₂:=[(x10,_)])))
   have g10:=kn.getM
   simp only[go_sem,Qng,g10,hto]
   intro H4 h4
   have kn:Kn F H4 [] (((w,wO fl fns k vci si.n si.c)::Lgi)++((x10,stO x)::Lz)):=kn.stM h4
   have g10:=kn.getM
   refine Qa ?_
   simp only[go_sem,hto]
   refine Qz ?_
   refine Qa ?_
   simp only[go_sem,hto]
   refine Qe (Qd (Qt (fun m e2 H5=>∃(j:Nat) (ars:List Ex) (La:List (Nat×Obj)) (ta:C),m=x.args.length-j∧j≤x.args.length∧Gr La 4 (Q2 ars) ta∧ars.length=j∧
    Kn F H5 [] ((((w,wO fl fns k vci si.n (Qat fns k (bi::r) (Qaa (x.args.take j)) si.c))::Lgi)++((x10,stO x)::Lz))++La)∧
    e2=[(0,.c (.ptr w 0)),(1,.c (.sl f5 5 (Ql sts))),(2,.c (.int .i64 r.length)),(7,.c t),(8,.c (.int .i64 (Qa7 (b::r)).length)),(9,.c (.int .i64 i)),(10,.c (.ptr x10 0)),(11,.c ta),(12,.c (.int .i64 j))]) x.args.length ?_ ?_))
   ·exact⟨0,[],[],.sl true 4 [],by omega,by omega,.nil 4,rfl,by simpa[Qaa,Qat]using kn,rfl⟩
   ·clear kn g10 h4 h3
    rintro m2 e2 H5 ⟨j,ars,La,ta,hm2,hj,hga,hars,kn,rfl⟩
    have hao:=hga.isOw
    have kn2:Kn F H5 [] (((w,wO fl fns k vci si.n (Qat fns k (bi::r) (Qaa (x.args.take j)) si.c))::Lgi)++((x10,stO x)::(Lz++La))):=by
     rw[List.append_assoc]at kn;exact kn
    have g10:=kn2.getM
    refine Qz ?_
    refine Qa ?_
    simp only[go_sem,hto,hao,g10,Qi]
    intro hl2
    simp only[LIM]at hl2
    refine Qe (Qc rfl ?_ ?_)
    ·intro hc2
     have hlt2:j<x.args.length:=by simpa using hc2
     have hms2:=Qad (List.getElem_mem hlt2)
     obtain⟨y,hy⟩:∃y,x.args[j]=y:=⟨_,rfl⟩
     have htk2:=Qda hlt2
     rw[hy]at hms2 htk2
     refine Qf ?_
     try simp only[go_sem]
     refine Qe (Qd ?_)
     refine Qn ?_
     simp only[go_sem,hto,hao,g10,hlt2,Qi,Qag _ _ hlt2,hy,y.cells_eq]
     have hE:=fun K=>Qa5y (k:=k) (w:=w) (cnt:=si.n) (fl:=fl) (fns:=fns) hgi y.size y (Qat fns k (bi::r) (Qaa (x.args.take j)) si.c) H5 K
     rw[y.cells_eq]at hE
     have hnd:(w::Lgi.map Prod.fst).Nodup:=by
      have:=kn2.dL
      rw[List.map_append]at this
      exact (List.nodup_append.1 this).1
     refine hE _ (Nat.le_refl _) (by omega) hnd (fun p hp=>(kn2.get p (by simp only[List.nil_append];exact List.mem_append_left _ hp)).1) fun z H6 hu=>?_
     have kn:=Kn.callLs (L:=(w,wO fl fns k vci si.n (Qat fns k (bi::r) (Qaa (x.args.take j)) si.c))::Lgi) (M:=(x10,stO x)::(Lz++La)) kn2 hu rfl (by
      intro p hp
      rcases List.mem_cons.1 hp with rfl|hp
      ·nofun
      ·exact hgi.ne p hp)
     simp only[go_sem,Qni,hto,hao,z.cells_len]
     have kn:Kn F H6 [] ((((w,wO fl fns k vci si.n (Qat fns k (bi::r) y.pre (Qat fns k (bi::r) (Qaa (x.args.take j)) si.c)))::Lgi)++((x10,stO x)::Lz))++La):=by
      rw[List.append_assoc];exact kn
     refine kn.growR hga (.mk' _ true 4 _) (by simpa using z.noOw) (by simp only[Qi,List.length_cons,List.length_nil,LIM];omega) fun ta' La' H7 hga' hao' kn=>?_
     rw[Qe3]at hga'
     simp only[go_sem,Qnh,hto,hao']
     refine Qn ?_
     simp only[go_sem,AE.X.next,hto,hao']
     refine⟨Qo (by omega) (by omega),x.args.length-(j+1),by omega,j+1,ars++[z],La',ta',rfl,by omega,hga',by simp[hars],?_,rfl⟩
     rw[htk2,Q1w]
     exact kn
    ·intro hc2
     have hge2:x.args.length≤j:=by simpa using hc2
     rw[List.take_of_length_le hge2]at kn
     refine Qu ?_
     simp only[go_sem,AE.X.next]
     obtain⟨S,H6,f1,f2,kn⟩:=hga.freeze kn (Qe2 _)
     refine Qz ?_
     refine c_gh (Qav4 S (Qa80 ?_) f2) (e':=[(0,.c (.ptr w 0)),(1,.c (.sl f5 5 (Ql sts))),(2,.c (.int .i64 r.length)),(7,.c t),(8,.c (.int .i64 (Qa7 (b::r)).length)),(9,.c (.int .i64 i)),(10,.c (.ptr x10 0)),(11,.c (.sl false 4 (Q2 ars)))]) ?_
     ·intro p hp
      simp only[List.mem_cons,List.not_mem_nil,or_false]at hp
      rcases hp with rfl|rfl|rfl|rfl|rfl|rfl|rfl|rfl
      ·exact .c _ _ (.same _ rfl)
      ·exact .c _ _ (.same _ rfl)
      ·exact .c _ _ (.same _ rfl)
      ·exact .c _ _ (.same _ hto)
      ·exact .c _ _ (.same _ rfl)
      ·exact .c _ _ (.same _ rfl)
      ·exact .c _ _ (.same _ rfl)
      ·exact .c _ _ f1
     have g10:=kn.getM
     refine Qa ?_
     simp only[go_sem,hto,g10]
     intro H7 h7
     have kn:=kn.stM h7
     refine Qa8f (fun n' hn'=>ih n' (by omega)) hvi hgi hz (by omega) kn hri (by omega) (by omega) rfl rfl rfl rfl rfl rfl rfl fun H8 out vc8 Lg8 Lz8 t8 b8 hv8 hg8 hr8 hz8 kn=>?_
     have hto8:=hz8.isOw
     simp only[go_sem,AE.X.next,hto8]
     refine Qn ?_
     simp only[go_sem,AE.X.next,hto8]
     refine⟨Qo (by omega) (by omega),sts.length-(i+1),by omega,i+1,outs++[out],Lz8,Lg8,t8,vc8,b8,rfl,by omega,?_,hz8,by simp[hol],hg8,?_,?_,rfl⟩
     ·rw[htk];exact hv8
     ·rw[htk];exact hr8
     ·rw[htk];exact kn
  ·intro hc
   have hge:sts.length≤i:=by simpa using hc
   rw[List.take_of_length_le hge]at hsi
   have gw:=kn.l 0 rfl
   have hsi2:=hgi.slc fun p hp=>(kn.get p (by simp[hp])).1
   have hoki:=eq_true hsi2.ok
   have hlni:=hsi2.len
   have hszi:=hsi2.sz
   refine Qu ?_
   simp only[go_sem,AE.X.next]
   have fin:∀(H':Heap) (e':Env) (vc':C),(r=[]→Gp Lgi 3 (Qa7 si.v) vc')→(r≠[]→Gp Lgi 3 (Qa7 r) vc')→Kn F H' [] (((w,wO fl fns k vc' si.n si.c)::Lgi)++Lz)→lk 7 e'=.c t→Qah prog Qnf (Q0 Qaae (finK K)) e' H':=by
    intro H' e' vc' h1 h2 kn f7
    refine Qa ?_
    simp only[go_sem,f7,hto]
    refine Qh ?_
    simp only[go_sem,Q0,Q6,Qaae,List.mem_singleton,forall_eq,RS.op,hto]
    obtain⟨S,H6,f1,f2,kn⟩:=hz.freeze kn (Qfg _)
    refine⟨S,_,H6,.c _ _ f1,f2,?_⟩
    rw[hsi]at hK
    exact hK outs H6 vc' Lgi h1 h2 kn
   refine Qz ?_
   refine Qa ?_
   simp only[go_sem,hto]
   refine Qe (Qc rfl ?_ ?_)
   ·intro hc2
    have hr0:r≠[]:=by
     intro h;rw[h]at hc2;simp at hc2
    have hb0:=hbr hr0
    rw[hb0,Qn8]
    have hle:=Qa5x bi r
    have hcut:=hgi.cut hle
    rw[Qaxx]at hcut
    refine Qn ?_
    simp only[go_sem,gw,howi,hto,hoki,hlni,hszi,bnds,Option.map_none,Option.map_some,Option.getD_none,Option.getD_some]
    refine⟨⟨by omega,by omega⟩,?_⟩
    intro H7 h7
    have hco:=hcut.isOw
    have kn:=kn.stL 0 rfl h7
    try simp only[go_sem,AE.X.next,hto]
    exact fin _ _ _ (fun h=>absurd h hr0) (fun _=>hcut) kn rfl
   ·intro hc2
    have hr0:r=[]:=by
     cases hr:r with
     |nil=>rfl
     |cons a q=>rw[hr]at hc2;simp only[List.length_cons,decide_eq_false_iff_not]at hc2;omega
    refine Qf ?_
    try simp only[go_sem,AE.X.next,hto]
    exact fin _ _ vci (fun _=>by rw[hvi];exact hgi) (fun h=>absurd hr0 h) kn rfl
end Go.AE.Y

namespace Go.AE
variable {H0 H H' F:Heap}{E L B A M:List (Nat×Obj)}{p:Nat×Obj}
theorem Kn.stM2 {x:Nat}{o o':Obj}(kn:Kn H0 H E (A++p::(x,o)::B))(h1:H'=H.set x o')(ho:o'≠.none:=by nofun):Kn H0 H' E (A++p::(x,o')::B):=by
 have k2:Kn H0 H E ((A++[p])++(x,o)::B):=by rw[List.append_assoc];exact kn
 have k3:=k2.stM h1 ho
 rw[List.append_assoc]at k3
 exact k3
theorem Kn.getM2 {x:Nat}{o:Obj}(kn:Kn H0 H E (A++p::(x,o)::B)):H x=o:=(kn.get (x,o) (by simp)).1
end Go.AE
namespace Go.AE.Y
attribute [local go_sem] cond_true cond_false Bool.not_true Bool.not_false
open Go.Proofs.Tryz
variable {H H0 F:Heap}{K:V→Heap→Prop}{E E' L:List (Nat×Obj)}
theorem Qa85 (l:List Fn)(s:List UInt8)(k:Nat):decide (ixI (Qle l s)=(k:Int))=decide (Qle l s=some k):=by
 rw[decide_eq_decide]
 cases Qle l s with
 |none=>simp only[ixI];constructor
        ·intro h;omega
        ·intro h;cases h
 |some j=>simp only[ixI,Option.some.injEq];omega
theorem Qa86 {fns:List Fn}{fl:Bool}{k:Nat}(hk:k<fns.length)(hb:Qg fns[k].body≤2^36)(hp:fns[k].params.length≤2^30)
  (hK:∀(f':Fn) (cnt:Nat) H',Upd H H' []→K (.tup [.ag f'.cells,.c (.int .i64 (fnCk fns k).c),.c (.int .i64 cnt)]) H'):Qj prog Qaqn [.ag [.sl fl 3 (Qm fns)],.c (.int .i64 k)] H K:=by
 obtain⟨f,hfe⟩:∃f,fns[k]=f:=⟨_,rfl⟩
 have hfc:fnCk fns k=Qao fns k f.body (Qxi f.params ⟨[[]],ixC fns k f.name,0⟩):=by
  rw[fnCk,List.getElem?_eq_getElem hk,hfe];rfl
 rw[hfe]at hb hp
 obtain⟨s0,hs0⟩:∃s0:Ck,(⟨[[]],ixC fns k f.name,0⟩:Ck)=s0:=⟨_,rfl⟩
 rw[hs0]at hfc
 have hs0v:s0.v=[[]]:=by rw[←hs0]
 have hs0n:s0.n=0:=by rw[←hs0]
 have hs0c:s0.c=ixC fns k f.name:=by rw[←hs0]
 refine Q8 ?_
 refine Qb Qaj Qa9c ?_
 refine Qa ?_
 simp only[go_sem]
 intro x4 hx4 H1 h1
 have kn:=(Kn.start0 H).al hx4 h1
 simp only[go_sem,Qaoj]
 refine Qa ?_
 simp only[go_sem]
 intro w hw H2 h2
 have kn:=kn.al hw h2
 simp only[go_sem,Qaok]
 refine Qa ?_
 simp only[go_sem,hk,Qp,Qam _ _ hk,hfe,Fn.cells]
 intro x8 hx8 H3 h3
 have kn:=kn.al hx8 h3
 have g8:=kn.l 2 rfl
 simp only[go_sem,Qaol,g8]
 intro H4 h4
 have kn:=kn.stL 2 rfl h4
 have kn:Kn H H4 [] (((w,wO fl fns k (.sl true 3 []) 0 0)::[])++(x4,.st [.str [],.sl true 1 [],.sl true 5 []])::(x8,fnO f)::[]):=kn.perm (.swap _ _ _)
 have g8:=kn.getM2
 refine Qz ?_
 refine Qa ?_
 simp only[go_sem,g8]
 refine Qavc ?_
 have hix:=Qa85 fns f.name k
 simp only[go_sem,Qaom,hix]
 have two:∀(H1:Heap) (e1:Env),Kn H H1 [] (((w,wO fl fns k (.sl true 3 []) 0 (ixC fns k f.name))::[])++(x4,.st [.str [],.sl true 1 [],.sl true 5 []])::(x8,fnO f)::[])→lk 4 e1=.c (.ptr x4 0)→lk 7 e1=.c (.ptr w 0)→lk 8 e1=.c (.ptr x8 0)→
   Qah prog Qaoi (Q0 Qa0u (unK H K)) e1 H1:=by
  intro H1 e1 kn f4 f7 f8
  have kn:Kn H H1 [] (((w,wO fl fns k (.sl true 3 []) s0.n s0.c)::[])++(x4,.st [.str [],.sl true 1 [],.sl true 5 []])::(x8,fnO f)::[]):=by rw[hs0n,hs0c];exact kn
  refine Qa ?_
  simp only[go_sem,f4,f7,f8]
  refine Qz ?_
  refine Qa ?_
  simp only[go_sem]
  refine Qe (Qd (Qt (fun m e2 H2=>∃(j:Nat) (ps:List (List UInt8)) (Lg Lp:List (Nat×Obj)) (vc t:C) (bj:List (List UInt8×Nat)),m=f.params.length-j∧j≤f.params.length∧(Qxi (f.params.take j) s0).v=[bj]∧(Qxi (f.params.take j) s0).n=j∧(Qa7 [bj]).length≤j∧
   Gp Lg 3 (Qa7 [bj]) vc∧Gr Lp 1 (Qy ps) t∧ps.length=j∧
   Kn H H2 [] (((w,wO fl fns k vc (Qxi (f.params.take j) s0).n (Qxi (f.params.take j) s0).c)::Lg)++(x4,.st [.str [],.sl true 1 [],.sl true 5 []])::(x8,fnO f)::Lp)∧
   e2=[(4,.c (.ptr x4 0)),(7,.c (.ptr w 0)),(8,.c (.ptr x8 0)),(9,.c t),(10,.c (.int .i64 j))]) f.params.length ?_ ?_))
  ·exact⟨0,[],[],[],.sl true 3 [],.sl true 1 [],[],by omega,by omega,hs0v,hs0n,by simp[Qa7,vT],.nil 3,.nil 1,rfl,kn,rfl⟩
  ·clear kn
   rintro m e2 H2 ⟨j,ps,Lg,Lp,vc,t,bj,hm,hj,hvj,hnj,hrj,hg,hgp,hps,kn,rfl⟩
   obtain⟨sj,hsj⟩:∃sj,Qxi (f.params.take j) s0=sj:=⟨_,rfl⟩
   rw[hsj]at hvj kn hnj
   have hto:=hgp.isOw
   have g8:=kn.getM2
   refine Qz ?_
   refine Qa ?_
   simp only[go_sem,g8,hto,Qr]
   intro hl
   simp only[LIM]at hl
   refine Qe (Qc rfl ?_ ?_)
   ·intro hc
    have hlt:j<f.params.length:=by simpa using hc
    obtain⟨p,hpe⟩:∃p,f.params[j]=p:=⟨_,rfl⟩
    have hpd:f.params.getD j []=p:=by simp[List.getD_eq_getElem?_getD,hlt,hpe]
    have htk:=Qam5 hlt s0
    rw[hsj,hpe,hvj]at htk
    refine Qf ?_
    try simp only[go_sem]
    refine Qe (Qd ?_)
    refine Qn ?_
    simp only[go_sem,g8,hto,hlt,Qr,Qck _ _ hlt,hpd]
    obtain⟨F',kn',back⟩:=kn.side
    refine Qa2u (r:=[]) hg kn' (by omega) (by simp only[LIM];omega) fun t2 H5 vc' Lg' hg' kn=>?_
    have kn:=back _ _ kn
    simp only[go_sem,Qaoo,hto]
    have kn:Kn H H5 [] ((((w,wO fl fns k vc' (sj.n+1) (Qcb sj.c (if Qgl [bj] p then 2 else 0)))::Lg')++[(x4,.st [.str [],.sl true 1 [],.sl true 5 []]),(x8,fnO f)])++Lp):=by rw[List.append_assoc];exact kn
    refine kn.growR hgp (.mk' _ true 1 _) (by simp[noOw,C.isOw]) (by simp only[Qr,List.length_cons,List.length_nil,LIM];omega) fun t' Lp' H6 hgp' hto' kn=>?_
    rw[Qpq]at hgp'
    simp only[go_sem,Qaon,hto']
    refine Qn ?_
    simp only[go_sem,AE.X.next,hto']
    refine⟨Qo (by omega) (by omega),f.params.length-(j+1),by omega,j+1,ps++[t2],Lg',Lp',vc',t',(p,sj.n)::bj,rfl,by omega,?_,?_,?_,hg',hgp',by simp[hps],?_,rfl⟩
    ·rw[htk];simp[Qr6]
    ·rw[htk];simp[hnj]
    ·rw[Qadc];simp only[List.length_append,List.length_singleton];omega
    ·rw[htk];rw[List.append_assoc]at kn;exact kn
   ·intro hc
    have hge:f.params.length≤j:=by simpa using hc
    rw[List.take_of_length_le hge]at hsj
    rw[hsj]at hfc
    refine Qu ?_
    simp only[go_sem,AE.X.next]
    refine Qa ?_
    simp only[go_sem,g8,hto]
    intro H5 h5
    have kn:=kn.stM2 h5
    have g8:=kn.getM2
    refine Qa ?_
    simp only[go_sem,g8,hto]
    obtain⟨F',kn',back⟩:=kn.side
    refine Qa2v w k fl fns (Qg f.body) f.body false bj [] sj vc Lg F' H5 _ (Nat.le_refl _) hvj (fun h=>absurd rfl h) hg kn' (by omega) (by omega) (by simp only[List.length_nil];omega) fun out H6 vc' Lg' _ _ kn=>?_
    have kn:=back _ _ kn
    rw[←hfc]at kn
    have g8:=kn.getM2
    simp only[go_sem,Qah8,g8,hto]
    intro H7 h7
    have kn:=kn.stM2 h7
    have g8:=kn.getM2
    have g4:=kn.getM
    have gw:=kn.l 0 rfl
    refine Qeo ?_
    simp only[go_sem,g8,g4,gw,hto]
    intro H8 h8
    have kn:=kn.stM h8
    have g8:=kn.getM2
    have g4:=kn.getM
    have gw:=kn.l 0 rfl
    simp only[go_sem,Qah9,g8,g4,gw,hto]
    refine Qh ?_
    simp only[go_sem,Q0,Q6,Qa0u,List.forall_mem_cons,List.not_mem_nil,RS.op,g4,hto]
    have kn2:Kn H H8 [] ((((w,wO fl fns k vc' (fnCk fns k).n (fnCk fns k).c)::Lg')++[(x4,.st [.str f.name,t,.sl false 5 (Ql out)]),(x8,.st [.str f.name,t,.sl false 5 (Ql out)])])++Lp):=by rw[List.append_assoc];exact kn
    refine⟨fun _=>trivial,.tup [.ag (Fn.cells ⟨f.name,ps,out⟩),.c (.int .i64 (fnCk fns k).c),.c (.int .i64 (fnCk fns k).n)],.tup _ _ rfl (fun j x x' h1 h2=>?_),hK ⟨f.name,ps,out⟩ _ _ kn.fin⟩
    rcases j with _|_|_|j
    ·simp only[List.getElem?_cons_zero,Option.some.injEq]at h1 h2
     subst h1 h2
     exact (FrzL.cons (Qk rfl) (.cons (hgp.frz kn2 (Qd2 _)) (.cons (Qk rfl) .nil))).ag
    ·simp only[List.getElem?_cons_succ,List.getElem?_cons_zero,Option.some.injEq]at h1 h2
     subst h1 h2
     exact .c _ _ (Qk rfl)
    ·simp only[List.getElem?_cons_succ,List.getElem?_cons_zero,Option.some.injEq]at h1 h2
     subst h1 h2
     exact .c _ _ (Qk rfl)
    ·simp at h1
 refine Qe (Qc rfl ?_ ?_)
 ·intro hc
  have hne:¬Qle fns f.name=some k:=by simpa using hc
  rw[ixC,if_neg hne]at two
  refine Qn ?_
  simp only[go_sem]
  refine Q03 rfl (kn.l 0 rfl) fun H5 hu=>?_
  have kn:=kn.callL 0 rfl hu (by nofun)
  simp only[go_sem,AE.X.next]
  exact two _ _ kn rfl rfl rfl
 ·intro hc
  have he:Qle fns f.name=some k:=by simpa using hc
  rw[ixC,if_pos he]at two
  refine Qf ?_
  simp only[go_sem,AE.X.next]
  exact two _ _ kn rfl rfl rfl
theorem Qa16 {l:List Fn}{fl:Bool}(hf:Q1 l≤2^36)(hK:∀H',Upd H H' []→K (.c (.int .i64 (Q5s l))) H'):Qj prog Qfu [.ag [.sl fl 3 (Qm l)]] H K:=by
 refine Q8 ?_
 refine Qb Qaj Q1s ?_
 have retf:∀(b:Int) (e:Env) (H':Heap) (L:List (Nat×Obj)),Q5s l=b→Kn H H' [] L→lk 2 e=.c (.int .i64 b)→Q0 Qgm (unK H K) .ret e H':=by
  intro b e H' L hf kn h4
  simp only[go_sem,Q0,Q6,Qgm,List.mem_singleton,forall_eq,RS.op,h4]
  refine⟨_,.c _ _ (Qk rfl),?_⟩
  rw[←hf];exact hK _ kn.fin
 have kn:=Kn.start0 H
 refine Qa ?_
 simp only[go_sem]
 refine Qz ?_
 refine Qa ?_
 simp only[go_sem]
 refine Q86 (by omega) ?_
 simp only[go_sem,Qii]
 refine Qe (Qc rfl ?_ ?_)
 ·intro hc
  have hb:Qmb l=false:=by simpa using hc
  refine Qa ?_
  simp only[go_sem]
  refine Qh ?_
  simp only[go_sem,AE.X.next]
  exact retf 1 _ _ _ (by rw[Q5s,hb];rfl) kn rfl
 intro hc
 have hb:Qmb l=true:=by simpa using hc
 have hpc:Q5s l=ckK l l.length:=by rw[Q5s,if_pos hb]
 have hv:=hb
 simp only[Qmb,Bool.and_eq_true,decide_eq_true_eq,List.all_eq_true]at hv
 refine Qf ?_
 try simp only[go_sem]
 refine Qz ?_
 refine Qa ?_
 simp only[go_sem]
 refine Qe (Qd (Qt (fun m e1 H1=>∃(i:Nat),m=l.length-i∧i≤l.length∧Kn H H1 [] []∧ckK l i=0∧e1=[(1,.c (.pp [.sl fl 3 (Qm l)])),(3,.c (.int .i64 i))]) l.length ?_ ?_))
 ·exact⟨0,by omega,by omega,kn,rfl,rfl⟩
 ·clear kn
  rintro m e1 H1 ⟨i,hm,hi,kn,hc0,rfl⟩
  refine Qz ?_
  refine Qa ?_
  simp only[go_sem,Qp]
  intro hl
  simp only[LIM]at hl
  refine Qe (Qc rfl ?_ ?_)
  ·intro hc
   have hlt:i<l.length:=by simpa using hc
   have hms:=Qcd (List.getElem_mem hlt)
   have hfm:=hv.1.2 _ (List.getElem_mem hlt)
   have hpl:l[i].params.length≤3:=by
    rw[Fn.form]at hfm
    simp only[Bool.and_eq_true,decide_eq_true_eq]at hfm
    exact hfm.1.2
   have hsu:=Qaio l i
   rw[hc0]at hsu
   refine Qf ?_
   try simp only[go_sem]
   refine Qe (Qd ?_)
   refine Qa ?_
   simp only[go_sem]
   refine Qa86 hlt (by omega) (by omega) fun f' cnt H2 hu=>?_
   have kn:=kn.call0 hu
   simp only[go_sem,Qil,List.getD_cons_zero,List.getD_cons_succ,Fn.cells]
   intro x4 hx4 H3 h3
   have kn:=kn.al hx4 h3
   have g4:=kn.l 0 rfl
   simp only[go_sem,Qik,g4,Fn.cells]
   intro H4 h4
   have kn:=kn.stL 0 rfl h4
   simp only[go_sem,Qij]
   refine Qa ?_
   simp only[go_sem]
   refine Qc rfl ?_ ?_
   ·intro hc2
    have hne:(fnCk l i).c≠0:=by simpa using hc2
    refine Qa ?_
    simp only[go_sem]
    refine Qh ?_
    simp only[go_sem,AE.X.next]
    refine retf _ _ _ _ ?_ kn rfl
    rw[hpc]
    exact Qa25 l (by rw[hsu,Qcb,if_pos rfl]) hne _ (by omega)
   ·intro hc2
    have he:(fnCk l i).c=0:=by simpa using hc2
    refine Qf ?_
    try simp only[go_sem]
    refine Qn ?_
    simp only[go_sem,AE.X.next]
    refine⟨Qo (by omega) (by omega),l.length-(i+1),by omega,i+1,rfl,by omega,Kn.drop (A:=[]) kn,?_,rfl⟩
    rw[hsu,he];rfl
  ·intro hc
   have hge:l.length≤i:=by simpa using hc
   have hil:i=l.length:=by omega
   subst hil
   refine Qu ?_
   simp only[go_sem,AE.X.next]
   refine Qa ?_
   simp only[go_sem]
   refine Qh ?_
   exact retf 0 _ _ _ (by rw[hpc,hc0]) kn rfl
theorem Qavb {l:List Fn}{fl:Bool}(hf:Q1 l≤2^36)(hK:∀H',Upd H H' []→K (.c (.bool (Qmp l))) H'):Qj prog Qzh [.ag [.sl fl 3 (Qm l)]] H K:=by
 refine Qb Qaj Qa4j ?_
 refine Qa ?_
 simp only[go_sem]
 refine Qa ?_
 simp only[go_sem]
 refine Qa16 hf fun H1 hu=>?_
 simp only[go_sem,Qabx]
 refine Qh ?_
 simp only[go_sem,Q0,Q6,Qgm,List.mem_singleton,forall_eq,RS.op]
 exact hK _ hu
end Go.AE.Y

namespace Go.AE.Y
structure InsD where
 op:Int
 to:Int
 args:List Int
 n:Int
def InsD.cells (x:InsD):List C:=[.int .i64 x.op,.int .i64 x.to,.sl false 1 (Qq x.args),.int .i64 x.n]
structure PhiD where
 to:Int
 args:List Int
def PhiD.cells (x:PhiD):List C:=[.int .i64 x.to,.sl false 1 (Qq x.args)]
def Qa7b (l:List InsD):List (List C):=l.map InsD.cells
def Qa9g (l:List PhiD):List (List C):=l.map PhiD.cells
structure BlkD where
 phis:List PhiD
 ins:List InsD
 jump:Int
 on:Int
 next:List Int
def BlkD.cells (x:BlkD):List C:=[.sl false 2 (Qa9g x.phis),.sl false 4 (Qa7b x.ins),.int .i64 x.jump,.int .i64 x.on,.sl false 1 (Qq x.next)]
def Qa8l (l:List BlkD):List (List C):=l.map BlkD.cells
structure CodeD where
 params:Int
 regs:Int
 blocks:List BlkD
def CodeD.cells (x:CodeD):List C:=[.int .i64 x.params,.int .i64 x.regs,.sl false 5 (Qa8l x.blocks)]
def Qayl (l:List CodeD):List (List C):=l.map CodeD.cells
theorem Qav5 (l:List InsD):∀r∈Qa7b l,noOw r=true:=by intro r hr;obtain⟨x,_,rfl⟩:=List.mem_map.1 hr;rfl
variable {H:Heap}{S:Nat→Bool}
theorem Gr.frzM {Lg:List (Nat×Obj)}{sz:Nat}{rows rows':List (List C)}{c:C}(h:Gr Lg sz rows c)(hm:∀p∈Lg,H p.1=p.2∧S p.1=true)(hr:FrzR H S rows rows'):FrzC H S c (.sl false sz rows'):=by
 rcases h with ⟨rfl,rfl,rfl⟩|⟨y,rfl,rfl⟩
 ·cases hr;exact FrzR.nil.sl
 ·obtain⟨h1,h2⟩:=hm (y,.vec sz rows) (by simp)
  exact hr.vsl h2 h1 rfl
def CodeD.fits (c:CodeD):Prop:=∀b∈c.blocks,b.ins.length≤2^38∧b.phis.length≤2^38
end Go.AE.Y

namespace Go.AE
variable {H0 H H':Heap}{E L N B:List (Nat×Obj)}
end Go.AE
namespace Go.AE.Y
structure OInts where
 ns:List Int
 y:Nat
def OInts.c (x:OInts):C:=.vsl x.y 1 0 x.ns.length
def OInts.lg (x:OInts):List (Nat×Obj):=[(x.y,.vec 1 (Qq x.ns))]
structure OPhi where
 to:Int
 ns:List Int
 ac:C
 lg:List (Nat×Obj)
def OPhi.row (x:OPhi):List C:=[.int .i64 x.to,x.ac]
def OPhi.ok (x:OPhi):Prop:=(∃y,x.ac=.vsl y 1 0 x.ns.length∧x.lg=[(y,.vec 1 (Qq x.ns))])∨(∃fl,x.ac=.sl fl 1 (Qq x.ns)∧x.lg=[])
def OPhi.own (x:OPhi):Prop:=∃y,x.ac=.vsl y 1 0 x.ns.length∧x.lg=[(y,.vec 1 (Qq x.ns))]
structure OIns where
 op:Int
 to:Int
 a:OInts
 n:Int
def OIns.row (x:OIns):List C:=[.int .i64 x.op,.int .i64 x.to,x.a.c,.int .i64 x.n]
def OIns.lg (x:OIns):List (Nat×Obj):=x.a.lg
structure OBlk where
 phis:List OPhi
 pc:C
 pl:List (Nat×Obj)
 ins:List OIns
 ic:C
 il:List (Nat×Obj)
 jump:Int
 on:Int
 nx:OInts
def OBlk.row (x:OBlk):List C:=[x.pc,x.ic,.int .i64 x.jump,.int .i64 x.on,x.nx.c]
def OBlk.lg (x:OBlk):List (Nat×Obj):=x.nx.lg++(x.phis.flatMap OPhi.lg++(x.pl++(x.ins.flatMap OIns.lg++x.il)))
structure OBlk.ok (x:OBlk):Prop where
 p:Gr x.pl 2 (x.phis.map OPhi.row) x.pc
 i:Gr x.il 4 (x.ins.map OIns.row) x.ic
 a:∀p∈x.phis,p.ok
structure OCode where
 params:Int
 regs:Int
 blocks:List OBlk
 bc:C
 bl:List (Nat×Obj)
def OCode.row (x:OCode):List C:=[.int .i64 x.params,.int .i64 x.regs,x.bc]
def OCode.lg (x:OCode):List (Nat×Obj):=x.blocks.flatMap OBlk.lg++x.bl
structure OCode.ok (x:OCode):Prop where
 b:Gr x.bl 5 (x.blocks.map OBlk.row) x.bc
 bs:∀b∈x.blocks,b.ok
def OPhi.d (x:OPhi):PhiD:=⟨x.to,x.ns⟩
def OIns.d (x:OIns):InsD:=⟨x.op,x.to,x.a.ns,x.n⟩
def OBlk.d (x:OBlk):BlkD:=⟨x.phis.map OPhi.d,x.ins.map OIns.d,x.jump,x.on,x.nx.ns⟩
def OCode.d (x:OCode):CodeD:=⟨x.params,x.regs,x.blocks.map OBlk.d⟩
theorem OPhi.noOw (x:OPhi)(h:x.ok):Go.AE.noOw x.row=true:=by
 rcases h with ⟨y,h,_⟩|⟨fl,h,_⟩ <;> simp only[Go.AE.noOw,OPhi.row,h] <;> rfl
theorem OIns.noOw (x:OIns):Go.AE.noOw x.row=true:=rfl
theorem OBlk.noOw (x:OBlk)(h:x.ok):Go.AE.noOw x.row=true:=by
 simp only[Go.AE.noOw,OBlk.row,OInts.c,List.all_cons,List.all_nil,h.p.isOw,h.i.isOw];rfl
theorem OCode.noOw (x:OCode)(h:x.ok):Go.AE.noOw x.row=true:=by
 simp only[Go.AE.noOw,OCode.row,List.all_cons,List.all_nil,h.b.isOw];rfl
variable {H:Heap}{S:Nat→Bool}
def Held (H:Heap)(S:Nat→Bool)(l:List (Nat×Obj)):Prop:=∀p∈l,H p.1=p.2∧S p.1=true
theorem Held.l {a b:List (Nat×Obj)}(h:Held H S (a++b)):Held H S a:=fun p hp=>h p (List.mem_append_left _ hp)
theorem Held.r {a b:List (Nat×Obj)}(h:Held H S (a++b)):Held H S b:=fun p hp=>h p (List.mem_append_right _ hp)
theorem Held.m {α:Type}{f:α→List (Nat×Obj)}{l:List α}(h:Held H S (l.flatMap f)){x:α}(hx:x∈l):Held H S (f x):=fun p hp=>h p (List.mem_flatMap.2 ⟨x,hx,hp⟩)
theorem OInts.frz (x:OInts)(h:Held H S x.lg):FrzC H S x.c (.sl false 1 (Qq x.ns)):=by
 obtain⟨h1,h2⟩:=h (x.y,.vec 1 (Qq x.ns)) (by simp[OInts.lg])
 exact (FrzR.same (Qdj _)).vsl h2 h1 (by simp[Qq])
theorem OPhi.frz (x:OPhi)(hok:x.ok)(h:Held H S x.lg):FrzL H S x.row (PhiD.mk x.to x.ns).cells:=by
 refine .cons (Qk rfl) (.cons ?_ .nil)
 rcases hok with ⟨y,h1,h2⟩|⟨fl,h1,h2⟩
 ·obtain⟨h3,h4⟩:=h (y,.vec 1 (Qq x.ns)) (by rw[h2];simp)
  rw[h1];exact (FrzR.same (Qdj _)).vsl h4 h3 (by simp[Qq])
 ·rw[h1];exact (FrzR.same (Qdj _)).sl
theorem OIns.frz (x:OIns)(h:Held H S x.lg):FrzL H S x.row (InsD.mk x.op x.to x.a.ns x.n).cells:=.cons (Qk rfl) (.cons (Qk rfl) (.cons (x.a.frz h) (.cons (Qk rfl) .nil)))
theorem Qaqp {α β:Type}{f:α→List C}{g:β→List C}:∀(l:List α),(∀x∈l,∃y,FrzL H S (f x) (g y))→∃l':List β,FrzR H S (l.map f) (l'.map g)∧l'.length=l.length
 |[],_=>⟨[],.nil,rfl⟩
 |x::l,h=>by
  obtain⟨y,hy⟩:=h x List.mem_cons_self
  obtain⟨l',hl',hn⟩:=Qaqp l fun z hz=>h z (List.mem_cons_of_mem _ hz)
  exact⟨y::l',.cons hy hl',by simp[hn]⟩
theorem Qzk {α β:Type}{P:β→Prop}{f:α→List C}{g:β→List C}:∀(l:List α),(∀x∈l,∃y,FrzL H S (f x) (g y)∧P y)→∃l':List β,FrzR H S (l.map f) (l'.map g)∧l'.length=l.length∧∀y∈l',P y
 |[],_=>⟨[],.nil,rfl,by simp⟩
 |x::l,h=>by
  obtain⟨y,hy,hp⟩:=h x List.mem_cons_self
  obtain⟨l',hl',hn,hps⟩:=Qzk l fun z hz=>h z (List.mem_cons_of_mem _ hz)
  refine⟨y::l',.cons hy hl',by simp[hn],fun z hz=>?_⟩
  rcases List.mem_cons.1 hz with rfl|hz
  ·exact hp
  ·exact hps z hz
theorem OBlk.frz (x:OBlk)(hok:x.ok)(h:Held H S x.lg):∃d:BlkD,FrzL H S x.row d.cells∧d.next=x.nx.ns∧d.ins.length=x.ins.length∧d.phis.length=x.phis.length:=by
 obtain⟨ps,hps,hpn⟩:=Qaqp (H:=H) (S:=S) (f:=OPhi.row) (g:=PhiD.cells) x.phis fun p hp=>⟨_,p.frz (hok.a p hp) (h.r.l.m hp)⟩
 obtain⟨is,his,hin⟩:=Qaqp (H:=H) (S:=S) (f:=OIns.row) (g:=InsD.cells) x.ins fun p hp=>⟨_,p.frz (h.r.r.r.l.m hp)⟩
 exact⟨⟨ps,is,x.jump,x.on,x.nx.ns⟩,.cons (Gr.frzM hok.p h.r.r.l hps) (.cons (Gr.frzM hok.i h.r.r.r.r his) (.cons (Qk rfl) (.cons (Qk rfl) (.cons (x.nx.frz h.l) .nil)))),rfl,hin,hpn⟩
end Go.AE.Y

namespace Go.AE.Y
structure BlkD.sm (b:BlkD):Prop where
 n:b.next.length≤2
 i:b.ins.length≤1000
 p:b.phis.length≤1000
 ia:∀x∈b.ins,x.args.length≤1000
 pa:∀x∈b.phis,x.args.length≤1000
structure CodeD.sm (c:CodeD):Prop where
 b0:0<c.blocks.length
 b:c.blocks.length≤160
 bs:∀b∈c.blocks,b.sm
 p0:0≤c.params
 p1:c.params≤1000
structure OBlk.sm (b:OBlk)(N:Nat):Prop where
 n:b.nx.ns.length≤2
 i:b.ins.length≤1000
 p:b.phis.length≤N
 ia:∀x∈b.ins,x.a.ns.length≤N
 pa:∀x∈b.phis,x.ns.length≤N
structure OCode.sm (c:OCode)(N:Nat):Prop where
 b0:0<c.blocks.length
 b:c.blocks.length≤160
 bs:∀b∈c.blocks,b.sm N
 p0:0≤c.params
 p1:c.params≤1000
theorem OBlk.sm.mono {b:OBlk}{N M:Nat}(h:b.sm N)(hm:N≤M):b.sm M:=⟨h.n,h.i,by have:=h.p;omega,fun x hx=>by have:=h.ia x hx;omega,fun x hx=>by have:=h.pa x hx;omega⟩
theorem OCode.sm.mono {c:OCode}{N M:Nat}(h:c.sm N)(hm:N≤M):c.sm M:=⟨h.b0,h.b,fun b hb=>(h.bs b hb).mono hm,h.p0,h.p1⟩
structure BlkD.sg (b:BlkD):Prop where
 n:b.next.length≤1000000
 i:b.ins.length≤1000000
 p:b.phis.length≤1000000
 ia:∀x∈b.ins,x.args.length≤1000000
 pa:∀x∈b.phis,x.args.length≤1000000
structure CodeD.sg (c:CodeD):Prop where
 b:c.blocks.length≤1000000
 bs:∀b∈c.blocks,b.sg
theorem BlkD.sm.sg {b:BlkD}(h:b.sm):b.sg:=⟨by have:=h.n;omega,by have:=h.i;omega,by have:=h.p;omega,fun x hx=>by have:=h.ia x hx;omega,fun x hx=>by have:=h.pa x hx;omega⟩
theorem CodeD.sm.sg {c:CodeD}(h:c.sm):c.sg:=⟨by have:=h.b;omega,fun b hb=>(h.bs b hb).sg⟩
structure CodeD.gd (c:CodeD):Prop where
 b0:0<c.blocks.length
 b1:c.blocks.length≤160
 n:∀b∈c.blocks,b.next.length≤2
 f:c.fits
 s:c.sg
theorem CodeD.sm.fits {c:CodeD}(h:c.sm):c.fits:=fun b hb=>⟨by have:=(h.bs b hb).i;omega,by have:=(h.bs b hb).p;omega⟩
theorem CodeD.sm.gd {c:CodeD}(h:c.sm):c.gd:=⟨h.b0,h.b,fun b hb=>(h.bs b hb).n,h.fits,h.sg⟩
variable {H:Heap}{S:Nat→Bool}
theorem Q80 {α β:Type}{f:α→List C}{g:β→List C}{d:α→β}:∀(l:List α),(∀x∈l,FrzL H S (f x) (g (d x)))→FrzR H S (l.map f) ((l.map d).map g)
 |[],_=>.nil
 |x::l,h=>.cons (h x List.mem_cons_self) (Q80 l fun z hz=>h z (List.mem_cons_of_mem _ hz))
theorem OBlk.frzD (x:OBlk)(hok:x.ok)(h:Held H S x.lg):FrzL H S x.row x.d.cells:=by
 have hps:=Q80 (H:=H) (S:=S) (f:=OPhi.row) (g:=PhiD.cells) (d:=OPhi.d) x.phis fun p hp=>p.frz (hok.a p hp) (h.r.l.m hp)
 have his:=Q80 (H:=H) (S:=S) (f:=OIns.row) (g:=InsD.cells) (d:=OIns.d) x.ins fun p hp=>p.frz (h.r.r.r.l.m hp)
 exact .cons (Gr.frzM hok.p h.r.r.l hps) (.cons (Gr.frzM hok.i h.r.r.r.r his) (.cons (Qk rfl) (.cons (Qk rfl) (.cons (x.nx.frz h.l) .nil))))
theorem OCode.frz (x:OCode){N:Nat}(hN:N≤100000)(hok:x.ok)(hs:x.sm N)(h:Held H S x.lg):∃d:CodeD,FrzL H S x.row d.cells∧d.gd:=by
 have hbs:=Q80 (H:=H) (S:=S) (f:=OBlk.row) (g:=BlkD.cells) (d:=OBlk.d) x.blocks fun b hb=>b.frzD (hok.bs b hb) (h.l.m hb)
 have hb0:=hs.b0
 have hb1:=hs.b
 have hd:∀d∈x.blocks.map OBlk.d,d.next.length≤2∧d.ins.length≤1000∧d.phis.length≤N∧(∀i∈d.ins,i.args.length≤N)∧∀i∈d.phis,i.args.length≤N:=fun d hd=>by
  obtain⟨b,hb,rfl⟩:=List.mem_map.1 hd
  have hsb:=hs.bs b hb
  refine⟨hsb.n,by simpa[OBlk.d]using hsb.i,by simpa[OBlk.d]using hsb.p,fun i hi=>?_,fun i hi=>?_⟩
  ·obtain⟨y,hy,rfl⟩:=List.mem_map.1 hi
   exact hsb.ia y hy
  ·obtain⟨y,hy,rfl⟩:=List.mem_map.1 hi
   exact hsb.pa y hy
 refine⟨⟨x.params,x.regs,x.blocks.map OBlk.d⟩,.cons (Qk rfl) (.cons (Qk rfl) (.cons (Gr.frzM hok.b h.r hbs) .nil)),by simpa using hb0,by simpa using hb1,fun b hb=>(hd b hb).1,fun b hb=>?_,by simp only[List.length_map];omega,fun b hb=>?_⟩
 ·obtain⟨h1,h2,h3,h4,h5⟩:=hd b hb
  omega
 ·obtain⟨h1,h2,h3,h4,h5⟩:=hd b hb
  exact⟨by omega,by omega,by omega,fun i hi=>by have:=h4 i hi;omega,fun i hi=>by have:=h5 i hi;omega⟩
theorem OCodes.frz {N:Nat}(hN:N≤100000){us:List OCode}{cc:C}{cl:List (Nat×Obj)}(hg:Gr cl 3 (us.map OCode.row) cc)(hu:∀u∈us,u.ok∧u.sm N)(h:Held H S (us.flatMap OCode.lg++cl)) :
  ∃cs:List CodeD,FrzC H S cc (.sl false 3 (Qayl cs))∧cs.length=us.length∧∀c∈cs,c.gd:=by
 obtain⟨cs,h1,h2,h3⟩:=Qzk (H:=H) (S:=S) (P:=CodeD.gd) (f:=OCode.row) (g:=CodeD.cells) us fun u hu2=>u.frz hN (hu u hu2).1 (hu u hu2).2 (h.l.m hu2)
 exact⟨cs,Gr.frzM hg h.r h1,h2,h3⟩
end Go.AE.Y

namespace Go.AE
variable {P:Program}
theorem Qbaa {a b:SC}{Q:X→Env→Heap→Prop}{e:Env}{H:Heap}(T:Env→Heap→Prop)(h1:∀Q':X→Env→Heap→Prop,(∀e H,T e H→Q' .nrm e H)→(∀e H,Q .ret e H→Q' .ret e H)→(∀i e H,Q (.exit i) e H→Q' (.exit i) e H)→Qah P a Q' e H)
  (h2:∀e H,T e H→Qah P b Q e H):Qah P (.seq a b) Q e H:=h1 (X.sq P b Q) h2 (fun _ _ h=>h) (fun _ _ _ h=>h)
end Go.AE
namespace Go.AE.Y
structure UPhi where
 to:Int
 ns:List Int
 ac:C
 al:List (Nat×Obj)
def UPhi.row (x:UPhi):List C:=[.int .i64 x.to,x.ac]
structure UBlk where
 phis:List UPhi
 pc:C
 pl:List (Nat×Obj)
 ins:List InsD
 ic:C
 il:List (Nat×Obj)
 jump:Int
 on:Int
 nfl:Bool
 next:List Int
def UBlk.row (x:UBlk):List C:=[x.pc,x.ic,.int .i64 x.jump,.int .i64 x.on,.sl x.nfl 1 (Qq x.next)]
def UBlk.lg (x:UBlk):List (Nat×Obj):=x.il++(x.phis.flatMap UPhi.al++x.pl)
structure UBlk.ok (x:UBlk):Prop where
 p:Gr x.pl 2 (x.phis.map UPhi.row) x.pc
 i:Gr x.il 4 (Qa7b x.ins) x.ic
 a:∀p∈x.phis,Gr p.al 1 (Qq p.ns) p.ac
structure UBlk.sm (b:UBlk)(N:Nat):Prop where
 n:b.next.length≤2
 i:b.ins.length≤1000
 p:b.phis.length≤N
 ia:∀x∈b.ins,x.args.length≤1000
 pa:∀x∈b.phis,x.ns.length≤1000
structure UCode where
 params:Int
 regs:Int
 blocks:List UBlk
 bc:C
 bl:List (Nat×Obj)
def UCode.row (x:UCode):List C:=[.int .i64 x.params,.int .i64 x.regs,x.bc]
def UCode.lg (x:UCode):List (Nat×Obj):=x.blocks.flatMap UBlk.lg++x.bl
structure UCode.ok (x:UCode):Prop where
 b:Gr x.bl 5 (x.blocks.map UBlk.row) x.bc
 bs:∀b∈x.blocks,b.ok
 p0:0≤x.params
 p1:x.params≤3
structure UCode.sm (c:UCode)(N:Nat):Prop where
 b0:0<c.blocks.length
 b:c.blocks.length≤160
 bs:∀b∈c.blocks,b.sm N
theorem UPhi.noOw (x:UPhi)(h:Gr x.al 1 (Qq x.ns) x.ac):Go.AE.noOw x.row=true:=by
 simp only[Go.AE.noOw,UPhi.row,List.all_cons,List.all_nil,h.isOw];rfl
theorem UBlk.noOw (x:UBlk)(h:x.ok):Go.AE.noOw x.row=true:=by
 simp only[Go.AE.noOw,UBlk.row,List.all_cons,List.all_nil,h.p.isOw,h.i.isOw];rfl
theorem UCode.noOw (x:UCode)(h:x.ok):Go.AE.noOw x.row=true:=by
 simp only[Go.AE.noOw,UCode.row,List.all_cons,List.all_nil,h.b.isOw];rfl
theorem UBlk.sm.mono {b:UBlk}{N M:Nat}(h:b.sm N)(hm:N≤M):b.sm M:=⟨h.n,h.i,by have:=h.p;omega,h.ia,h.pa⟩
theorem UCode.sm.mono {c:UCode}{N M:Nat}(h:c.sm N)(hm:N≤M):c.sm M:=⟨h.b0,h.b,fun b hb=>(h.bs b hb).mono hm⟩
variable {H:Heap}{S:Nat→Bool}
theorem UBlk.frz (x:UBlk){N:Nat}(hN:N≤1000)(hok:x.ok)(hs:x.sm N)(h:Held H S x.lg):∃d:BlkD,FrzL H S x.row d.cells∧d.sm:=by
 obtain⟨ps,hps,hpn,hpp⟩:=Qzk (H:=H) (S:=S) (P:=fun p:PhiD=>p.args.length≤1000) (f:=UPhi.row) (g:=PhiD.cells) x.phis fun p hp=>
  ⟨⟨p.to,p.ns⟩,.cons (Qk rfl) (.cons (Gr.frzM (hok.a p hp) (h.r.l.m hp) (FrzR.same (Qdj _))) .nil),hs.pa p hp⟩
 have h1:=hs.n
 have h2:=hs.i
 have h3:=hs.p
 exact⟨⟨ps,x.ins,x.jump,x.on,x.next⟩,.cons (Gr.frzM hok.p h.r.r hps) (.cons (Gr.frzM hok.i h.l (FrzR.same (Qav5 _))) (.cons (Qk rfl) (.cons (Qk rfl) (.cons (FrzR.same (Qdj _)).sl .nil)))),
  h1,h2,by show ps.length≤_;omega,hs.ia,hpp⟩
theorem UCode.frz (x:UCode){N:Nat}(hN:N≤1000)(hok:x.ok)(hs:x.sm N)(h:Held H S x.lg):∃d:CodeD,FrzL H S x.row d.cells∧d.sm:=by
 obtain⟨bs,hbs,hbn,hbp⟩:=Qzk (H:=H) (S:=S) (P:=BlkD.sm) (f:=UBlk.row) (g:=BlkD.cells) x.blocks fun b hb=>b.frz hN (hok.bs b hb) (hs.bs b hb) (h.l.m hb)
 have hb0:=hs.b0
 have hb1:=hs.b
 exact⟨⟨x.params,x.regs,bs⟩,.cons (Qk rfl) (.cons (Qk rfl) (.cons (Gr.frzM hok.b h.r hbs) .nil)),by show 0<bs.length;omega,by show bs.length≤_;omega,hbp,hok.p0,by have:=hok.p1;show x.params≤_;omega⟩
theorem UCodes.frz {us:List UCode}{N:Nat}(hN:N≤1000){cc:C}{cl:List (Nat×Obj)}(hg:Gr cl 3 (us.map UCode.row) cc)(hu:∀u∈us,u.ok∧u.sm N)(h:Held H S (us.flatMap UCode.lg++cl)) :
  ∃cs:List CodeD,FrzC H S cc (.sl false 3 (Qayl cs))∧cs.length=us.length∧∀c∈cs,c.sm:=by
 obtain⟨cs,h1,h2,h3⟩:=Qzk (H:=H) (S:=S) (P:=CodeD.sm) (f:=UCode.row) (g:=CodeD.cells) us fun u hu2=>u.frz hN (hu u hu2).1 (hu u hu2).2 (h.l.m hu2)
 exact⟨cs,Gr.frzM hg h.r h1,h2,h3⟩
end Go.AE.Y

namespace Go.AE.Y
def UCode.put (u:UCode)(bi:Nat)(b:UBlk)(bl:List (Nat×Obj)):UCode:={ u with blocks:=u.blocks.set bi b,bl:=bl }
end Go.AE.Y

namespace Go.AE.Y
open Go.Proofs.Tryz
variable {H:Heap}{K:V→Heap→Prop}
end Go.AE.Y

namespace Go.AE.Y
open Go.Proofs.Tryz
variable {H:Heap}{K:V→Heap→Prop}
end Go.AE.Y

namespace Go.AE.Y
open Go.Proofs.Tryz
variable {H:Heap}{K:V→Heap→Prop}
end Go.AE.Y

namespace Go.AE.Y
open Go.Proofs.Tryz
variable {H:Heap}{K:V→Heap→Prop}
end Go.AE.Y

namespace Go.AE.Y
open Go.Proofs.Tryz
variable {H:Heap}{K:V→Heap→Prop}
end Go.AE.Y

namespace Go.AE.Y
open Go.Proofs.Tryz
variable {H:Heap}{K:V→Heap→Prop}
end Go.AE.Y

namespace Go.AE.Y
open Go.Proofs.Tryz
variable {H:Heap}{K:V→Heap→Prop}
end Go.AE.Y

namespace Go.AE.Y
open Go.Proofs.Tryz
variable {H:Heap}{K:V→Heap→Prop}
end Go.AE.Y
namespace Go.AE
open Go.AE.Y
open Go.Proofs.Tryz
variable {H:Heap}{K:V→Heap→Prop}
theorem Gr.slc {H0 H:Heap}{E B Lg:List (Nat×Obj)}{sz:Nat}{rows:List (List C)}{c:C}(h:Gr Lg sz rows c)(kn:Kn H0 H E (B++Lg)):Slc H sz rows c:=by
 obtain⟨h1,h2⟩:=h.get kn
 exact⟨h1,h.elemSz,h2,h.lenC⟩
end Go.AE
namespace Go.AE.Y
open Go.Proofs.Tryz
variable {H:Heap}{K:V→Heap→Prop}
end Go.AE.Y
namespace Go.AE
open Go.AE.Y
open Go.Proofs.Tryz
variable {H:Heap}{K:V→Heap→Prop}
theorem Gr.ne {H0 H:Heap}{E B Lg:List (Nat×Obj)}{sz:Nat}{rows:List (List C)}{c:C}{r:Nat}{o:Obj}(h:Gr Lg sz rows c)(kn:Kn H0 H E (B++Lg))(hr:(r,o)∈E):∀l a d n,c=.vsl l a d n→l≠r:=by
 intro l a d n hc hh
 rcases h with ⟨h1,_⟩|⟨y,h1,h2⟩
 ·rw[h1]at hc;simp at hc
 ·rw[h1]at hc
  have hy:y=l:=by injection hc
  have:=kn.loc (y,.vec sz rows) (by rw[h2];simp)
  exact kn.ext (r,o) hr (by rw[←hh,←hy];exact this)
end Go.AE
namespace Go.AE.Y
open Go.Proofs.Tryz
variable {H:Heap}{K:V→Heap→Prop}
end Go.AE.Y

namespace Go.AE.Y
open Go.Proofs.Tryz
variable {H:Heap}{K:V→Heap→Prop}
end Go.AE.Y

namespace Go.AE.Y
open Go.Proofs.Tryz
def Qbp (S:List Bool):List (List C):=S.map fun b=>[.bool b]
theorem Qes (S:List Bool):(Qbp S).length=S.length:=by simp[Qbp]
theorem Qe1 (S:List Bool)(i:Nat)(h:i<S.length):(Qbp S).getD i []=[.bool (S.getD i false)]:=by
 simp[Qbp,List.getD_eq_getElem?_getD,h]
theorem Q88 (S:List Bool)(i:Nat)(b:Bool):(Qbp S).set i [.bool b]=Qbp (S.set i b):=by simp[Qbp,List.map_set]
def Qa4 (l:List Nat):List (List C):=Qq (l.map Int.ofNat)
theorem Qax (l:List Nat):(Qa4 l).length=l.length:=by simp[Qa4,Qab]
theorem Q93 (l:List Nat)(n:Nat):Qa4 l++[[.int .i64 (n:Int)]]=Qa4 (l++[n]):=by simp[Qa4,Qq]
theorem Qjs (l:List Nat):∀r∈Qa4 l,noOw r=true:=Qdj _
end Go.AE.Y

namespace Go.AE.Y
open Go.Proofs.Tryz
variable {H:Heap}{K:V→Heap→Prop}
end Go.AE.Y

namespace Go.AE.Y
open Go.Proofs.Tryz
variable {H:Heap}{K:V→Heap→Prop}
end Go.AE.Y

namespace Go.AE.Y
open Go.Proofs.Tryz
variable {H H0:Heap}{K:V→Heap→Prop}
theorem Q1b (n:Nat):List.replicate n [C.bool false]=Qbp (List.replicate n false):=by simp[Qbp]
theorem Qew (l:List Nat)(i:Nat)(h:i<l.length):(Qa4 l).getD i []=[.int .i64 ((l.getD i 0:Nat):Int)]:=by
 simp[Qa4,Qq,List.getD_eq_getElem?_getD,h]
theorem Qawf (a b:List Nat):Qa4 (a++b)=Qa4 a++Qa4 b:=by simp[Qa4,Qq]
end Go.AE.Y

namespace Go.AE.Y
open Go.Proofs.Tryz
variable {H H0:Heap}{K:V→Heap→Prop}
end Go.AE.Y

namespace Go.AE.Y
open Go.Proofs.Tryz
variable {H H0:Heap}{K:V→Heap→Prop}
end Go.AE.Y

namespace Go.AE.Y
attribute [local instance] Classical.propDecidable
variable {g:Nat→List Nat}{n h:Nat}
variable {O W:List Nat}{b:Nat}
end Go.AE.Y

namespace Go.AE.Y
open Go.Proofs.Tryz
variable {H H0:Heap}{K:V→Heap→Prop}
end Go.AE.Y

namespace Go.AE.Y
open Go.Proofs.Tryz
variable {H H0:Heap}{K:V→Heap→Prop}
end Go.AE.Y

namespace Go.AE.Y
open Go.Proofs.Tryz
variable {H H0:Heap}{K:V→Heap→Prop}
end Go.AE.Y

namespace Go.AE.Y
variable {P:Program}{H:Heap}{g:G}{w:World}
theorem Qa5h (hs:Sat H g w)(os:Array Go.Obj):∃g',Stp H g w H g' (Go.Sort.grow w os):=by
 obtain⟨l⟩:=os
 induction l generalizing g w with
 |nil=>exact⟨g,by rw[Go.Sort.grow_empty];exact .refl hs⟩
 |cons x l ih=>
  have h1:=Q37 hs x
  obtain⟨g',h2⟩:=ih h1.sat
  refine⟨g',?_⟩
  have e:Go.Sort.grow w ⟨x::l⟩=Go.Sort.grow (w.alloc x) ⟨l⟩:=by
   rw[Go.Sort.alloc_eq_grow,Go.Sort.grow_grow]
   congr 1
   simp
  rw[e];exact h1.trans h2
theorem Qa0r {b off:Nat}{cs:Array Value}{T:TypeId}{d:Array Int}(h:w.heap[b]? = some (.cells cs T (0,0))) :
  Go.Sort.putRow (Value.int .i64) w b off d=World.putCells w b (Go.Sort.putCells (Value.int .i64) off d cs) T:=by
 simp only[Go.Sort.putRow,Go.Sort.mapBlock,World.putCells]
 congr 1
 apply Array.ext_getElem?
 intro i
 simp only[Array.getElem?_modify]
 by_cases hi:b=i
 ·subst hi
  have hlt:b<w.heap.size:=Qiv h
  rw[if_pos rfl,h]
  simp[hlt,Go.Sort.onCells]
 ·rw[if_neg hi,Array.getElem?_setIfInBounds_ne hi]
theorem Qavn {f:Nat}(hf:fnOk P f=true)
  (hc:∀(blk off cap:Nat) (zs:List Int) (w:World),Go.Sort.Holds (Value.int .i64) w blk off zs.toArray→blk<w.heap.size→zs.length<4611686018427387904→
   Calls P f #[.slice (some ⟨blk,off,none⟩) zs.length cap] w fun e w'=>
    e=.returned (.tuple #[])∧∃n os,w'=Go.Sort.grow (Go.Sort.putRow (Value.int .i64) (Go.Sort.ahead w n) blk off (zs.mergeSort fun x y=>decide (x≤y)).toArray) os)
  {z n:Nat} {ns:List Int} {K:V→Heap→Prop} (hz:H z=.vec 1 (Qq ns)) (hn:n=ns.length) (h0:0<n)
  (hK:∀H',Upd H H' [(z,.vec 1 (Qq (ns.mergeSort fun x y=>decide (x≤y))))]→K (.tup []) H'):Qj P f [.c (.vsl z 1 0 n)] H K:=by
 refine⟨hf,fun g w vs hs hl hv=>?_⟩
 obtain⟨v,rfl⟩:∃v,vs=[v]:=by
  match vs,hl with
  |[v],_=>exact⟨v,rfl⟩
 have hr:=hv 0 _ v rfl rfl
 have ho:=hs.objs z
 rw[hz]at ho
 cases hr with
 |c _ _ hr=>
  cases hr with
  |vslnil=>omega
  |vsl l sz st n cap b base T m hio hnc hsh hm=>
   obtain⟨b',base',T',cs,val,hio',hown,hblk,hsz,hlim,hrow,hcell,hrep⟩:=SatVec.of ho hio
   rw[hio]at hio'
   simp only[Option.some.injEq,Prod.mk.injEq,true_and]at hio'
   obtain⟨rfl,rfl⟩:=hio'
   have hlt:=Qiv hblk
   rw[Qab]at hsz hlim
   have hel:∀j (hj:j<ns.length),cs[base+j]? = some (.int .i64 ns[j]):=by
    intro j hj
    have h1:(Qq ns)[j]? = some [.int .i64 ns[j]]:=by simp[Qq,hj]
    have h2:=hcell j _ 0 _ h1 rfl
    have h3:=hrep j _ 0 _ h1 rfl
    have h4:val j 0=.int .i64 ns[j]:=by
     exact (fun vv (h:RepC w g (.int .i64 ns[j]) vv)=>by cases h;rfl:∀vv,RepC w g (.int .i64 ns[j]) vv→vv=.int .i64 ns[j]) _ (h3.toC rfl)
    simpa[h4]using h2
   have hH:Go.Sort.Holds (Value.int .i64) w b base ns.toArray:=by
    intro j hj
    have hj':j<ns.length:=by simpa using hj
    refine⟨?_,?_⟩
    ·rw[Qcf hblk,hel j hj']
     simp[getElem!_pos,hj']
    ·simp[World.frozen?,hblk]
   subst hn
   simp only[Nat.zero_mul,Nat.add_zero]
   refine (hc b base cap ns w hH hlt (by simp only[LIM]at hlim;omega)).mono fun e w'=>?_
   rintro⟨rfl,nn,os,rfl⟩
   have s1:Stp H g w H g (Go.Sort.ahead w nn):=Qap1 hs (w.drawn+nn)
   have hblk1:(Go.Sort.ahead w nn).heap[b]? = some (.cells cs T' (0,0)):=hblk
   have hel2:∀i (c:C),((Qq (ns.mergeSort fun x y=>decide (x≤y)))[i]? = some [c])→∃x:Int,c=.int .i64 x∧(Go.Sort.putCells (Value.int .i64) base (ns.mergeSort fun x y=>decide (x≤y)).toArray cs)[base+i]? = some (.int .i64 x):=by
    intro i c hi
    have hlen:(ns.mergeSort fun x y=>decide (x≤y)).length=ns.length:=List.length_mergeSort _
    have hil:i<(ns.mergeSort fun x y=>decide (x≤y)).length:=by
     rcases Nat.lt_or_ge i (ns.mergeSort fun x y=>decide (x≤y)).length with h|h
     ·exact h
     ·rw[List.getElem?_eq_none (by rw[Qab];exact h)]at hi;simp at hi
    refine⟨(ns.mergeSort fun x y=>decide (x≤y))[i],?_,?_⟩
    ·simp only[Qq,List.getElem?_map,List.getElem?_eq_getElem hil,Option.map_some,Option.some.injEq,List.cons.injEq,and_true]at hi
     exact hi.symm
    ·simp only[Go.Sort.putCells,Array.getElem?_mapIdx]
     rw[Array.getElem?_eq_getElem (by omega)]
     simp only[Option.map_some,Option.some.injEq]
     rw[if_pos ⟨by omega,by simp only[List.size_toArray];omega⟩]
     congr 1
     simp[getElem!_pos]
     rw[List.getElem?_eq_getElem hil];rfl
   have s2:=Qhg s1.sat hown hblk1 (cs':=Go.Sort.putCells (Value.int .i64) base (ns.mergeSort fun x y=>decide (x≤y)).toArray cs) (by simp[Go.Sort.putCells])
    (.vec 1 (Qq (ns.mergeSort fun x y=>decide (x≤y)))) (by rw[hz];simp) (fun hle hb2=>.inr ⟨b,base,T',_,fun i _=>.int .i64 ((ns.mergeSort fun x y=>decide (x≤y)).getD i 0),hio,hown,hb2,by
      rw[Qab,List.length_mergeSort];simp[Go.Sort.putCells];omega,by rw[Qab,List.length_mergeSort];exact hlim,fun i row hi=>by
       simp only[Qq,List.getElem?_map,Option.map_eq_some_iff]at hi;obtain⟨x,_,rfl⟩:=hi;rfl,fun i row j c hi hj=>by
       have hi':=hi
       simp only[Qq,List.getElem?_map,Option.map_eq_some_iff]at hi'
       obtain⟨y,hy,rfl⟩:=hi'
       have hj0:j=0:=by
        rcases Nat.eq_zero_or_pos j with h|h
        ·exact h
        ·rw[List.getElem?_eq_none (by simp;omega)]at hj;simp at hj
       subst hj0
       obtain⟨x,hx,he⟩:=hel2 i _ hi
       simp only[C.int.injEq,true_and]at hx
       subst hx
       simp only[Nat.mul_one,Nat.add_zero]
       rw[he,List.getD_eq_getElem?_getD,hy];rfl,fun i row j c hi hj=>by
       have hi':=hi
       simp only[Qq,List.getElem?_map,Option.map_eq_some_iff]at hi'
       obtain⟨y,hy,rfl⟩:=hi'
       have hj0:j=0:=by
        rcases Nat.eq_zero_or_pos j with h|h
        ·exact h
        ·rw[List.getElem?_eq_none (by simp;omega)]at hj;simp at hj
       subst hj0
       simp at hj;subst hj
       show RepO _ _ _ _ _ (Value.int .i64 ((ns.mergeSort fun x y=>decide (x≤y)).getD i 0))
       rw[List.getD_eq_getElem?_getD,hy]
       exact .plain _ _ _ _ (.int _ _)⟩) (by simp)
   rw[←Qa0r hblk1]at s2
   obtain⟨g',s3⟩:=Qa5h s2.sat os
   refine .inl ⟨.tuple #[],.tup [],_,g',rfl,hK _ ⟨by simp[Heap.set_same],fun m _ hm=>Heap.set_other _ _ (by simpa using hm)⟩,s1.trans (s2.trans s3),?_⟩
   exact .tup [] [] rfl (by simp)
theorem Qax6 {f:Nat}(hf:fnOk P f=true){k:IntKind}{x r:Int}(hc:∀w,Calls P f #[.int k x] w fun e w'=>e=.returned (.int .i64 r)∧w'=w){K:V→Heap→Prop}(hK:K (.c (.int .i64 r)) H) :
  Qj P f [.c (.int k x)] H K:=by
 refine⟨hf,fun g w vs hs hl hv=>?_⟩
 obtain⟨v,rfl⟩:∃v,vs=[v]:=by
  match vs,hl with
  |[v],_=>exact⟨v,rfl⟩
 have hr:=hv 0 _ v rfl rfl
 cases hr with
 |c _ _ hr=>
  cases hr
  refine (hc w).mono fun e w'=>?_
  rintro⟨rfl,rfl⟩
  exact .inl ⟨_,_,H,g,rfl,hK,.refl hs,.c _ _ (.int _ _)⟩
end Go.AE.Y

namespace Go.Proofs
open Go.Shelf
def Tryz.lays189_ren:Go.Shelf.Ren:=⟨fun|189=>178|125=>239|257=>238|128=>293|129=>294|294=>284|295=>285|296=>286|297=>287|298=>288|299=>289|216=>290|300=>291|301=>292|328=>311|329=>312|330=>313|331=>314|332=>315|215=>316|343=>324|n=>n,fun|28=>32|3=>3|46=>274|0=>0|51=>306|53=>308|4=>4|183=>299|182=>298|131=>192|5=>5|9=>9|218=>320|222=>295|228=>330|229=>254|n=>n,fun|n=>n⟩
theorem Tryz.lays189:Go.Proofs.Lays.n189 Tryz.prog Tryz.lays189_ren:={
 mixed:=by kernel_rfl
 f125:=Tryz.func239.trans (congrArg some (by kernel_rfl))
 f128:=Tryz.func293.trans (congrArg some (by kernel_rfl))
 f129:=Tryz.func294.trans (congrArg some (by kernel_rfl))
 f189:=Tryz.func178.trans (congrArg some (by kernel_rfl))
 f215:=Tryz.func316.trans (congrArg some (by kernel_rfl))
 f216:=Tryz.func290.trans (congrArg some (by kernel_rfl))
 f257:=Tryz.func238.trans (congrArg some (by kernel_rfl))
 f294:=Tryz.func284.trans (congrArg some (by kernel_rfl))
 f295:=Tryz.func285.trans (congrArg some (by kernel_rfl))
 f296:=Tryz.func286.trans (congrArg some (by kernel_rfl))
 f297:=Tryz.func287.trans (congrArg some (by kernel_rfl))
 f298:=Tryz.func288.trans (congrArg some (by kernel_rfl))
 f299:=Tryz.func289.trans (congrArg some (by kernel_rfl))
 f300:=Tryz.func291.trans (congrArg some (by kernel_rfl))
 f301:=Tryz.func292.trans (congrArg some (by kernel_rfl))
 f328:=Tryz.func311.trans (congrArg some (by kernel_rfl))
 f329:=Tryz.func312.trans (congrArg some (by kernel_rfl))
 f330:=Tryz.func313.trans (congrArg some (by kernel_rfl))
 f331:=Tryz.func314.trans (congrArg some (by kernel_rfl))
 f332:=Tryz.func315.trans (congrArg some (by kernel_rfl))
 f343:=Tryz.func324.trans (congrArg some (by kernel_rfl))
 t0:=Tryz.underlying0
 a0:=Tryz.isAgg0
 z0:=Tryz.sizeOf0
 v0:=Tryz.zeroValue0
 t3:=Tryz.underlying3
 a3:=Tryz.isAgg3
 z3:=Tryz.sizeOf3
 v3:=Tryz.zeroValue3
 t4:=Tryz.underlying4
 a4:=Tryz.isAgg4
 z4:=Tryz.sizeOf4
 v4:=Tryz.zeroValue4
 t5:=Tryz.underlying5
 a5:=Tryz.isAgg5
 z5:=Tryz.sizeOf5
 v5:=Tryz.zeroValue5
 t9:=Tryz.underlying9
 a9:=Tryz.isAgg9
 z9:=Tryz.sizeOf9
 v9:=Tryz.zeroValue9
 t28:=Tryz.underlying32
 a28:=Tryz.isAgg32
 z28:=Tryz.sizeOf32
 v28:=Tryz.zeroValue32
 t46:=Tryz.underlying274
 a46:=Tryz.isAgg274
 z46:=Tryz.sizeOf274
 v46:=Tryz.zeroValue274
 t51:=Tryz.underlying306
 a51:=Tryz.isAgg306
 z51:=Tryz.sizeOf306
 v51:=Tryz.zeroValue306
 t53:=Tryz.underlying308
 a53:=Tryz.isAgg308
 z53:=Tryz.sizeOf308
 v53:=Tryz.zeroValue308
 t131:=Tryz.underlying192
 a131:=Tryz.isAgg192
 z131:=Tryz.sizeOf192
 v131:=Tryz.zeroValue192
 t182:=Tryz.underlying298
 a182:=Tryz.isAgg298
 z182:=Tryz.sizeOf298
 v182:=Tryz.zeroValue298
 t183:=Tryz.underlying299
 a183:=Tryz.isAgg299
 z183:=Tryz.sizeOf299
 v183:=Tryz.zeroValue299
 t218:=Tryz.underlying320
 a218:=Tryz.isAgg320
 z218:=Tryz.sizeOf320
 v218:=Tryz.zeroValue320
 t222:=Tryz.underlying295
 a222:=Tryz.isAgg295
 z222:=Tryz.sizeOf295
 v222:=Tryz.zeroValue295
 t228:=Tryz.underlying330
 a228:=Tryz.isAgg330
 z228:=Tryz.sizeOf330
 v228:=Tryz.zeroValue330
 t229:=Tryz.underlying254
 a229:=Tryz.isAgg254
 z229:=Tryz.sizeOf254
 v229:=Tryz.zeroValue254 }
end Go.Proofs

namespace Go.AE.Y
open Go.Proofs.Tryz
variable {H H0:Heap}{K:V→Heap→Prop}{E B Lg:List (Nat×Obj)}
theorem Qax9 {x:Int}(h0:0≤x)(h1:x≤18446744073709551615)(hK:∀n:Int,K (.c (.int .i64 n)) H):Qj prog Q9l [.c (.int .u64 x)] H K:=
 Qax6 (by kernel_rfl) (fun w=>calls_of_every_depth fun D=>Go.Proofs.AnyS.bits_LenIn (ρ:=lays189_ren) { lays189 with } D x w h0 h1) (hK _)
theorem Qa84 {c:C}(how:c.isOw=false)(hK:K (.tup []) H):Qj prog Qbl [.c c,.c (.int .i64 0),.c (.int .i64 0)] H K:=by
 refine Qb Qaj Ql9 ?_
 refine Qa ?_
 simp only[go_sem]
 refine⟨Qo (by omega) (by omega),?_⟩
 refine Qd (Qt (fun m e1 H1=>H1=H∧e1=[(0,.c c),(1,.c (.int .i64 0)),(2,.c (.int .i64 0)),(6,.c (.int .i64 1))]) 0 ⟨rfl,rfl⟩ ?_)
 rintro m e1 H1 ⟨rfl,rfl⟩
 refine Qz ?_
 refine Qa ?_
 simp only[go_sem]
 refine Qe (Qc rfl (fun h=>by simp at h) fun _=>?_)
 refine Qu ?_
 simp only[go_sem,X.next,Q0,Q6,Qr8,List.not_mem_nil]
 exact⟨fun _=>trivial,hK⟩
theorem Qa9f {c:C}{l:Int}(how:c.isOw=false)(hK:K (.tup []) H):Qj prog Qa8 [.c c,.c (.int .i64 0),.c (.int .i64 0),.c (.int .i64 l)] H K:=by
 refine Qb Qaj Qxf ?_
 refine Qa ?_
 simp only[go_sem]
 refine Qa ?_
 simp only[go_sem]
 refine Qd (Qt (fun m e1 H1=>H1=H∧e1=[(0,.c c),(1,.c (.int .i64 0)),(2,.c (.int .i64 0)),(3,.c (.int .i64 l)),(8,.c (.bool true)),(9,.c (.bool true))]) 0 ⟨rfl,rfl⟩ ?_)
 rintro m e1 H1 ⟨rfl,rfl⟩
 refine Qd ?_
 refine Qa ?_
 simp only[go_sem]
 refine⟨Qo (by omega) (by omega),?_⟩
 refine Qz ?_
 refine Qa ?_
 simp only[go_sem]
 refine Qe (Qc rfl (fun _=>?_) (fun h=>by simp at h))
 refine Qa ?_
 simp only[go_sem]
 refine Qa84 how ?_
 simp only[Qapy]
 refine Qh ?_
 simp only[go_sem,X.next,Q0,Q6,Qr8,List.not_mem_nil]
 exact⟨fun _=>trivial,hK⟩
theorem Qa6a {c:C}(hok:okSl H c)(hl:lenC c=0)(how:c.isOw=false)(hK:K (.tup []) H):Qj prog Qmv [.c c] H K:=by
 have hok:=eq_true hok
 refine Qb Qaj Qa0a ?_
 refine Qa ?_
 simp only[go_sem,hok,hl]
 have e0:((0:Nat):Int)=0:=rfl
 refine Qn ?_
 simp only[go_sem,e0]
 refine⟨⟨by decide,by decide⟩,?_⟩
 refine Qax9 (by omega) (by omega) fun n=>?_
 simp only[go_sem,Q5l]
 refine Qa9f how ?_
 simp only[go_sem,Q0,Q6,Qr8,List.not_mem_nil]
 exact⟨fun _=>trivial,hK⟩
theorem Qa50 {c:C}{ns:List Int}(kn:Kn H0 H E (B++Lg))(hgr:Gr Lg 1 (Qq ns) c)
  (hK:∀Lg' H',Gr Lg' 1 (Qq (srt ns)) c→Kn H0 H' E (B++Lg')→K (.tup []) H'):Qj prog Qmv [.c c] H K:=by
 by_cases h0:ns=[]
 ·subst h0
  refine Qa6a (hgr.okSl kn) (by rw[hgr.lenC];rfl) hgr.isOw (hK Lg H ?_ kn)
  have:srt []=[]:=by simp[srt]
  rw[this];exact hgr
 ·rcases hgr with ⟨_,h,_⟩|⟨y,rfl,rfl⟩
  ·cases ns with
   |nil=>exact absurd rfl h0
   |cons a b=>simp[Qq]at h
  ·have hy:=kn.l B.length (l:=y) (o:=.vec 1 (Qq ns)) (by simp)
   have hpos:0<ns.length:=List.length_pos_iff.2 h0
   refine Qavn (by kernel_rfl) (fun blk off cap zs w h1 h2 h3=>Go.Proofs.Any.slices_Sort_int lays189 blk off cap zs w h1 h2 h3) hy (by rw[Qab]) (by rw[Qab];exact hpos) fun H' hu=>?_
   refine hK [(y,.vec 1 (Qq (srt ns)))] H' (.inr ⟨y,by rw[Qab,Qab,Qa17],rfl⟩) ?_
   have:=kn.callL B.length (l:=y) (o:=.vec 1 (Qq ns)) (by simp) hu (by simp)
   simpa[srt]using this
def Qma (ks:List Nat):List (C×V):=ks.map fun k:Nat=>(.int .i64 (k:Int),.c (.bool true))
theorem Qa0d (ks:List Nat):(Qma ks).length=ks.length:=by simp[Qma]
theorem Q95 (ks:List Nat)(n:Int):Qjt 0 (.int .i64 n) (Qma ks)=True:=by
 refine eq_true ?_
 simp only[Qjt,Qma,List.mem_map]
 rintro e ⟨k,_,rfl⟩
 exact⟨k,rfl⟩
theorem Qaqk (ks:List Nat)(b:Nat):(Qel (.int .i64 (b:Int)) (Qma ks)).getD (.c (.bool false))=.c (.bool (decide (b∈ks))):=by
 induction ks with
 |nil=>simp[Qma,Qel]
 |cons k ks ih=>
  simp only[Qma,List.map_cons,Qel,Qev]at ih⊢
  by_cases h:b=k
  ·subst h;simp
  ·have:¬(b:Int)=(k:Int):=by omega
   simp only[this,decide_false,Bool.false_eq_true,if_false]
   rw[ih];simp[h]
theorem Qaxw (ks:List Nat)(b:Nat)(h:b∉ks):Q04 (.int .i64 (b:Int)) (.c (.bool true)) (Qma ks)=Qma (ks++[b]):=by
 induction ks with
 |nil=>simp[Qma,Q04]
 |cons k ks ih=>
  simp only[List.mem_cons,not_or]at h
  have hk:¬(b:Int)=(k:Int):=by omega
  have ih:=ih h.2
  simp only[Qma,List.map_cons,Q04,Qev,hk,decide_false,Bool.false_eq_true,if_false,List.cons_append]at ih⊢
  rw[ih]
theorem Q91 {ks:List Nat}(h:ks.Nodup):(Qma ks).Nodup:=by
 rw[Qma,List.Nodup,List.pairwise_map]
 refine List.Pairwise.imp (fun {a b} hab he=>?_) h
 simp only[Prod.mk.injEq,C.int.injEq,true_and,and_true]at he
 exact hab (by omega)
theorem Qalm {M ver:Nat}{ks:List Nat}(hM:H M=.map ver (Qma ks))(hnd:ks.Nodup)(hl:ks.length≤LIM)
  (hK:∀l H',Upd H H' []→l.Pairwise (· < ·)→(∀x,x∈l↔x∈ks)→K (.c (.sl false 1 (Qa4 l))) H') :
  Qj prog Qbo [.c (.mp M)] H K:=by
 refine Q8 ?_
 refine Qb Qaj Qu1 ?_
 have hMn:H M≠.none:=by rw[hM];simp
 have kn0:=Kn.start1 hM (by simp)
 refine Qa ?_
 simp only[go_sem]
 refine Qa ?_
 simp only[go_sem]
 refine Qz ?_
 refine Qa ?_
 simp only[go_sem,hM]
 refine⟨Q91 hnd,fun it hit H1 h1=>?_⟩
 have kn:=kn0.al hit h1
 refine Qe (Qd (Qt (fun m e1 H1=>∃(left:List (C×V)) (cur:Option (C×V)) (os:List Nat) (c:C) (Lg:List (Nat×Obj)),m=left.length∧os.Nodup∧(∀x,x∈os→x∈ks)∧(∀x∈ks,x∈os∨(C.int .i64 (x:Int),V.c (.bool true))∈left)∧
  (∀y∈left,∃x∈ks,x∉os∧y=(C.int .i64 (x:Int),V.c (.bool true)))∧left.Nodup∧os.length+left.length=ks.length∧
  Gr Lg 1 (Qa4 os) c∧Kn H H1 [(M,.map ver (Qma ks))] ([(it,.iter (some (M,ver)) left cur)]++Lg)∧e1=[(3,.c c),(6,.c (.itr it))]) (Qma ks).length ?_ ?_))
 ·refine⟨Qma ks,none,[],_,[],rfl,by simp,by simp,fun x hx=>.inr ?_,fun y hy=>?_,Q91 hnd,by simp[Qma],.nil 1,kn,rfl⟩
  ·exact List.mem_map.2 ⟨x,hx,rfl⟩
  ·obtain⟨x,hx,rfl⟩:=List.mem_map.1 hy
   exact⟨x,hx,by simp,rfl⟩
 ·rintro m e1 H2 ⟨left,cur,os,c,Lg,rfl,hond,hosub,hall,hleft,hlnd,hlen,hgr,kn,rfl⟩
  have hM2:=kn.e 0 rfl
  have hit2:=kn.l 0 rfl
  have hcw:=hgr.isOw
  refine Qa ?_
  simp only[go_sem,hcw,hit2,hM2]
  refine⟨⟨_,rfl⟩,fun hnil=>?_,fun y left' hy hl' hnd' hlen' H3 h3=>?_⟩
  ·subst hnil
   simp only[go_sem,Qcj,List.getD_cons_zero]
   refine Qe (Qc rfl (fun h=>by simp at h) fun _=>?_)
   refine Qu ?_
   simp only[go_sem,X.next]
   refine Qa ?_
   simp only[go_sem,hcw]
   refine Qa50 kn hgr fun Lg2 H3 hgr kn=>?_
   refine Qa ?_
   simp only[go_sem,hcw]
   refine Qh ?_
   simp only[go_sem,Q0,Q6,Qgm,List.mem_singleton,forall_eq,RS.op,hcw]
   have hmem:∀x,x∈os↔x∈ks:=fun x=>⟨hosub x,fun hx=>(hall x hx).resolve_right (by simp)⟩
   have hni:(os.map Int.ofNat).Nodup:=by
    rw[List.Nodup,List.pairwise_map]
    exact List.Pairwise.imp (fun {a b} hab he=>hab (Int.ofNat.inj he)) hond
   have hsn:=Qa18 hni
   obtain⟨l,hl1,hl2,hl3⟩:∃l:List Nat,srt (os.map Int.ofNat)=l.map Int.ofNat∧l.Pairwise (· < ·)∧∀x,x∈l↔x∈ks:=by
    refine⟨(srt (os.map Int.ofNat)).map Int.toNat,?_,?_,fun x=>?_⟩
    ·rw[List.map_map]
     conv=>lhs;rw[←List.map_id (srt (os.map Int.ofNat))]
     refine List.map_congr_left fun x hx=>?_
     rw[Qac4]at hx
     obtain⟨y,_,rfl⟩:=List.mem_map.1 hx
     simp
    ·rw[List.pairwise_map]
     refine List.Pairwise.imp_of_mem (fun {a b} ha hb hab=>?_) hsn
     rw[Qac4]at ha hb
     obtain⟨x,_,rfl⟩:=List.mem_map.1 ha
     obtain⟨y,_,rfl⟩:=List.mem_map.1 hb
     simpa using hab
    ·rw[←hmem]
     constructor
     ·intro hx
      obtain⟨y,hy,rfl⟩:=List.mem_map.1 hx
      rw[Qac4]at hy
      obtain⟨z,hz,rfl⟩:=List.mem_map.1 hy
      simpa using hz
     ·intro hx
      exact List.mem_map.2 ⟨(x:Int),by rw[Qac4];exact List.mem_map.2 ⟨x,hx,rfl⟩,by simp⟩
   have:=hgr.frz kn (Qdj _)
   rw[hl1]at this
   exact⟨_,.c _ _ this,hK l _ (kn.fin.drop1 hM) hl2 hl3⟩
  ·obtain⟨k,hk,hkos,rfl⟩:=hleft y hy
   have kn:=kn.stL 0 rfl h3
   have hM3:=kn.e 0 rfl
   have hit3:=kn.l 0 rfl
   simp only[go_sem,Qcj,List.getD_cons_zero]
   refine Qe (Qc rfl (fun _=>?_) (fun h=>by simp at h))
   refine Qf ?_
   simp only[go_sem]
   refine Qd ?_
   refine Qa ?_
   simp only[go_sem,hcw,hit3,hM3]
   refine⟨⟨_,rfl⟩,?_⟩
   simp only[go_sem,Qf8,List.getD_cons_zero]
   refine Qn ?_
   simp only[go_sem,hcw]
   have hol:os.length+1≤LIM:=by omega
   refine kn.growR (B:=[_]) (new:=Qa4 [k]) hgr (.mk' _ _ _ _) (Qjs _) (by simp only[Qax,List.length_cons,List.length_nil];omega) fun t Lg' H4 hgr ht kn=>?_
   simp only[go_sem,Qf9,X.next]
   refine⟨left'.length,by omega,left',_,os++[k],t,Lg',rfl,?_,fun x hx=>?_,fun x hx=>?_,fun y hy'=>?_,hnd',?_,?_,kn,rfl⟩
   ·refine List.nodup_append.2 ⟨hond,by simp,fun a ha b hb=>?_⟩
    simp at hb;subst hb;exact fun e=>hkos (e▸ha)
   ·rcases List.mem_append.1 hx with hx|hx
    ·exact hosub x hx
    ·simp at hx;subst hx;exact hk
   ·rcases hall x hx with h|h
    ·exact .inl (List.mem_append_left _ h)
    ·by_cases hxk:x=k
     ·subst hxk;exact .inl (List.mem_append_right _ (by simp))
     ·refine .inr ((hl' _).2 ⟨h,fun he=>hxk ?_⟩)
      simp only[Prod.mk.injEq,C.int.injEq,true_and,and_true]at he
      omega
   ·obtain⟨h1,h2⟩:=(hl' y).1 hy'
    obtain⟨x,hx,hxo,rfl⟩:=hleft y h1
    refine⟨x,hx,fun hh=>?_,rfl⟩
    rcases List.mem_append.1 hh with hh|hh
    ·exact hxo hh
    ·simp at hh;subst hh;exact h2 rfl
   ·simp;omega
   ·rw[Qawf];exact hgr
theorem Q36 {M ver:Nat}{ks:List Nat}(hM:H M=.map ver (Qma ks))(hnd:ks.Nodup)(hl:ks.length≤LIM)
  (hK:∀fl l H',Upd H H' []→l.Pairwise (· < ·)→(∀x,x∈l↔x∈ks)→K (.c (.sl fl 1 (Qa4 l))) H') :
  Qj prog Qbo [.c (.mp M)] H K:=Qalm hM hnd hl fun l H'=>hK false l H'
end Go.AE.Y

namespace Go.AE.Y
open Go.Proofs.Tryz
variable {H H0:Heap}{K:V→Heap→Prop}
end Go.AE.Y

namespace Go.AE.Y
open Go.Proofs.Tryz
variable {H H0:Heap}{K:V→Heap→Prop}{E B Lg:List (Nat×Obj)}
def Gw (Lg:List (Nat×Obj))(sz:Nat)(rows:List (List C))(c:C):Prop:=
 (c=.sl true sz []∧rows=[]∧Lg=[])∨∃y R,c=.vsl y sz 0 rows.length∧Lg=[(y,.vec sz R)]∧R.take rows.length=rows
end Go.AE.Y
namespace Go.AE
open Go.AE.Y
open Go.Proofs.Tryz
variable {H H0:Heap}{K:V→Heap→Prop}{E B Lg:List (Nat×Obj)}
theorem Gr.gw {sz:Nat}{rows:List (List C)}{c:C}(h:Gr Lg sz rows c):Gw Lg sz rows c:=by
 rcases h with h|⟨y,h1,h2⟩
 ·exact .inl h
 ·exact .inr ⟨y,rows,h1,h2,List.take_length⟩
end Go.AE
namespace Go.AE.Y
open Go.Proofs.Tryz
variable {H H0:Heap}{K:V→Heap→Prop}{E B Lg:List (Nat×Obj)}
theorem Gw.isOw {sz:Nat}{rows:List (List C)}{c:C}(h:Gw Lg sz rows c):c.isOw=false:=by rcases h with ⟨rfl,_⟩|⟨y,R,rfl,_⟩ <;> rfl
theorem Gw.frz {ns:List Int}{c:C}(h:Gw Lg 1 (Qq ns) c)(kn:Kn H0 H E (B++Lg)):FrzC H (un H0) c (.sl false 1 (Qq ns)):=by
 rcases h with ⟨rfl,h2,_⟩|⟨y,R,rfl,rfl,hR⟩
 ·rw[h2];exact FrzR.nil.sl
 ·have hle:(Qq ns).length≤R.length:=by
   have:=congrArg List.length hR
   rw[List.length_take]at this
   omega
  have h:=FrzR.same (H:=H) (S:=un H0) (Qdj ns)
  exact .vsl y 1 0 _ R (Qq ns) (Qq ns) (Qy6 (kn.loc (y,.vec 1 R) (by simp))) (kn.get (y,.vec 1 R) (by simp)).1 (by omega) (by simpa using hR.symm) h.spec.1 (fun i r r' h1 h2=>(h.spec.2 i r r' h1 h2).spec.1) fun i r r' j c c' h1 h2 h3 h4=>(h.spec.2 i r r' h1 h2).spec.2 j c c' h3 h4
theorem Qav6 (ns:List Int)(i:Nat)(x:Int):(Qq ns).set i [.int .i64 x]=Qq (ns.set i x):=by simp[Qq,List.map_set]
theorem Qaqw (ns:List Int)(k:Nat):(Qq ns).take k=Qq (ns.take k):=by simp[Qq,List.map_take]
theorem Qax1 {c:C}{ns:List Int}(kn:Kn H0 H E (B++Lg))(hgr:Gr Lg 1 (Qq ns) c)(hs:ns.Pairwise (·≤·))(hL:ns.length≤2 ^ 38)
  (hK:∀t Lg' ns' H',Gw Lg' 1 (Qq ns') t→t.isOw=false→Kn H0 H' E (B++Lg')→ns'.Pairwise (· < ·)→(∀x,x∈ns'↔x∈ns)→ns'.length≤ns.length→K (.c t) H') :
  Qj prog Qok [.c c] H K:=by
 have how:=hgr.isOw
 have hok:=eq_true (hgr.okSl kn)
 have hlen:=hgr.lenC
 have hrw:=hgr.rowsOf kn
 have hsz:=hgr.elemSz
 refine Qb Qaj Qamz ?_
 refine Qa ?_
 simp only[go_sem]
 refine Qz ?_
 refine Qa ?_
 simp only[go_sem,hok,hlen,Qab]
 intro _
 refine Qe (Qc rfl ?_ ?_)
 ·intro hc
  have h2:ns.length<2:=by have:=of_decide_eq_true hc;omega
  refine Qa ?_
  simp only[go_sem]
  refine Qh ?_
  simp only[go_sem,Q0,Q6,Qgm,List.mem_singleton,forall_eq,RS.op]
  exact hK c Lg ns H hgr.gw how kn (Qalx hs fun i h0 hi=>by omega) (fun _=>Iff.rfl) (Nat.le_refl _)
 ·intro hc
  have h2:2≤ns.length:=by have:=of_decide_eq_false hc;omega
  obtain⟨z,rfl,rfl⟩:∃z,c=.vsl z 1 0 ns.length∧Lg=[(z,.vec 1 (Qq ns))]:=by
   rcases hgr with ⟨_,h,_⟩|⟨y,h1,h2⟩
   ·have:ns.length=0:=by rw[←Qab,h];rfl
    omega
   ·exact⟨y,by rw[h1,Qab],h2⟩
  have hz:=kn.l B.length (l:=z) (o:=.vec 1 (Qq ns)) (by simp)
  refine Qf ?_
  simp only[go_sem]
  refine Qz ?_
  refine Qa ?_
  simp only[go_sem]
  refine Qe (Qd (Qt (fun m e1 H1=>∃(k:Nat),m=ns.length-k∧0<k∧k≤ns.length∧H1=H∧(∀i,0<i→i<k→ns.getD i 0≠ns.getD (i-1) 0)∧e1=[(0,.c (.vsl z 1 0 ns.length)),(3,.c (.int .i64 k))]) (ns.length-1) ?_ ?_))
  ·exact⟨1,rfl,by omega,by omega,rfl,fun i h0 h1=>by omega,rfl⟩
  ·rintro m e1 H1 ⟨k,hm,hk0,hk,rfl,hne,rfl⟩
   refine Qz ?_
   refine Qa ?_
   simp only[go_sem,hz,Qab,Nat.zero_add,Nat.le_refl]
   intro hlim
   simp only[LIM]at hlim
   refine Qe (Qc rfl ?_ ?_)
   ·intro hc2
    have hlt:k<ns.length:=by simpa using hc2
    have hlt1:k-1<ns.length:=by omega
    have e1:((k:Int)-1)=((k-1:Nat):Int):=by omega
    have htk:(Qq ns).take ns.length=Qq ns:=List.take_of_length_le (by rw[Qab];exact Nat.le_refl _)
    refine Qf ?_
    simp only[go_sem]
    refine Qe (Qd ?_)
    refine Qeo ?_
    simp only[go_sem,hz,e1,hlt,hlt1,htk,Qab,Qjp _ _ hlt,Qjp _ _ hlt1,Nat.zero_add,Nat.le_refl]
    refine⟨Qo (by omega) (by omega),?_⟩
    refine Qc rfl ?_ ?_
    ·intro hc3
     have heq:ns.getD k 0=ns.getD (k-1) 0:=by simpa using hc3
     refine Qa ?_
     simp only[go_sem,hz,Qab,Nat.zero_add,Nat.le_refl]
     refine⟨by omega,?_⟩
     refine Qz ?_
     refine Qa ?_
     simp only[go_sem]
     refine Qe (Qd (Qt (fun m e1 H2=>∃(j kk:Nat) (R:List Int),m=ns.length-j∧k<j∧j≤ns.length∧Cmp ns R kk j∧Kn H0 H2 E (B++[(z,.vec 1 (Qq R))])∧
      e1=[(0,.c (.vsl z 1 0 ns.length)),(3,.c (.int .i64 kk)),(4,.c (.vsl z 1 k (ns.length-k))),(5,.c (.int .i64 ((j-k:Nat):Int)))]) (ns.length-(k+1)) ?_ ?_))
     ·refine⟨k+1,k,ns,rfl,by omega,by omega,.start hs hk0 hlt hne heq,kn,?_⟩
      have:k+1-k=1:=by omega
      rw[this];rfl
     ·rintro m2 e1 H2 ⟨j,kk,R,hm2,hkj,hj,hcm,kn,rfl⟩
      have hz:=kn.l B.length (l:=z) (o:=.vec 1 (Qq R)) (by simp)
      have hRl:=hcm.len
      have hkkj:=hcm.kj
      refine Qz ?_
      refine Qa ?_
      have e3:k+(ns.length-k)=ns.length:=by omega
      simp only[go_sem,hz,Qab,hRl,e3,Nat.le_refl]
      intro _
      refine Qe (Qc rfl ?_ ?_)
      ·intro hc4
       have hjl:j<ns.length:=by have:=of_decide_eq_true hc4;omega
       have hjR:j<R.length:=by omega
       have hjR1:j-1<R.length:=by omega
       have hjk:j-k<ns.length-k:=by omega
       have hjk1:j-k-1<ns.length-k:=by omega
       have e4:(((j-k:Nat):Int)-1)=((j-k-1:Nat):Int):=by omega
       have hr1:(((Qq R).drop k).take (ns.length-k)).getD (j-k) []=[.int .i64 (ns.getD j 0)]:=by
        rw[←hcm.same j (by omega),←Qjp _ _ hjR]
        simp only[List.getD_eq_getElem?_getD,List.getElem?_take,List.getElem?_drop]
        rw[if_pos hjk]
        have:k+(j-k)=j:=by omega
        rw[this]
       have hr2:(((Qq R).drop k).take (ns.length-k)).getD (j-k-1) []=[.int .i64 (ns.getD (j-1) 0)]:=by
        rw[←hcm.same (j-1) (by omega),←Qjp _ _ hjR1]
        simp only[List.getD_eq_getElem?_getD,List.getElem?_take,List.getElem?_drop]
        rw[if_pos hjk1]
        have:k+(j-k-1)=j-1:=by omega
        rw[this]
       refine Qf ?_
       simp only[go_sem]
       refine Qbaa (fun e2 H3=>∃(kk:Nat) (R:List Int),Cmp ns R kk (j+1)∧Kn H0 H3 E (B++[(z,.vec 1 (Qq R))])∧
        lk 0 e2=.c (.vsl z 1 0 ns.length)∧lk 3 e2=.c (.int .i64 kk)∧lk 4 e2=.c (.vsl z 1 k (ns.length-k))∧lk 5 e2=.c (.int .i64 ((j-k:Nat):Int))) ?_ ?_
       ·intro Q hnr _ _
        refine Qd ?_
        refine Qeo ?_
        simp only[go_sem,hz,e3,e4,hr1,hr2,hjk,hjk1,Qab,hRl,Nat.le_refl]
        refine⟨Qo (by omega) (by omega),?_⟩
        refine Qc rfl ?_ ?_
        ·intro hc5
         have hne5:ns.getD j 0≠ns.getD (j-1) 0:=by simpa using hc5
         have hkkl:kk<ns.length:=by omega
         have hkkR:kk<R.length:=by omega
         have htk:(Qq R).take ns.length=Qq R:=List.take_of_length_le (by rw[Qab];omega)
         refine Qa ?_
         simp only[go_sem,hz,e3,hr1,hjk,hkkl,Qjp _ _ hkkR,Qav6,Qab,hRl,Nat.zero_add,Nat.le_refl]
         intro H3 h3
         have kn3:=kn.stL B.length (x:=z) (o:=.vec 1 (Qq R)) (by simp) h3
         have kn:Kn H0 H3 E (B++[(z,.vec 1 (Qq (R.set kk (ns.getD j 0))))]):=by simpa using kn3
         refine Qn ?_
         simp only[go_sem]
         refine⟨Qo (by omega) (by omega),?_⟩
         exact hnr _ _ ⟨kk+1,_,hcm.ne hs hjl hne5,kn,rfl,rfl,rfl,rfl⟩
        ·intro hc5
         have heq5:ns.getD j 0=ns.getD (j-1) 0:=by simpa using hc5
         refine Qf ?_
         simp only[go_sem]
         exact hnr _ _ ⟨kk,R,hcm.eq hjl heq5,kn,rfl,rfl,rfl,rfl⟩
       ·rintro e2 H3 ⟨kk,R,hcm,kn,l0,l3,l4,l5⟩
        refine Qn ?_
        simp only[go_sem,X.next,l0,l3,l4,l5]
        refine⟨Qo (by omega) (by omega),ns.length-(j+1),by omega,j+1,kk,R,rfl,by omega,by omega,hcm,kn,?_⟩
        have:(((j-k:Nat):Int)+1)=((j+1-k:Nat):Int):=by omega
        rw[this]
      ·intro hc4
       have hje:j=ns.length:=by have:=of_decide_eq_false hc4;omega
       subst hje
       have hkkl:kk≤R.length:=by omega
       refine Qu ?_
       simp only[go_sem,X.next]
       refine Qa ?_
       have e5:kk+(ns.length-kk)=ns.length:=by omega
       simp only[go_sem,hz,e5,Qab,hRl,Nat.zero_add,Nat.le_refl]
       refine⟨by omega,fun H3 h3=>?_⟩
       have kn3:=kn.stL B.length (x:=z) (o:=.vec 1 (Qq R)) (by simp) h3
       have htk2:((Qq R).take kk++List.replicate (ns.length-kk) [C.int .i64 0]++(Qq R).drop ns.length).take kk=Qq (R.take kk):=by
        rw[List.append_assoc,List.take_append_of_le_length (by rw[List.length_take,Qab];omega),List.take_take,Nat.min_self,Qaqw]
       have hl2:ns.length≤((Qq R).take kk++List.replicate (ns.length-kk) [C.int .i64 0]++(Qq R).drop ns.length).length:=by
        simp only[List.length_append,List.length_take,List.length_replicate,List.length_drop,Qab];omega
       generalize (Qq R).take kk++List.replicate (ns.length-kk) [C.int .i64 0]++(Qq R).drop ns.length=R2 at *
       have kn:Kn H0 H3 E (B++[(z,.vec 1 R2)]):=by simpa using kn3
       have hz3:=kn.l B.length (l:=z) (o:=.vec 1 R2) (by simp)
       refine Qa ?_
       simp only[go_sem,hz3,hl2,Nat.zero_add,Nat.sub_zero]
       refine⟨by omega,?_⟩
       refine Qh ?_
       simp only[go_sem,X.next,Q0,Q6,Qgm,List.mem_singleton,forall_eq,RS.op]
       have hrl:(Qq (R.take kk)).length=kk:=by rw[Qab,List.length_take];omega
       refine hK (.vsl z 1 0 kk) _ (R.take kk) H3 (.inr ⟨z,R2,?_,rfl,?_⟩) rfl kn hcm.asc (fun x=>?_) (by rw[List.length_take];omega)
       ·rw[hrl]
       ·rw[hrl];exact htk2
       ·rw[hcm.mem,List.take_length]
    ·intro hc3
     have hneq:¬ns.getD k 0=ns.getD (k-1) 0:=by simpa using hc3
     refine Qf ?_
     simp only[go_sem]
     refine Qn ?_
     simp only[go_sem,X.next]
     refine⟨Qo (by omega) (by omega),ns.length-(k+1),by omega,k+1,rfl,by omega,by omega,fun i h0 h1=>?_,rfl⟩
     by_cases h:i<k
     ·exact hne i h0 h
     ·have:i=k:=by omega
      subst this;exact hneq
   ·intro hc2
    have hge:ns.length≤k:=by simpa using hc2
    refine Qu ?_
    simp only[go_sem,X.next]
    refine Qa ?_
    simp only[go_sem]
    refine Qh ?_
    simp only[go_sem,Q0,Q6,Qgm,List.mem_singleton,forall_eq,RS.op]
    exact hK _ _ ns H1 hgr.gw rfl kn (Qalx hs fun i h0 hi=>hne i h0 (by omega)) (fun _=>Iff.rfl) (Nat.le_refl _)
end Go.AE.Y

namespace Go.AE.Y
attribute [local go_sem] cond_true cond_false Bool.not_true Bool.not_false
open Go.Proofs.Tryz
variable {H H0 F:Heap}{K:V→Heap→Prop}{E E' L:List (Nat×Obj)}
abbrev Qahi (x5:Nat)(fl:Bool)(fns:List Fn):List C:=[.ptr x5 0,.pp [.sl fl 3 (Qm fns)]]
theorem Qa8n {x5:Nat}{fl:Bool}{fns:List Fn}{e:Ex}{ns:List Int}{t:C}{Lg:List (Nat×Obj)}(hgr:Gr Lg 1 (Qq ns) t)(kn:Kn F H [] ((x5,.st [t])::Lg))(hl:ns.length<2^38)
  (hK:∀H' t' Lg',Gr Lg' 1 (Qq (ns++clI fns e)) t'→Kn F H' [] ((x5,.st [t'])::Lg')→K (.tup []) H'):Qj prog Qbg ([.ag e.cells]++(Qahi x5 fl fns).map .c) H K:=by
 have hto:=hgr.isOw
 have g5:=kn.l 0 rfl
 refine Qb Qaj Qzp ?_
 refine Qa ?_
 simp only[go_sem,e.cells_eq]
 refine Qa ?_
 simp only[go_sem]
 refine Qc rfl ?_ ?_
 ·intro hc
  have h13:e.op=13:=by simpa using hc
  rw[clI,if_pos h13]at hK
  refine Qwc ?_
  simp only[go_sem,g5,hto]
  refine Qaiy ?_
  simp only[go_sem,Qhl,g5,hto]
  refine Kn.growR (B:=[(x5,.st [t])]) kn hgr (.mk' _ true 1 _) (by simp[noOw,C.isOw]) (by simp only[Qab,List.length_cons,List.length_nil,LIM];omega) fun t' Lg' H1 hgr' hto' kn=>?_
  have g5:=kn.l 0 rfl
  simp only[go_sem,Qhk,g5,hto']
  intro H2 h2
  have kn:=kn.stL 0 rfl h2
  simp only[go_sem,Q0,Q6,Qr8]
  rw[Qaqv]at hgr'
  exact hK _ _ _ hgr' kn
 ·intro hc
  have h13:¬e.op=13:=by simpa using hc
  rw[clI,if_neg h13,List.append_nil]at hK
  refine Qf ?_
  simp only[go_sem,Q0,Q6,Qr8]
  exact hK _ _ _ hgr kn
theorem Qayj {x5:Nat}{fl:Bool}{fns:List Fn}:∀(n:Nat) (x:Ex) (ns:List Int) (t:C) (Lg:List (Nat×Obj)) (F H:Heap) (K:V→Heap→Prop),x.size≤n→Gr Lg 1 (Qq ns) t→Kn F H [] ((x5,.st [t])::Lg)→ns.length+x.size≤2^38→
  (∀H' t' Lg',Gr Lg' 1 (Qq (ns++clL fns x.pre)) t'→Kn F H' [] ((x5,.st [t'])::Lg')→K (.tup []) H')→Qj prog Qgh [.ag x.cells,.c (.fn Qbg (Qahi x5 fl fns))] H K:=by
 intro n
 induction n with
 |zero=>intro x ns t Lg F H K h;have:=x.size_pos;omega
 |succ n ih=>
 intro x ns t Lg F H K hn hgr kn hb hK
 have hsz:=x.size_kids
 have hone:(clI fns x).length≤1:=by rw[clI];split <;> simp
 refine Qb Qaj Qahu ?_
 refine Qa ?_
 simp only[go_sem,x.cells_eq]
 refine Qa ?_
 simp only[go_sem]
 have hvc:=fun K=>Qa8n (K:=K) (fl:=fl) (fns:=fns) (e:=x) hgr kn (by omega)
 rw[x.cells_eq]at hvc
 refine hvc _ fun H1 t1 Lg1 hgr1 kn=>?_
 simp only[go_sem]
 refine Qa ?_
 simp only[go_sem,Qi]
 intro hl
 simp only[LIM]at hl
 refine Qd (Qt (fun m e1 H1=>∃(i:Nat) (t2:C) (Lg2:List (Nat×Obj)),m=x.kids.length-i∧i≤x.kids.length∧Gr Lg2 1 (Qq (ns++clI fns x++clL fns (Qaa (x.kids.take i)))) t2∧Kn F H1 [] ((x5,.st [t2])::Lg2)∧
  e1=[(1,.c (.fn Qbg (Qahi x5 fl fns))),(10,.c (.sl false 4 (Q2 x.kids))),(11,.c (.int .i64 x.kids.length)),(12,.c (.int .i64 i))]) x.kids.length ?_ ?_)
 ·exact⟨0,t1,Lg1,by omega,by omega,by simpa[Qaa,clL]using hgr1,kn,rfl⟩
 ·clear kn hgr1
  rintro m e1 H2 ⟨i,t2,Lg2,hm1,hi,hgr,kn,rfl⟩
  refine Qa ?_
  simp only[go_sem]
  refine Qe (Qc rfl ?_ ?_)
  ·intro hc
   have hlt:i<x.kids.length:=by simpa using hc
   have hms:=Qad (List.getElem_mem hlt)
   obtain⟨y,hy⟩:∃y,x.kids[i]=y:=⟨_,rfl⟩
   have htk:=Qda hlt
   have hlen:(clL fns (Qaa (x.kids.take i))).length+y.size≤Qv x.kids:=by
    have h1:=Q1c fns (Qaa (x.kids.take i))
    rw[Qe4]at h1
    have h2:Qv x.kids=Qv (x.kids.take i)+Qv (x.kids.drop i):=by rw[←Qet,List.take_append_drop]
    have h3:x.kids.drop i=y::x.kids.drop (i+1):=by rw[←hy];exact (List.getElem_cons_drop hlt).symm
    rw[h3]at h2
    simp only[Qv]at h2
    omega
   rw[hy]at hms htk
   refine Qf ?_
   try simp only[go_sem]
   refine Qe (Qd ?_)
   refine Qa ?_
   simp only[go_sem,hlt,Qi,Qag _ _ hlt,hy,y.cells_eq]
   intro xk hxk H3 h3
   have kn:Kn F H3 [] (((x5,.st [t2])::Lg2)++[(xk,.st [.int .i64 0,.int .i64 0,.str [],.sl true 4 []])]):=kn.al hxk h3
   have g5:=kn.getM
   simp only[go_sem,Qpa,g5]
   intro H4 h4
   have kn:=kn.stM h4
   have g5:=kn.getM
   refine Qn ?_
   simp only[go_sem,g5]
   obtain⟨F',kn',back⟩:=kn.side
   have hih:=fun K=>ih y (ns++clI fns x++clL fns (Qaa (x.kids.take i))) t2 Lg2 F' H4 K
   rw[y.cells_eq]at hih
   refine hih _ (by omega) hgr kn' (by simp only[List.length_append];omega) fun H5 t3 Lg3 hgr3 kn=>?_
   have kn:=Kn.drop (back _ _ kn)
   simp only[go_sem]
   refine Qn ?_
   simp only[go_sem,AE.X.next]
   refine⟨Qo (by omega) (by omega),x.kids.length-(i+1),by omega,i+1,t3,Lg3,rfl,by omega,?_,kn,rfl⟩
   rw[htk,Q9c,←List.append_assoc]
   exact hgr3
  ·intro hc
   have hge:x.kids.length≤i:=by simpa using hc
   rw[List.take_of_length_le hge]at hgr
   refine Qu ?_
   simp only[go_sem,AE.X.next,Q0,Q6,Qr8]
   refine hK _ t2 Lg2 ?_ kn
   rw[x.pre_eq,clL,List.flatMap_cons,←List.append_assoc]
   exact hgr
theorem Qbac {x5:Nat}{fl:Bool}{fns:List Fn}{x:St}{nest:Int}{ns:List Int}{t:C}{Lg:List (Nat×Obj)}(hgr:Gr Lg 1 (Qq ns) t)(kn:Kn F H [] ((x5,.st [t])::Lg))(hb:ns.length+Qv x.args≤2^38)
  (hK:∀H' t' Lg',Gr Lg' 1 (Qq (ns++clL fns (Qaa x.args))) t'→Kn F H' [] ((x5,.st [t'])::Lg')→K (.tup []) H'):Qj prog Qcl ([.ag x.cells,.c (.int .i64 nest)]++(Qahi x5 fl fns).map .c) H K:=by
 refine Qb Qaj Q9w ?_
 refine Qa ?_
 simp only[go_sem,x.cells_eq]
 refine Qa ?_
 simp only[go_sem,Qi]
 intro hl
 simp only[LIM]at hl
 refine Qd (Qt (fun m e1 H1=>∃(i:Nat) (t2:C) (Lg2:List (Nat×Obj)),m=x.args.length-i∧i≤x.args.length∧Gr Lg2 1 (Qq (ns++clL fns (Qaa (x.args.take i)))) t2∧Kn F H1 [] ((x5,.st [t2])::Lg2)∧
  e1=[(2,.c (.ptr x5 0)),(3,.c (.pp [.sl fl 3 (Qm fns)])),(9,.c (.sl false 4 (Q2 x.args))),(10,.c (.int .i64 x.args.length)),(11,.c (.int .i64 i))]) x.args.length ?_ ?_)
 ·exact⟨0,t,Lg,by omega,by omega,by simpa[Qaa,clL]using hgr,kn,rfl⟩
 ·clear kn hgr
  rintro m e1 H2 ⟨i,t2,Lg2,hm1,hi,hgr,kn,rfl⟩
  refine Qa ?_
  simp only[go_sem]
  refine Qe (Qc rfl ?_ ?_)
  ·intro hc
   have hlt:i<x.args.length:=by simpa using hc
   have hms:=Qad (List.getElem_mem hlt)
   obtain⟨y,hy⟩:∃y,x.args[i]=y:=⟨_,rfl⟩
   have htk:=Qda hlt
   have hlen:(clL fns (Qaa (x.args.take i))).length+y.size≤Qv x.args:=by
    have h1:=Q1c fns (Qaa (x.args.take i))
    rw[Qe4]at h1
    have h2:Qv x.args=Qv (x.args.take i)+Qv (x.args.drop i):=by rw[←Qet,List.take_append_drop]
    have h3:x.args.drop i=y::x.args.drop (i+1):=by rw[←hy];exact (List.getElem_cons_drop hlt).symm
    rw[h3]at h2
    simp only[Qv]at h2
    omega
   rw[hy]at hms htk
   refine Qf ?_
   try simp only[go_sem]
   refine Qe (Qd ?_)
   refine Qa ?_
   simp only[go_sem,hlt,Qi,Qag _ _ hlt,hy,y.cells_eq]
   intro xk hxk H3 h3
   have kn:Kn F H3 [] (((x5,.st [t2])::Lg2)++[(xk,.st [.int .i64 0,.int .i64 0,.str [],.sl true 4 []])]):=kn.al hxk h3
   have g5:=kn.getM
   simp only[go_sem,Qlt,g5]
   intro H4 h4
   have kn:=kn.stM h4
   have g5:=kn.getM
   refine Qn ?_
   simp only[go_sem,g5]
   obtain⟨F',kn',back⟩:=kn.side
   have hih:=fun K=>Qayj (x5:=x5) (fl:=fl) (fns:=fns) y.size y (ns++clL fns (Qaa (x.args.take i))) t2 Lg2 F' H4 K
   rw[y.cells_eq]at hih
   refine hih _ (Nat.le_refl _) hgr kn' (by simp only[List.length_append];omega) fun H5 t3 Lg3 hgr3 kn=>?_
   have kn:=Kn.drop (back _ _ kn)
   simp only[go_sem]
   refine Qn ?_
   simp only[go_sem,AE.X.next]
   refine⟨Qo (by omega) (by omega),x.args.length-(i+1),by omega,i+1,t3,Lg3,rfl,by omega,?_,kn,rfl⟩
   rw[htk,Q9c,←List.append_assoc]
   exact hgr3
  ·intro hc
   have hge:x.args.length≤i:=by simpa using hc
   rw[List.take_of_length_le hge]at hgr
   refine Qu ?_
   simp only[go_sem,AE.X.next,Q0,Q6,Qr8]
   exact hK _ t2 Lg2 hgr kn
theorem Qayk {x5:Nat}{fl:Bool}{fns:List Fn}:∀(n:Nat) (l:List St) (nest:Int) (f5:Bool) (ns:List Int) (t:C) (Lg:List (Nat×Obj)) (F H:Heap) (K:V→Heap→Prop),Qg l≤n→0≤nest→nest+n≤2^41→Gr Lg 1 (Qq ns) t→Kn F H [] ((x5,.st [t])::Lg)→ns.length+Qg l≤2^38→
  (∀H' t' Lg',Gr Lg' 1 (Qq (ns++clL fns (Qa5 l))) t'→Kn F H' [] ((x5,.st [t'])::Lg')→K (.tup []) H')→Qj prog Qeu [.c (.sl f5 5 (Ql l)),.c (.int .i64 nest),.c (.fn Qcl (Qahi x5 fl fns))] H K:=by
 intro n
 induction n using Nat.strongRecOn with
 |_ n ih=>
 intro l nest f5 ns t Lg F H K hn h0 hm hgr kn hb hK
 refine Qb Qaj Qahv ?_
 refine Qa ?_
 simp only[go_sem,Qw]
 intro hl
 simp only[LIM]at hl
 refine Qd (Qt (fun m e1 H1=>∃(i:Nat) (t2:C) (Lg2:List (Nat×Obj)),m=l.length-i∧i≤l.length∧Gr Lg2 1 (Qq (ns++clL fns (Qa5 (l.take i)))) t2∧Kn F H1 [] ((x5,.st [t2])::Lg2)∧
  e1=[(1,.c (.int .i64 nest)),(2,.c (.fn Qcl (Qahi x5 fl fns))),(8,.c (.sl f5 5 (Ql l))),(9,.c (.int .i64 l.length)),(10,.c (.int .i64 i))]) l.length ?_ ?_)
 ·exact⟨0,t,Lg,by omega,by omega,by simpa[Qa5,clL]using hgr,kn,rfl⟩
 ·clear kn hgr
  rintro m e1 H1 ⟨i,t2,Lg2,hm1,hi,hgr,kn,rfl⟩
  refine Qa ?_
  simp only[go_sem]
  refine Qe (Qc rfl ?_ ?_)
  ·intro hc
   have hlt:i<l.length:=by simpa using hc
   have hms:=Qai (List.getElem_mem hlt)
   have htk:=Qac7 hlt
   have hst:=Ql0 hlt
   have hsl2:=Qca l (i+1)
   have hcl:=Q1c fns (Qa5 (l.take i))
   have hpl:=Qfh (l.take i)
   obtain⟨x,hx⟩:∃x,l[i]=x:=⟨_,rfl⟩
   rw[hx]at hms hst htk
   have hse:=x.size_eq
   have hca:=Q1c fns (Qaa x.args)
   rw[Qe4]at hca
   have hcb:=Q1c fns (Qa5 x.body)
   have hpb:=Qfh x.body
   refine Qf ?_
   try simp only[go_sem]
   refine Qe (Qd ?_)
   refine Qa ?_
   simp only[go_sem,hlt,Qw,Qar _ _ hlt,hx,x.cells_eq]
   intro x7 hx7 H3 h3
   have kn:Kn F H3 [] (((x5,.st [t2])::Lg2)++[(x7,.st [.int .i64 0,.str [],.sl true 4 [],.sl true 5 [],.sl true 5 []])]):=kn.al hx7 h3
   have g7:=kn.getM
   simp only[go_sem,Qpc,g7]
   intro H4 h4
   have kn:=kn.stM h4
   have g7:=kn.getM
   refine Qa ?_
   simp only[go_sem,g7]
   obtain⟨F',kn',back⟩:=kn.side
   have hvc:=fun K=>Qbac (K:=K) (fl:=fl) (fns:=fns) (x:=x) (nest:=nest) hgr kn' (by simp only[List.length_append];omega)
   rw[x.cells_eq]at hvc
   refine hvc _ fun H5 t3 Lg3 hgr kn=>?_
   have kn:=back _ _ kn
   clear back kn' hvc
   have g7:=kn.getM
   simp only[go_sem]
   refine Qa ?_
   simp only[go_sem,g7]
   refine⟨Qo (by omega) (by omega),?_⟩
   obtain⟨F',kn',back⟩:=kn.side
   refine ih (Qg x.body) (by omega) x.body (nest+1) false _ _ _ F' _ _ (Nat.le_refl _) (by omega) (by omega) hgr kn' (by simp only[List.length_append];omega) fun H6 t4 Lg4 hgr kn=>?_
   have kn:=back _ _ kn
   clear back kn'
   have g7:=kn.getM
   simp only[go_sem]
   refine Qn ?_
   simp only[go_sem,g7]
   refine⟨Qo (by omega) (by omega),?_⟩
   obtain⟨F',kn',back⟩:=kn.side
   refine ih (Qg x.els) (by omega) x.els (nest+1) false _ _ _ F' _ _ (Nat.le_refl _) (by omega) (by omega) hgr kn' (by simp only[List.length_append];omega) fun H7 t5 Lg5 hgr kn=>?_
   have kn:=Kn.drop (back _ _ kn)
   simp only[go_sem]
   refine Qn ?_
   simp only[go_sem,AE.X.next]
   refine⟨Qo (by omega) (by omega),l.length-(i+1),by omega,i+1,t5,Lg5,rfl,by omega,?_,kn,rfl⟩
   rw[htk,x.pre_eq,Q9c,Q9c,Q9c]
   simpa only[List.append_assoc]using hgr
  ·intro hc
   have hge:l.length≤i:=by simpa using hc
   rw[List.take_of_length_le hge]at hgr
   refine Qu ?_
   simp only[go_sem,AE.X.next,Q0,Q6,Qr8]
   exact hK _ t2 Lg2 hgr kn
theorem Qayc {fl:Bool}{fns:List Fn}{k:Nat}(h:FineP fns)(hk:k<fns.length)(hb:Qg fns[k].body≤2^36)(hK:∀H',Upd H H' []→K (.c (.sl false 1 (Qa4 (Qmo fns k)))) H') :
  Qj prog Qoe [.ag [.sl fl 3 (Qm fns)],.c (.int .i64 k)] H K:=by
 obtain⟨f,hfe⟩:∃f,fns[k]=f:=⟨_,rfl⟩
 have hcalls:=fun ns h1 h2=>Qayg h hk (ns:=ns) h1 h2
 rw[hfe]at hb hcalls
 have hcl:=Q1c fns (Qa5 f.body)
 have hpl:=Qfh f.body
 refine Q8 ?_
 refine Qb Qaj Qamo ?_
 refine Qa ?_
 simp only[go_sem]
 refine Qa ?_
 simp only[go_sem]
 intro x5 hx5 H1 h1
 have kn:=(Kn.start0 H).al hx5 h1
 refine Qa ?_
 simp only[go_sem,hk,Qp,Qam _ _ hk,hfe,Fn.cells]
 refine Qayk (x5:=x5) (fl:=fl) (fns:=fns) (Qg f.body) f.body 1 false [] (.sl true 1 []) [] H H1 _ (Nat.le_refl _) (by omega) (by omega) (.nil 1) kn (by simp only[List.length_nil];omega) fun H2 t Lg hgr kn=>?_
 rw[List.nil_append]at hgr
 have hto:=hgr.isOw
 have g5:=kn.l 0 rfl
 simp only[go_sem]
 refine Qa ?_
 simp only[go_sem,g5,hto]
 refine Qa50 (B:=[(x5,.st [t])]) kn hgr fun Lg2 H3 hgr kn=>?_
 have g5:=kn.l 0 rfl
 simp only[go_sem]
 refine Qa ?_
 simp only[go_sem,g5,hto]
 refine Qax1 kn hgr (Qaid _) (by rw[Qa17];omega) fun t2 Lg3 ns' H4 hgw how2 kn h1 h2 h3=>?_
 simp only[go_sem,Qsm,how2]
 refine Qh ?_
 simp only[go_sem,Q0,Q6,Qam8,List.mem_singleton,forall_eq,RS.op,how2]
 have he:=hcalls ns' h1 (fun x=>by rw[h2,Qac4])
 refine⟨_,.c _ _ (hgw.frz kn),?_⟩
 rw[he]
 exact hK _ kn.fin
end Go.AE.Y

namespace Go.AE.Y
open Go.Proofs.Tryz
def Qsw:List Item:=[sJ 1 5 9]
def Qsx:List Item:=eI 5 (.alloc [.mnil])::Qsw
def Qad4:SC:=.reg [lJ 17 6,mJ 18 8,eI 19 (.callv (.t 17) [.t 18])] [5,6,11,12,13]
def Qad5:SC:=.reg [cJ 20 .add 13 1,mJ 13 20] [5,6,11,12,13]
def Qad6:SC:=.seq (.block 1 (sR [iJ 15 1 11 13,lJ 16 15,mJ 8 16] [5,6,8,11,12,13] Qad4)) Qad5
def Qaa2:SC:=sR [bJ 14 .lss 13 12] [5,6,11,12,13,14] (cX 14 0 Qad6)
def Qsy:List Item:=[mJ 4 22]
def Qad7:SC:=sR (lJ 21 5::aJ 22 Qbo [.t 21]::Qsy) [4] .ret
def Qad8:SC:=.seq (sR [mJ 11 0,nJ 12 11,zJ 13 0] [5,6,11,12,13] (bL 0 Qaa2)) Qad7
def Qad9:SC:=sR [fI 10 (.mkf Qeq [.t 5,.t 3,.t 6]),sJ 1 6 10] [0,5,6] Qad8
def Qaaz:SC:=sR [eI 6 (.alloc [.fnil])] [0,3,5,6] Qad9
def Qaa0:SC:=sR (eI 9 (.mkm)::Qsx) [0,3,5] Qaaz
def Qanm:SC:=sR [vJ 3 1,fI 4 (.mv (.k (.c (.sl true 1 []))))] [0,3] Qaa0
theorem Qamp:mFn prog Qof 2 23 Qanm Qam8=true:=by kernel_rfl
def Qlu:List Item:=[nJ 16 15,zJ 17 0]
def Q2c:SC:=.reg [lJ 21 3,mJ 22 6,eI 23 (.callv (.t 21) [.t 22])] [3,15,16,17]
def Q2d:SC:=.reg [cJ 24 .add 17 1,mJ 17 24] [3,15,16,17]
def Q2e:SC:=.seq (.block 1 (sR [iJ 19 1 15 17,lJ 20 19,mJ 6 20] [3,6,15,16,17] Q2c)) Q2d
def Qz1:SC:=sR [bJ 18 .lss 17 16] [3,15,16,17,18] (cX 18 0 Q2e)
def Q2f:SC:=sR (lJ 13 2::mJ 14 0::eI 15 (.callv (.t 13) [.t 14])::Qlu) [3,15,16,17] (bL 0 Qz1)
def Q2g:SC:=cT 10 (sR [lJ 11 1,mJ 12 0,.e none none (.upd 0 (.t 11) (.t 12) (.k (.c (.bool true))))] [0,2,3] Q2f) .skip
def Qaa1:SC:=sR [lJ 7 1,mJ 8 0,fI 9 (.lup 0 (.c (.bool false)) (.t 7) (.t 8)),oJ 10 9] [0,1,2,3,10] Q2g
theorem Q9x:mFn prog Qeq 4 25 Qaa1 Qr8=true:=by kernel_rfl
end Go.AE.Y

namespace Go.AE.Y
attribute [local go_sem] cond_true cond_false Bool.not_true Bool.not_false
attribute [local instance] Classical.propDecidable
open Go.Proofs.Tryz
variable {H H0:Heap}{K:V→Heap→Prop}{E B Lg:List (Nat×Obj)}{fns:List Fn}
theorem Qza {k x:Nat}(h:x∈Qmo fns k):Cls fns k x:=(ascL_mem.1 h).2
theorem Qam0 (hg:FineP fns){k x:Nat}(h:Cls fns k x):x∈Qmo fns k:=by
 obtain⟨_,hj,_⟩:=id h
 exact ascL_mem.2 ⟨hj,h⟩
theorem Qa9e {S:Nat→Prop}(h0:S (fns.length-1))(h1:∀k,S k→∀n,Cls fns k n→S n){n:Nat}(hn:NdF fns n):S n:=by
 induction hn with
 |top=>exact h0
 |to _ h ih=>exact h1 _ ih _ h
theorem Qa4l (h:FineP fns){l:List Nat}(ha:l.Pairwise (· < ·))(h0:fns.length-1∈l)(h1:∀k∈l,∀n,Cls fns k n→n∈l)(h2:∀k∈l,NdF fns k):l=Qfy fns:=
 Qalw ha (Qoo fns) fun n=>⟨fun x=>h.need_mem.2 (h2 n x),fun x=>Qa9e (S:=(·∈l)) h0 h1 (h.need_mem.1 x)⟩
theorem Qbaq {f:Bool}{k:Nat}(hg:FineP fns)(hk:k<fns.length)(hb:Qg fns[k].body≤2^36)(hK:∀H',Upd H H' []→K (.c (.sl false 1 (Qa4 (Qmo fns k)))) H') :
  Qj prog Qbw [.c (.int .i64 k),.c (.pp [.sl f 3 (Qm fns)])] H K:=by
 refine Qb Qaj Q5o ?_
 refine Qa ?_
 simp only[go_sem]
 refine Qa ?_
 simp only[go_sem]
 refine Qayc hg hk hb fun H1 hu=>?_
 simp only[go_sem,Qj0]
 refine Qh ?_
 simp only[go_sem,Q0,Q6,Q4l,List.mem_singleton,forall_eq,RS.op]
 exact hK _ hu
structure VstF (fns:List Fn)(ks ns ks':List Nat):Prop where
 nd:ks'.Nodup
 sub:∀x∈ks,x∈ks'
 ns:∀x∈ns,x∈ks'
 cl:∀x∈ks',x∈ks∨∀m∈Qmo fns x,m∈ks'
 need:∀x∈ks',NdF fns x
theorem VstF.nil {ks:List Nat}(h:ks.Nodup)(hn:∀x∈ks,NdF fns x):VstF fns ks [] ks:=⟨h,fun _ h=>h,by simp,fun _ h=>.inl h,hn⟩
theorem VstF.app {ks ns k1 k2:List Nat}{n:Nat}(h:VstF fns ks ns k1)(k:VstF fns k1 [n] k2):VstF fns ks (ns++[n]) k2:=
 ⟨k.nd,fun x hx=>k.sub x (h.sub x hx),fun x hx=>by
  rcases List.mem_append.1 hx with hx|hx
  ·exact k.sub x (h.ns x hx)
  ·exact k.ns x hx,fun x hx=>by
  rcases k.cl x hx with h1|h1
  ·rcases h.cl x h1 with h2|h2
   ·exact .inl h2
   ·exact .inr fun m hm=>k.sub m (h2 m hm)
  ·exact .inr h1,k.need⟩
theorem VstF.one {ks k1:List Nat}{n:Nat}(h:VstF fns (ks++[n]) (Qmo fns n) k1):VstF fns ks [n] k1:=
 ⟨h.nd,fun x hx=>h.sub x (List.mem_append_left _ hx),fun x hx=>h.sub x (List.mem_append_right _ hx),fun x hx=>by
  rcases h.cl x hx with h1|h1
  ·rcases List.mem_append.1 h1 with h1|h1
   ·exact .inl h1
   ·simp only[List.mem_singleton]at h1
    subst h1
    exact .inr h.ns
  ·exact .inr h1,h.need⟩
theorem Qa0g {ks:List Nat}(hg:FineP fns)(h:ks.Nodup)(hn:∀x∈ks,NdF fns x):ks.length≤4:=by
 have:=Qam4 h fun x hx=>hg.nd_lt (hn x hx)
 have:=hg.len
 omega
def Qaqe (x5 x6:Nat)(f:Bool)(fns:List Fn):List C:=[.ptr x5 0,.pp [.fn Qbw [.pp [.sl f 3 (Qm fns)]]],.ptr x6 0]
def clEF (M x5 x6:Nat)(f:Bool)(fns:List Fn)(ver:Nat)(ks:List Nat):List (Nat×Obj):=
 [(M,.map ver (Qma ks)),(x5,.st [.mp M]),(x6,.st [.fn Qeq (Qaqe x5 x6 f fns)])]
theorem Qa97 {F:Heap}{M x5 x6:Nat}{f:Bool}(hg:FineP fns)(hsz:∀k (hk:k<fns.length),Qg fns[k].body≤2^36) :
  ∀(n:Nat) (ks:List Nat) (ver:Nat) (H:Heap) (K:V→Heap→Prop),NdF fns n→ks.Nodup→(∀x∈ks,NdF fns x)→Kn F H (clEF M x5 x6 f fns ver ks) []→
   (∀(ks':List Nat) (ver':Nat) (H':Heap),VstF fns ks [n] ks'→Kn F H' (clEF M x5 x6 f fns ver' ks') []→K (.tup []) H')→
   Qj prog Qeq ([.c (.int .i64 n)]++(Qaqe x5 x6 f fns).map .c) H K:=by
 intro n
 induction n using Nat.strongRecOn with
 |ind n ih=>
 intro ks ver H K hn hnd hns kn hK
 have hnl:=hg.nd_lt hn
 have hM:=kn.e 0 rfl
 have hx5:=kn.e 1 rfl
 have hx6:=kn.e 2 rfl
 refine Qb Qaj Q9x ?_
 refine Qa ?_
 simp only[go_sem,Qaqe,hx5,hM,Qr3,Q4,Q95,Qaqk]
 refine Qc rfl ?_ ?_
 ·intro hc
  have hnk:n∉ks:=by simpa using hc
  have hkl:=Qa0g hg hnd hns
  refine Qa ?_
  simp only[go_sem,hx5,hM,Q95,Qa0d,Qaxw _ _ hnk]
  refine⟨by simp only[LIM];omega,fun H1 h1=>?_⟩
  have kn:Kn F H1 (clEF M x5 x6 f fns (ver+1) (ks++[n])) []:=kn.stE 0 rfl h1
  refine Qa ?_
  simp only[go_sem]
  refine Qbaq hg hnl (hsz _ hnl) fun H2 hu=>?_
  have kn:=kn.call0 hu
  obtain⟨L,hL⟩:∃L,Qmo fns n=L:=⟨_,rfl⟩
  have hLn:∀x∈L,x<n∧NdF fns x:=fun x hx=>by
   rw[←hL]at hx
   exact⟨hg.cls_lt (Qza hx),.to hn (Qza hx)⟩
  rw[hL]
  simp only[go_sem,Qlu,Qax]
  try intro hlim
  simp only[LIM]at hlim
  have hnd2:(ks++[n]).Nodup:=List.nodup_append.2 ⟨hnd,by simp,fun a ha c hc=>by
   simp only[List.mem_singleton]at hc
   subst hc;exact fun e=>hnk (e▸ha)⟩
  have hns2:∀x∈ks++[n],NdF fns x:=fun x hx=>by
   rcases List.mem_append.1 hx with hx|hx
   ·exact hns x hx
   ·simp only[List.mem_singleton]at hx
    subst hx;exact hn
  refine Qd (Qt (fun m e1 H1=>∃(i:Nat) (k1:List Nat) (ver1:Nat),m=L.length-i∧i≤L.length∧VstF fns (ks++[n]) (L.take i) k1∧Kn F H1 (clEF M x5 x6 f fns ver1 k1) []∧
   e1=[(3,.c (.ptr x6 0)),(15,.c (.sl false 1 (Qa4 L))),(16,.c (.int .i64 L.length)),(17,.c (.int .i64 i))]) L.length ?_ ?_)
  ·exact⟨0,_,_,by omega,by omega,.nil hnd2 hns2,kn,rfl⟩
  ·clear kn hx6
   rintro m e1 H3 ⟨i,k1,ver1,hm,hi,hv,kn,rfl⟩
   have hx6:=kn.e 2 rfl
   refine Qa ?_
   simp only[go_sem]
   refine Qe (Qc rfl ?_ ?_)
   ·intro hc2
    have hlt:i<L.length:=by simpa using hc2
    have hgd:L.getD i 0=L[i]:=by simp[List.getD_eq_getElem?_getD,hlt]
    obtain⟨h1,h2⟩:=hLn _ (List.getElem_mem hlt)
    rw[←hgd]at h1 h2
    refine Qf ?_
    try simp only[go_sem]
    refine Qe (Qd ?_)
    refine Qa ?_
    simp only[go_sem,hlt,Qax,Qew _ _ hlt]
    refine Qn ?_
    simp only[go_sem,hx6]
    refine ih _ h1 k1 ver1 H3 _ h2 hv.nd hv.need kn fun k2 ver2 H4 hv2 kn=>?_
    refine Qn ?_
    simp only[go_sem,X.next]
    refine⟨Qo (by omega) (by omega),L.length-(i+1),by omega,i+1,k2,ver2,rfl,by omega,?_,kn,rfl⟩
    rw[List.take_succ_eq_append_getElem hlt,←hgd]
    exact hv.app hv2
   ·intro hc2
    have hge:L.length≤i:=by simpa using hc2
    rw[List.take_of_length_le hge]at hv
    refine Qu ?_
    simp only[go_sem,X.next,Q0,Q6,Qr8,List.not_mem_nil]
    refine⟨fun _=>trivial,hK k1 ver1 H3 (.one ?_) kn⟩
    rw[hL];exact hv
 ·intro hc
  have hnk:n∈ks:=by simpa using hc
  refine Qf ?_
  simp only[go_sem,Q0,Q6,Qr8,List.not_mem_nil]
  exact⟨fun _=>trivial,hK ks ver H ⟨hnd,fun _ h=>h,by simpa using hnk,fun _ h=>.inl h,hns⟩ kn⟩
theorem Qavr {ns:List Nat}{f:Bool}(hg:FineP fns)(hsz:∀k (hk:k<fns.length),Qg fns[k].body≤2^36)(hns:ns=[fns.length-1])(hK:∀H',Upd H H' []→K (.c (.sl false 1 (Qa4 (Qfy fns)))) H') :
  Qj prog Qof [.c (.sl true 1 (Qa4 ns)),.c (.fn Qbw [.pp [.sl f 3 (Qm fns)]])] H K:=by
 refine Q8 ?_
 refine Qb Qaj Qamp ?_
 refine Qa ?_
 simp only[go_sem]
 refine Qa ?_
 simp only[go_sem]
 intro M hM0 H1 h1
 have kn:Kn H H1 [] [(M,.map 0 (Qma []))]:=(Kn.start0 H).al hM0 h1
 simp only[go_sem,Qsx]
 intro x5 hx5 H3 h3
 have kn:=kn.al hx5 h3
 have hx5:=kn.l 1 rfl
 simp only[go_sem,Qsw,hx5]
 intro H4 h4
 have kn:=kn.stL 1 rfl h4
 refine Qa ?_
 simp only[go_sem]
 intro x6 hx6 H5 h5
 have kn:=kn.al hx6 h5
 have hx6:=kn.l 2 rfl
 refine Qa ?_
 simp only[go_sem,hx6]
 intro H6 h6
 have kn:Kn H H6 [] (clEF M x5 x6 f fns 0 []++[]):=kn.stL 2 rfl h6
 have kF:=kn.mid
 have hnl:ns.length=1:=by rw[hns];rfl
 refine Qz ?_
 refine Qa ?_
 simp only[go_sem,Qax]
 try intro hlim
 refine Qe (Qd (Qt (fun m e1 H1=>∃(i:Nat) (k1:List Nat) (ver1:Nat),m=ns.length-i∧i≤ns.length∧VstF fns [] (ns.take i) k1∧Kn H6 H1 (clEF M x5 x6 f fns ver1 k1) []∧
  e1=[(5,.c (.ptr x5 0)),(6,.c (.ptr x6 0)),(11,.c (.sl true 1 (Qa4 ns))),(12,.c (.int .i64 ns.length)),(13,.c (.int .i64 i))]) ns.length ?_ ?_))
 ·exact⟨0,_,_,by omega,by omega,.nil List.nodup_nil (by simp),kF,rfl⟩
 ·clear kF hx5 hx6
  rintro m e1 H8 ⟨i,k1,ver1,hm,hi,hv,kF,rfl⟩
  have hx6:=kF.e 2 rfl
  have hx5:=kF.e 1 rfl
  have hM:=kF.e 0 rfl
  refine Qa ?_
  simp only[go_sem]
  refine Qe (Qc rfl ?_ ?_)
  ·intro hc2
   have hlt:i<ns.length:=by simpa using hc2
   have hgd:ns.getD i 0=ns[i]:=by simp[List.getD_eq_getElem?_getD,hlt]
   have hnd:NdF fns (ns.getD i 0):=by
    have:ns[i]∈ns:=List.getElem_mem hlt
    rw[←hgd]at this
    rw[hns]at this⊢
    simp only[List.mem_singleton]at this
    rw[this];exact .top
   refine Qf ?_
   try simp only[go_sem]
   refine Qe (Qd ?_)
   refine Qa ?_
   simp only[go_sem,hlt,Qax,Qew _ _ hlt]
   refine Qn ?_
   simp only[go_sem,hx6]
   refine Qa97 hg hsz _ k1 ver1 H8 _ hnd hv.nd hv.need kF fun k2 ver2 H9 hv2 kF=>?_
   refine Qn ?_
   simp only[go_sem,X.next]
   refine⟨Qo (by omega) (by omega),ns.length-(i+1),by omega,i+1,k2,ver2,rfl,by omega,?_,kF,rfl⟩
   rw[List.take_succ_eq_append_getElem hlt,←hgd]
   exact hv.app hv2
  ·intro hc2
   have hge:ns.length≤i:=by simpa using hc2
   rw[List.take_of_length_le hge]at hv
   have hkl:=Qa0g hg hv.nd hv.need
   refine Qu ?_
   simp only[go_sem,X.next]
   refine Qa ?_
   simp only[go_sem,hx5]
   refine Q36 hM hv.nd (by simp only[LIM];omega) fun fl2 l H9 hu hasc hmem=>?_
   have kn:=kn.comp (kF.call0 hu) rfl
   simp only[go_sem,Qsy]
   refine Qh ?_
   simp only[go_sem,Q0,Q6,Qam8,List.mem_singleton,forall_eq,RS.op]
   have hl:l=Qfy fns:=by
    refine Qa4l hg hasc ?_ ?_ ?_
    ·rw[hmem];exact hv.ns _ (by rw[hns];simp)
    ·intro k hk n hn
     rw[hmem]at hk⊢
     exact (hv.cl k hk).resolve_left (by simp) n (Qam0 hg hn)
    ·intro k hk
     rw[hmem]at hk
     exact hv.need k hk
   rw[hl]
   exact⟨_,.c _ _ (Qaqs (Qaje (Qjs _))),hK _ kn.fin⟩
noncomputable def Qajd (fns:List Fn):List Nat:=if Qmp fns=true then Qfy fns else []
theorem Qaly {fns:List Fn}{n:Nat}(h:Q1 fns≤n):∀k (hk:k<fns.length),Qg fns[k].body≤n:=fun k hk=>Nat.le_trans (Qcd (List.getElem_mem hk)) h
theorem Q4d {fl:Bool}(hf:Q1 fns≤2^36)(g:GK H)(hK:∀H',Upd H H' []→K (.c (.sl false 1 (Qa4 (Qajd fns)))) H') :
  Qj prog Ql3 [.ag [.sl fl 3 (Qm fns)]] H K:=by
 refine Q8 ?_
 refine Qb Qaj Qai2 ?_
 refine Qa ?_
 simp only[go_sem]
 refine Qz ?_
 refine Qa ?_
 simp only[go_sem]
 refine Qaix (by omega) g fun H1 hu=>?_
 have kn:=(Kn.start0 H).call0 hu
 simp only[go_sem,Qp3]
 refine Qe (Qc rfl ?_ ?_)
 ·intro hc
  have hg:Qmp fns=false:=by simpa using hc
  refine Qa ?_
  simp only[go_sem]
  refine Qh ?_
  simp only[go_sem,AE.X.next,Q0,Q6,Qgm,List.mem_singleton,forall_eq,RS.op]
  have:=hK _ kn.fin
  rw[Qajd,hg]at this
  exact⟨_,.c _ _ FrzR.nil.sl,this⟩
 ·intro hc
  have hgb:Qmp fns=true:=by simpa using hc
  have hg:=fine_iff.1 hgb
  rw[Qajd,if_pos hgb]at hK
  have h1:=hg.len
  have e1:(fns.length:Int)-1=((fns.length-1:Nat):Int):=by omega
  refine Qf ?_
  try simp only[go_sem]
  refine Qa ?_
  simp only[go_sem,Qp,e1]
  try intro _
  refine⟨Qo (by omega) (by omega),?_⟩
  refine Qavr (ns:=[fns.length-1]) (f:=fl) hg (Qaly hf) rfl fun H2 hu=>?_
  have kn:=kn.call0 hu
  simp only[go_sem,Qp4]
  refine Qh ?_
  simp only[go_sem,Q0,Q6,Qgm,List.mem_singleton,forall_eq,RS.op]
  exact⟨_,.c _ _ (Qaqs (Qaje (Qjs _))),hK _ kn.fin⟩
end Go.AE.Y

namespace Go.AE.Y
attribute [local go_sem] cond_true cond_false Bool.not_true Bool.not_false
open Go.Proofs.Tryz
variable {H H0 F:Heap}{K:V→Heap→Prop}{E B Lg:List (Nat×Obj)}{fns:List Fn}
theorem Qa0c {g:Ex→Ex}{f:Nat}{caps:List C}{l:List Ex}{fl:Bool}
  (hf:∀x∈l,∀(H1:Heap) (K':V→Heap→Prop),(∀H2,Upd H1 H2 []→K' (.ag (g x).cells) H2)→Qj prog f ([.ag x.cells]++caps.map .c) H1 K')
  (hK:∀H',Upd H H' []→K (.c (.sl false 4 (Q2 (l.map g)))) H'):Qj prog Qa0 [.c (.sl fl 4 (Q2 l)),.c (.fn f caps)] H K:=by
 refine Q8 ?_
 refine Qb Qaj Qhd ?_
 refine Qa ?_
 simp only[go_sem]
 refine Qa ?_
 simp only[go_sem]
 refine Qz ?_
 refine Qa ?_
 simp only[go_sem,Qi]
 intro hl
 simp only[LIM]at hl
 refine Qe (Qd (Qt (fun m e1 H1=>∃(i:Nat) (t:C) (Lg:List (Nat×Obj)),m=l.length-i∧i≤l.length∧Gr Lg 4 (Q2 ((l.take i).map g)) t∧Kn H H1 [] Lg∧
  e1=[(1,.c (.fn f caps)),(5,.c t),(8,.c (.sl fl 4 (Q2 l))),(9,.c (.int .i64 l.length)),(10,.c (.int .i64 i))]) l.length ?_ ?_))
 ·exact⟨0,_,[],by omega,by omega,.nil 4,Kn.start0 H,rfl⟩
 ·rintro m e1 H1 ⟨i,t,Lg,hm,hi,hgr,kn,rfl⟩
  have hto:=hgr.isOw
  refine Qa ?_
  simp only[go_sem,hto]
  refine Qe (Qc rfl ?_ ?_)
  ·intro hc
   have hlt:i<l.length:=by simpa using hc
   obtain⟨x,hx⟩:∃x,l[i]=x:=⟨_,rfl⟩
   have hxm:x∈l:=by rw[←hx];exact List.getElem_mem hlt
   have htk:Q2 ((l.take (i+1)).map g)=Q2 ((l.take i).map g)++[(g x).cells]:=by
    rw[Qe3,List.take_succ_eq_append_getElem hlt,hx];simp
   refine Qf ?_
   try simp only[go_sem]
   refine Qe (Qd ?_)
   refine Qa ?_
   simp only[go_sem,hto,hlt,Qi,Qag _ _ hlt,hx,x.cells_eq]
   intro x7 hx7 H3 h3
   have kn:Kn H H3 [] ([(x7,.st [.int .i64 0,.int .i64 0,.str [],.sl true 4 []])]++Lg):=(kn.al hx7 h3).perm List.perm_append_comm
   have g7:=kn.l 0 rfl
   simp only[go_sem,Qb3,g7,hto]
   intro H4 h4
   have kn:Kn H H4 [] ([(x7,.st [.int .i64 x.op,.int .i64 x.n,.str x.name,.sl false 4 (Q2 x.kids)])]++Lg):=kn.stL 0 rfl h4
   have g7:=kn.l 0 rfl
   refine Qn ?_
   simp only[go_sem,g7,hto]
   have hfx:=hf x hxm H4
   rw[x.cells_eq]at hfx
   refine hfx _ fun H5 hu=>?_
   have kn:=kn.call0 hu
   simp only[go_sem,Qb5,hto,(g x).cells_len]
   refine kn.growR hgr (new:=[(g x).cells]) (.mk' _ true 4 _) (by simpa using (g x).noOw) (by simp only[Qi,List.length_map,List.length_take,List.length_cons,List.length_nil,LIM];omega) fun t2 Lg2 H6 hgr2 hto2 kn=>?_
   simp only[go_sem,Qb4,hto2]
   refine Qn ?_
   simp only[go_sem,AE.X.next,hto2]
   exact⟨Qo (by omega) (by omega),l.length-(i+1),by omega,i+1,t2,Lg2,rfl,by omega,by rw[htk];exact hgr2,kn.sub (List.sublist_append_right _ _),rfl⟩
  ·intro hc
   have hge:l.length≤i:=by simpa using hc
   rw[List.take_of_length_le hge]at hgr
   refine Qu ?_
   simp only[go_sem,AE.X.next]
   refine Qa ?_
   simp only[go_sem,hto]
   refine Qh ?_
   simp only[go_sem,Q0,Q6,Qam8,List.mem_singleton,forall_eq,RS.op,hto]
   exact⟨_,.c _ _ (hgr.frz (B:=[]) kn (Qe2 _)),hK _ kn.fin⟩
theorem Qarc {g:St→St}{f:Nat}{caps:List C}{l:List St}{fl:Bool}
  (hf:∀x∈l,∀(H1:Heap) (K':V→Heap→Prop),(∀H2,Upd H1 H2 []→K' (.ag (g x).cells) H2)→Qj prog f ([.ag x.cells]++caps.map .c) H1 K')
  (hK:∀H',Upd H H' []→K (.c (.sl false 5 (Ql (l.map g)))) H'):Qj prog Qaq [.c (.sl fl 5 (Ql l)),.c (.fn f caps)] H K:=by
 refine Q8 ?_
 refine Qb Qaj Qhe ?_
 refine Qa ?_
 simp only[go_sem]
 refine Qa ?_
 simp only[go_sem]
 refine Qz ?_
 refine Qa ?_
 simp only[go_sem,Qw]
 intro hl
 simp only[LIM]at hl
 refine Qe (Qd (Qt (fun m e1 H1=>∃(i:Nat) (t:C) (Lg:List (Nat×Obj)),m=l.length-i∧i≤l.length∧Gr Lg 5 (Ql ((l.take i).map g)) t∧Kn H H1 [] Lg∧
  e1=[(1,.c (.fn f caps)),(5,.c t),(8,.c (.sl fl 5 (Ql l))),(9,.c (.int .i64 l.length)),(10,.c (.int .i64 i))]) l.length ?_ ?_))
 ·exact⟨0,_,[],by omega,by omega,.nil 5,Kn.start0 H,rfl⟩
 ·rintro m e1 H1 ⟨i,t,Lg,hm,hi,hgr,kn,rfl⟩
  have hto:=hgr.isOw
  refine Qa ?_
  simp only[go_sem,hto]
  refine Qe (Qc rfl ?_ ?_)
  ·intro hc
   have hlt:i<l.length:=by simpa using hc
   obtain⟨x,hx⟩:∃x,l[i]=x:=⟨_,rfl⟩
   have hxm:x∈l:=by rw[←hx];exact List.getElem_mem hlt
   have htk:Ql ((l.take (i+1)).map g)=Ql ((l.take i).map g)++[(g x).cells]:=by
    rw[Qn7,List.take_succ_eq_append_getElem hlt,hx];simp
   refine Qf ?_
   try simp only[go_sem]
   refine Qe (Qd ?_)
   refine Qa ?_
   simp only[go_sem,hto,hlt,Qw,Qar _ _ hlt,hx,x.cells_eq]
   intro x7 hx7 H3 h3
   have kn:Kn H H3 [] ([(x7,.st [.int .i64 0,.str [],.sl true 4 [],.sl true 5 [],.sl true 5 []])]++Lg):=(kn.al hx7 h3).perm List.perm_append_comm
   have g7:=kn.l 0 rfl
   simp only[go_sem,Qb6,g7,hto]
   intro H4 h4
   have kn:Kn H H4 [] ([(x7,stO x)]++Lg):=kn.stL 0 rfl h4
   have g7:=kn.l 0 rfl
   refine Qn ?_
   simp only[go_sem,g7,hto]
   have hfx:=hf x hxm H4
   rw[x.cells_eq]at hfx
   refine hfx _ fun H5 hu=>?_
   have kn:=kn.call0 hu
   simp only[go_sem,Qb8,hto,(g x).cells_len]
   refine kn.growR hgr (new:=[(g x).cells]) (.mk' _ true 5 _) (by simpa using (g x).noOw) (by simp only[Qw,List.length_map,List.length_take,List.length_cons,List.length_nil,LIM];omega) fun t2 Lg2 H6 hgr2 hto2 kn=>?_
   simp only[go_sem,Qb7,hto2]
   refine Qn ?_
   simp only[go_sem,AE.X.next,hto2]
   exact⟨Qo (by omega) (by omega),l.length-(i+1),by omega,i+1,t2,Lg2,rfl,by omega,by rw[htk];exact hgr2,kn.sub (List.sublist_append_right _ _),rfl⟩
  ·intro hc
   have hge:l.length≤i:=by simpa using hc
   rw[List.take_of_length_le hge]at hgr
   refine Qu ?_
   simp only[go_sem,AE.X.next]
   refine Qa ?_
   simp only[go_sem,hto]
   refine Qh ?_
   simp only[go_sem,Q0,Q6,Qam8,List.mem_singleton,forall_eq,RS.op,hto]
   exact⟨_,.c _ _ (hgr.frz (B:=[]) kn (Qfg _)),hK _ kn.fin⟩
theorem Qaqf:∀(n:Nat) (x:Ex) {H:Heap} {K:V→Heap→Prop},x.size≤n→(∀H',Upd H H' []→K (.ag x.cells) H')→Qj prog Qdd [.ag x.cells] H K:=by
 intro n
 induction n with
 |zero=>intro x H K h;have:=x.size_pos;omega
 |succ n ih=>
 intro x H K hn hK
 have hsz:=x.size_kids
 refine Q8 ?_
 refine Qb Qaj Qwd ?_
 refine Qa ?_
 simp only[go_sem,x.cells_eq]
 intro x1 hx1 H1 h1
 have kn:=(Kn.start0 H).al hx1 h1
 simp only[go_sem,Qgu]
 intro x2 hx2 H2 h2
 have kn:=kn.al hx2 h2
 have g1:=kn.l 0 rfl
 refine Qa ?_
 simp only[go_sem,g1]
 refine Qa0c (g:=id) (caps:=[]) (fun y hy H1 K' hK'=>ih y (by have:=Qad hy;omega) hK') fun H3 hu=>?_
 rw[List.map_id]
 have kn:=kn.call0 hu
 have g1:=kn.l 0 rfl
 simp only[go_sem,Qgv,g1]
 intro H4 h4
 have kn:=kn.stL 0 rfl h4
 have g1:=kn.l 0 rfl
 have g2:=kn.l 1 rfl
 refine Qa ?_
 simp only[go_sem,g1,g2]
 intro H5 h5
 have kn:=kn.stL 1 rfl h5
 have g2:=kn.l 1 rfl
 refine Qh ?_
 simp only[go_sem,Q0,Q6,Qmc,List.mem_singleton,forall_eq,RS.op,g2]
 rw[x.cells_eq]at hK
 exact⟨_,(FrzL.cons (Qk rfl) (.cons (Qk rfl) (.cons (Qk rfl) (.cons (FrzR.same (Qe2 _)).sl .nil)))).ag,hK _ kn.fin⟩
theorem Qaqg:∀(n:Nat) (x:St) {H:Heap} {K:V→Heap→Prop},x.size≤n→(∀H',Upd H H' []→K (.ag x.cells) H')→Qj prog Qbx [.ag x.cells] H K:=by
 intro n
 induction n with
 |zero=>intro x H K h;have:=x.size_pos;omega
 |succ n ih=>
 intro x H K hn hK
 have hsz:=x.size_eq
 refine Q8 ?_
 refine Qb Qaj Qwe ?_
 refine Qa ?_
 simp only[go_sem,x.cells_eq]
 intro x1 hx1 H1 h1
 have kn:=(Kn.start0 H).al hx1 h1
 simp only[go_sem,Qgw]
 intro x2 hx2 H2 h2
 have kn:=kn.al hx2 h2
 have g1:=kn.l 0 rfl
 refine Qa ?_
 simp only[go_sem,g1]
 refine Qa0c (g:=id) (caps:=[]) (fun y hy H1 K' hK'=>Qaqf y.size y (Nat.le_refl _) hK') fun H3 hu=>?_
 rw[List.map_id]
 have kn:=kn.call0 hu
 have g1:=kn.l 0 rfl
 simp only[go_sem,Qgx,g1]
 intro H4 h4
 have kn:=kn.stL 0 rfl h4
 have g1:=kn.l 0 rfl
 refine Qa ?_
 simp only[go_sem,g1]
 refine Qarc (g:=id) (caps:=[]) (fun y hy H1 K' hK'=>ih y (by have:=Qai hy;omega) hK') fun H3 hu=>?_
 rw[List.map_id]
 have kn:=kn.call0 hu
 have g1:=kn.l 0 rfl
 simp only[go_sem,Qgy,g1]
 intro H4 h4
 have kn:=kn.stL 0 rfl h4
 have g1:=kn.l 0 rfl
 refine Qa ?_
 simp only[go_sem,g1]
 refine Qarc (g:=id) (caps:=[]) (fun y hy H1 K' hK'=>ih y (by have:=Qai hy;omega) hK') fun H3 hu=>?_
 rw[List.map_id]
 have kn:=kn.call0 hu
 have g1:=kn.l 0 rfl
 simp only[go_sem,Qgz,g1]
 intro H4 h4
 have kn:=kn.stL 0 rfl h4
 have g1:=kn.l 0 rfl
 have g2:=kn.l 1 rfl
 refine Qa ?_
 simp only[go_sem,g1,g2]
 intro H5 h5
 have kn:=kn.stL 1 rfl h5
 have g2:=kn.l 1 rfl
 refine Qh ?_
 simp only[go_sem,Q0,Q6,Qmd,List.mem_singleton,forall_eq,RS.op,g2]
 rw[x.cells_eq]at hK
 exact⟨_,(FrzL.cons (Qk rfl) (.cons (Qk rfl) (.cons (FrzR.same (Qe2 _)).sl (.cons (FrzR.same (Qfg _)).sl (.cons (FrzR.same (Qfg _)).sl .nil))))).ag,hK _ kn.fin⟩
theorem Qavl {fl:Bool}{ss:List (List UInt8)}(hl:ss.length≤2^38)(hK:∀H',Upd H H' []→K (.c (.sl false 1 (Qy ss))) H'):Qj prog Qcs [.c (.sl fl 1 (Qy ss))] H K:=by
 refine Q8 ?_
 refine Qb Qaj Qm2 ?_
 refine Qa ?_
 simp only[go_sem]
 refine Qz ?_
 refine Qa ?_
 simp only[go_sem]
 intro b hb
 refine Qe (Qc rfl ?_ ?_)
 ·intro hbt
  have hn:=hb hbt
  have hs:ss=[]:=by
   cases ss with
   |nil=>rfl
   |cons a r=>simp[Qy]at hn
  subst hs
  refine Qa ?_
  simp only[go_sem]
  refine Qh ?_
  simp only[go_sem,Q0,Q6,Qgm,List.mem_singleton,forall_eq,RS.op]
  exact⟨_,.c _ _ FrzR.nil.sl,hK _ (Kn.start0 H).fin⟩
 ·intro hbf
  refine Qf ?_
  simp only[go_sem]
  refine Qa ?_
  simp only[go_sem,Qr]
  refine⟨.inl trivial,Qd2 _,by simp only[LIM];omega,fun z hz H1 h1=>?_⟩
  have kn:=(Kn.start0 H).al hz h1
  simp only[go_sem,Qek]
  refine Qh ?_
  simp only[go_sem,Q0,Q6,Qgm,List.mem_singleton,forall_eq,RS.op]
  exact⟨_,.c _ _ ((Gr.mk z 1 _ (by rw[Qr];omega)).frz (B:=[]) kn (Qd2 _)),hK _ kn.fin⟩
theorem Qayh {f:Fn}(hl:f.params.length≤2^38)(hK:∀H',Upd H H' []→K (.ag f.cells) H'):Qj prog Qiw [.ag f.cells] H K:=by
 refine Q8 ?_
 refine Qb Qaj Q4e ?_
 refine Qa ?_
 simp only[go_sem,Fn.cells]
 intro x1 hx1 H1 h1
 have kn:=(Kn.start0 H).al hx1 h1
 simp only[go_sem,Qj4]
 intro x2 hx2 H2 h2
 have kn:=kn.al hx2 h2
 have g1:=kn.l 0 rfl
 refine Qa ?_
 simp only[go_sem,g1]
 refine Qavl hl fun H3 hu=>?_
 have kn:=kn.call0 hu
 have g1:=kn.l 0 rfl
 simp only[go_sem,Qj5,g1]
 intro H4 h4
 have kn:=kn.stL 0 rfl h4
 have g1:=kn.l 0 rfl
 refine Qa ?_
 simp only[go_sem,g1]
 refine Qarc (g:=id) (caps:=[]) (fun y hy H1 K' hK'=>Qaqg y.size y (Nat.le_refl _) hK') fun H3 hu=>?_
 rw[List.map_id]
 have kn:=kn.call0 hu
 have g1:=kn.l 0 rfl
 simp only[go_sem,Qj6,g1]
 intro H4 h4
 have kn:=kn.stL 0 rfl h4
 have g1:=kn.l 0 rfl
 have g2:=kn.l 1 rfl
 refine Qa ?_
 simp only[go_sem,g1,g2]
 intro H5 h5
 have kn:=kn.stL 1 rfl h5
 have g2:=kn.l 1 rfl
 refine Qh ?_
 simp only[go_sem,Q0,Q6,Qr9,List.mem_singleton,forall_eq,RS.op,g2]
 exact⟨_,(FrzL.cons (Qk rfl) (.cons (FrzR.same (Qd2 _)).sl (.cons (FrzR.same (Qfg _)).sl .nil))).ag,hK _ kn.fin⟩
theorem Qbad {fl:Bool}{k:Nat}(hk:k<fns.length)(hp:∀f∈fns,f.params.length≤2^38)(hK:∀H',Upd H H' []→K (.ag (Q1e fns k).cells) H'):Qj prog Qaf ([.c (.int .i64 k)]++[C.pp [.sl fl 3 (Qm fns)]].map .c) H K:=by
 obtain⟨f,hfe⟩:∃f,fns[k]=f:=⟨_,rfl⟩
 rw[Qji hk,hfe]at hK
 have hpf:f.params.length≤2^38:=hp f (by rw[←hfe];exact List.getElem_mem hk)
 refine Q8 ?_
 refine Qb Qaj Qh0 ?_
 refine Qa ?_
 simp only[go_sem]
 intro x3 hx3 H1 h1
 have kn:=(Kn.start0 H).al hx3 h1
 refine Qa ?_
 simp only[go_sem,hk,Qp,Qam _ _ hk,hfe,Fn.take3,Fn.allOw,Fn.cells_len]
 refine Qayh hpf fun H2 hu=>?_
 have kn:=kn.call0 hu
 have g3:=kn.l 0 rfl
 simp only[go_sem,Qci,g3,Fn.cells]
 intro H3 h3
 have kn:=kn.stL 0 rfl h3
 have g3:=kn.l 0 rfl
 refine Qh ?_
 simp only[go_sem,Q0,Q6,Qec,List.mem_singleton,forall_eq,RS.op,g3]
 exact⟨_,(FrzL.cons (Qk rfl) (.cons (FrzR.same (Qd2 _)).sl (.cons (FrzR.same (Qfg _)).sl .nil))).ag,hK _ kn.fin⟩
theorem Qawe {fl fl2:Bool}{l:List Nat}(hl4:∀k∈l,k<fns.length)(hp:∀f∈fns,f.params.length≤2^38)(hK:∀H',Upd H H' []→K (.c (.sl false 3 (Qm (l.map (Q1e fns))))) H') :
  Qj prog Qcg [.c (.sl fl2 1 (Qa4 l)),.c (.fn Qaf [.pp [.sl fl 3 (Qm fns)]])] H K:=by
 refine Q8 ?_
 refine Qb Qaj Qlp ?_
 refine Qa ?_
 simp only[go_sem]
 refine Qa ?_
 simp only[go_sem]
 refine Qz ?_
 refine Qa ?_
 simp only[go_sem,Qax]
 intro hl
 simp only[LIM]at hl
 refine Qe (Qd (Qt (fun m e1 H1=>∃(i:Nat) (t:C) (Lg:List (Nat×Obj)),m=l.length-i∧i≤l.length∧Gr Lg 3 (Qm ((l.take i).map (Q1e fns))) t∧Kn H H1 [] Lg∧
  e1=[(1,.c (.fn Qaf [.pp [.sl fl 3 (Qm fns)]])),(5,.c t),(8,.c (.sl fl2 1 (Qa4 l))),(9,.c (.int .i64 l.length)),(10,.c (.int .i64 i))]) l.length ?_ ?_))
 ·exact⟨0,_,[],by omega,by omega,.nil 3,Kn.start0 H,rfl⟩
 ·rintro m e1 H1 ⟨i,t,Lg,hm,hi,hgr,kn,rfl⟩
  have hto:=hgr.isOw
  refine Qa ?_
  simp only[go_sem,hto]
  refine Qe (Qc rfl ?_ ?_)
  ·intro hc
   have hlt:i<l.length:=by simpa using hc
   obtain⟨x,hx⟩:∃x,l[i]=x:=⟨_,rfl⟩
   have hxd:l.getD i 0=x:=by simp[List.getD_eq_getElem?_getD,hlt,hx]
   have hxm:x<fns.length:=hl4 x (by rw[←hx];exact List.getElem_mem hlt)
   have htk:Qm ((l.take (i+1)).map (Q1e fns))=Qm ((l.take i).map (Q1e fns))++[(Q1e fns x).cells]:=by
    rw[Qmx,List.take_succ_eq_append_getElem hlt,hx];simp
   refine Qf ?_
   try simp only[go_sem]
   refine Qe (Qd ?_)
   refine Qa ?_
   simp only[go_sem,hto,hlt,Qax,Qew _ _ hlt,hxd]
   refine Qn ?_
   simp only[go_sem,hto]
   refine Qbad hxm hp fun H5 hu=>?_
   have kn:=kn.call0 hu
   simp only[go_sem,Qdr,hto,Fn.cells_len]
   refine Kn.growR (B:=[]) kn hgr (new:=[(Q1e fns x).cells]) (.mk' _ true 3 _) (by simp[Fn.noOw]) (by simp only[Qp,List.length_map,List.length_take,List.length_cons,List.length_nil,LIM];omega) fun t2 Lg2 H6 hgr2 hto2 kn=>?_
   simp only[go_sem,Qdq,hto2]
   refine Qn ?_
   simp only[go_sem,AE.X.next,hto2]
   exact⟨Qo (by omega) (by omega),l.length-(i+1),by omega,i+1,t2,Lg2,rfl,by omega,by rw[htk];exact hgr2,kn,rfl⟩
  ·intro hc
   have hge:l.length≤i:=by simpa using hc
   rw[List.take_of_length_le hge]at hgr
   refine Qu ?_
   simp only[go_sem,AE.X.next]
   refine Qa ?_
   simp only[go_sem,hto]
   refine Qh ?_
   simp only[go_sem,Q0,Q6,Qam8,List.mem_singleton,forall_eq,RS.op,hto]
   exact⟨_,.c _ _ (hgr.frz (B:=[]) kn (Qi9 _)),hK _ kn.fin⟩
noncomputable def Qzc (fns:List Fn):List Fn:=if Qmp fns=true then Ql2 fns else []
theorem Q84 {S:Nat→Bool}{rows:List (List C)}{fl:Bool}(hr:∀r∈rows,noOw r=true)(b:Bool):FrzV H S (.tup [.ag [.sl fl 3 rows],.c (.bool b)]) (.tup [.ag [.sl false 3 rows],.c (.bool b)]):=by
 refine .tup _ _ rfl fun j x x' h1 h2=>?_
 rcases j with _|_|j
 ·simp only[List.getElem?_cons_zero,Option.some.injEq]at h1 h2
  subst h1 h2
  exact (FrzL.cons (FrzR.same hr).sl .nil).ag
 ·simp only[List.getElem?_cons_succ,List.getElem?_cons_zero,Option.some.injEq]at h1 h2
  subst h1 h2
  exact .c _ _ (Qk rfl)
 ·simp at h1
theorem Qr5 (h:Qmb fns=true):∀f∈fns,f.params.length≤3:=by
 intro f hf
 simp only[Qmb,Bool.and_eq_true,decide_eq_true_eq,List.all_eq_true]at h
 have:=h.1.2 f hf
 rw[Fn.form]at this
 simp only[Bool.and_eq_true,decide_eq_true_eq]at this
 exact this.1.2
theorem Qa3t {fl:Bool}(hf:Q1 fns≤2^36)(g:GK H)(hK:∀H',Upd H H' []→K (.tup [.ag [.sl false 3 (Qm (Qzc fns))],.c (.bool (Qmp fns))]) H') :
  Qj prog Qbm [.ag [.sl fl 3 (Qm fns)]] H K:=by
 refine Q8 ?_
 have g0:=g
 refine Qb Qaj Qm0 ?_
 refine Qa ?_
 simp only[go_sem]
 intro x2 hx2 H1 h1
 have kn:=(Kn.start0 H).al hx2 h1
 have g:=g0.kn kn
 simp only[go_sem,Qee]
 refine Qz ?_
 refine Qa ?_
 simp only[go_sem]
 refine Qaix (by omega) g fun H2 hu=>?_
 have kn:=kn.call0 hu
 have g:=g0.kn kn
 have g2:=kn.l 0 rfl
 simp only[go_sem,Qef]
 refine Qe (Qc rfl ?_ ?_)
 ·intro hc
  have hb:Qmp fns=false:=by simpa using hc
  refine Qa ?_
  simp only[go_sem,g2]
  intro H3 h3
  have kn:=kn.stL 0 rfl h3
  have g2:=kn.l 0 rfl
  simp only[go_sem,Qeg]
  refine Qh ?_
  simp only[go_sem,AE.X.next,Q0,Q6,Qb0,List.forall_mem_cons,List.not_mem_nil,RS.op,g2]
  have:=hK _ kn.fin
  rw[Qzc,hb]at this
  exact⟨fun _=>trivial,_,Q84 (by simp) false,this⟩
 ·intro hc
  have hb:Qmp fns=true:=by simpa using hc
  have hg:=fine_iff.1 hb
  rw[hb,Qzc,if_pos hb,Ql2]at hK
  refine Qf ?_
  try simp only[go_sem]
  refine Qa ?_
  simp only[go_sem]
  refine Q4d hf g fun H3 hu=>?_
  have kn:=kn.call0 hu
  rw[Qajd,if_pos hb]
  simp only[go_sem,Qej]
  refine Qawe (fun k hk=>hg.nd_lt (hg.need_mem.1 hk)) (fun f hf=>by have:=Qr5 hg.v f hf;omega) fun H4 hu=>?_
  have kn:=kn.call0 hu
  have g2:=kn.l 0 rfl
  simp only[go_sem,Qei,g2]
  intro H5 h5
  have kn:=kn.stL 0 rfl h5
  have g2:=kn.l 0 rfl
  simp only[go_sem,Qeh]
  refine Qh ?_
  simp only[go_sem,Q0,Q6,Qb0,List.forall_mem_cons,List.not_mem_nil,RS.op,g2]
  exact⟨fun _=>trivial,_,Q84 (Qi9 _) true,hK _ kn.fin⟩
end Go.AE.Y

namespace Go.AE.Y
attribute [local go_sem] cond_true cond_false Bool.not_true Bool.not_false
open Go.Proofs.Tryz
variable {H H0 F:Heap}{K:V→Heap→Prop}{E B Lg:List (Nat×Obj)}{fns:List Fn}
theorem Qa8o {fl:Bool}{k:Nat}(hk:k<fns.length)(hp:∀f∈fns,f.params.length≤2^38)(hK:∀H' L cs,Kn H H' [] L→OwL L cs (Q1e fns k).cells→K (.ag cs) H'):Qj prog Qaf ([.c (.int .i64 k)]++[C.pp [.sl fl 3 (Qm fns)]].map .c) H K:=by
 obtain⟨f,hfe⟩:∃f,fns[k]=f:=⟨_,rfl⟩
 rw[Qji hk,hfe]at hK
 have hpf:f.params.length≤2^38:=hp f (by rw[←hfe];exact List.getElem_mem hk)
 refine Qb Qaj Qh0 ?_
 refine Qa ?_
 simp only[go_sem]
 intro x3 hx3 H1 h1
 have kn:=(Kn.start0 H).al hx3 h1
 refine Qa ?_
 simp only[go_sem,hk,Qp,Qam _ _ hk,hfe,Fn.take3,Fn.allOw,Fn.cells_len]
 refine Qavq hpf fun H2 L cs k2 ho=>?_
 obtain⟨La,Lb,ta,tb,rfl,rfl,ha,hb⟩:=OwL.fn ho
 have hta:=ha.isOw
 have htb:=hb.isOw
 have kn:=kn.comp0 k2
 have g3:=kn.l 0 rfl
 simp only[go_sem,Qci,g3,hta,htb]
 intro H3 h3
 have kn:=kn.stL 0 rfl h3
 have g3:=kn.l 0 rfl
 refine Qh ?_
 simp only[go_sem,Q0,Q6,Qec,List.mem_singleton,forall_eq,RS.op,g3,hta,htb]
 exact hK _ _ _ (kn.sub (List.sublist_append_right [_] _)) ho
theorem Qarb {fl fl2:Bool}{l:List Nat}(hl4:∀k∈l,k<fns.length)(hp:∀f∈fns,f.params.length≤2^38)(hK:∀H' L t,Kn H H' [] L→OwS L 3 (Qm (l.map (Q1e fns))) t→K (.c t) H') :
  Qj prog Qcg [.c (.sl fl2 1 (Qa4 l)),.c (.fn Qaf [.pp [.sl fl 3 (Qm fns)]])] H K:=by
 refine Qb Qaj Qlp ?_
 refine Qa ?_
 simp only[go_sem]
 refine Qa ?_
 simp only[go_sem]
 refine Qz ?_
 refine Qa ?_
 simp only[go_sem,Qax]
 intro hl
 simp only[LIM]at hl
 refine Qe (Qd (Qt (fun m e1 H1=>∃(i:Nat) (t:C) (Lg M:List (Nat×Obj)) (rows:List (List C)),m=l.length-i∧i≤l.length∧Gr Lg 3 rows t∧rows.length=i∧(∀r∈rows,r.length=3)∧OwL M rows.flatten (Qm ((l.take i).map (Q1e fns))).flatten∧Kn H H1 [] (M++Lg)∧
  e1=[(1,.c (.fn Qaf [.pp [.sl fl 3 (Qm fns)]])),(5,.c t),(8,.c (.sl fl2 1 (Qa4 l))),(9,.c (.int .i64 l.length)),(10,.c (.int .i64 i))]) l.length ?_ ?_))
 ·exact⟨0,_,[],[],[],by omega,by omega,.nil 3,rfl,by simp,.nil,Kn.start0 H,rfl⟩
 ·rintro m e1 H1 ⟨i,t,Lg,M,rows,hm,hi,hgr,hrl,hr4,how,kn,rfl⟩
  have hto:=hgr.isOw
  refine Qa ?_
  simp only[go_sem,hto]
  refine Qe (Qc rfl ?_ ?_)
  ·intro hc
   have hlt:i<l.length:=by simpa using hc
   obtain⟨x,hx⟩:∃x,l[i]=x:=⟨_,rfl⟩
   have hxd:l.getD i 0=x:=by simp[List.getD_eq_getElem?_getD,hlt,hx]
   have hxm:x<fns.length:=hl4 x (by rw[←hx];exact List.getElem_mem hlt)
   have htk:Qm ((l.take (i+1)).map (Q1e fns))=Qm ((l.take i).map (Q1e fns))++[(Q1e fns x).cells]:=by
    rw[Qmx,List.take_succ_eq_append_getElem hlt,hx];simp
   refine Qf ?_
   try simp only[go_sem]
   refine Qe (Qd ?_)
   refine Qa ?_
   simp only[go_sem,hto,hlt,Qax,Qew _ _ hlt,hxd]
   refine Qn ?_
   simp only[go_sem,hto]
   refine Qa8o hxm hp fun H5 L2 cs k2 ho=>?_
   have hcl:cs.length=3:=by rw[←ho.len,Fn.cells_len]
   have kn:=kn.comp0 k2
   have kn:Kn H H5 [] ((M++L2)++Lg):=kn.perm (by
    simp only[List.append_assoc]
    exact List.Perm.append_left M List.perm_append_comm)
   simp only[go_sem,Qdr,hto,hcl]
   refine kn.growR hgr (new:=[cs]) (.mk' _ true 3 _) (by simpa using ho.noOw) (by simp only[hrl,List.length_cons,List.length_nil,LIM];omega) fun t2 Lg2 H6 hgr2 hto2 kn=>?_
   simp only[go_sem,Qdq,hto2]
   refine Qn ?_
   simp only[go_sem,AE.X.next,hto2]
   refine⟨Qo (by omega) (by omega),l.length-(i+1),by omega,i+1,t2,Lg2,M++L2,rows++[cs],rfl,by omega,hgr2,by simp[hrl],?_,?_,kn,rfl⟩
   ·intro r hr
    rcases List.mem_append.1 hr with hr|hr
    ·exact hr4 r hr
    ·rw[List.mem_singleton.1 hr];exact hcl
   ·rw[htk]
    simp only[List.flatten_append,List.flatten_cons,List.flatten_nil,List.append_nil]
    exact how.app ho
  ·intro hc
   have hge:l.length≤i:=by simpa using hc
   rw[List.take_of_length_le hge]at how
   refine Qu ?_
   simp only[go_sem,AE.X.next]
   refine Qa ?_
   simp only[go_sem,hto]
   refine Qh ?_
   simp only[go_sem,Q0,Q6,Qam8,List.mem_singleton,forall_eq,RS.op,hto]
   exact hK _ _ _ (kn.perm List.perm_append_comm) (hgr.ows (by simp only[Qp,List.length_map];omega) hr4 Qayz how)
theorem Qazb {fl:Bool}(hf:Q1 fns≤2^36)(g:GK H)(hK:∀H' L x,Kn H H' [] L→OwV L x (.tup [.ag [.sl false 3 (Qm (Qzc fns))],.c (.bool (Qmp fns))])→K x H') :
  Qj prog Qbm [.ag [.sl fl 3 (Qm fns)]] H K:=by
 have g0:=g
 refine Qb Qaj Qm0 ?_
 refine Qa ?_
 simp only[go_sem]
 intro x2 hx2 H1 h1
 have kn:=(Kn.start0 H).al hx2 h1
 have g:=g0.kn kn
 simp only[go_sem,Qee]
 refine Qz ?_
 refine Qa ?_
 simp only[go_sem]
 refine Qaix (by omega) g fun H2 hu=>?_
 have kn:=kn.call0 hu
 have g:=g0.kn kn
 have g2:=kn.l 0 rfl
 simp only[go_sem,Qef]
 refine Qe (Qc rfl ?_ ?_)
 ·intro hc
  have hb:Qmp fns=false:=by simpa using hc
  refine Qa ?_
  simp only[go_sem,g2]
  intro H3 h3
  have kn:=kn.stL 0 rfl h3
  have g2:=kn.l 0 rfl
  simp only[go_sem,Qeg]
  refine Qh ?_
  simp only[go_sem,AE.X.next,Q0,Q6,Qb0,List.forall_mem_cons,List.not_mem_nil,RS.op,g2]
  rw[Qzc,hb]at hK
  exact⟨fun _=>trivial,hK _ [] _ (kn.sub (List.nil_sublist _)) (.atom rfl (.sln .nil))⟩
 ·intro hc
  have hb:Qmp fns=true:=by simpa using hc
  have hg:=fine_iff.1 hb
  rw[hb,Qzc,if_pos hb,Ql2]at hK
  refine Qf ?_
  try simp only[go_sem]
  refine Qa ?_
  simp only[go_sem]
  refine Q4d hf g fun H3 hu=>?_
  have kn:=kn.call0 hu
  rw[Qajd,if_pos hb]
  simp only[go_sem,Qej]
  refine Qarb (fun k hk=>hg.nd_lt (hg.need_mem.1 hk)) (fun f hf=>by have:=Qr5 hg.v f hf;omega) fun H4 L t k2 ho=>?_
  have hto:=ho.isOw
  have kn:=kn.comp0 k2
  have g2:=kn.l 0 rfl
  simp only[go_sem,Qei,g2,hto]
  intro H5 h5
  have kn:=kn.stL 0 rfl h5
  have g2:=kn.l 0 rfl
  simp only[go_sem,Qeh,hto]
  refine Qh ?_
  simp only[go_sem,Q0,Q6,Qb0,List.forall_mem_cons,List.not_mem_nil,RS.op,g2,hto]
  exact⟨fun _=>trivial,hK _ L _ (kn.sub (List.sublist_append_right [_] _)) (.atom rfl ho.one)⟩
end Go.AE.Y

namespace Go.AE.Y
open Go.Proofs.Tryz
def Qaj3:SC:=cT 9 (sR [fB 4 false] [4] .ret) .skip
def Qaj4:SC:=cT 14 (sR [fB 4 false] [4] .ret) .skip
def Qaj5:SC:=cT 19 (sR [fB 4 false] [4] .ret) .skip
def Qwu:List Item:=[oJ 25 24]
def Qaj6:SC:=cT 25 (sR [fB 4 false] [4] .ret) .skip
def Qaj7:SC:=sR [fB 4 true] [4] .ret
def Qaj8:SC:=.seq (sR (fJ 20 3 2::lJ 21 20::fJ 22 3 3::lJ 23 22::aJ 24 Qiz [.t 21,.t 23]::Qwu) [25] Qaj6) Qaj7
def Qaj9:SC:=.seq (sR [fJ 15 2 2,lJ 16 15,fJ 17 2 3,lJ 18 17,bJ 19 .neq 16 18] [2,3,19] Qaj5) Qaj8
def Qaka:SC:=.seq (sR [fJ 10 1 2,lJ 11 10,fJ 12 1 3,lJ 13 12,bJ 14 .neq 11 13] [2,3,14] Qaj4) Qaj9
def Qakb:SC:=.seq (sR [fJ 5 0 2,lJ 6 5,fJ 7 0 3,lJ 8 7,bJ 9 .neq 6 8] [2,3,9] Qaj3) Qaka
def Qatd:SC:=sR [vJ 2 0,vJ 3 1,fB 4 false] [2,3] Qakb
theorem Qaq4:mFn prog Qlj 2 26 Qatd Qam8=true:=by kernel_rfl
def Qae2:SC:=cT 10 (sR [fB 4 false] [4] .ret) .skip
def Qte:List Item:=[oJ 26 25]
def Qae3:SC:=cT 26 (sR [fB 4 false] [4] .ret) .skip
def Qae4:SC:=.reg [mJ 15 5,cJ 16 .add 15 1,mJ 5 16] [0,1,5]
def Qae5:SC:=.seq (.block 1 (.seq (.dreg 10 [0,1,2,3,4,5,6,7,8,9] ( mJ 17 0::mJ 18 5::iJ 19 4 17 18::tJ 20 4 19::mJ 21 1::mJ 22 5::iJ 23 4 21 22::tJ 24 4 23::aJ 25 Qlj [.t 20,.t 24]::Qte) [0,1,5,26]) Qae3)) Qae4
def Qab8:SC:=.seq (sR [mJ 11 5,mJ 12 0,nJ 13 12,bJ 14 .lss 11 13] [0,1,5,14] (cT 14 .skip (.exit 0))) Qae5
def Qae6:SC:=sR [fB 4 true] [4] .ret
def Qae7:SC:=.seq (sR [zJ 5 0] [0,1,5] (bL 0 Qab8)) Qae6
def Qae8:SC:=.seq (sR [mJ 6 0,nJ 7 6,mJ 8 1,nJ 9 8,bJ 10 .neq 7 9] [0,1,10] Qae2) Qae7
def Qaoz:SC:=sR [fB 4 false] [0,1] Qae8
theorem Qamu:mFn prog Qiz 2 27 Qaoz Qam8=true:=by kernel_rfl
def Qate:SC:=cT 9 (sR [fB 4 false] [4] .ret) .skip
def Q5f:List Item:=[oJ 15 14]
def Qatf:SC:=cT 15 (sR [fB 4 false] [4] .ret) .skip
def Q5g:List Item:=[oJ 21 20]
def Qatg:SC:=cT 21 (sR [fB 4 false] [4] .ret) .skip
def Qath:SC:=sR [fB 4 true] [4] .ret
def Qati:SC:=.seq (sR (fJ 16 2 2::lJ 17 16::fJ 18 2 3::lJ 19 18::aJ 20 Qfn [.t 17,.t 19]::Q5g) [21] Qatg) Qath
def Qatj:SC:=.seq (sR (fJ 10 1 2::lJ 11 10::fJ 12 1 3::lJ 13 12::aJ 14 Qjk [.t 11,.t 13]::Q5f) [2,3,15] Qatf) Qati
def Qatk:SC:=.seq (sR [fJ 5 0 2,lJ 6 5,fJ 7 0 3,lJ 8 7,bJ 9 .neq 6 8] [2,3,9] Qate) Qatj
def Qa11:SC:=sR [vJ 2 0,vJ 3 1,fB 4 false] [2,3] Qatk
theorem Qaz7:mFn prog Qus 2 22 Qa11 Qam8=true:=by kernel_rfl
def Qao0:SC:=cT 10 (sR [fB 4 false] [4] .ret) .skip
def Qz9:List Item:=[oJ 26 25]
def Qao1:SC:=cT 26 (sR [fB 4 false] [4] .ret) .skip
def Qao2:SC:=.reg [mJ 15 5,cJ 16 .add 15 1,mJ 5 16] [0,1,5]
def Qao3:SC:=.seq (.block 1 (.seq (.dreg 10 [0,1,2,3,4,5,6,7,8,9] ( mJ 17 0::mJ 18 5::iJ 19 3 17 18::tJ 20 3 19::mJ 21 1::mJ 22 5::iJ 23 3 21 22::tJ 24 3 23::aJ 25 Qus [.t 20,.t 24]::Qz9) [0,1,5,26]) Qao1)) Qao2
def Qakc:SC:=.seq (sR [mJ 11 5,mJ 12 0,nJ 13 12,bJ 14 .lss 11 13] [0,1,5,14] (cT 14 .skip (.exit 0))) Qao3
def Qao4:SC:=sR [fB 4 true] [4] .ret
def Qao5:SC:=.seq (sR [zJ 5 0] [0,1,5] (bL 0 Qakc)) Qao4
def Qao6:SC:=.seq (sR [mJ 6 0,nJ 7 6,mJ 8 1,nJ 9 8,bJ 10 .neq 7 9] [0,1,10] Qao0) Qao5
def Qaxk:SC:=sR [fB 4 false] [0,1] Qao6
theorem Qawc:mFn prog Qxb 2 27 Qaxk Qam8=true:=by kernel_rfl
def Qnm:List Item:=[oJ 10 9]
def Q6s:SC:=cT 10 (sR [fB 4 false] [4] .ret) .skip
def Q6t:SC:=sR [fB 4 true] [4] .ret
def Q6u:SC:=.seq (sR (fJ 5 0 2::lJ 6 5::fJ 7 0 3::lJ 8 7::aJ 9 Qxb [.t 6,.t 8]::Qnm) [10] Q6s) Q6t
def Qae9:SC:=sR [vJ 2 0,vJ 3 1,fB 4 false] [2,3] Q6u
theorem Qadj:mFn prog Qby 2 11 Qae9 Qam8=true:=by kernel_rfl
def Qakd:SC:=cT 9 (sR [fB 4 false] [4] .ret) .skip
def Qake:SC:=cT 14 (sR [fB 4 false] [4] .ret) .skip
def Qwv:List Item:=[oJ 20 19]
def Qakf:SC:=cT 20 (sR [fB 4 false] [4] .ret) .skip
def Qww:List Item:=[oJ 26 25]
def Qakg:SC:=cT 26 (sR [fB 4 false] [4] .ret) .skip
def Qwx:List Item:=[oJ 32 31]
def Qakh:SC:=cT 32 (sR [fB 4 false] [4] .ret) .skip
def Qaki:SC:=sR [fB 4 true] [4] .ret
def Qakj:SC:=.seq (sR (fJ 27 4 2::lJ 28 27::fJ 29 4 3::lJ 30 29::aJ 31 Qfn [.t 28,.t 30]::Qwx) [32] Qakh) Qaki
def Qafh:SC:=.seq (sR (fJ 21 3 2::lJ 22 21::fJ 23 3 3::lJ 24 23::aJ 25 Qfn [.t 22,.t 24]::Qww) [2,3,26] Qakg) Qakj
def Qafi:SC:=.seq (sR (fJ 15 2 2::lJ 16 15::fJ 17 2 3::lJ 18 17::aJ 19 Qiz [.t 16,.t 18]::Qwv) [2,3,20] Qakf) Qafh
def Qafj:SC:=.seq (sR [fJ 10 1 2,lJ 11 10,fJ 12 1 3,lJ 13 12,bJ 14 .neq 11 13] [2,3,14] Qake) Qafi
def Qafk:SC:=.seq (sR [fJ 5 0 2,lJ 6 5,fJ 7 0 3,lJ 8 7,bJ 9 .neq 6 8] [2,3,9] Qakd) Qafj
def Qatl:SC:=sR [vJ 2 0,vJ 3 1,fB 4 false] [2,3] Qafk
theorem Qaq5:mFn prog Qlk 2 33 Qatl Qam8=true:=by kernel_rfl
def Qafa:SC:=cT 10 (sR [fB 4 false] [4] .ret) .skip
def Qtf:List Item:=[oJ 26 25]
def Qafb:SC:=cT 26 (sR [fB 4 false] [4] .ret) .skip
def Qafc:SC:=.reg [mJ 15 5,cJ 16 .add 15 1,mJ 5 16] [0,1,5]
def Qafd:SC:=.seq (.block 1 (.seq (.dreg 10 [0,1,2,3,4,5,6,7,8,9] ( mJ 17 0::mJ 18 5::iJ 19 5 17 18::tJ 20 5 19::mJ 21 1::mJ 22 5::iJ 23 5 21 22::tJ 24 5 23::aJ 25 Qlk [.t 20,.t 24]::Qtf) [0,1,5,26]) Qafb)) Qafc
def Qab9:SC:=.seq (sR [mJ 11 5,mJ 12 0,nJ 13 12,bJ 14 .lss 11 13] [0,1,5,14] (cT 14 .skip (.exit 0))) Qafd
def Qafe:SC:=sR [fB 4 true] [4] .ret
def Qaff:SC:=.seq (sR [zJ 5 0] [0,1,5] (bL 0 Qab9)) Qafe
def Qafg:SC:=.seq (sR [mJ 6 0,nJ 7 6,mJ 8 1,nJ 9 8,bJ 10 .neq 7 9] [0,1,10] Qafa) Qaff
def Qao7:SC:=sR [fB 4 false] [0,1] Qafg
theorem Qamv:mFn prog Qfn 2 27 Qao7 Qam8=true:=by kernel_rfl
def Q6v:SC:=cT 10 (sR [fB 4 false] [4] .ret) .skip
def Q6w:SC:=cT 25 (sR [fB 4 false] [4] .ret) .skip
def Q6x:SC:=.reg [mJ 15 5,cJ 16 .add 15 1,mJ 5 16] [0,1,5]
def Q6y:SC:=.seq (.block 1 (.seq (.dreg 9 [0,1,2,3,4,5,6,7,8] ( mJ 17 0::mJ 18 5::iJ 19 1 17 18::lJ 20 19::mJ 21 1::mJ 22 5::iJ 23 1 21 22::lJ 24 23::bJ 25 .neq 20 24::[]) [0,1,5,25]) Q6w)) Q6x
def Q26:SC:=.seq (sR [mJ 11 5,mJ 12 0,nJ 13 12,bJ 14 .lss 11 13] [0,1,5,14] (cT 14 .skip (.exit 0))) Q6y
def Q6z:SC:=sR [fB 4 true] [4] .ret
def Q60:SC:=.seq (sR [zJ 5 0] [0,1,5] (bL 0 Q26)) Q6z
def Q61:SC:=.seq (sR [mJ 6 0,nJ 7 6,mJ 8 1,nJ 9 8,bJ 10 .neq 7 9] [0,1,10] Q6v) Q60
def Qafl:SC:=sR [fB 4 false] [0,1] Q61
theorem Qadk:mFn prog Qjk 2 26 Qafl Qam8=true:=by kernel_rfl
def Q62:SC:=cT 18 (sR [zJ 4 (-1)] [4] .ret) .skip
def Q63:SC:=cT 27 (sR [zJ 4 (-1)] [4] .ret) .skip
def Qnn:List Item:=[.chk 32 none (.iad 4 (.t 30) (.t 31)),hJ 34 33,bJ 37 .neq 34 36]
def Q64:SC:=cT 37 (sR [zJ 4 (-1)] [4] .ret) .skip
def Qno:List Item:=[mJ 1 46]
def Q65:SC:=cT 48 (sR [zJ 4 (-1)] [4] .ret) .skip
def Q66:SC:=sR [mJ 47 1,cJ 48 .lss 47 0] [0,1,5,48] Q65
def Q67:SC:=sR (mJ 40 0::mJ 41 5::iJ 42 4 40 41::fJ 43 3 42::lJ 44 43::mJ 45 1::aJ 46 Qfo [.t 44,.t 45]::Qno) [0,1,5] Q66
def Q68:SC:=sR [mJ 38 1,cJ 39 .add 38 1,mJ 1 39] [0,1,5] Q67
def Q69:SC:=.seq (.seq (.dreg 8 [0,1,2,3,4,5,6,2,4,7] ( mJ 30 0::mJ 31 5::iJ 32 4 30 31::fJ 33 2 32::lJ 34 33::mJ 35 1::aJ 36 Qau [.t 35]::Qnn) [0,1,5,37]) Q64) Q68
def Q27:SC:=sR [mJ 28 1,cJ 29 .add 28 1,mJ 1 29] [0,1,5] Q69
def Q28:SC:=.seq (sR [mJ 21 0,mJ 22 5,iJ 23 4 21 22,fJ 24 1 23,lJ 25 24,mJ 26 1,bJ 27 .neq 25 26] [0,1,5,27] Q63) Q27
def Q29:SC:=sR [mJ 19 1,cJ 20 .add 19 1,mJ 1 20] [0,1,5] Q28
def Q3a:SC:=.reg [mJ 10 5,cJ 11 .add 10 1,mJ 5 11] [0,1,5]
def Q3b:SC:=.seq (.block 1 (.seq (sR [mJ 12 0,mJ 13 5,iJ 14 4 12 13,fJ 15 0 14,lJ 16 15,mJ 17 1,bJ 18 .neq 16 17] [0,1,5,18] Q62) Q29)) Q3a
def Q0a:SC:=.seq (sR [mJ 6 5,mJ 7 0,nJ 8 7,bJ 9 .lss 6 8] [0,1,5,9] (cT 9 .skip (.exit 0))) Q3b
def Q3c:SC:=sR [mJ 49 1,mJ 4 49] [4] .ret
def Q3d:SC:=.seq (sR [zJ 5 0] [0,1,5] (bL 0 Q0a)) Q3c
def Qafm:SC:=sR [zJ 4 0] [0,1] Q3d
theorem Qadl:mFn prog Qfo 2 50 Qafm Qam8=true:=by kernel_rfl
def Qtg:List Item:=[.chk 14 none (.iad 3 (.t 12) (.t 13)),hJ 16 15,bJ 19 .neq 16 18]
def Qafn:SC:=cT 19 (sR [zJ 4 (-1)] [4] .ret) .skip
def Qth:List Item:=[mJ 1 28]
def Qafo:SC:=cT 30 (sR [zJ 4 (-1)] [4] .ret) .skip
def Qti:List Item:=[mJ 1 37]
def Qafp:SC:=cT 39 (sR [zJ 4 (-1)] [4] .ret) .skip
def Qafq:SC:=sR [mJ 38 1,cJ 39 .lss 38 0] [0,1,5,39] Qafp
def Qafr:SC:=sR (mJ 31 0::mJ 32 5::iJ 33 3 31 32::fJ 34 2 33::lJ 35 34::mJ 36 1::aJ 37 Qdf [.t 35,.t 36]::Qti) [0,1,5] Qafq
def Qafs:SC:=.seq (sR [mJ 29 1,cJ 30 .lss 29 0] [0,1,5,30] Qafo) Qafr
def Qaft:SC:=sR (mJ 22 0::mJ 23 5::iJ 24 3 22 23::fJ 25 1 24::lJ 26 25::mJ 27 1::aJ 28 Qgi [.t 26,.t 27]::Qth) [0,1,5] Qafs
def Qaca:SC:=sR [mJ 20 1,cJ 21 .add 20 1,mJ 1 21] [0,1,5] Qaft
def Qacb:SC:=.reg [mJ 10 5,cJ 11 .add 10 1,mJ 5 11] [0,1,5]
def Qacc:SC:=.seq (.block 1 (.seq (.seq (.dreg 8 [0,1,2,3,4,5,6,2,4,7] ( mJ 12 0::mJ 13 5::iJ 14 3 12 13::fJ 15 0 14::lJ 16 15::mJ 17 1::aJ 18 Qau [.t 17]::Qtg) [0,1,5,19]) Qafn) Qaca)) Qacb
def Q7a:SC:=.seq (sR [mJ 6 5,mJ 7 0,nJ 8 7,bJ 9 .lss 6 8] [0,1,5,9] (cT 9 .skip (.exit 0))) Qacc
def Qacd:SC:=sR [mJ 40 1,mJ 4 40] [4] .ret
def Qace:SC:=.seq (sR [zJ 5 0] [0,1,5] (bL 0 Q7a)) Qacd
def Qao8:SC:=sR [zJ 4 0] [0,1] Qace
theorem Qamw:mFn prog Qoi 2 41 Qao8 Qam8=true:=by kernel_rfl
def Qk5:List Item:=[mJ 1 8]
def Q0b:SC:=cT 10 (sR [zJ 4 (-1)] [4] .ret) .skip
def Q0c:SC:=sR [mJ 11 1,mJ 4 11] [4] .ret
def Q0d:SC:=.seq (sR [mJ 9 1,cJ 10 .lss 9 0] [1,10] Q0b) Q0c
def Q0e:SC:=sR (fJ 5 0 2::lJ 6 5::mJ 7 1::aJ 8 Qoi [.t 6,.t 7]::Qk5) [1] Q0d
def Q7b:SC:=sR [vJ 2 0,zJ 4 0] [1,2] Q0e
theorem Q5p:mFn prog Qd4 2 12 Q7b Qam8=true:=by kernel_rfl
def Q7c:SC:=cT 18 (sR [zJ 4 (-1)] [4] .ret) .skip
def Qnp:List Item:=[.chk 23 none (.iad 5 (.t 21) (.t 22)),hJ 25 24,bJ 28 .neq 25 27]
def Q7d:SC:=cT 28 (sR [zJ 4 (-1)] [4] .ret) .skip
def Qnq:List Item:=[mJ 1 37]
def Q7e:SC:=cT 39 (sR [zJ 4 (-1)] [4] .ret) .skip
def Qnr:List Item:=[mJ 1 46]
def Q7f:SC:=cT 48 (sR [zJ 4 (-1)] [4] .ret) .skip
def Qns:List Item:=[mJ 1 55]
def Q7g:SC:=cT 57 (sR [zJ 4 (-1)] [4] .ret) .skip
def Q7h:SC:=sR [mJ 56 1,cJ 57 .lss 56 0] [0,1,5,57] Q7g
def Q3e:SC:=sR (mJ 49 0::mJ 50 5::iJ 51 5 49 50::fJ 52 4 51::lJ 53 52::mJ 54 1::aJ 55 Qdf [.t 53,.t 54]::Qns) [0,1,5] Q7h
def Q3f:SC:=.seq (sR [mJ 47 1,cJ 48 .lss 47 0] [0,1,5,48] Q7f) Q3e
def Q3g:SC:=sR (mJ 40 0::mJ 41 5::iJ 42 5 40 41::fJ 43 3 42::lJ 44 43::mJ 45 1::aJ 46 Qdf [.t 44,.t 45]::Qnr) [0,1,5] Q3f
def Q3h:SC:=.seq (sR [mJ 38 1,cJ 39 .lss 38 0] [0,1,5,39] Q7e) Q3g
def Q3i:SC:=sR (mJ 31 0::mJ 32 5::iJ 33 5 31 32::fJ 34 2 33::lJ 35 34::mJ 36 1::aJ 37 Qfo [.t 35,.t 36]::Qnq) [0,1,5] Q3h
def Q3j:SC:=sR [mJ 29 1,cJ 30 .add 29 1,mJ 1 30] [0,1,5] Q3i
def Q3k:SC:=.seq (.seq (.dreg 8 [0,1,2,3,4,5,6,2,4,7] ( mJ 21 0::mJ 22 5::iJ 23 5 21 22::fJ 24 1 23::lJ 25 24::mJ 26 1::aJ 27 Qau [.t 26]::Qnp) [0,1,5,28]) Q7d) Q3j
def Q3l:SC:=sR [mJ 19 1,cJ 20 .add 19 1,mJ 1 20] [0,1,5] Q3k
def Q3m:SC:=.reg [mJ 10 5,cJ 11 .add 10 1,mJ 5 11] [0,1,5]
def Q3n:SC:=.seq (.block 1 (.seq (sR [mJ 12 0,mJ 13 5,iJ 14 5 12 13,fJ 15 0 14,lJ 16 15,mJ 17 1,bJ 18 .neq 16 17] [0,1,5,18] Q7c) Q3l)) Q3m
def Q0f:SC:=.seq (sR [mJ 6 5,mJ 7 0,nJ 8 7,bJ 9 .lss 6 8] [0,1,5,9] (cT 9 .skip (.exit 0))) Q3n
def Q3o:SC:=sR [mJ 58 1,mJ 4 58] [4] .ret
def Q3p:SC:=.seq (sR [zJ 5 0] [0,1,5] (bL 0 Q0f)) Q3o
def Qafu:SC:=sR [zJ 4 0] [0,1] Q3p
theorem Qadm:mFn prog Qdf 2 59 Qafu Qam8=true:=by kernel_rfl
def Qk6:List Item:=[.chk 14 none (.iad 1 (.t 12) (.t 13)),hJ 15 14,bJ 18 .neq 15 17]
def Q0g:SC:=cT 18 (sR [zJ 4 (-1)] [4] .ret) .skip
def Q0h:SC:=.reg [mJ 19 1,cJ 20 .add 19 1,mJ 1 20] [0,1,5]
def Q0i:SC:=.reg [mJ 10 5,cJ 11 .add 10 1,mJ 5 11] [0,1,5]
def Q0j:SC:=.seq (.block 1 (.seq (.seq (.dreg 7 [0,1,2,3,4,5,2,3,6] ( mJ 12 0::mJ 13 5::iJ 14 1 12 13::lJ 15 14::mJ 16 1::aJ 17 Qau [.t 16]::Qk6) [0,1,5,18]) Q0g) Q0h)) Q0i
def Qx3:SC:=.seq (sR [mJ 6 5,mJ 7 0,nJ 8 7,bJ 9 .lss 6 8] [0,1,5,9] (cT 9 .skip (.exit 0))) Q0j
def Q0k:SC:=sR [mJ 21 1,mJ 4 21] [4] .ret
def Q0l:SC:=.seq (sR [zJ 5 0] [0,1,5] (bL 0 Qx3)) Q0k
def Q7i:SC:=sR [zJ 4 0] [0,1] Q0l
theorem Q5q:mFn prog Qgi 2 22 Q7i Qam8=true:=by kernel_rfl
def Qnt:List Item:=[iJ 30 4 26 27,fJ 31 2 30,sJ 1 31 29]
def Qnu:List Item:=[mJ 1 40]
def Q7j:SC:=.reg (mJ 34 0::mJ 35 5::iJ 36 4 34 35::fJ 37 3 36::lJ 38 37::mJ 39 1::aJ 40 Qfp [.t 38,.t 39]::Qnu) [0,1,5]
def Q7k:SC:=sR [mJ 32 1,cJ 33 .add 32 1,mJ 1 33] [0,1,5] Q7j
def Q7l:SC:=sR (mJ 26 0::mJ 27 5::mJ 28 1::aJ 29 Qau [.t 28]::Qnt) [0,1,5] Q7k
def Q7m:SC:=sR [mJ 24 1,cJ 25 .add 24 1,mJ 1 25] [0,1,5] Q7l
def Q7n:SC:=sR [mJ 19 0,mJ 20 5,mJ 21 1,iJ 22 4 19 20,fJ 23 1 22,sJ 1 23 21] [0,1,5] Q7m
def Q7o:SC:=sR [mJ 17 1,cJ 18 .add 17 1,mJ 1 18] [0,1,5] Q7n
def Q7p:SC:=.reg [mJ 10 5,cJ 11 .add 10 1,mJ 5 11] [0,1,5]
def Q7q:SC:=.seq (.block 1 (sR [mJ 12 0,mJ 13 5,mJ 14 1,iJ 15 4 12 13,fJ 16 0 15,sJ 1 16 14] [0,1,5] Q7o)) Q7p
def Q0m:SC:=.seq (sR [mJ 6 5,mJ 7 0,nJ 8 7,bJ 9 .lss 6 8] [0,1,5,9] (cT 9 .skip (.exit 0))) Q7q
def Q3q:SC:=sR [mJ 41 1,mJ 4 41] [4] .ret
def Q3r:SC:=.seq (sR [zJ 5 0] [0,1,5] (bL 0 Q0m)) Q3q
def Qafv:SC:=sR [zJ 4 0] [0,1] Q3r
theorem Qwf:mFn prog Qfp 2 42 Qafv Qam8=true:=by kernel_rfl
def Qtj:List Item:=[iJ 16 3 12 13,fJ 17 0 16,sJ 1 17 15]
def Qtk:List Item:=[mJ 1 26]
def Qtl:List Item:=[mJ 1 33]
def Qafw:SC:=.reg (mJ 27 0::mJ 28 5::iJ 29 3 27 28::fJ 30 2 29::lJ 31 30::mJ 32 1::aJ 33 Qdg [.t 31,.t 32]::Qtl) [0,1,5]
def Qafx:SC:=sR (mJ 20 0::mJ 21 5::iJ 22 3 20 21::fJ 23 1 22::lJ 24 23::mJ 25 1::aJ 26 Qgj [.t 24,.t 25]::Qtk) [0,1,5] Qafw
def Qafy:SC:=sR [mJ 18 1,cJ 19 .add 18 1,mJ 1 19] [0,1,5] Qafx
def Qafz:SC:=.reg [mJ 10 5,cJ 11 .add 10 1,mJ 5 11] [0,1,5]
def Qaf0:SC:=.seq (.block 1 (sR (mJ 12 0::mJ 13 5::mJ 14 1::aJ 15 Qau [.t 14]::Qtj) [0,1,5] Qafy)) Qafz
def Qacg:SC:=.seq (sR [mJ 6 5,mJ 7 0,nJ 8 7,bJ 9 .lss 6 8] [0,1,5,9] (cT 9 .skip (.exit 0))) Qaf0
def Qaf1:SC:=sR [mJ 34 1,mJ 4 34] [4] .ret
def Qacf:SC:=.seq (sR [zJ 5 0] [0,1,5] (bL 0 Qacg)) Qaf1
def Qao9:SC:=sR [zJ 4 0] [0,1] Qacf
theorem Q4f:mFn prog Qoj 2 35 Qao9 Qam8=true:=by kernel_rfl
def Qk7:List Item:=[mJ 1 8]
def Q0n:SC:=sR [mJ 9 1,mJ 4 9] [4] .ret
def Q0o:SC:=sR (fJ 5 0 2::lJ 6 5::mJ 7 1::aJ 8 Qoj [.t 6,.t 7]::Qk7) [1] Q0n
def Q7r:SC:=sR [vJ 2 0,zJ 4 0] [1,2] Q0o
theorem Q5r:mFn prog Qd5 2 10 Q7r Qam8=true:=by kernel_rfl
def Qnv:List Item:=[iJ 23 5 19 20,fJ 24 1 23,sJ 1 24 22]
def Qnw:List Item:=[mJ 1 33]
def Qnx:List Item:=[mJ 1 40]
def Qny:List Item:=[mJ 1 47]
def Q7s:SC:=.reg (mJ 41 0::mJ 42 5::iJ 43 5 41 42::fJ 44 4 43::lJ 45 44::mJ 46 1::aJ 47 Qdg [.t 45,.t 46]::Qny) [0,1,5]
def Q7t:SC:=sR (mJ 34 0::mJ 35 5::iJ 36 5 34 35::fJ 37 3 36::lJ 38 37::mJ 39 1::aJ 40 Qdg [.t 38,.t 39]::Qnx) [0,1,5] Q7s
def Q7u:SC:=sR (mJ 27 0::mJ 28 5::iJ 29 5 27 28::fJ 30 2 29::lJ 31 30::mJ 32 1::aJ 33 Qfp [.t 31,.t 32]::Qnw) [0,1,5] Q7t
def Q7v:SC:=sR [mJ 25 1,cJ 26 .add 25 1,mJ 1 26] [0,1,5] Q7u
def Q7w:SC:=sR (mJ 19 0::mJ 20 5::mJ 21 1::aJ 22 Qau [.t 21]::Qnv) [0,1,5] Q7v
def Q7x:SC:=sR [mJ 17 1,cJ 18 .add 17 1,mJ 1 18] [0,1,5] Q7w
def Q3s:SC:=.reg [mJ 10 5,cJ 11 .add 10 1,mJ 5 11] [0,1,5]
def Q3t:SC:=.seq (.block 1 (sR [mJ 12 0,mJ 13 5,mJ 14 1,iJ 15 5 12 13,fJ 16 0 15,sJ 1 16 14] [0,1,5] Q7x)) Q3s
def Q0p:SC:=.seq (sR [mJ 6 5,mJ 7 0,nJ 8 7,bJ 9 .lss 6 8] [0,1,5,9] (cT 9 .skip (.exit 0))) Q3t
def Q3u:SC:=sR [mJ 48 1,mJ 4 48] [4] .ret
def Q3v:SC:=.seq (sR [zJ 5 0] [0,1,5] (bL 0 Q0p)) Q3u
def Qaf2:SC:=sR [zJ 4 0] [0,1] Q3v
theorem Qwg:mFn prog Qdg 2 49 Qaf2 Qam8=true:=by kernel_rfl
def Qk8:List Item:=[iJ 16 1 12 13,sJ 1 16 15]
def Q0q:SC:=.reg [mJ 17 1,cJ 18 .add 17 1,mJ 1 18] [0,1,5]
def Q0r:SC:=.reg [mJ 10 5,cJ 11 .add 10 1,mJ 5 11] [0,1,5]
def Q0s:SC:=.seq (.block 1 (sR (mJ 12 0::mJ 13 5::mJ 14 1::aJ 15 Qau [.t 14]::Qk8) [0,1,5] Q0q)) Q0r
def Qx4:SC:=.seq (sR [mJ 6 5,mJ 7 0,nJ 8 7,bJ 9 .lss 6 8] [0,1,5,9] (cT 9 .skip (.exit 0))) Q0s
def Q0t:SC:=sR [mJ 19 1,mJ 4 19] [4] .ret
def Q0u:SC:=.seq (sR [zJ 5 0] [0,1,5] (bL 0 Qx4)) Q0t
def Q7y:SC:=sR [zJ 4 0] [0,1] Q0u
theorem Qpx:mFn prog Qgj 2 20 Q7y Qam8=true:=by kernel_rfl
def Qach:SC:=cT 5 (sR [fI 2 (.mv (.k (.c (.str [109,48]))))] [2] .ret) .skip
def Qaci:SC:=.reg [mJ 16 0,cJ 17 .quo 16 10,mJ 0 17] [0,3]
def Qacj:SC:=.block 1 (sR [mJ 8 0,cJ 9 .rem 8 10,fI 10 (.bin 0 .add (kI 48) (.t 9)),fI 11 (.cvt .u8 (.t 10)),fI 12 (.bsl 1 [.t 11]),fI 13 (.b2s (.t 12)),mJ 14 3,bJ 15 .add 13 14,mJ 3 15] [0,3] Qaci)
def Q7z:SC:=.seq (sR [mJ 6 0,cJ 7 .gtr 6 0] [0,3,7] (cT 7 .skip (.exit 0))) Qacj
def Qack:SC:=sR [mJ 18 3,fI 19 (.bin 0 .add (.k (.c (.str [109]))) (.t 18)),mJ 2 19] [2] .ret
def Qacl:SC:=sR [fI 3 (.mv (.k (.c (.str []))))] [0,3] (.seq (bL 0 Q7z) Qack)
def Qacm:SC:=.seq (sR [mJ 4 0,cJ 5 .leq 4 0] [0,5] Qach) Qacl
def Qakk:SC:=sR [fI 2 (.mv (.k (.c (.str []))))] [0] Qacm
theorem Qai8:mFn prog Qau 1 20 Qakk Qgm=true:=by kernel_rfl
def Qakl:SC:=cT 11 (sR [zJ 4 (-1)] [4] .ret) .skip
def Qwy:List Item:=[mJ 1 15]
def Qakm:SC:=cT 17 (sR [zJ 4 (-1)] [4] .ret) .skip
def Qakn:SC:=sR [mJ 18 1,mJ 4 18] [4] .ret
def Qako:SC:=.seq (sR [mJ 16 1,cJ 17 .lss 16 0] [1,17] Qakm) Qakn
def Qakp:SC:=sR (fJ 12 3 2::lJ 13 12::mJ 14 1::aJ 15 Qbb [.t 13,.t 14]::Qwy) [1] Qako
def Qakq:SC:=.seq (sR [mJ 10 1,cJ 11 .lss 10 0] [1,2,11] Qakl) Qakp
def Qakr:SC:=sR [mJ 5 1,fJ 6 2 2,lJ 7 6,fI 8 (.lensx (.t 7)),bJ 9 .sub 5 8,mJ 1 9] [1,2] Qakq
def Qatm:SC:=sR [vJ 2 0,zJ 4 0] [1,2] Qakr
theorem Qaq6:mFn prog Qe6 2 19 Qatm Qam8=true:=by kernel_rfl
def Qaf3:SC:=cT 11 (sR [zJ 4 (-1)] [4] .ret) .skip
def Qtm:List Item:=[mJ 1 23]
def Qaf4:SC:=cT 25 (sR [zJ 4 (-1)] [4] .ret) .skip
def Qaf5:SC:=sR [mJ 24 1,cJ 25 .lss 24 0] [0,1,5,25] Qaf4
def Qaf6:SC:=.reg [mJ 16 5,cJ 17 .add 16 1,mJ 5 17] [0,1,5]
def Qaf7:SC:=.seq (.block 1 (sR (mJ 18 0::mJ 19 5::iJ 20 4 18 19::tJ 21 4 20::mJ 22 1::aJ 23 Qe6 [.t 21,.t 22]::Qtm) [0,1,5] Qaf5)) Qaf6
def Qaco:SC:=.seq (sR [mJ 12 5,mJ 13 0,fI 14 (.lenx (.t 13)),bJ 15 .lss 12 14] [0,1,5,15] (cT 15 .skip (.exit 0))) Qaf7
def Qaf8:SC:=sR [mJ 26 1,mJ 4 26] [4] .ret
def Qaf9:SC:=.seq (sR [zJ 5 0] [0,1,5] (bL 0 Qaco)) Qaf8
def Qaga:SC:=.seq (sR [mJ 10 1,cJ 11 .lss 10 0] [0,1,11] Qaf3) Qaf9
def Qacn:SC:=sR [mJ 6 1,mJ 7 0,fI 8 (.lenx (.t 7)),bJ 9 .sub 6 8,mJ 1 9] [0,1] Qaga
def Qapa:SC:=sR [zJ 4 0] [0,1] Qacn
theorem Q4g:mFn prog Qbb 2 27 Qapa Qam8=true:=by kernel_rfl
def Qatn:SC:=cT 11 (sR [zJ 4 (-1)] [4] .ret) .skip
def Q5h:List Item:=[mJ 1 15]
def Qato:SC:=cT 17 (sR [zJ 4 (-1)] [4] .ret) .skip
def Q5i:List Item:=[mJ 1 21]
def Qatp:SC:=cT 23 (sR [zJ 4 (-1)] [4] .ret) .skip
def Qatq:SC:=sR [mJ 24 1,mJ 4 24] [4] .ret
def Qatr:SC:=.seq (sR [mJ 22 1,cJ 23 .lss 22 0] [1,23] Qatp) Qatq
def Qats:SC:=sR (fJ 18 2 2::lJ 19 18::mJ 20 1::aJ 21 Qaw [.t 19,.t 20]::Q5i) [1] Qatr
def Qatt:SC:=.seq (sR [mJ 16 1,cJ 17 .lss 16 0] [1,2,17] Qato) Qats
def Qatu:SC:=sR (fJ 12 1 2::lJ 13 12::mJ 14 1::aJ 15 Qbz [.t 13,.t 14]::Q5h) [1,2] Qatt
def Qapj:SC:=.seq (sR [mJ 10 1,cJ 11 .lss 10 0] [1,2,11] Qatn) Qatu
def Qapk:SC:=sR [mJ 5 1,fJ 6 0 2,lJ 7 6,fI 8 (.lensx (.t 7)),bJ 9 .sub 5 8,mJ 1 9] [1,2] Qapj
def Qa12:SC:=sR [vJ 2 0,zJ 4 0] [1,2] Qapk
theorem Qaz8:mFn prog Qmu 2 25 Qa12 Qam8=true:=by kernel_rfl
def Qapb:SC:=cT 11 (sR [zJ 4 (-1)] [4] .ret) .skip
def Q0v:List Item:=[mJ 1 23]
def Qapc:SC:=cT 25 (sR [zJ 4 (-1)] [4] .ret) .skip
def Qapd:SC:=sR [mJ 24 1,cJ 25 .lss 24 0] [0,1,5,25] Qapc
def Qape:SC:=.reg [mJ 16 5,cJ 17 .add 16 1,mJ 5 17] [0,1,5]
def Qapf:SC:=.seq (.block 1 (sR (mJ 18 0::mJ 19 5::iJ 20 3 18 19::tJ 21 3 20::mJ 22 1::aJ 23 Qmu [.t 21,.t 22]::Q0v) [0,1,5] Qapd)) Qape
def Qakt:SC:=.seq (sR [mJ 12 5,mJ 13 0,fI 14 (.lenx (.t 13)),bJ 15 .lss 12 14] [0,1,5,15] (cT 15 .skip (.exit 0))) Qapf
def Qapg:SC:=sR [mJ 26 1,mJ 4 26] [4] .ret
def Qaph:SC:=.seq (sR [zJ 5 0] [0,1,5] (bL 0 Qakt)) Qapg
def Qapi:SC:=.seq (sR [mJ 10 1,cJ 11 .lss 10 0] [0,1,11] Qapb) Qaph
def Qaks:SC:=sR [mJ 6 1,mJ 7 0,fI 8 (.lenx (.t 7)),bJ 9 .sub 6 8,mJ 1 9] [0,1] Qapi
def Qaxl:SC:=sR [zJ 4 0] [0,1] Qaks
theorem Qahw:mFn prog Qgk 2 27 Qaxl Qam8=true:=by kernel_rfl
def Qnz:List Item:=[mJ 1 8]
def Q70:SC:=cT 10 (sR [zJ 4 (-1)] [4] .ret) .skip
def Q71:SC:=sR [mJ 11 1,mJ 4 11] [4] .ret
def Q72:SC:=.seq (sR [mJ 9 1,cJ 10 .lss 9 0] [1,10] Q70) Q71
def Q73:SC:=sR (fJ 5 0 2::lJ 6 5::mJ 7 1::aJ 8 Qgk [.t 6,.t 7]::Qnz) [1] Q72
def Qagb:SC:=sR [vJ 2 0,zJ 4 0] [1,2] Q73
theorem Qadn:mFn prog Qdh 2 12 Qagb Qam8=true:=by kernel_rfl
def Qaku:SC:=cT 11 (sR [zJ 4 (-1)] [4] .ret) .skip
def Qwz:List Item:=[mJ 1 15]
def Qakv:SC:=cT 17 (sR [zJ 4 (-1)] [4] .ret) .skip
def Qw0:List Item:=[mJ 1 21]
def Qakw:SC:=cT 23 (sR [zJ 4 (-1)] [4] .ret) .skip
def Qw1:List Item:=[mJ 1 27]
def Qakx:SC:=cT 29 (sR [zJ 4 (-1)] [4] .ret) .skip
def Qaky:SC:=sR [mJ 30 1,mJ 4 30] [4] .ret
def Qakz:SC:=.seq (sR [mJ 28 1,cJ 29 .lss 28 0] [1,29] Qakx) Qaky
def Qak0:SC:=sR (fJ 24 4 2::lJ 25 24::mJ 26 1::aJ 27 Qaw [.t 25,.t 26]::Qw1) [1] Qakz
def Qagk:SC:=.seq (sR [mJ 22 1,cJ 23 .lss 22 0] [1,2,23] Qakw) Qak0
def Qagl:SC:=sR (fJ 18 3 2::lJ 19 18::mJ 20 1::aJ 21 Qaw [.t 19,.t 20]::Qw0) [1,2] Qagk
def Qagm:SC:=.seq (sR [mJ 16 1,cJ 17 .lss 16 0] [1,2,17] Qakv) Qagl
def Qagn:SC:=sR (fJ 12 2 2::lJ 13 12::mJ 14 1::aJ 15 Qbb [.t 13,.t 14]::Qwz) [1,2] Qagm
def Qago:SC:=.seq (sR [mJ 10 1,cJ 11 .lss 10 0] [1,2,11] Qaku) Qagn
def Qagp:SC:=sR [mJ 5 1,fJ 6 1 2,lJ 7 6,fI 8 (.lensx (.t 7)),bJ 9 .sub 5 8,mJ 1 9] [1,2] Qago
def Qatv:SC:=sR [vJ 2 0,zJ 4 0] [1,2] Qagp
theorem Qaq7:mFn prog Qe7 2 31 Qatv Qam8=true:=by kernel_rfl
def Qagc:SC:=cT 11 (sR [zJ 4 (-1)] [4] .ret) .skip
def Qtn:List Item:=[mJ 1 23]
def Qagd:SC:=cT 25 (sR [zJ 4 (-1)] [4] .ret) .skip
def Qage:SC:=sR [mJ 24 1,cJ 25 .lss 24 0] [0,1,5,25] Qagd
def Qagf:SC:=.reg [mJ 16 5,cJ 17 .add 16 1,mJ 5 17] [0,1,5]
def Qagg:SC:=.seq (.block 1 (sR (mJ 18 0::mJ 19 5::iJ 20 5 18 19::tJ 21 5 20::mJ 22 1::aJ 23 Qe7 [.t 21,.t 22]::Qtn) [0,1,5] Qage)) Qagf
def Qacq:SC:=.seq (sR [mJ 12 5,mJ 13 0,fI 14 (.lenx (.t 13)),bJ 15 .lss 12 14] [0,1,5,15] (cT 15 .skip (.exit 0))) Qagg
def Qagh:SC:=sR [mJ 26 1,mJ 4 26] [4] .ret
def Qagi:SC:=.seq (sR [zJ 5 0] [0,1,5] (bL 0 Qacq)) Qagh
def Qagj:SC:=.seq (sR [mJ 10 1,cJ 11 .lss 10 0] [0,1,11] Qagc) Qagi
def Qacp:SC:=sR [mJ 6 1,mJ 7 0,fI 8 (.lenx (.t 7)),bJ 9 .sub 6 8,mJ 1 9] [0,1] Qagj
def Qapl:SC:=sR [zJ 4 0] [0,1] Qacp
theorem Q4h:mFn prog Qaw 2 27 Qapl Qam8=true:=by kernel_rfl
def Q74:SC:=cT 11 (sR [zJ 4 (-1)] [4] .ret) .skip
def Q75:SC:=cT 26 (sR [zJ 4 (-1)] [4] .ret) .skip
def Q76:SC:=sR [mJ 25 1,cJ 26 .lss 25 0] [0,1,5,26] Q75
def Q77:SC:=.reg [mJ 16 5,cJ 17 .add 16 1,mJ 5 17] [0,1,5]
def Q78:SC:=.seq (.block 1 (sR [mJ 18 1,mJ 19 0,mJ 20 5,iJ 21 1 19 20,lJ 22 21,fI 23 (.lensx (.t 22)),bJ 24 .sub 18 23,mJ 1 24] [0,1,5] Q76)) Q77
def Q3w:SC:=.seq (sR [mJ 12 5,mJ 13 0,fI 14 (.lenx (.t 13)),bJ 15 .lss 12 14] [0,1,5,15] (cT 15 .skip (.exit 0))) Q78
def Q79:SC:=sR [mJ 27 1,mJ 4 27] [4] .ret
def Q8a:SC:=.seq (sR [zJ 5 0] [0,1,5] (bL 0 Q3w)) Q79
def Q8b:SC:=.seq (sR [mJ 10 1,cJ 11 .lss 10 0] [0,1,11] Q74) Q8a
def Q8c:SC:=sR [mJ 6 1,mJ 7 0,fI 8 (.lenx (.t 7)),bJ 9 .sub 6 8,mJ 1 9] [0,1] Q8b
def Qagq:SC:=sR [zJ 4 0] [0,1] Q8c
theorem Qwh:mFn prog Qbz 2 28 Qagq Qam8=true:=by kernel_rfl
def Qw2:List Item:=[fJ 16 3 3,sJ 1 16 15]
def Qak1:SC:=sR [tJ 17 4 3,sJ 4 2 17] [2] .ret
def Qak2:SC:=sR (fJ 13 3 1::lJ 14 13::aJ 15 Qi0 [.t 14]::Qw2) [2,3] Qak1
def Qak3:SC:=sR [fJ 10 2 1,lJ 11 10,fJ 12 2 3,sJ 1 12 11] [1,2,3] Qak2
def Qak4:SC:=sR [fJ 7 1 1,lJ 8 7,fJ 9 1 3,sJ 1 9 8] [1,2,3] Qak3
def Qak5:SC:=sR [fJ 4 0 1,lJ 5 4,fJ 6 0 3,sJ 1 6 5] [1,2,3] Qak4
def Qak6:SC:=sR [eI 3 (.alloc [.int .i64 0,.int .i64 0,.str [],.sl true 4 []])] [1,2,3] Qak5
def Qatw:SC:=sR [vJ 1 0,eI 2 (.alloc [.int .i64 0,.int .i64 0,.str [],.sl true 4 []])] [1,2] Qak6
theorem Qaq8:mFn prog Qll 1 18 Qatw Qmc=true:=by kernel_rfl
def Qto:List Item:=[mJ 3 7]
def Qtp:List Item:=[iJ 21 4 14 15,sJ 4 21 20]
def Qagr:SC:=.reg [mJ 12 4,cJ 13 .add 12 1,mJ 4 13] [0,3,4]
def Qags:SC:=.seq (.block 1 (.reg (mJ 14 3::mJ 15 4::mJ 16 0::mJ 17 4::iJ 18 4 16 17::tJ 19 4 18::aJ 20 Qll [.t 19]::Qtp) [0,3,4])) Qagr
def Qacr:SC:=.seq (sR [mJ 8 4,mJ 9 0,nJ 10 9,bJ 11 .lss 8 10] [0,3,4,11] (cT 11 .skip (.exit 0))) Qags
def Qagt:SC:=sR [mJ 22 3,mJ 2 22] [2] .ret
def Qagu:SC:=.seq (sR [zJ 4 0] [0,3,4] (bL 0 Qacr)) Qagt
def Qagv:SC:=sR (mJ 5 0::nJ 6 5::eI 7 (.mks 4 [.int .i64 0,.int .i64 0,.str [],.sl true 4 []] (.t 6))::Qto) [0,3] Qagu
def Qapm:SC:=sR [fI 2 (.mv (.k (.c (.sl true 4 []))))] [0] Qagv
theorem Qamx:mFn prog Qi0 1 23 Qapm Qgm=true:=by kernel_rfl
def Q5j:List Item:=[fJ 10 1 3,sJ 1 10 9]
def Q5k:List Item:=[fJ 14 2 3,sJ 1 14 13]
def Qatx:SC:=sR [tJ 15 3 3,sJ 3 2 15] [2] .ret
def Qaty:SC:=sR (fJ 11 2 1::lJ 12 11::aJ 13 Qfq [.t 12]::Q5k) [2,3] Qatx
def Qatz:SC:=sR (fJ 7 1 1::lJ 8 7::aJ 9 Qjl [.t 8]::Q5j) [1,2,3] Qaty
def Qat0:SC:=sR [fJ 4 0 1,lJ 5 4,fJ 6 0 3,sJ 1 6 5] [1,2,3] Qatz
def Qat1:SC:=sR [eI 3 (.alloc [.str [],.sl true 1 [],.sl true 5 []])] [1,2,3] Qat0
def Qa13:SC:=sR [vJ 1 0,eI 2 (.alloc [.str [],.sl true 1 [],.sl true 5 []])] [1,2] Qat1
theorem Qaz9:mFn prog Qut 1 16 Qa13 Qr9=true:=by kernel_rfl
def Q0w:List Item:=[mJ 3 7]
def Q0x:List Item:=[iJ 21 3 14 15,sJ 3 21 20]
def Qapn:SC:=.reg [mJ 12 4,cJ 13 .add 12 1,mJ 4 13] [0,3,4]
def Qapo:SC:=.seq (.block 1 (.reg (mJ 14 3::mJ 15 4::mJ 16 0::mJ 17 4::iJ 18 3 16 17::tJ 19 3 18::aJ 20 Qut [.t 19]::Q0x) [0,3,4])) Qapn
def Qak7:SC:=.seq (sR [mJ 8 4,mJ 9 0,nJ 10 9,bJ 11 .lss 8 10] [0,3,4,11] (cT 11 .skip (.exit 0))) Qapo
def Qapp:SC:=sR [mJ 22 3,mJ 2 22] [2] .ret
def Qapq:SC:=.seq (sR [zJ 4 0] [0,3,4] (bL 0 Qak7)) Qapp
def Qapr:SC:=sR (mJ 5 0::nJ 6 5::eI 7 (.mks 3 [.str [],.sl true 1 [],.sl true 5 []] (.t 6))::Q0w) [0,3] Qapq
def Qaxm:SC:=sR [fI 2 (.mv (.k (.c (.sl true 3 []))))] [0] Qapr
theorem Qawd:mFn prog Qxc 1 23 Qaxm Qgm=true:=by kernel_rfl
def Qn0:List Item:=[fJ 7 0 3,sJ 1 7 6]
def Q8d:SC:=sR [tJ 8 1 3,sJ 1 2 8] [2] .ret
def Q8e:SC:=sR (fJ 4 0 1::lJ 5 4::aJ 6 Qxc [.t 5]::Qn0) [2,3] Q8d
def Q8f:SC:=sR [eI 3 (.alloc [.sl true 3 []])] [1,2,3] Q8e
def Qagw:SC:=sR [vJ 1 0,eI 2 (.alloc [.sl true 3 []])] [1,2] Q8f
theorem Qado:mFn prog Qbi 1 9 Qagw Qau7=true:=by kernel_rfl
def Qw3:List Item:=[fJ 13 2 3,sJ 1 13 12]
def Qw4:List Item:=[fJ 17 3 3,sJ 1 17 16]
def Qw5:List Item:=[fJ 21 4 3,sJ 1 21 20]
def Qak8:SC:=sR [tJ 22 5 3,sJ 5 2 22] [2] .ret
def Qak9:SC:=sR (fJ 18 4 1::lJ 19 18::aJ 20 Qfq [.t 19]::Qw5) [2,3] Qak8
def Qala:SC:=sR (fJ 14 3 1::lJ 15 14::aJ 16 Qfq [.t 15]::Qw4) [1,2,3] Qak9
def Qalb:SC:=sR (fJ 10 2 1::lJ 11 10::aJ 12 Qi0 [.t 11]::Qw3) [1,2,3] Qala
def Qalc:SC:=sR [fJ 7 1 1,lJ 8 7,fJ 9 1 3,sJ 1 9 8] [1,2,3] Qalb
def Qald:SC:=sR [fJ 4 0 1,lJ 5 4,fJ 6 0 3,sJ 1 6 5] [1,2,3] Qalc
def Qale:SC:=sR [eI 3 (.alloc [.int .i64 0,.str [],.sl true 4 [],.sl true 5 [],.sl true 5 []])] [1,2,3] Qald
def Qat2:SC:=sR [vJ 1 0,eI 2 (.alloc [.int .i64 0,.str [],.sl true 4 [],.sl true 5 [],.sl true 5 []])] [1,2] Qale
theorem Qaq9:mFn prog Qlm 1 23 Qat2 Qmd=true:=by kernel_rfl
def Qtq:List Item:=[mJ 3 7]
def Qtr:List Item:=[iJ 21 5 14 15,sJ 5 21 20]
def Qagx:SC:=.reg [mJ 12 4,cJ 13 .add 12 1,mJ 4 13] [0,3,4]
def Qagy:SC:=.seq (.block 1 (.reg (mJ 14 3::mJ 15 4::mJ 16 0::mJ 17 4::iJ 18 5 16 17::tJ 19 5 18::aJ 20 Qlm [.t 19]::Qtr) [0,3,4])) Qagx
def Qacs:SC:=.seq (sR [mJ 8 4,mJ 9 0,nJ 10 9,bJ 11 .lss 8 10] [0,3,4,11] (cT 11 .skip (.exit 0))) Qagy
def Qagz:SC:=sR [mJ 22 3,mJ 2 22] [2] .ret
def Qag0:SC:=.seq (sR [zJ 4 0] [0,3,4] (bL 0 Qacs)) Qagz
def Qag1:SC:=sR (mJ 5 0::nJ 6 5::eI 7 (.mks 5 [.int .i64 0,.str [],.sl true 4 [],.sl true 5 [],.sl true 5 []] (.t 6))::Qtq) [0,3] Qag0
def Qaps:SC:=sR [fI 2 (.mv (.k (.c (.sl true 5 []))))] [0] Qag1
theorem Qamy:mFn prog Qfq 1 23 Qaps Qgm=true:=by kernel_rfl
def Qn1:List Item:=[mJ 3 7]
def Q8g:SC:=.reg [mJ 12 4,cJ 13 .add 12 1,mJ 4 13] [0,3,4]
def Q8h:SC:=.seq (.block 1 (.reg [mJ 14 3,mJ 15 4,mJ 16 0,mJ 17 4,iJ 18 1 16 17,lJ 19 18,iJ 20 1 14 15,sJ 1 20 19] [0,3,4])) Q8g
def Q3x:SC:=.seq (sR [mJ 8 4,mJ 9 0,nJ 10 9,bJ 11 .lss 8 10] [0,3,4,11] (cT 11 .skip (.exit 0))) Q8h
def Q8i:SC:=sR [mJ 21 3,mJ 2 21] [2] .ret
def Q8j:SC:=.seq (sR [zJ 4 0] [0,3,4] (bL 0 Q3x)) Q8i
def Q8k:SC:=sR (mJ 5 0::nJ 6 5::eI 7 (.mks 1 [.str []] (.t 6))::Qn1) [0,3] Q8j
def Qag2:SC:=sR [fI 2 (.mv (.k (.c (.sl true 1 []))))] [0] Q8k
theorem Qadp:mFn prog Qjl 1 22 Qag2 Qgm=true:=by kernel_rfl
def Qds:List Item:=[mJ 3 16]
def Qlg:SC:=cT 18 (sR [fB 2 true] [2] .ret) .skip
def Qdt:List Item:=[mJ 5 24]
def Qdu:List Item:=sJ 1 4 23::Qdt
def Qdv:List Item:=mJ 19 22::fI 23 (.ext (.t 19) 0)::fI 24 (.ext (.t 19) 1)::eI 4 (.alloc [.sl true 3 []])::Qdu
def Qdw:List Item:=aJ 22 Qfv [.t 21]::Qdv
def Qdx:List Item:=[sJ 1 6 26]
def Qdy:List Item:=eI 6 (.alloc [.sl true 3 []])::Qdx
def Qdz:List Item:=[mJ 8 31]
def Qd0:List Item:=sJ 1 7 30::Qdz
def Qct:List Item:=mJ 27 29::fI 30 (.ext (.t 27) 0)::fI 31 (.ext (.t 27) 1)::eI 7 (.alloc [.sl true 3 []])::Qd0
def Qcu:List Item:=[oJ 35 34,mJ 36 35,gFm 37 36 8,gFm 38 36 5,gF 39 36 (.bin 1 .neq (.t 37) (.t 38)),pT 40 36 39]
def Qj9:SC:=cT 40 (sR [fB 2 false] [2] .ret) .skip
def Qcv:List Item:=[oJ 45 44]
def Qcw:List Item:=.chk 41 none (.ld 1 true (.t 6))::aJ 44 Qby [.t 41,.t 43]::Qcv
def Qka:SC:=cT 45 (sR [fB 2 false] [2] .ret) .skip
def Qcx:List Item:=[mJ 9 48]
def Qcy:List Item:=[gF 55 51 (.not (.t 54)),pT 56 51 55,mJ 57 56,gFm 58 57 8,gFm 59 57 5,gF 60 57 (.bin 1 .neq (.t 58) (.t 59)),pT 61 57 60]
def Qkb:SC:=cT 61 (sR [fB 2 false] [2] .ret) .skip
def Qcz:List Item:=[mJ 10 64]
def Qc0:List Item:=[mJ 11 67]
def Qkc:SC:=cT 69 (sR [fB 2 false] [2] .ret) .skip
def Qkd:SC:=cT 72 (sR [fB 2 false] [2] .ret) .skip
def Qc1:List Item:=[mJ 13 78]
def Qc2:List Item:=sJ 1 12 77::Qc1
def Qc3:List Item:=mJ 73 76::fI 77 (.ext (.t 73) 0)::fI 78 (.ext (.t 73) 1)::eI 12 (.alloc [.sl true 3 []])::Qc2
def Qc4:List Item:=aJ 76 Qbm [.t 75]::Qc3
def Qc5:List Item:=[oJ 82 81,mJ 83 82,gFm 84 83 13,gFm 85 83 5,gF 86 83 (.bin 1 .neq (.t 84) (.t 85)),pT 87 83 86]
def Qke:SC:=cT 87 (sR [fB 2 false] [2] .ret) .skip
def Qc6:List Item:=[mJ 11 90]
def Qkf:SC:=cT 92 (sR [fB 2 false] [2] .ret) .skip
def Qkg:SC:=cT 95 (sR [fB 2 false] [2] .ret) .skip
def Qkh:SC:=sR [fB 2 true] [2] .ret
def Qki:SC:=.seq (sR [mJ 93 11,mJ 94 10,bJ 95 .neq 93 94] [95] Qkg) Qkh
def Qkj:SC:=.seq (sR [mJ 91 11,cJ 92 .lss 91 0] [10,11,92] Qkf) Qki
def Qkk:SC:=sR (tJ 88 1 7::mJ 89 11::aJ 90 Qd4 [.t 88,.t 89]::Qc6) [10,11] Qkj
def Qkl:SC:=sR [zJ 11 1] [7,10,11] Qkk
def Qkm:SC:=.seq (sR (tJ 79 1 12::tJ 80 1 4::aJ 81 Qby [.t 79,.t 80]::Qc5) [7,10,87] Qke) Qkl
def Qkn:SC:=sR (tJ 74 1 1::aJ 75 Qbi [.t 74]::Qc4) [4,5,7,10,12,13] Qkm
def Qko:SC:=.seq (sR [mJ 70 11,mJ 71 10,bJ 72 .neq 70 71] [1,4,5,7,10,72] Qkd) Qkn
def Qkp:SC:=.seq (sR [mJ 68 11,cJ 69 .lss 68 0] [1,4,5,7,10,11,69] Qkc) Qko
def Qkq:SC:=sR (tJ 65 1 7::mJ 66 11::aJ 67 Qd4 [.t 65,.t 66]::Qc0) [1,4,5,7,10,11] Qkp
def Qkr:SC:=sR [zJ 11 1] [1,4,5,7,10,11] Qkq
def Qks:SC:=sR (tJ 62 1 7::mJ 63 10::aJ 64 Qd5 [.t 62,.t 63]::Qcz) [1,4,5,7,10] Qkr
def Qkt:SC:=sR [zJ 10 1] [1,4,5,7,10] Qks
def Qku:SC:=.seq (sR (mJ 49 9::cJ 50 .lss 49 0::mJ 51 50::gF 52 51 (.ld 1 true (.t 7))::gF 53 51 (.ld 1 true (.t 4))::.e (some 54) (some (51,false)) (.call Qby [.t 52,.t 53])::Qcy) [1,4,5,7,61] Qkb) Qkt
def Qkv:SC:=sR (tJ 46 1 6::mJ 47 9::aJ 48 Qd5 [.t 46,.t 47]::Qcx) [1,4,5,7,8,9] Qku
def Qkw:SC:=sR [zJ 9 1] [1,4,5,6,7,8,9] Qkv
def Qkx:SC:=.seq (.seq (.dreg 5 [0,1,2,0,3,4] ( tJ 41 1 6::tJ 42 1 1::aJ 43 Qbi [.t 42]::Qcw) [1,4,5,6,7,8,45]) Qka) Qkw
def Qky:SC:=.seq (sR (tJ 32 1 7::tJ 33 1 4::aJ 34 Qby [.t 32,.t 33]::Qcu) [1,4,5,6,7,8,40] Qj9) Qkx
def Qkz:SC:=sR (tJ 28 1 6::aJ 29 Qbm [.t 28]::Qct) [1,4,5,6,7,8] Qky
def Qk0:SC:=sR (tJ 25 1 1::aJ 26 Qbi [.t 25]::Qdy) [1,4,5,6] Qkz
def Qk1:SC:=sR (tJ 20 1 1::aJ 21 Qbi [.t 20]::Qdw) [1,4,5] Qk0
def Qk2:SC:=.seq (sR [mJ 17 3,cJ 18 .lss 17 0] [1,18] Qlg) Qk1
def Qk3:SC:=sR (tJ 14 1 1::mJ 15 3::aJ 16 Qdh [.t 14,.t 15]::Qds) [1,3] Qk2
def Qk4:SC:=sR [zJ 3 1048576] [1,3] Qk3
def Qnl:SC:=sR [vJ 1 0,fB 2 false] [1] Qk4
theorem Qm1:mFn prog Qbr 1 96 Qnl Qgm=true:=by kernel_rfl
end Go.AE.Y

namespace Go.AE
theorem Qalj {dn:List (List C)}{i n:Nat}{zr cs:List C}(hd:dn.length=i)(hi:i<n)(hl:cs.length=zr.length) :
  (dn++List.replicate (n-i) zr).set (0+i) (cs++List.drop cs.length ((dn++List.replicate (n-i) zr).getD (0+i) []))=(dn++[cs])++List.replicate (n-(i+1)) zr:=by
 obtain⟨m,hm⟩:∃m,n-i=m+1:=⟨n-i-1,by omega⟩
 have hm2:n-(i+1)=m:=by omega
 have hr:(dn++List.replicate (n-i) zr).getD i []=zr:=by
  rw[List.getD_eq_getElem?_getD,List.getElem?_append_right (by omega),hm]
  simp[hd]
 rw[Nat.zero_add,hr,hl,List.drop_length,List.append_nil,hm2,hm,List.replicate_succ,List.set_append_right _ _ (by omega)]
 simp[hd]
end Go.AE
namespace Go.AE.Y
attribute [local go_sem] cond_true cond_false Bool.not_true Bool.not_false
open Go.Proofs.Tryz
variable {H H0 F:Heap}{K:V→Heap→Prop}{E B Lg:List (Nat×Obj)}{fns:List Fn}
theorem Qap3 {l:List Ex}{fl:Bool}(hf:∀x∈l,∀(H1:Heap) (K':V→Heap→Prop),(∀H2 L cs,Kn H1 H2 [] L→OwL L cs x.cells→K' (.ag cs) H2)→Qj prog Qll [.ag x.cells] H1 K')
  (hK:∀H' L t,Kn H H' [] L→OwS L 4 (Q2 l) t→K (.c t) H'):Qj prog Qi0 [.c (.sl fl 4 (Q2 l))] H K:=by
 refine Qb Qaj Qamx ?_
 refine Qa ?_
 simp only[go_sem]
 refine Qa ?_
 simp only[go_sem,Qi]
 intro hl
 simp only[LIM]at hl
 refine⟨by simp only[LIM];omega,fun y hy H1 h1=>?_⟩
 have kn:=(Kn.start0 H).al hy h1
 simp only[go_sem,Qto]
 refine Qz ?_
 refine Qa ?_
 simp only[go_sem]
 refine Qe (Qd (Qt (fun m e1 H1=>∃(i:Nat) (M:List (Nat×Obj)) (dn:List (List C)),m=l.length-i∧i≤l.length∧dn.length=i∧(∀r∈dn,r.length=4)∧OwL M dn.flatten (Q2 (l.take i)).flatten∧
  Kn H H1 [] ([(y,.vec 4 (dn++List.replicate (l.length-i) ([.int .i64 0,.int .i64 0,.str [],.sl true 4 []]:List C)))]++M)∧
  e1=[(0,.c (.sl fl 4 (Q2 l))),(3,.c (.vsl y 4 0 l.length)),(4,.c (.int .i64 i))]) l.length ?_ ?_))
 ·exact⟨0,[],[],by omega,by omega,rfl,by simp,.nil,kn,rfl⟩
 ·rintro m e1 H1 ⟨i,M,dn,hm,hi,hdn,hr4,how,kn,rfl⟩
  refine Qz ?_
  refine Qa ?_
  simp only[go_sem,Qi]
  intro _
  refine Qe (Qc rfl ?_ ?_)
  ·intro hc
   have hlt:i<l.length:=by simpa using hc
   obtain⟨x,hx⟩:∃x,l[i]=x:=⟨_,rfl⟩
   have hxm:x∈l:=by rw[←hx];exact List.getElem_mem hlt
   have htk:Q2 (l.take (i+1))=Q2 (l.take i)++[x.cells]:=by
    rw[Qe3,List.take_succ_eq_append_getElem hlt,hx]
   refine Qf ?_
   try simp only[go_sem]
   refine Qe (Qd ?_)
   refine Qn ?_
   simp only[go_sem,hlt,Qi,Qag _ _ hlt,hx,Ex.take4,Ex.allOw,Ex.cells_len]
   refine hf x hxm H1 _ fun H5 L2 cs k2 ho=>?_
   have hcl:cs.length=4:=by rw[←ho.len,x.cells_len]
   have kn:=kn.comp0 k2
   have gy:=kn.l 0 rfl
   have hlen:(dn++List.replicate (l.length-i) ([.int .i64 0,.int .i64 0,.str [],.sl true 4 []]:List C)).length=l.length:=by rw[List.length_append,List.length_replicate];omega
   obtain⟨R,hR⟩:∃R,dn++List.replicate (l.length-i) ([.int .i64 0,.int .i64 0,.str [],.sl true 4 []]:List C)=R:=⟨_,rfl⟩
   rw[hR]at gy hlen
   simp only[go_sem,Qtp,hcl,gy,hlen,hlt]
   refine⟨by omega,by omega,fun H6 h6=>?_⟩
   have e:=Qalj (zr:=([.int .i64 0,.int .i64 0,.str [],.sl true 4 []]:List C)) (cs:=cs) hdn hlt hcl
   rw[hR,hcl]at e
   rw[e]at h6
   have kn:Kn H H6 [] ([(y,.vec 4 ((dn++[cs])++List.replicate (l.length-(i+1)) ([.int .i64 0,.int .i64 0,.str [],.sl true 4 []]:List C)))]++(M++L2)):=kn.stL 0 rfl h6
   refine Qn ?_
   simp only[go_sem,AE.X.next]
   refine⟨Qo (by omega) (by omega),l.length-(i+1),by omega,i+1,M++L2,dn++[cs],rfl,by omega,by simp[hdn],?_,?_,kn,rfl⟩
   ·intro r hr
    rcases List.mem_append.1 hr with hr|hr
    ·exact hr4 r hr
    ·rw[List.mem_singleton.1 hr];exact hcl
   ·rw[htk]
    simp only[List.flatten_append,List.flatten_cons,List.flatten_nil,List.append_nil]
    exact how.app ho
  ·intro hc
   have hge:l.length≤i:=by simpa using hc
   rw[List.take_of_length_le hge]at how
   have h0:l.length-i=0:=by omega
   rw[h0,List.replicate_zero,List.append_nil]at kn
   have hn:l.length=dn.length:=by omega
   refine Qu ?_
   simp only[go_sem,AE.X.next]
   refine Qa ?_
   simp only[go_sem]
   refine Qh ?_
   simp only[go_sem,Q0,Q6,Qgm,List.mem_singleton,forall_eq,RS.op]
   exact hK _ _ _ kn (.inr ⟨y,M,dn,by rw[hn],rfl,by rw[Qi,hn],hr4,Qays,how⟩)
theorem Qaug {l:List (List UInt8)}{fl:Bool}
  (hK:∀H' L t,Kn H H' [] L→OwS L 1 (Qy l) t→K (.c t) H'):Qj prog Qjl [.c (.sl fl 1 (Qy l))] H K:=by
 refine Qb Qaj Qadp ?_
 refine Qa ?_
 simp only[go_sem]
 refine Qa ?_
 simp only[go_sem,Qr]
 intro hl
 simp only[LIM]at hl
 refine⟨by simp only[LIM];omega,fun y hy H1 h1=>?_⟩
 have kn:=(Kn.start0 H).al hy h1
 simp only[go_sem,Qn1]
 refine Qz ?_
 refine Qa ?_
 simp only[go_sem]
 refine Qe (Qd (Qt (fun m e1 H1=>∃(i:Nat) (M:List (Nat×Obj)) (dn:List (List C)),m=l.length-i∧i≤l.length∧dn.length=i∧(∀r∈dn,r.length=1)∧OwL M dn.flatten (Qy (l.take i)).flatten∧
  Kn H H1 [] ([(y,.vec 1 (dn++List.replicate (l.length-i) ([.str []]:List C)))]++M)∧
  e1=[(0,.c (.sl fl 1 (Qy l))),(3,.c (.vsl y 1 0 l.length)),(4,.c (.int .i64 i))]) l.length ?_ ?_))
 ·exact⟨0,[],[],by omega,by omega,rfl,by simp,.nil,kn,rfl⟩
 ·rintro m e1 H1 ⟨i,M,dn,hm,hi,hdn,hr4,how,kn,rfl⟩
  refine Qz ?_
  refine Qa ?_
  simp only[go_sem,Qr]
  intro _
  refine Qe (Qc rfl ?_ ?_)
  ·intro hc
   have hlt:i<l.length:=by simpa using hc
   obtain⟨x,hx⟩:∃x,l[i]=x:=⟨_,rfl⟩
   have htk:Qy (l.take (i+1))=Qy (l.take i)++[[.str x]]:=by
    rw[Qpq,List.take_succ_eq_append_getElem hlt,hx]
   refine Qf ?_
   try simp only[go_sem]
   refine Qe (Qd ?_)
   refine Qn ?_
   have hxd:l.getD i []=x:=by simp[List.getD_eq_getElem?_getD,hlt,hx]
   have gy:=kn.l 0 rfl
   have hlen:(dn++List.replicate (l.length-i) ([.str []]:List C)).length=l.length:=by rw[List.length_append,List.length_replicate];omega
   obtain⟨R,hR⟩:∃R,dn++List.replicate (l.length-i) ([.str []]:List C)=R:=⟨_,rfl⟩
   rw[hR]at gy hlen
   simp only[go_sem,hlt,Qr,Qck _ _ hlt,hxd,gy,hlen]
   refine⟨by omega,by omega,fun H6 h6=>?_⟩
   have e:=Qalj (zr:=([.str []]:List C)) (cs:=[.str x]) hdn hlt rfl
   rw[hR]at e
   simp only[List.length_cons,List.length_nil,Nat.zero_add,Nat.reduceAdd,List.cons_append,List.nil_append]at e h6
   rw[e]at h6
   have kn:Kn H H6 [] ([(y,.vec 1 ((dn++[[.str x]])++List.replicate (l.length-(i+1)) ([.str []]:List C)))]++(M)):=kn.stL 0 rfl h6
   refine Qn ?_
   simp only[go_sem,AE.X.next]
   refine⟨Qo (by omega) (by omega),l.length-(i+1),by omega,i+1,M,dn++[[C.str x]],rfl,by omega,by simp[hdn],?_,?_,kn,rfl⟩
   ·intro r hr
    rcases List.mem_append.1 hr with hr|hr
    ·exact hr4 r hr
    ·rw[List.mem_singleton.1 hr];rfl
   ·rw[htk]
    simp only[List.flatten_append,List.flatten_cons,List.flatten_nil,List.append_nil]
    have:=how.app (.atom (c:=.str x) rfl .nil)
    rwa [List.append_nil]at this
  ·intro hc
   have hge:l.length≤i:=by simpa using hc
   rw[List.take_of_length_le hge]at how
   have h0:l.length-i=0:=by omega
   rw[h0,List.replicate_zero,List.append_nil]at kn
   have hn:l.length=dn.length:=by omega
   refine Qu ?_
   simp only[go_sem,AE.X.next]
   refine Qa ?_
   simp only[go_sem]
   refine Qh ?_
   simp only[go_sem,Q0,Q6,Qgm,List.mem_singleton,forall_eq,RS.op]
   exact hK _ _ _ kn (.inr ⟨y,M,dn,by rw[hn],rfl,by rw[Qr,hn],hr4,Qalp,how⟩)
theorem Qa5p:∀(n:Nat) (x:Ex) {H:Heap} {K:V→Heap→Prop},x.size≤n→(∀H' L cs,Kn H H' [] L→OwL L cs x.cells→K (.ag cs) H')→Qj prog Qll [.ag x.cells] H K:=by
 intro n
 induction n with
 |zero=>intro x H K h;have:=x.size_pos;omega
 |succ n ih=>
 intro x H K hn hK
 have hsz:=x.size_kids
 refine Qb Qaj Qaq8 ?_
 refine Qa ?_
 simp only[go_sem,x.cells_eq]
 intro x2 hx2 H1 h1
 have kn:=(Kn.start0 H).al hx2 h1
 refine Qa ?_
 simp only[go_sem]
 intro x3 hx3 H2 h2
 have kn:=kn.al hx3 h2
 have g3:=kn.l 1 rfl
 refine Qa ?_
 simp only[go_sem,g3]
 intro H2 h2
 have kn:=kn.stL 1 rfl h2
 have g3:=kn.l 1 rfl
 refine Qa ?_
 simp only[go_sem,g3]
 intro H2 h2
 have kn:=kn.stL 1 rfl h2
 have g3:=kn.l 1 rfl
 refine Qa ?_
 simp only[go_sem,g3]
 intro H2 h2
 have kn:=kn.stL 1 rfl h2
 have g3:=kn.l 1 rfl
 refine Qa ?_
 simp only[go_sem,g3]
 refine Qap3 (fun y hy H1 K' hK'=>ih y (by have:=Qad hy;omega) hK') fun H3 L t k2 ho=>?_
 have kn:=kn.comp0 k2
 have g3:=kn.l 1 rfl
 have hto:=ho.isOw
 simp only[go_sem,Qw2,g3,hto]
 intro H4 h4
 have kn:=kn.stL 1 rfl h4
 have g2:=kn.l 0 rfl
 have g3:=kn.l 1 rfl
 refine Qa ?_
 simp only[go_sem,g2,g3,hto]
 intro H5 h5
 have kn:=kn.stL 0 rfl h5
 have g2:=kn.l 0 rfl
 refine Qh ?_
 simp only[go_sem,Q0,Q6,Qmc,List.mem_singleton,forall_eq,RS.op,g2,hto]
 exact hK _ L _ (kn.sub (List.sublist_append_right [_,_] _)) (by rw[x.cells_eq];exact .atom rfl (.atom rfl (.atom rfl ho.one)))
theorem Qac9 {l:List St}{fl:Bool}(hf:∀x∈l,∀(H1:Heap) (K':V→Heap→Prop),(∀H2 L cs,Kn H1 H2 [] L→OwL L cs x.cells→K' (.ag cs) H2)→Qj prog Qlm [.ag x.cells] H1 K')
  (hK:∀H' L t,Kn H H' [] L→OwS L 5 (Ql l) t→K (.c t) H'):Qj prog Qfq [.c (.sl fl 5 (Ql l))] H K:=by
 refine Qb Qaj Qamy ?_
 refine Qa ?_
 simp only[go_sem]
 refine Qa ?_
 simp only[go_sem,Qw]
 intro hl
 simp only[LIM]at hl
 refine⟨by simp only[LIM];omega,fun y hy H1 h1=>?_⟩
 have kn:=(Kn.start0 H).al hy h1
 simp only[go_sem,Qtq]
 refine Qz ?_
 refine Qa ?_
 simp only[go_sem]
 refine Qe (Qd (Qt (fun m e1 H1=>∃(i:Nat) (M:List (Nat×Obj)) (dn:List (List C)),m=l.length-i∧i≤l.length∧dn.length=i∧(∀r∈dn,r.length=5)∧OwL M dn.flatten (Ql (l.take i)).flatten∧
  Kn H H1 [] ([(y,.vec 5 (dn++List.replicate (l.length-i) ([.int .i64 0,.str [],.sl true 4 [],.sl true 5 [],.sl true 5 []]:List C)))]++M)∧
  e1=[(0,.c (.sl fl 5 (Ql l))),(3,.c (.vsl y 5 0 l.length)),(4,.c (.int .i64 i))]) l.length ?_ ?_))
 ·exact⟨0,[],[],by omega,by omega,rfl,by simp,.nil,kn,rfl⟩
 ·rintro m e1 H1 ⟨i,M,dn,hm,hi,hdn,hr4,how,kn,rfl⟩
  refine Qz ?_
  refine Qa ?_
  simp only[go_sem,Qw]
  intro _
  refine Qe (Qc rfl ?_ ?_)
  ·intro hc
   have hlt:i<l.length:=by simpa using hc
   obtain⟨x,hx⟩:∃x,l[i]=x:=⟨_,rfl⟩
   have hxm:x∈l:=by rw[←hx];exact List.getElem_mem hlt
   have htk:Ql (l.take (i+1))=Ql (l.take i)++[x.cells]:=by
    rw[Qn7,List.take_succ_eq_append_getElem hlt,hx]
   refine Qf ?_
   try simp only[go_sem]
   refine Qe (Qd ?_)
   refine Qn ?_
   simp only[go_sem,hlt,Qw,Qar _ _ hlt,hx,St.take5,St.allOw,St.cells_len]
   refine hf x hxm H1 _ fun H5 L2 cs k2 ho=>?_
   have hcl:cs.length=5:=by rw[←ho.len,x.cells_len]
   have kn:=kn.comp0 k2
   have gy:=kn.l 0 rfl
   have hlen:(dn++List.replicate (l.length-i) ([.int .i64 0,.str [],.sl true 4 [],.sl true 5 [],.sl true 5 []]:List C)).length=l.length:=by rw[List.length_append,List.length_replicate];omega
   obtain⟨R,hR⟩:∃R,dn++List.replicate (l.length-i) ([.int .i64 0,.str [],.sl true 4 [],.sl true 5 [],.sl true 5 []]:List C)=R:=⟨_,rfl⟩
   rw[hR]at gy hlen
   simp only[go_sem,Qtr,hcl,gy,hlen,hlt]
   refine⟨by omega,by omega,fun H6 h6=>?_⟩
   have e:=Qalj (zr:=([.int .i64 0,.str [],.sl true 4 [],.sl true 5 [],.sl true 5 []]:List C)) (cs:=cs) hdn hlt hcl
   rw[hR,hcl]at e
   rw[e]at h6
   have kn:Kn H H6 [] ([(y,.vec 5 ((dn++[cs])++List.replicate (l.length-(i+1)) ([.int .i64 0,.str [],.sl true 4 [],.sl true 5 [],.sl true 5 []]:List C)))]++(M++L2)):=kn.stL 0 rfl h6
   refine Qn ?_
   simp only[go_sem,AE.X.next]
   refine⟨Qo (by omega) (by omega),l.length-(i+1),by omega,i+1,M++L2,dn++[cs],rfl,by omega,by simp[hdn],?_,?_,kn,rfl⟩
   ·intro r hr
    rcases List.mem_append.1 hr with hr|hr
    ·exact hr4 r hr
    ·rw[List.mem_singleton.1 hr];exact hcl
   ·rw[htk]
    simp only[List.flatten_append,List.flatten_cons,List.flatten_nil,List.append_nil]
    exact how.app ho
  ·intro hc
   have hge:l.length≤i:=by simpa using hc
   rw[List.take_of_length_le hge]at how
   have h0:l.length-i=0:=by omega
   rw[h0,List.replicate_zero,List.append_nil]at kn
   have hn:l.length=dn.length:=by omega
   refine Qu ?_
   simp only[go_sem,AE.X.next]
   refine Qa ?_
   simp only[go_sem]
   refine Qh ?_
   simp only[go_sem,Q0,Q6,Qgm,List.mem_singleton,forall_eq,RS.op]
   exact hK _ _ _ kn (.inr ⟨y,M,dn,by rw[hn],rfl,by rw[Qw,hn],hr4,Qa2f,how⟩)
theorem Qa5q:∀(n:Nat) (x:St) {H:Heap} {K:V→Heap→Prop},x.size≤n→(∀H' L cs,Kn H H' [] L→OwL L cs x.cells→K (.ag cs) H')→Qj prog Qlm [.ag x.cells] H K:=by
 intro n
 induction n with
 |zero=>intro x H K h;have:=x.size_pos2;omega
 |succ n ih=>
 intro x H K hn hK
 have hsz:=x.size_eq
 refine Qb Qaj Qaq9 ?_
 refine Qa ?_
 simp only[go_sem,x.cells_eq]
 intro x2 hx2 H1 h1
 have kn:=(Kn.start0 H).al hx2 h1
 refine Qa ?_
 simp only[go_sem]
 intro x3 hx3 H2 h2
 have kn:=kn.al hx3 h2
 have g3:=kn.l 1 rfl
 refine Qa ?_
 simp only[go_sem,g3]
 intro H2 h2
 have kn:=kn.stL 1 rfl h2
 have g3:=kn.l 1 rfl
 refine Qa ?_
 simp only[go_sem,g3]
 intro H2 h2
 have kn:=kn.stL 1 rfl h2
 have g3:=kn.l 1 rfl
 refine Qa ?_
 simp only[go_sem,g3]
 refine Qap3 (fun y hy H1 K' hK'=>Qa5p y.size y (Nat.le_refl _) hK') fun H3 La ta k2 oa=>?_
 have kn:=kn.comp0 k2
 have g3:=kn.l 1 rfl
 have ha:=oa.isOw
 simp only[go_sem,Qw3,g3,ha]
 intro H4 h4
 have kn:=kn.stL 1 rfl h4
 have g3:=kn.l 1 rfl
 refine Qa ?_
 simp only[go_sem,g3,ha]
 refine Qac9 (fun y hy H1 K' hK'=>ih y (by have:=Qai hy;omega) hK') fun H3 Lb tb k2 ob=>?_
 have kn:=kn.comp0 k2
 have g3:=kn.l 1 rfl
 have hb:=ob.isOw
 simp only[go_sem,Qw4,g3,ha,hb]
 intro H4 h4
 have kn:=kn.stL 1 rfl h4
 have g3:=kn.l 1 rfl
 refine Qa ?_
 simp only[go_sem,g3,ha,hb]
 refine Qac9 (fun y hy H1 K' hK'=>ih y (by have:=Qai hy;omega) hK') fun H3 Lc tc k2 oc=>?_
 have kn:=kn.comp0 k2
 have g3:=kn.l 1 rfl
 have hc:=oc.isOw
 simp only[go_sem,Qw5,g3,ha,hb,hc]
 intro H4 h4
 have kn:=kn.stL 1 rfl h4
 have g3:=kn.l 1 rfl
 have g2:=kn.l 0 rfl
 refine Qa ?_
 simp only[go_sem,g2,g3,ha,hb,hc]
 intro H5 h5
 have kn:=kn.stL 0 rfl h5
 have g2:=kn.l 0 rfl
 refine Qh ?_
 simp only[go_sem,Q0,Q6,Qmd,List.mem_singleton,forall_eq,RS.op,g2,ha,hb,hc]
 refine hK _ (La++(Lb++Lc)) _ (kn.sub ?_) (by rw[x.cells_eq];exact .atom rfl (.atom rfl (oa.cons (ob.cons oc.one))))
 show (La++(Lb++Lc)).Sublist ((_::_::La)++Lb++Lc)
 rw[List.append_assoc]
 exact List.sublist_append_right [_,_] _
theorem Qa9y {f:Fn}(hK:∀H' L cs,Kn H H' [] L→OwL L cs f.cells→K (.ag cs) H'):Qj prog Qut [.ag f.cells] H K:=by
 refine Qb Qaj Qaz9 ?_
 refine Qa ?_
 simp only[go_sem,Fn.cells]
 intro x2 hx2 H1 h1
 have kn:=(Kn.start0 H).al hx2 h1
 refine Qa ?_
 simp only[go_sem]
 intro x3 hx3 H2 h2
 have kn:=kn.al hx3 h2
 have g3:=kn.l 1 rfl
 refine Qa ?_
 simp only[go_sem,g3]
 intro H2 h2
 have kn:=kn.stL 1 rfl h2
 have g3:=kn.l 1 rfl
 refine Qa ?_
 simp only[go_sem,g3]
 refine Qaug fun H3 La ta k2 oa=>?_
 have kn:=kn.comp0 k2
 have g3:=kn.l 1 rfl
 have ha:=oa.isOw
 simp only[go_sem,Q5j,g3,ha]
 intro H4 h4
 have kn:=kn.stL 1 rfl h4
 have g3:=kn.l 1 rfl
 refine Qa ?_
 simp only[go_sem,g3,ha]
 refine Qac9 (fun y hy H1 K' hK'=>Qa5q y.size y (Nat.le_refl _) hK') fun H3 Lb tb k2 ob=>?_
 have kn:=kn.comp0 k2
 have g3:=kn.l 1 rfl
 have hb:=ob.isOw
 simp only[go_sem,Q5k,g3,ha,hb]
 intro H4 h4
 have kn:=kn.stL 1 rfl h4
 have g3:=kn.l 1 rfl
 have g2:=kn.l 0 rfl
 refine Qa ?_
 simp only[go_sem,g2,g3,ha,hb]
 intro H5 h5
 have kn:=kn.stL 0 rfl h5
 have g2:=kn.l 0 rfl
 refine Qh ?_
 simp only[go_sem,Q0,Q6,Qr9,List.mem_singleton,forall_eq,RS.op,g2,ha,hb]
 exact hK _ (La++Lb) _ (kn.sub (List.sublist_append_right [_,_] _)) (.atom rfl (oa.cons ob.one))
theorem Qa77 {l:List Fn}{fl:Bool}(hf:∀x∈l,∀(H1:Heap) (K':V→Heap→Prop),(∀H2 L cs,Kn H1 H2 [] L→OwL L cs x.cells→K' (.ag cs) H2)→Qj prog Qut [.ag x.cells] H1 K')
  (hK:∀H' L t,Kn H H' [] L→OwS L 3 (Qm l) t→K (.c t) H'):Qj prog Qxc [.c (.sl fl 3 (Qm l))] H K:=by
 refine Qb Qaj Qawd ?_
 refine Qa ?_
 simp only[go_sem]
 refine Qa ?_
 simp only[go_sem,Qp]
 intro hl
 simp only[LIM]at hl
 refine⟨by simp only[LIM];omega,fun y hy H1 h1=>?_⟩
 have kn:=(Kn.start0 H).al hy h1
 simp only[go_sem,Q0w]
 refine Qz ?_
 refine Qa ?_
 simp only[go_sem]
 refine Qe (Qd (Qt (fun m e1 H1=>∃(i:Nat) (M:List (Nat×Obj)) (dn:List (List C)),m=l.length-i∧i≤l.length∧dn.length=i∧(∀r∈dn,r.length=3)∧OwL M dn.flatten (Qm (l.take i)).flatten∧
  Kn H H1 [] ([(y,.vec 3 (dn++List.replicate (l.length-i) ([.str [],.sl true 1 [],.sl true 5 []]:List C)))]++M)∧
  e1=[(0,.c (.sl fl 3 (Qm l))),(3,.c (.vsl y 3 0 l.length)),(4,.c (.int .i64 i))]) l.length ?_ ?_))
 ·exact⟨0,[],[],by omega,by omega,rfl,by simp,.nil,kn,rfl⟩
 ·rintro m e1 H1 ⟨i,M,dn,hm,hi,hdn,hr4,how,kn,rfl⟩
  refine Qz ?_
  refine Qa ?_
  simp only[go_sem,Qp]
  intro _
  refine Qe (Qc rfl ?_ ?_)
  ·intro hc
   have hlt:i<l.length:=by simpa using hc
   obtain⟨x,hx⟩:∃x,l[i]=x:=⟨_,rfl⟩
   have hxm:x∈l:=by rw[←hx];exact List.getElem_mem hlt
   have htk:Qm (l.take (i+1))=Qm (l.take i)++[x.cells]:=by
    rw[Qmx,List.take_succ_eq_append_getElem hlt,hx]
   refine Qf ?_
   try simp only[go_sem]
   refine Qe (Qd ?_)
   refine Qn ?_
   simp only[go_sem,hlt,Qp,Qam _ _ hlt,hx,Fn.take3,Fn.allOw,Fn.cells_len]
   refine hf x hxm H1 _ fun H5 L2 cs k2 ho=>?_
   have hcl:cs.length=3:=by rw[←ho.len,x.cells_len]
   have kn:=kn.comp0 k2
   have gy:=kn.l 0 rfl
   have hlen:(dn++List.replicate (l.length-i) ([.str [],.sl true 1 [],.sl true 5 []]:List C)).length=l.length:=by rw[List.length_append,List.length_replicate];omega
   obtain⟨R,hR⟩:∃R,dn++List.replicate (l.length-i) ([.str [],.sl true 1 [],.sl true 5 []]:List C)=R:=⟨_,rfl⟩
   rw[hR]at gy hlen
   simp only[go_sem,Q0x,hcl,gy,hlen,hlt]
   refine⟨by omega,by omega,fun H6 h6=>?_⟩
   have e:=Qalj (zr:=([.str [],.sl true 1 [],.sl true 5 []]:List C)) (cs:=cs) hdn hlt hcl
   rw[hR,hcl]at e
   rw[e]at h6
   have kn:Kn H H6 [] ([(y,.vec 3 ((dn++[cs])++List.replicate (l.length-(i+1)) ([.str [],.sl true 1 [],.sl true 5 []]:List C)))]++(M++L2)):=kn.stL 0 rfl h6
   refine Qn ?_
   simp only[go_sem,AE.X.next]
   refine⟨Qo (by omega) (by omega),l.length-(i+1),by omega,i+1,M++L2,dn++[cs],rfl,by omega,by simp[hdn],?_,?_,kn,rfl⟩
   ·intro r hr
    rcases List.mem_append.1 hr with hr|hr
    ·exact hr4 r hr
    ·rw[List.mem_singleton.1 hr];exact hcl
   ·rw[htk]
    simp only[List.flatten_append,List.flatten_cons,List.flatten_nil,List.append_nil]
    exact how.app ho
  ·intro hc
   have hge:l.length≤i:=by simpa using hc
   rw[List.take_of_length_le hge]at how
   have h0:l.length-i=0:=by omega
   rw[h0,List.replicate_zero,List.append_nil]at kn
   have hn:l.length=dn.length:=by omega
   refine Qu ?_
   simp only[go_sem,AE.X.next]
   refine Qa ?_
   simp only[go_sem]
   refine Qh ?_
   simp only[go_sem,Q0,Q6,Qgm,List.mem_singleton,forall_eq,RS.op]
   exact hK _ _ _ kn (.inr ⟨y,M,dn,by rw[hn],rfl,by rw[Qp,hn],hr4,Qayz,how⟩)
theorem Qac8 {fl:Bool}(hK:∀H' L cs,Kn H H' [] L→OwL L cs [.sl false 3 (Qm fns)]→K (.ag cs) H'):Qj prog Qbi [.ag [.sl fl 3 (Qm fns)]] H K:=by
 refine Qb Qaj Qado ?_
 refine Qa ?_
 simp only[go_sem]
 intro x2 hx2 H1 h1
 have kn:=(Kn.start0 H).al hx2 h1
 refine Qa ?_
 simp only[go_sem]
 intro x3 hx3 H2 h2
 have kn:=kn.al hx3 h2
 have g3:=kn.l 1 rfl
 refine Qa ?_
 simp only[go_sem,g3]
 refine Qa77 (fun f hf H1 K' hK'=>Qa9y hK') fun H3 La ta k2 oa=>?_
 have kn:=kn.comp0 k2
 have g3:=kn.l 1 rfl
 have ha:=oa.isOw
 simp only[go_sem,Qn0,g3,ha]
 intro H4 h4
 have kn:=kn.stL 1 rfl h4
 have g3:=kn.l 1 rfl
 have g2:=kn.l 0 rfl
 refine Qa ?_
 simp only[go_sem,g2,g3,ha]
 intro H5 h5
 have kn:=kn.stL 0 rfl h5
 have g2:=kn.l 0 rfl
 refine Qh ?_
 simp only[go_sem,Q0,Q6,Qau7,List.mem_singleton,forall_eq,RS.op,g2,ha]
 exact hK _ La _ (kn.sub (List.sublist_append_right [_,_] _)) oa.one
end Go.AE.Y

namespace Go.AE.Y
attribute [local go_sem] cond_true cond_false Bool.not_true Bool.not_false
open Go.Proofs.Tryz
variable {H H0 F:Heap}{K:V→Heap→Prop}{E B Lg:List (Nat×Obj)}{fns:List Fn}
theorem Qal8 {l:List Ex}{fl fl2:Bool}(hf:∀x∈l,∀(H1:Heap) (K':V→Heap→Prop),K' (.c (.bool true)) H1→Qj prog Qlj [.ag x.cells,.ag x.cells] H1 K')
  (hK:K (.c (.bool true)) H):Qj prog Qiz [.c (.sl fl 4 (Q2 l)),.c (.sl fl2 4 (Q2 l))] H K:=by
 refine Qb Qaj Qamu ?_
 refine Qa ?_
 simp only[go_sem]
 refine Qz ?_
 refine Qa ?_
 simp only[go_sem,Qi]
 intro hl
 simp only[LIM]at hl
 refine Qe (Qc rfl (fun h=>by simp at h) (fun _=>?_))
 refine Qf ?_
 try simp only[go_sem]
 refine Qz ?_
 refine Qa ?_
 simp only[go_sem]
 refine Qe (Qd (Qt (fun m e1 H1=>∃(i:Nat),m=l.length-i∧i≤l.length∧H1=H∧
  e1=[(0,.c (.sl fl 4 (Q2 l))),(1,.c (.sl fl2 4 (Q2 l))),(5,.c (.int .i64 i))]) l.length ?_ ?_))
 ·exact⟨0,by omega,by omega,rfl,rfl⟩
 ·rintro m e1 H1 ⟨i,hm,hi,rfl,rfl⟩
  refine Qz ?_
  refine Qa ?_
  simp only[go_sem,Qi]
  intro _
  refine Qe (Qc rfl ?_ ?_)
  ·intro hc
   have hlt:i<l.length:=by simpa using hc
   obtain⟨x,hx⟩:∃x,l[i]=x:=⟨_,rfl⟩
   have hxm:x∈l:=by rw[←hx];exact List.getElem_mem hlt
   refine Qf ?_
   try simp only[go_sem]
   refine Qe (Qd ?_)
   refine Qeo ?_
   simp only[go_sem,hlt,Qi,Qag _ _ hlt,hx,Ex.take4,Ex.allOw,Ex.cells_len]
   refine hf x hxm H1 _ ?_
   simp only[go_sem,Qte]
   refine Qc rfl (fun h=>by simp[lk]at h) (fun _=>?_)
   refine Qf ?_
   try simp only[go_sem,AE.X.next]
   refine Qn ?_
   simp only[go_sem,AE.X.next]
   exact⟨Qo (by omega) (by omega),l.length-(i+1),by omega,i+1,rfl,by omega,rfl⟩
  ·intro hc
   refine Qu ?_
   simp only[go_sem,AE.X.next]
   refine Qa ?_
   simp only[go_sem]
   refine Qh ?_
   simp only[go_sem,Q0,Q6,Qam8,List.mem_singleton,forall_eq,RS.op]
   exact hK
theorem Qa3g:∀(n:Nat) (x:Ex) {H:Heap} {K:V→Heap→Prop},x.size≤n→K (.c (.bool true)) H→Qj prog Qlj [.ag x.cells,.ag x.cells] H K:=by
 intro n
 induction n with
 |zero=>intro x H K h;have:=x.size_pos;omega
 |succ n ih=>
 intro x H K hn hK
 have hsz:=x.size_kids
 refine Qb Qaj Qaq4 ?_
 refine Qa ?_
 simp only[go_sem,x.cells_eq]
 refine Qz ?_
 refine Qa ?_
 simp only[go_sem]
 refine Qe (Qc rfl (fun h=>by simp[lk]at h) (fun _=>?_))
 refine Qf ?_
 try simp only[go_sem]
 refine Qz ?_
 refine Qa ?_
 simp only[go_sem]
 refine Qe (Qc rfl (fun h=>by simp[lk]at h) (fun _=>?_))
 refine Qf ?_
 try simp only[go_sem]
 refine Qz ?_
 refine Qa ?_
 simp only[go_sem]
 refine Qe (Qc rfl (fun h=>by simp[lk]at h) (fun _=>?_))
 refine Qf ?_
 try simp only[go_sem]
 refine Qz ?_
 refine Qa ?_
 simp only[go_sem]
 refine Qal8 (fun y hy H1 K' hK'=>ih y (by have:=Qad hy;omega) hK') ?_
 simp only[go_sem,Qwu]
 refine Qe (Qc rfl (fun h=>by simp[lk]at h) (fun _=>?_))
 refine Qf ?_
 try simp only[go_sem]
 refine Qa ?_
 simp only[go_sem]
 refine Qh ?_
 simp only[go_sem,Q0,Q6,Qam8,List.mem_singleton,forall_eq,RS.op]
 exact hK
theorem Qaqh {l:List (List UInt8)}{fl fl2:Bool}(hK:K (.c (.bool true)) H):Qj prog Qjk [.c (.sl fl 1 (Qy l)),.c (.sl fl2 1 (Qy l))] H K:=by
 refine Qb Qaj Qadk ?_
 refine Qa ?_
 simp only[go_sem]
 refine Qz ?_
 refine Qa ?_
 simp only[go_sem,Qr]
 intro hl
 simp only[LIM]at hl
 refine Qe (Qc rfl (fun h=>by simp at h) (fun _=>?_))
 refine Qf ?_
 try simp only[go_sem]
 refine Qz ?_
 refine Qa ?_
 simp only[go_sem]
 refine Qe (Qd (Qt (fun m e1 H1=>∃(i:Nat),m=l.length-i∧i≤l.length∧H1=H∧
  e1=[(0,.c (.sl fl 1 (Qy l))),(1,.c (.sl fl2 1 (Qy l))),(5,.c (.int .i64 i))]) l.length ?_ ?_))
 ·exact⟨0,by omega,by omega,rfl,rfl⟩
 ·rintro m e1 H1 ⟨i,hm,hi,rfl,rfl⟩
  refine Qz ?_
  refine Qa ?_
  simp only[go_sem,Qr]
  intro _
  refine Qe (Qc rfl ?_ ?_)
  ·intro hc
   have hlt:i<l.length:=by simpa using hc
   obtain⟨x,hx⟩:∃x,l[i]=x:=⟨_,rfl⟩
   have hxm:x∈l:=by rw[←hx];exact List.getElem_mem hlt
   refine Qf ?_
   try simp only[go_sem]
   refine Qe (Qd ?_)
   have hxd:l.getD i []=x:=by simp[List.getD_eq_getElem?_getD,hlt,hx]
   refine Qeo ?_
   simp only[go_sem,hlt,Qr,Qck _ _ hlt,hxd]
   refine Qc rfl (fun h=>by simp[lk]at h) (fun _=>?_)
   refine Qf ?_
   try simp only[go_sem,AE.X.next]
   refine Qn ?_
   simp only[go_sem,AE.X.next]
   exact⟨Qo (by omega) (by omega),l.length-(i+1),by omega,i+1,rfl,by omega,rfl⟩
  ·intro hc
   refine Qu ?_
   simp only[go_sem,AE.X.next]
   refine Qa ?_
   simp only[go_sem]
   refine Qh ?_
   simp only[go_sem,Q0,Q6,Qam8,List.mem_singleton,forall_eq,RS.op]
   exact hK
theorem Q9f {l:List St}{fl fl2:Bool}(hf:∀x∈l,∀(H1:Heap) (K':V→Heap→Prop),K' (.c (.bool true)) H1→Qj prog Qlk [.ag x.cells,.ag x.cells] H1 K')
  (hK:K (.c (.bool true)) H):Qj prog Qfn [.c (.sl fl 5 (Ql l)),.c (.sl fl2 5 (Ql l))] H K:=by
 refine Qb Qaj Qamv ?_
 refine Qa ?_
 simp only[go_sem]
 refine Qz ?_
 refine Qa ?_
 simp only[go_sem,Qw]
 intro hl
 simp only[LIM]at hl
 refine Qe (Qc rfl (fun h=>by simp at h) (fun _=>?_))
 refine Qf ?_
 try simp only[go_sem]
 refine Qz ?_
 refine Qa ?_
 simp only[go_sem]
 refine Qe (Qd (Qt (fun m e1 H1=>∃(i:Nat),m=l.length-i∧i≤l.length∧H1=H∧
  e1=[(0,.c (.sl fl 5 (Ql l))),(1,.c (.sl fl2 5 (Ql l))),(5,.c (.int .i64 i))]) l.length ?_ ?_))
 ·exact⟨0,by omega,by omega,rfl,rfl⟩
 ·rintro m e1 H1 ⟨i,hm,hi,rfl,rfl⟩
  refine Qz ?_
  refine Qa ?_
  simp only[go_sem,Qw]
  intro _
  refine Qe (Qc rfl ?_ ?_)
  ·intro hc
   have hlt:i<l.length:=by simpa using hc
   obtain⟨x,hx⟩:∃x,l[i]=x:=⟨_,rfl⟩
   have hxm:x∈l:=by rw[←hx];exact List.getElem_mem hlt
   refine Qf ?_
   try simp only[go_sem]
   refine Qe (Qd ?_)
   refine Qeo ?_
   simp only[go_sem,hlt,Qw,Qar _ _ hlt,hx,St.take5,St.allOw,St.cells_len]
   refine hf x hxm H1 _ ?_
   simp only[go_sem,Qtf]
   refine Qc rfl (fun h=>by simp[lk]at h) (fun _=>?_)
   refine Qf ?_
   try simp only[go_sem,AE.X.next]
   refine Qn ?_
   simp only[go_sem,AE.X.next]
   exact⟨Qo (by omega) (by omega),l.length-(i+1),by omega,i+1,rfl,by omega,rfl⟩
  ·intro hc
   refine Qu ?_
   simp only[go_sem,AE.X.next]
   refine Qa ?_
   simp only[go_sem]
   refine Qh ?_
   simp only[go_sem,Q0,Q6,Qam8,List.mem_singleton,forall_eq,RS.op]
   exact hK
theorem Qa3h:∀(n:Nat) (x:St) {H:Heap} {K:V→Heap→Prop},x.size≤n→K (.c (.bool true)) H→Qj prog Qlk [.ag x.cells,.ag x.cells] H K:=by
 intro n
 induction n with
 |zero=>intro x H K h;have:=x.size_pos2;omega
 |succ n ih=>
 intro x H K hn hK
 have hsz:=x.size_eq
 refine Qb Qaj Qaq5 ?_
 refine Qa ?_
 simp only[go_sem,x.cells_eq]
 refine Qz ?_
 refine Qa ?_
 simp only[go_sem]
 refine Qe (Qc rfl (fun h=>by simp[lk]at h) (fun _=>?_))
 refine Qf ?_
 try simp only[go_sem]
 refine Qz ?_
 refine Qa ?_
 simp only[go_sem]
 refine Qe (Qc rfl (fun h=>by simp[lk]at h) (fun _=>?_))
 refine Qf ?_
 try simp only[go_sem]
 refine Qz ?_
 refine Qa ?_
 simp only[go_sem]
 refine Qal8 (fun y hy H1 K' hK'=>Qa3g y.size y (Nat.le_refl _) hK') ?_
 simp only[go_sem,Qwv]
 refine Qe (Qc rfl (fun h=>by simp[lk]at h) (fun _=>?_))
 refine Qf ?_
 try simp only[go_sem]
 refine Qz ?_
 refine Qa ?_
 simp only[go_sem]
 refine Q9f (fun y hy H1 K' hK'=>ih y (by have:=Qai hy;omega) hK') ?_
 simp only[go_sem,Qww]
 refine Qe (Qc rfl (fun h=>by simp[lk]at h) (fun _=>?_))
 refine Qf ?_
 try simp only[go_sem]
 refine Qz ?_
 refine Qa ?_
 simp only[go_sem]
 refine Q9f (fun y hy H1 K' hK'=>ih y (by have:=Qai hy;omega) hK') ?_
 simp only[go_sem,Qwx]
 refine Qe (Qc rfl (fun h=>by simp[lk]at h) (fun _=>?_))
 refine Qf ?_
 try simp only[go_sem]
 refine Qa ?_
 simp only[go_sem]
 refine Qh ?_
 simp only[go_sem,Q0,Q6,Qam8,List.mem_singleton,forall_eq,RS.op]
 exact hK
theorem Qa8y {f:Fn}(hK:K (.c (.bool true)) H):Qj prog Qus [.ag f.cells,.ag f.cells] H K:=by
 refine Qb Qaj Qaz7 ?_
 refine Qa ?_
 simp only[go_sem,Fn.cells]
 refine Qz ?_
 refine Qa ?_
 simp only[go_sem]
 refine Qe (Qc rfl (fun h=>by simp[lk]at h) (fun _=>?_))
 refine Qf ?_
 try simp only[go_sem]
 refine Qz ?_
 refine Qa ?_
 simp only[go_sem]
 refine Qaqh ?_
 simp only[go_sem,Q5f]
 refine Qe (Qc rfl (fun h=>by simp[lk]at h) (fun _=>?_))
 refine Qf ?_
 try simp only[go_sem]
 refine Qz ?_
 refine Qa ?_
 simp only[go_sem]
 refine Q9f (fun y hy H1 K' hK'=>Qa3h y.size y (Nat.le_refl _) hK') ?_
 simp only[go_sem,Q5g]
 refine Qe (Qc rfl (fun h=>by simp[lk]at h) (fun _=>?_))
 refine Qf ?_
 try simp only[go_sem]
 refine Qa ?_
 simp only[go_sem]
 refine Qh ?_
 simp only[go_sem,Q0,Q6,Qam8,List.mem_singleton,forall_eq,RS.op]
 exact hK
theorem Qa6y {l:List Fn}{fl fl2:Bool}(hf:∀x∈l,∀(H1:Heap) (K':V→Heap→Prop),K' (.c (.bool true)) H1→Qj prog Qus [.ag x.cells,.ag x.cells] H1 K')
  (hK:K (.c (.bool true)) H):Qj prog Qxb [.c (.sl fl 3 (Qm l)),.c (.sl fl2 3 (Qm l))] H K:=by
 refine Qb Qaj Qawc ?_
 refine Qa ?_
 simp only[go_sem]
 refine Qz ?_
 refine Qa ?_
 simp only[go_sem,Qp]
 intro hl
 simp only[LIM]at hl
 refine Qe (Qc rfl (fun h=>by simp at h) (fun _=>?_))
 refine Qf ?_
 try simp only[go_sem]
 refine Qz ?_
 refine Qa ?_
 simp only[go_sem]
 refine Qe (Qd (Qt (fun m e1 H1=>∃(i:Nat),m=l.length-i∧i≤l.length∧H1=H∧
  e1=[(0,.c (.sl fl 3 (Qm l))),(1,.c (.sl fl2 3 (Qm l))),(5,.c (.int .i64 i))]) l.length ?_ ?_))
 ·exact⟨0,by omega,by omega,rfl,rfl⟩
 ·rintro m e1 H1 ⟨i,hm,hi,rfl,rfl⟩
  refine Qz ?_
  refine Qa ?_
  simp only[go_sem,Qp]
  intro _
  refine Qe (Qc rfl ?_ ?_)
  ·intro hc
   have hlt:i<l.length:=by simpa using hc
   obtain⟨x,hx⟩:∃x,l[i]=x:=⟨_,rfl⟩
   have hxm:x∈l:=by rw[←hx];exact List.getElem_mem hlt
   refine Qf ?_
   try simp only[go_sem]
   refine Qe (Qd ?_)
   refine Qeo ?_
   simp only[go_sem,hlt,Qp,Qam _ _ hlt,hx,Fn.take3,Fn.allOw,Fn.cells_len]
   refine hf x hxm H1 _ ?_
   simp only[go_sem,Qz9]
   refine Qc rfl (fun h=>by simp[lk]at h) (fun _=>?_)
   refine Qf ?_
   try simp only[go_sem,AE.X.next]
   refine Qn ?_
   simp only[go_sem,AE.X.next]
   exact⟨Qo (by omega) (by omega),l.length-(i+1),by omega,i+1,rfl,by omega,rfl⟩
  ·intro hc
   refine Qu ?_
   simp only[go_sem,AE.X.next]
   refine Qa ?_
   simp only[go_sem]
   refine Qh ?_
   simp only[go_sem,Q0,Q6,Qam8,List.mem_singleton,forall_eq,RS.op]
   exact hK
theorem Qob {fl fl2:Bool}(hK:K (.c (.bool true)) H):Qj prog Qby [.ag [.sl fl 3 (Qm fns)],.ag [.sl fl2 3 (Qm fns)]] H K:=by
 refine Qb Qaj Qadj ?_
 refine Qa ?_
 simp only[go_sem]
 refine Qz ?_
 refine Qa ?_
 simp only[go_sem]
 refine Qa6y (fun f hf H1 K' hK'=>Qa8y hK') ?_
 simp only[go_sem,Qnm]
 refine Qe (Qc rfl (fun h=>by simp[lk]at h) (fun _=>?_))
 refine Qf ?_
 try simp only[go_sem]
 refine Qa ?_
 simp only[go_sem]
 refine Qh ?_
 simp only[go_sem,Q0,Q6,Qam8,List.mem_singleton,forall_eq,RS.op]
 exact hK
end Go.AE.Y

namespace Go.AE.Y
attribute [local go_sem] cond_true cond_false Bool.not_true Bool.not_false
open Go.Proofs.Tryz
variable {H H0 F:Heap}{K:V→Heap→Prop}
theorem inR8 {x:Int}(h1:0≤x)(h2:x<256):inR .u8 x:=by
 unfold inR
 have a1:IntKind.min .u8=0:=by decide
 have a2:IntKind.max .u8=255:=by decide
 rw[a1,a2];omega
theorem Qa27 (f:Nat)(s:List UInt8):dgT f 0 s=s:=by cases f <;> simp[dgT]
theorem Qa26 {f k:Nat}{s:List UInt8}(h0:0<k)(h:k<10 ^ f):∃f',f=f'+1∧k / 10<10 ^ f'∧dgT f k s=dgT f' (k / 10) (UInt8.ofNat (48+k % 10)::s):=by
 match f,h with
 |0,h=>simp at h;omega
 |f+1,h=>
  refine⟨f,rfl,?_,?_⟩
  ·rw[Nat.pow_succ]at h;omega
  ·rw[dgT,if_neg (by omega)]
theorem Qfc {k:Nat}(hb:k<2 ^ 62)(hK:K (.c (.str (mkT k))) H):Qj prog Qau [.c (.int .i64 k)] H K:=by
 refine Qb Qaj Qai8 ?_
 refine Qa ?_
 simp only[go_sem]
 refine Qz ?_
 refine Qa ?_
 simp only[go_sem]
 refine Qe (Qc rfl (fun hc=>?_) (fun hc=>?_))
 ·have h0:k=0:=by have:=of_decide_eq_true hc;omega
  subst h0
  refine Qa ?_
  simp only[go_sem]
  refine Qh ?_
  simp only[go_sem,Q0,Q6,Qgm,List.mem_singleton,forall_eq,RS.op]
  exact hK
 ·have h0:0<k:=by have:=of_decide_eq_false hc;omega
  rw[mkT,if_neg (by omega)]at hK
  refine Qf ?_
  try simp only[go_sem]
  refine Qa ?_
  simp only[go_sem]
  refine Qe (Qd (Qt (fun m e1 H1=>∃(f ki:Nat) (s:List UInt8),m=ki∧H1=H∧ki<2 ^ 62∧ki<10 ^ f∧s.length+f=64∧dgT f ki s=dgT 64 k []∧
   e1=[(0,.c (.int .i64 ki)),(3,.c (.str s))]) k ?_ ?_))
  ·exact⟨64,k,[],rfl,rfl,hb,Nat.lt_of_lt_of_le hb (by decide),rfl,rfl,rfl⟩
  ·rintro m e1 H1 ⟨f,ki,s,rfl,rfl,hb1,hf,hl,hd,rfl⟩
   refine Qz ?_
   refine Qa ?_
   simp only[go_sem]
   refine Qe (Qc rfl (fun hc=>?_) (fun hc=>?_))
   ·have h1:0<m:=by have:=of_decide_eq_true hc;omega
    obtain⟨f',rfl,hf2,hs⟩:=Qa26 (s:=s) h1 hf
    refine Qf ?_
    try simp only[go_sem]
    refine Qd ?_
    refine Qa ?_
    simp only[go_sem]
    have e1:(m:Int).tmod 10=((m % 10:Nat):Int):=by rw[Int.tmod_eq_emod_of_nonneg (by omega)];omega
    have e2:((48:Int)+((m % 10:Nat):Int)).toNat=48+m % 10:=by omega
    rw[e1,e2]
    have hm:m % 10<10:=Nat.mod_lt _ (by omega)
    refine⟨by omega,Qo (by omega) (by omega),inR8 (by omega) (by omega),by simp only[LIM];omega,?_⟩
    refine Qn ?_
    simp only[go_sem,AE.X.next]
    have e3:(m:Int).tdiv 10=((m / 10:Nat):Int):=by rw[Int.tdiv_eq_ediv_of_nonneg (by omega)];omega
    rw[e3]
    exact⟨⟨by omega,Qo (by omega) (by omega)⟩,m / 10,by omega,f',m / 10,UInt8.ofNat (48+m % 10)::s,rfl,by omega,hf2,by simp only[List.length_cons];omega,by rw[←hs,hd],rfl⟩
   ·have h1:m=0:=by have:=of_decide_eq_false hc;omega
    subst h1
    rw[Qa27]at hd
    refine Qu ?_
    simp only[go_sem,AE.X.next]
    refine Qa ?_
    simp only[go_sem]
    refine⟨by simp only[LIM];omega,?_⟩
    refine Qh ?_
    simp only[go_sem,Q0,Q6,Qgm,List.mem_singleton,forall_eq,RS.op]
    rw[hd];exact hK
end Go.AE.Y

namespace Go.AE
variable {H0 H H':Heap}{E L M M1 M1' A B:List (Nat×Obj)}
theorem Kn.callM (kn:Kn H0 H (A++(M1++B)) L)(hu:Upd H H' M1')(hf:M1'.map Prod.fst=M1.map Prod.fst)(hne:∀p∈M1',p.2≠.none):Kn H0 H' (A++(M1'++B)) L:=by
 have hd:=kn.dE
 simp only[List.map_append]at hd
 obtain⟨d1,d2,d3⟩:=List.nodup_append.1 hd
 obtain⟨d4,d5,d6⟩:=List.nodup_append.1 d2
 refine kn.callg hu (by simp only[List.map_append,hf]) rfl (fun p hp=>?_) (fun m hm=>.inl (by simp only[List.map_append,List.mem_append];rw[←hf];exact .inr (.inl (List.mem_map.2 ⟨m,hm,rfl⟩))))
 have keep:p∈(A++(M1++B))++L→p.1∉M1.map Prod.fst→p.2≠.none∧(p∈M1'∨p∈(A++(M1++B))++L∧p.1∉M1'.map Prod.fst):=fun h1 h2=>⟨(kn.get p h1).2,.inr ⟨h1,by rw[hf];exact h2⟩⟩
 rcases List.mem_append.1 hp with hp|hp
 ·rcases List.mem_append.1 hp with hp|hp
  ·exact keep (by simp[hp]) fun hm=>d3 _ (Qdk hp) _ (List.mem_append_left _ hm) rfl
  ·rcases List.mem_append.1 hp with hp|hp
   ·exact⟨hne p hp,.inl hp⟩
   ·exact keep (by simp[hp]) fun hm=>d6 _ hm _ (Qdk hp) rfl
 ·refine keep (by simp[hp]) fun hm=>?_
  obtain⟨q,hq,hq2⟩:=List.mem_map.1 hm
  have h1:=kn.loc p hp
  exact kn.ext q (by simp[hq]) (by rw[hq2];exact h1)
theorem OwL.uncons {r a:List C}{td rest:List (List C)}(h:OwL L (r::td).flatten (a::rest).flatten)(hl:r.length=a.length):∃L1 L2,L=L1++L2∧OwL L1 r a∧OwL L2 td.flatten rest.flatten:=by
 rw[List.flatten_cons,List.flatten_cons]at h
 obtain⟨L1,L2,a',b',rfl,h1,h2,h3⟩:=h.split
 obtain⟨rfl,rfl⟩:=List.append_inj h1 (by rw[h2.len,hl])
 exact⟨L1,L2,rfl,h2,h3⟩
theorem OwS.vecs {sz:Nat}{rows':List (List C)}{t:C}(h:OwS L sz rows' t):∀p∈L,p.2≠.none:=fun p hp=>by
 obtain⟨z,r,h1,_⟩:=h.one.vecs p hp
 rw[h1];nofun
theorem ndM1 {y:Nat}{o:Obj}{Md M1 M2:List (Nat×Obj)}(h:(((y,o)::(Md++(M1++M2))).map Prod.fst).Nodup):(M1.map Prod.fst).Nodup:=by
 simp only[List.map_cons,List.map_append,List.nodup_cons]at h
 exact (List.nodup_append.1 (List.nodup_append.1 h.2).2.1).1
theorem Qam2 {A M B:List (Nat×Obj)}(h:((A++(M++B)).map Prod.fst).Nodup):(M.map Prod.fst).Nodup:=by
 simp only[List.map_append]at h
 exact (List.nodup_append.1 (List.nodup_append.1 h).2.1).1
theorem Qxd {dn td:List (List C)}{r:List C}{i:Nat}(h:dn.length=i):(dn++r::td).getD (0+i) []=r:=by
 rw[Nat.zero_add,List.getD_eq_getElem?_getD,List.getElem?_append_right (by omega)];simp[h]
theorem Quv {dn td:List (List C)}{r:List C}{i:Nat}(h:dn.length=i):(dn++r::td).getD i []=r:=by
 rw[List.getD_eq_getElem?_getD,List.getElem?_append_right (by omega)];simp[h]
theorem Qy2 {dn td:List (List C)}{r r':List C}{i:Nat}(h:dn.length=i):(dn++r::td).set (0+i) r'=dn++r'::td:=by
 rw[Nat.zero_add,List.set_append_right _ _ (by omega)];simp[h]
end Go.AE
namespace Go.AE.Y
def Qac:List (List UInt8)→Nat
 |[]=>0
 |_::r=>1+Qac r
theorem Qe0:∀l,Qac l=l.length
 |[]=>rfl
 |_::r=>by rw[Qac,Qe0 r,List.length_cons];omega
theorem Qpp (a b:List (List UInt8)):Qac (a++b)=Qac a+Qac b:=by simp only[Qe0,List.length_append]
theorem Q0z (a b:List (List UInt8))(k:Nat):Qas (a++b) k=Qas a k++Qas b (k+Qac a):=by rw[Qap2,Qe0]
attribute [local go_sem] cond_true cond_false Bool.not_true Bool.not_false
open Go.Proofs.Tryz
variable {H H0 F:Heap}{K:V→Heap→Prop}{fns:List Fn}
theorem OwL.ex {L:List (Nat×Obj)}{cs:List C}{x:Ex}(h:OwL L cs x.cells):∃t,cs=[.int .i64 x.op,.int .i64 x.n,.str x.name,t]∧OwS L 4 (Q2 x.kids) t:=by
 rw[x.cells_eq]at h
 obtain⟨c1,e1,h1⟩:=h.inv_atom rfl
 obtain⟨c2,e2,h2⟩:=h1.inv_atom rfl
 obtain⟨c3,e3,h3⟩:=h2.inv_atom rfl
 obtain⟨t,e4,h4⟩:=h3.inv_one
 exact⟨t,by rw[e1,e2,e3,e4],h4⟩
theorem OwL.st {L:List (Nat×Obj)}{cs:List C}{x:St}(h:OwL L cs x.cells):∃La Lb Lc ta tb tc,cs=[.int .i64 x.op,.str x.name,ta,tb,tc]∧L=La++(Lb++Lc)∧OwS La 4 (Q2 x.args) ta∧OwS Lb 5 (Ql x.body) tb∧OwS Lc 5 (Ql x.els) tc:=by
 rw[x.cells_eq]at h
 obtain⟨c1,e1,h1⟩:=h.inv_atom rfl
 obtain⟨c2,e2,h2⟩:=h1.inv_atom rfl
 obtain⟨ta,c3,La,L2,e3,f3,ha,h3⟩:=h2.inv_sl
 obtain⟨tb,c4,Lb,L3,e4,f4,hb,h4⟩:=h3.inv_sl
 obtain⟨tc,e5,hc⟩:=h4.inv_one
 exact⟨La,Lb,L3,ta,tb,tc,by rw[e1,e2,e3,e4,e5],by rw[f3,f4],ha,hb,hc⟩
theorem Qard:∀(n:Nat) (l:List Ex) (L:List (Nat×Obj)) (t:C) (k:Nat) (H:Heap) (K:V→Heap→Prop),Qv l≤n→OwS L 4 (Q2 l) t→(∀p∈L,H p.1=p.2)→(L.map Prod.fst).Nodup→k+Q9 l<2 ^ 62→
  (∀H' L',L'.map Prod.fst=L.map Prod.fst→OwS L' 4 (Q2 (Qa3 l k)) t→Upd H H' L'→K (.c (.int .i64 ((k+Q9 l:Nat):Int))) H')→Qj prog Qfp [.c t,.c (.int .i64 (k:Nat))] H K:=by
 intro n
 induction n using Nat.strongRecOn with
 |ind n ih=>
 intro l L t k H K hn ho hm hd hb hK
 rcases ho with ⟨rfl,h1,rfl⟩|⟨y,M,rows,rfl,rfl,hrl,hr4,_,ho⟩
 ·have:l=[]:=List.length_eq_zero_iff.1 (by rw[←Qi,h1];rfl)
  subst this
  refine Qb Qaj Qwf ?_
  refine Qa ?_
  simp only[go_sem]
  refine Qz ?_
  refine Qa ?_
  simp only[go_sem]
  refine Qe (Qd (Qt (fun m e1 H1=>H1=H∧e1=[(0,.c (.sl true 4 [])),(1,.c (.int .i64 (k:Nat))),(5,.c (.int .i64 0))]) 0 ?_ ?_))
  ·exact⟨rfl,rfl⟩
  ·rintro m e1 H1 ⟨rfl,rfl⟩
   refine Qz ?_
   refine Qa ?_
   simp only[go_sem]
   refine Qe (Qc rfl (fun h=>by simp[lk]at h) (fun _=>?_))
   refine Qu ?_
   simp only[go_sem,AE.X.next]
   refine Qa ?_
   simp only[go_sem]
   refine Qh ?_
   simp only[go_sem,Q0,Q6,Qam8,List.mem_singleton,forall_eq,RS.op]
   exact hK _ [] rfl (.inl ⟨rfl,rfl,rfl⟩) ⟨by simp,fun _ _ _=>rfl⟩
 ·have hll:l.length=rows.length:=by rw[←Qi];exact hrl
  refine Qb Qaj Qwf ?_
  refine Qa ?_
  simp only[go_sem]
  refine Qz ?_
  refine Qa ?_
  simp only[go_sem]
  refine Qe (Qd (Qt (fun m e1 H1=>∃(i:Nat) (dn td:List (List C)) (Md Mt:List (Nat×Obj)),m=l.length-i∧i≤l.length∧dn.length=i∧td.length=l.length-i∧(∀r∈dn,r.length=4)∧(∀r∈td,r.length=4)∧
   OwL Md dn.flatten (Q2 (Qa3 (l.take i) k)).flatten∧OwL Mt td.flatten (Q2 (l.drop i)).flatten∧(Md++Mt).map Prod.fst=M.map Prod.fst∧Kn H H1 ((y,.vec 4 (dn++td))::(Md++Mt)) []∧
   e1=[(0,.c (.vsl y 4 0 rows.length)),(1,.c (.int .i64 ((k+Q9 (l.take i):Nat):Int))),(5,.c (.int .i64 i))]) l.length ?_ ?_))
  ·exact⟨0,[],rows,[],M,by omega,by omega,rfl,by omega,by simp,hr4,.nil,ho,rfl,.startE (fun p hp=>⟨hm p hp,by
    rcases List.mem_cons.1 hp with rfl|hp
    ·nofun
    ·obtain⟨z,r,h1,_⟩:=ho.vecs p hp
     rw[h1];nofun⟩) hd,rfl⟩
  ·rintro m e1 H1 ⟨i,dn,td,Md,Mt,hm,hi,hdn,htd,hd4,ht4,hod,hot,hfst,kn,rfl⟩
   have gy:=kn.e 0 rfl
   have hlen:(dn++td).length=rows.length:=by rw[List.length_append];omega
   refine Qz ?_
   refine Qa ?_
   simp only[go_sem,gy,hlen]
   refine⟨by omega,fun hlm=>?_⟩
   simp only[LIM]at hlm
   refine Qe (Qc rfl ?_ ?_)
   ·intro hc
    have hlt:i<l.length:=by have:=of_decide_eq_true hc;omega
    have hlt2:i<rows.length:=by omega
    obtain⟨x,hx⟩:∃x,l[i]=x:=⟨_,rfl⟩
    have hdr:l.drop i=x::l.drop (i+1):=by rw[List.drop_eq_getElem_cons hlt,hx]
    have htk:l.take (i+1)=l.take i++[x]:=by rw[List.take_succ_eq_append_getElem hlt,hx]
    obtain⟨r,td,rfl⟩:∃r td',td=r::td':=by
     cases td with
     |nil=>simp at htd;omega
     |cons r td'=>exact⟨r,td',rfl⟩
    have hr:=ht4 r (by simp)
    rw[hdr,show Q2 (x::l.drop (i+1))=x.cells::Q2 (l.drop (i+1)) from by simp[Qjg]]at hot
    obtain⟨M1,M2,rfl,ho1,ho2⟩:=hot.uncons (by rw[hr,x.cells_len])
    have hcn:Q9 (l.take (i+1))=Q9 (l.take i)+Q9 [x]:=by rw[htk,Qun]
    have hle:Q9 (l.take (i+1))≤Q9 l:=by
     have:=Qun (l.take (i+1)) (l.drop (i+1))
     rw[List.take_append_drop]at this;omega
    have hxs:x∈l:=by rw[←hx];exact List.getElem_mem hlt
    obtain⟨kk,hkk⟩:∃kk,k+Q9 (l.take i)=kk:=⟨_,rfl⟩
    rw[hkk]
    simp only[Q9]at hcn
    obtain⟨tk,rfl,hok⟩:=OwL.ex ho1
    have htk0:=hok.isOw
    have hlen:∀r:List C,(dn++r::td).length=rows.length:=fun r=>by
     simp only[List.length_append,List.length_cons]at htd⊢;omega
    have htake:∀r:List C,List.take rows.length (dn++r::td)=dn++r::td:=fun r=>List.take_of_length_le (by rw[hlen r];omega)
    have hcx:=x.cnt_eq
    refine Qf ?_
    try simp only[go_sem]
    refine Qe (Qd ?_)
    refine Qa ?_
    simp only[go_sem,gy,hlen,hlt2,Qxd hdn,htk0]
    refine⟨by omega,by omega,fun H2 h2=>?_⟩
    rw[Qy2 hdn]at h2
    have kn:Kn H H2 ((y,.vec 4 (dn++([.int .i64 (kk:Nat),.int .i64 x.n,.str x.name,tk]:List C)::td))::(Md++(M1++M2))) []:=kn.stE 0 rfl h2
    have gy:=kn.e 0 rfl
    refine Qa ?_
    simp only[go_sem]
    refine⟨Qo (by omega) (by omega),?_⟩
    refine Qa ?_
    simp only[go_sem,gy,hlen,hlt2,Qxd hdn,htk0]
    refine⟨by omega,by omega,fun H2 h2=>?_⟩
    rw[Qy2 hdn]at h2
    have kn:Kn H H2 ((y,.vec 4 (dn++([.int .i64 (kk:Nat),.int .i64 ((kk:Nat)+1),.str x.name,tk]:List C)::td))::(Md++(M1++M2))) []:=kn.stE 0 rfl h2
    have gy:=kn.e 0 rfl
    refine Qa ?_
    simp only[go_sem]
    refine⟨Qo (by omega) (by omega),?_⟩
    refine Qa ?_
    simp only[go_sem]
    refine Qfc (k:=kk+2) (by omega) ?_
    simp only[go_sem,Qnt,gy,hlen,hlt2,Qxd hdn,htk0]
    refine⟨by omega,by omega,fun H2 h2=>?_⟩
    rw[Qy2 hdn]at h2
    have kn:Kn H H2 ((y,.vec 4 (dn++([.int .i64 (kk:Nat),.int .i64 ((kk:Nat)+1),.str (mkT (kk+2)),tk]:List C)::td))::(Md++(M1++M2))) []:=kn.stE 0 rfl h2
    have gy:=kn.e 0 rfl
    refine Qa ?_
    simp only[go_sem]
    refine⟨Qo (by omega) (by omega),?_⟩
    refine Qn ?_
    simp only[go_sem,gy,hlen,hlt2,htake,Quv hdn,htk0]
    have e3:((kk:Nat):Int)+1+1+1=((kk+3:Nat):Int):=by omega
    rw[e3]
    refine⟨by omega,by omega,?_⟩
    have hsx:=Qad hxs
    have hsk:=x.size_kids
    refine ih (Qv x.kids) (by omega) x.kids M1 tk (kk+3) H2 _ (Nat.le_refl _) hok (fun p hp=>(kn.get p (by simp[hp])).1) (ndM1 kn.dE) (by omega) fun H5 M1' hf1 hok' hu=>?_
    have kn:Kn H H5 (((y,_)::Md)++(M1'++M2)) []:=Kn.callM (A:=(y,_)::Md) kn hu hf1 hok'.vecs
    simp only[go_sem,Qnu]
    refine Qn ?_
    simp only[go_sem,AE.X.next]
    have e5:k+Q9 (l.take (i+1))=kk+3+Q9 x.kids:=by omega
    refine⟨Qo (by omega) (by omega),l.length-(i+1),by omega,i+1,dn++[[.int .i64 (kk:Nat),.int .i64 ((kk:Nat)+1),.str (mkT (kk+2)),tk]],td,Md++M1',M2,rfl,by omega,by simp[hdn],by simp only[List.length_cons]at htd;omega,?_,fun r hr=>ht4 r (by simp[hr]),?_,ho2,?_,?_,?_⟩
    ·intro r hr
     rcases List.mem_append.1 hr with hr|hr
     ·exact hd4 r hr
     ·rw[List.mem_singleton.1 hr];rfl
    ·rw[htk,Q9i,hkk,Qayr,List.flatten_append,List.flatten_append]
     refine hod.app ?_
     simp only[Qa3,Q2,Ex.mark_eq,Ex.cells,List.flatten_cons,List.flatten_nil,List.append_nil]
     exact .atom rfl (.atom rfl (.atom rfl hok'.one))
    ·rw[←hfst];simp only[List.map_append,List.append_assoc,hf1]
    ·have:=kn
     simpa only[List.append_assoc,List.cons_append,List.nil_append,List.singleton_append]using this
    ·rw[e5];rfl
   ·intro hc
    have hge:l.length≤i:=by have:=of_decide_eq_false hc;omega
    rw[List.take_of_length_le hge]at hod
    have htd0:td=[]:=List.length_eq_zero_iff.1 (by omega)
    rw[List.drop_of_length_le hge]at hot
    subst htd0
    obtain rfl:Mt=[]:=by cases hot;rfl
    rw[List.append_nil]at hfst
    rw[List.append_nil,List.append_nil]at kn
    rw[List.take_of_length_le hge]
    have hn2:rows.length=dn.length:=by omega
    refine Qu ?_
    simp only[go_sem,AE.X.next]
    refine Qa ?_
    simp only[go_sem]
    refine Qh ?_
    simp only[go_sem,Q0,Q6,Qam8,List.mem_singleton,forall_eq,RS.op]
    refine hK _ ((y,.vec 4 dn)::Md) (by simp only[List.map_cons,hfst]) (.inr ⟨y,Md,dn,by rw[hn2],rfl,by rw[Qi,Qoc];omega,hd4,Qays,hod⟩) ?_
    have:=kn.upd
    simpa using this
theorem Qare:∀(n:Nat) (l:List St) (L:List (Nat×Obj)) (t:C) (k:Nat) (H:Heap) (K:V→Heap→Prop),Qg l≤n→OwS L 5 (Ql l) t→(∀p∈L,H p.1=p.2)→(L.map Prod.fst).Nodup→k+Q3 l<2 ^ 62→
  (∀H' L',L'.map Prod.fst=L.map Prod.fst→OwS L' 5 (Ql (Qay l k)) t→Upd H H' L'→K (.c (.int .i64 ((k+Q3 l:Nat):Int))) H')→Qj prog Qdg [.c t,.c (.int .i64 (k:Nat))] H K:=by
 intro n
 induction n using Nat.strongRecOn with
 |ind n ih=>
 intro l L t k H K hn ho hm hd hb hK
 rcases ho with ⟨rfl,h1,rfl⟩|⟨y,M,rows,rfl,rfl,hrl,hr4,_,ho⟩
 ·have:l=[]:=List.length_eq_zero_iff.1 (by rw[←Qw,h1];rfl)
  subst this
  refine Qb Qaj Qwg ?_
  refine Qa ?_
  simp only[go_sem]
  refine Qz ?_
  refine Qa ?_
  simp only[go_sem]
  refine Qe (Qd (Qt (fun m e1 H1=>H1=H∧e1=[(0,.c (.sl true 5 [])),(1,.c (.int .i64 (k:Nat))),(5,.c (.int .i64 0))]) 0 ?_ ?_))
  ·exact⟨rfl,rfl⟩
  ·rintro m e1 H1 ⟨rfl,rfl⟩
   refine Qz ?_
   refine Qa ?_
   simp only[go_sem]
   refine Qe (Qc rfl (fun h=>by simp[lk]at h) (fun _=>?_))
   refine Qu ?_
   simp only[go_sem,AE.X.next]
   refine Qa ?_
   simp only[go_sem]
   refine Qh ?_
   simp only[go_sem,Q0,Q6,Qam8,List.mem_singleton,forall_eq,RS.op]
   exact hK _ [] rfl (.inl ⟨rfl,rfl,rfl⟩) ⟨by simp,fun _ _ _=>rfl⟩
 ·have hll:l.length=rows.length:=by rw[←Qw];exact hrl
  refine Qb Qaj Qwg ?_
  refine Qa ?_
  simp only[go_sem]
  refine Qz ?_
  refine Qa ?_
  simp only[go_sem]
  refine Qe (Qd (Qt (fun m e1 H1=>∃(i:Nat) (dn td:List (List C)) (Md Mt:List (Nat×Obj)),m=l.length-i∧i≤l.length∧dn.length=i∧td.length=l.length-i∧(∀r∈dn,r.length=5)∧(∀r∈td,r.length=5)∧
   OwL Md dn.flatten (Ql (Qay (l.take i) k)).flatten∧OwL Mt td.flatten (Ql (l.drop i)).flatten∧(Md++Mt).map Prod.fst=M.map Prod.fst∧Kn H H1 ((y,.vec 5 (dn++td))::(Md++Mt)) []∧
   e1=[(0,.c (.vsl y 5 0 rows.length)),(1,.c (.int .i64 ((k+Q3 (l.take i):Nat):Int))),(5,.c (.int .i64 i))]) l.length ?_ ?_))
  ·exact⟨0,[],rows,[],M,by omega,by omega,rfl,by omega,by simp,hr4,.nil,ho,rfl,.startE (fun p hp=>⟨hm p hp,by
    rcases List.mem_cons.1 hp with rfl|hp
    ·nofun
    ·obtain⟨z,r,h1,_⟩:=ho.vecs p hp
     rw[h1];nofun⟩) hd,rfl⟩
  ·rintro m e1 H1 ⟨i,dn,td,Md,Mt,hm,hi,hdn,htd,hd4,ht4,hod,hot,hfst,kn,rfl⟩
   have gy:=kn.e 0 rfl
   have hlen:(dn++td).length=rows.length:=by rw[List.length_append];omega
   refine Qz ?_
   refine Qa ?_
   simp only[go_sem,gy,hlen]
   refine⟨by omega,fun hlm=>?_⟩
   simp only[LIM]at hlm
   refine Qe (Qc rfl ?_ ?_)
   ·intro hc
    have hlt:i<l.length:=by have:=of_decide_eq_true hc;omega
    have hlt2:i<rows.length:=by omega
    obtain⟨x,hx⟩:∃x,l[i]=x:=⟨_,rfl⟩
    have hdr:l.drop i=x::l.drop (i+1):=by rw[List.drop_eq_getElem_cons hlt,hx]
    have htk:l.take (i+1)=l.take i++[x]:=by rw[List.take_succ_eq_append_getElem hlt,hx]
    obtain⟨r,td,rfl⟩:∃r td',td=r::td':=by
     cases td with
     |nil=>simp at htd;omega
     |cons r td'=>exact⟨r,td',rfl⟩
    have hr:=ht4 r (by simp)
    rw[hdr,show Ql (x::l.drop (i+1))=x.cells::Ql (l.drop (i+1)) from by simp[Qhu]]at hot
    obtain⟨M1,M2,rfl,ho1,ho2⟩:=hot.uncons (by rw[hr,x.cells_len])
    have hcn:Q3 (l.take (i+1))=Q3 (l.take i)+Q3 [x]:=by rw[htk,Qpt]
    have hle:Q3 (l.take (i+1))≤Q3 l:=by
     have:=Qpt (l.take (i+1)) (l.drop (i+1))
     rw[List.take_append_drop]at this;omega
    have hxs:x∈l:=by rw[←hx];exact List.getElem_mem hlt
    obtain⟨kk,hkk⟩:∃kk,k+Q3 (l.take i)=kk:=⟨_,rfl⟩
    rw[hkk]
    simp only[Q3]at hcn
    obtain⟨Ma,Mb,Mc,ta,tb,tc,rfl,rfl,ha,hb',hc'⟩:=OwL.st ho1
    have hta:=ha.isOw
    have htb:=hb'.isOw
    have htc:=hc'.isOw
    have hlen:∀r:List C,(dn++r::td).length=rows.length:=fun r=>by
     simp only[List.length_append,List.length_cons]at htd⊢;omega
    have htake:∀r:List C,List.take rows.length (dn++r::td)=dn++r::td:=fun r=>List.take_of_length_le (by rw[hlen r];omega)
    have hcx:=x.mcnt_eq
    have hsx:=Qai hxs
    have hsk:=x.size_eq
    refine Qf ?_
    try simp only[go_sem]
    refine Qe (Qd ?_)
    refine Qa ?_
    simp only[go_sem,gy,hlen,hlt2,Qxd hdn,hta,htb,htc]
    refine⟨by omega,by omega,fun H2 h2=>?_⟩
    rw[Qy2 hdn]at h2
    have kn:Kn H H2 ((y,.vec 5 (dn++([.int .i64 (kk:Nat),.str x.name,ta,tb,tc]:List C)::td))::(Md++((Ma++(Mb++Mc))++M2))) []:=kn.stE 0 rfl h2
    have gy:=kn.e 0 rfl
    refine Qa ?_
    simp only[go_sem]
    refine⟨Qo (by omega) (by omega),?_⟩
    refine Qa ?_
    simp only[go_sem]
    refine Qfc (k:=kk+1) (by omega) ?_
    simp only[go_sem,Qnv,gy,hlen,hlt2,Qxd hdn,hta,htb,htc]
    refine⟨by omega,by omega,fun H2 h2=>?_⟩
    rw[Qy2 hdn]at h2
    have kn:Kn H H2 ((y,.vec 5 (dn++([.int .i64 (kk:Nat),.str (mkT (kk+1)),ta,tb,tc]:List C)::td))::(Md++((Ma++(Mb++Mc))++M2))) []:=kn.stE 0 rfl h2
    have gy:=kn.e 0 rfl
    refine Qa ?_
    simp only[go_sem]
    refine⟨Qo (by omega) (by omega),?_⟩
    refine Qa ?_
    simp only[go_sem,gy,hlen,hlt2,htake,Quv hdn,hta,htb,htc]
    refine⟨by omega,by omega,?_⟩
    have e1:((kk:Nat):Int)+1+1=((kk+2:Nat):Int):=by omega
    try rw[e1]
    have kn:Kn H H2 (((y,Obj.vec 5 (dn++([.int .i64 (kk:Nat),.str (mkT (kk+1)),ta,tb,tc]:List C)::td))::Md)++(Ma++(Mb++(Mc++M2)))) []:=by simpa only[List.append_assoc,List.cons_append,List.nil_append,List.singleton_append]using kn
    refine Qard (Qv x.args) x.args Ma ta (kk+2) H2 _ (Nat.le_refl _) ha (fun p hp=>(kn.get p (by simp[hp])).1) (Qam2 kn.dE) (by omega) fun H2 Ma' hf1 ha2 hu=>?_
    have kn:Kn H H2 (((y,Obj.vec 5 (dn++([.int .i64 (kk:Nat),.str (mkT (kk+1)),ta,tb,tc]:List C)::td))::Md)++(Ma'++(Mb++(Mc++M2)))) []:=Kn.callM kn hu hf1 ha2.vecs
    have gy:=kn.e 0 rfl
    simp only[go_sem,Qnw]
    refine Qa ?_
    simp only[go_sem,gy,hlen,hlt2,htake,Quv hdn,hta,htb,htc]
    refine⟨by omega,by omega,?_⟩
    have e2:((kk+2+Q9 x.args:Nat):Int)=((kk+2+Q9 x.args:Nat):Int):=by omega
    try rw[e2]
    have kn:Kn H H2 (((y,Obj.vec 5 (dn++([.int .i64 (kk:Nat),.str (mkT (kk+1)),ta,tb,tc]:List C)::td))::(Md++Ma'))++(Mb++(Mc++M2))) []:=by simpa only[List.append_assoc,List.cons_append,List.nil_append,List.singleton_append]using kn
    refine ih (Qg x.body) (by omega) x.body Mb tb (kk+2+Q9 x.args) H2 _ (Nat.le_refl _) hb' (fun p hp=>(kn.get p (by simp[hp])).1) (Qam2 kn.dE) (by omega) fun H2 Mb' hf2 hb'2 hu=>?_
    have kn:Kn H H2 (((y,Obj.vec 5 (dn++([.int .i64 (kk:Nat),.str (mkT (kk+1)),ta,tb,tc]:List C)::td))::(Md++Ma'))++(Mb'++(Mc++M2))) []:=Kn.callM kn hu hf2 hb'2.vecs
    have gy:=kn.e 0 rfl
    simp only[go_sem,Qnx]
    refine Qn ?_
    simp only[go_sem,gy,hlen,hlt2,htake,Quv hdn,hta,htb,htc]
    refine⟨by omega,by omega,?_⟩
    have e3:((kk+2+Q9 x.args+Q3 x.body:Nat):Int)=((kk+2+Q9 x.args+Q3 x.body:Nat):Int):=by omega
    try rw[e3]
    have kn:Kn H H2 (((y,Obj.vec 5 (dn++([.int .i64 (kk:Nat),.str (mkT (kk+1)),ta,tb,tc]:List C)::td))::((Md++Ma')++Mb'))++(Mc++M2)) []:=by simpa only[List.append_assoc,List.cons_append,List.nil_append,List.singleton_append]using kn
    refine ih (Qg x.els) (by omega) x.els Mc tc (kk+2+Q9 x.args+Q3 x.body) H2 _ (Nat.le_refl _) hc' (fun p hp=>(kn.get p (by simp[hp])).1) (Qam2 kn.dE) (by omega) fun H2 Mc' hf3 hc'2 hu=>?_
    have kn:Kn H H2 (((y,Obj.vec 5 (dn++([.int .i64 (kk:Nat),.str (mkT (kk+1)),ta,tb,tc]:List C)::td))::((Md++Ma')++Mb'))++(Mc'++M2)) []:=Kn.callM kn hu hf3 hc'2.vecs
    have gy:=kn.e 0 rfl
    simp only[go_sem,Qny]
    refine Qn ?_
    simp only[go_sem,AE.X.next]
    have e5:k+Q3 (l.take (i+1))=kk+2+Q9 x.args+Q3 x.body+Q3 x.els:=by omega
    refine⟨Qo (by omega) (by omega),l.length-(i+1),by omega,i+1,dn++[[.int .i64 (kk:Nat),.str (mkT (kk+1)),ta,tb,tc]],td,Md++(Ma'++(Mb'++Mc')),M2,rfl,by omega,by simp[hdn],by simp only[List.length_cons]at htd;omega,?_,fun r hr=>ht4 r (by simp[hr]),?_,ho2,?_,?_,?_⟩
    ·intro r hr
     rcases List.mem_append.1 hr with hr|hr
     ·exact hd4 r hr
     ·rw[List.mem_singleton.1 hr];rfl
    ·rw[htk,Qac6,hkk,←Qa2e,List.flatten_append,List.flatten_append]
     refine hod.app ?_
     simp only[Qay,Ql,St.mark_eq,St.cells,List.flatten_cons,List.flatten_nil,List.append_nil]
     exact .atom rfl (.atom rfl (ha2.cons (hb'2.cons hc'2.one)))
    ·rw[←hfst];simp only[List.map_append,List.append_assoc,hf1,hf2,hf3]
    ·have:=kn
     simpa only[List.append_assoc,List.cons_append,List.nil_append,List.singleton_append]using this
    ·rw[e5];rfl
   ·intro hc
    have hge:l.length≤i:=by have:=of_decide_eq_false hc;omega
    rw[List.take_of_length_le hge]at hod
    have htd0:td=[]:=List.length_eq_zero_iff.1 (by omega)
    rw[List.drop_of_length_le hge]at hot
    subst htd0
    obtain rfl:Mt=[]:=by cases hot;rfl
    rw[List.append_nil]at hfst
    rw[List.append_nil,List.append_nil]at kn
    rw[List.take_of_length_le hge]
    have hn2:rows.length=dn.length:=by omega
    refine Qu ?_
    simp only[go_sem,AE.X.next]
    refine Qa ?_
    simp only[go_sem]
    refine Qh ?_
    simp only[go_sem,Q0,Q6,Qam8,List.mem_singleton,forall_eq,RS.op]
    refine hK _ ((y,.vec 5 dn)::Md) (by simp only[List.map_cons,hfst]) (.inr ⟨y,Md,dn,by rw[hn2],rfl,by rw[Qw,Qps];omega,hd4,Qa2f,hod⟩) ?_
    have:=kn.upd
    simpa using this
theorem Qajc:∀(n:Nat) (l:List (List UInt8)) (L:List (Nat×Obj)) (t:C) (k:Nat) (H:Heap) (K:V→Heap→Prop),Qac l≤n→OwS L 1 (Qy l) t→(∀p∈L,H p.1=p.2)→(L.map Prod.fst).Nodup→k+Qac l<2 ^ 62→
  (∀H' L',L'.map Prod.fst=L.map Prod.fst→OwS L' 1 (Qy (Qas l k)) t→Upd H H' L'→K (.c (.int .i64 ((k+Qac l:Nat):Int))) H')→Qj prog Qgj [.c t,.c (.int .i64 (k:Nat))] H K:=by
 intro n
 induction n using Nat.strongRecOn with
 |ind n ih=>
 intro l L t k H K hn ho hm hd hb hK
 rcases ho with ⟨rfl,h1,rfl⟩|⟨y,M,rows,rfl,rfl,hrl,hr4,_,ho⟩
 ·have:l=[]:=List.length_eq_zero_iff.1 (by rw[←Qr,h1];rfl)
  subst this
  refine Qb Qaj Qpx ?_
  refine Qa ?_
  simp only[go_sem]
  refine Qz ?_
  refine Qa ?_
  simp only[go_sem]
  refine Qe (Qd (Qt (fun m e1 H1=>H1=H∧e1=[(0,.c (.sl true 1 [])),(1,.c (.int .i64 (k:Nat))),(5,.c (.int .i64 0))]) 0 ?_ ?_))
  ·exact⟨rfl,rfl⟩
  ·rintro m e1 H1 ⟨rfl,rfl⟩
   refine Qz ?_
   refine Qa ?_
   simp only[go_sem]
   refine Qe (Qc rfl (fun h=>by simp[lk]at h) (fun _=>?_))
   refine Qu ?_
   simp only[go_sem,AE.X.next]
   refine Qa ?_
   simp only[go_sem]
   refine Qh ?_
   simp only[go_sem,Q0,Q6,Qam8,List.mem_singleton,forall_eq,RS.op]
   exact hK _ [] rfl (.inl ⟨rfl,rfl,rfl⟩) ⟨by simp,fun _ _ _=>rfl⟩
 ·have hll:l.length=rows.length:=by rw[←Qr];exact hrl
  refine Qb Qaj Qpx ?_
  refine Qa ?_
  simp only[go_sem]
  refine Qz ?_
  refine Qa ?_
  simp only[go_sem]
  refine Qe (Qd (Qt (fun m e1 H1=>∃(i:Nat) (dn td:List (List C)) (Md Mt:List (Nat×Obj)),m=l.length-i∧i≤l.length∧dn.length=i∧td.length=l.length-i∧(∀r∈dn,r.length=1)∧(∀r∈td,r.length=1)∧
   OwL Md dn.flatten (Qy (Qas (l.take i) k)).flatten∧OwL Mt td.flatten (Qy (l.drop i)).flatten∧(Md++Mt).map Prod.fst=M.map Prod.fst∧Kn H H1 ((y,.vec 1 (dn++td))::(Md++Mt)) []∧
   e1=[(0,.c (.vsl y 1 0 rows.length)),(1,.c (.int .i64 ((k+Qac (l.take i):Nat):Int))),(5,.c (.int .i64 i))]) l.length ?_ ?_))
  ·exact⟨0,[],rows,[],M,by omega,by omega,rfl,by omega,by simp,hr4,.nil,ho,rfl,.startE (fun p hp=>⟨hm p hp,by
    rcases List.mem_cons.1 hp with rfl|hp
    ·nofun
    ·obtain⟨z,r,h1,_⟩:=ho.vecs p hp
     rw[h1];nofun⟩) hd,rfl⟩
  ·rintro m e1 H1 ⟨i,dn,td,Md,Mt,hm,hi,hdn,htd,hd4,ht4,hod,hot,hfst,kn,rfl⟩
   have gy:=kn.e 0 rfl
   have hlen:(dn++td).length=rows.length:=by rw[List.length_append];omega
   refine Qz ?_
   refine Qa ?_
   simp only[go_sem,gy,hlen]
   refine⟨by omega,fun hlm=>?_⟩
   simp only[LIM]at hlm
   refine Qe (Qc rfl ?_ ?_)
   ·intro hc
    have hlt:i<l.length:=by have:=of_decide_eq_true hc;omega
    have hlt2:i<rows.length:=by omega
    obtain⟨x,hx⟩:∃x,l[i]=x:=⟨_,rfl⟩
    have hdr:l.drop i=x::l.drop (i+1):=by rw[List.drop_eq_getElem_cons hlt,hx]
    have htk:l.take (i+1)=l.take i++[x]:=by rw[List.take_succ_eq_append_getElem hlt,hx]
    obtain⟨r,td,rfl⟩:∃r td',td=r::td':=by
     cases td with
     |nil=>simp at htd;omega
     |cons r td'=>exact⟨r,td',rfl⟩
    have hr:=ht4 r (by simp)
    rw[hdr,show Qy (x::l.drop (i+1))=([C.str x]:List C)::Qy (l.drop (i+1)) from by simp[Qy]]at hot
    obtain⟨M1,M2,rfl,ho1,ho2⟩:=hot.uncons (by rw[hr];rfl)
    have hcn:Qac (l.take (i+1))=Qac (l.take i)+Qac [x]:=by rw[htk,Qpp]
    have hle:Qac (l.take (i+1))≤Qac l:=by
     have:=Qpp (l.take (i+1)) (l.drop (i+1))
     rw[List.take_append_drop]at this;omega
    have hxs:x∈l:=by rw[←hx];exact List.getElem_mem hlt
    obtain⟨kk,hkk⟩:∃kk,k+Qac (l.take i)=kk:=⟨_,rfl⟩
    rw[hkk]
    simp only[Qac]at hcn
    obtain⟨c0,e0,h0⟩:=ho1.inv_atom rfl
    obtain⟨rfl,rfl⟩:=h0.inv_nil
    subst e0
    have hlen:∀r:List C,(dn++r::td).length=rows.length:=fun r=>by
     simp only[List.length_append,List.length_cons]at htd⊢;omega
    have htake:∀r:List C,List.take rows.length (dn++r::td)=dn++r::td:=fun r=>List.take_of_length_le (by rw[hlen r];omega)
    refine Qf ?_
    try simp only[go_sem]
    refine Qe (Qd ?_)
    refine Qa ?_
    simp only[go_sem]
    refine Qfc (k:=kk) (by omega) ?_
    simp only[go_sem,Qk8,gy,hlen,hlt2,Qxd hdn]
    refine⟨by omega,by omega,fun H2 h2=>?_⟩
    rw[Qy2 hdn]at h2
    have kn:Kn H H2 ((y,.vec 1 (dn++([.str (mkT kk)]:List C)::td))::(Md++([]++M2))) []:=kn.stE 0 rfl h2
    have gy:=kn.e 0 rfl
    refine Qn ?_
    simp only[go_sem]
    refine⟨Qo (by omega) (by omega),?_⟩
    refine Qn ?_
    simp only[go_sem,AE.X.next]
    have e5:k+Qac (l.take (i+1))=kk+1:=by omega
    refine⟨Qo (by omega) (by omega),l.length-(i+1),by omega,i+1,dn++[[.str (mkT kk)]],td,Md,M2,rfl,by omega,by simp[hdn],by simp only[List.length_cons]at htd;omega,?_,fun r hr=>ht4 r (by simp[hr]),?_,ho2,?_,?_,?_⟩
    ·intro r hr
     rcases List.mem_append.1 hr with hr|hr
     ·exact hd4 r hr
     ·rw[List.mem_singleton.1 hr];rfl
    ·rw[htk,Q0z,hkk,Qaxo,List.flatten_append,List.flatten_append]
     have:=hod.app (M:=[]) (b:=[C.str (mkT kk)]) (b':=[C.str (mkT kk)]) (.atom rfl .nil)
     rw[List.append_nil]at this
     simp only[Qas,Qy,Qaua,Qaxp,List.flatten_cons,List.flatten_nil,List.append_nil]
     exact this
    ·rw[←hfst];simp only[List.map_append,List.append_assoc,List.nil_append]
    ·have:=kn
     simpa only[List.append_assoc,List.cons_append,List.nil_append,List.singleton_append]using this
    ·rw[e5];rfl
   ·intro hc
    have hge:l.length≤i:=by have:=of_decide_eq_false hc;omega
    rw[List.take_of_length_le hge]at hod
    have htd0:td=[]:=List.length_eq_zero_iff.1 (by omega)
    rw[List.drop_of_length_le hge]at hot
    subst htd0
    obtain rfl:Mt=[]:=by cases hot;rfl
    rw[List.append_nil]at hfst
    rw[List.append_nil,List.append_nil]at kn
    rw[List.take_of_length_le hge]
    have hn2:rows.length=dn.length:=by omega
    refine Qu ?_
    simp only[go_sem,AE.X.next]
    refine Qa ?_
    simp only[go_sem]
    refine Qh ?_
    simp only[go_sem,Q0,Q6,Qam8,List.mem_singleton,forall_eq,RS.op]
    refine hK _ ((y,.vec 1 dn)::Md) (by simp only[List.map_cons,hfst]) (.inr ⟨y,Md,dn,by rw[hn2],rfl,by rw[Qr,Qug];omega,hd4,Qalp,hod⟩) ?_
    have:=kn.upd
    simpa using this
theorem Qayy (f:Fn):Qm [f]=[f.cells]:=rfl
theorem Qa0e:∀(n:Nat) (l:List Fn) (L:List (Nat×Obj)) (t:C) (k:Nat) (H:Heap) (K:V→Heap→Prop),l.length≤n→OwS L 3 (Qm l) t→(∀p∈L,H p.1=p.2)→(L.map Prod.fst).Nodup→k+Qae l<2 ^ 62→
  (∀H' L',L'.map Prod.fst=L.map Prod.fst→OwS L' 3 (Qm (Qbc l k)) t→Upd H H' L'→K (.c (.int .i64 ((k+Qae l:Nat):Int))) H')→Qj prog Qoj [.c t,.c (.int .i64 (k:Nat))] H K:=by
 intro n
 induction n using Nat.strongRecOn with
 |ind n ih=>
 intro l L t k H K hn ho hm hd hb hK
 rcases ho with ⟨rfl,h1,rfl⟩|⟨y,M,rows,rfl,rfl,hrl,hr4,_,ho⟩
 ·have:l=[]:=List.length_eq_zero_iff.1 (by rw[←Qp,h1];rfl)
  subst this
  refine Qb Qaj Q4f ?_
  refine Qa ?_
  simp only[go_sem]
  refine Qz ?_
  refine Qa ?_
  simp only[go_sem]
  refine Qe (Qd (Qt (fun m e1 H1=>H1=H∧e1=[(0,.c (.sl true 3 [])),(1,.c (.int .i64 (k:Nat))),(5,.c (.int .i64 0))]) 0 ?_ ?_))
  ·exact⟨rfl,rfl⟩
  ·rintro m e1 H1 ⟨rfl,rfl⟩
   refine Qz ?_
   refine Qa ?_
   simp only[go_sem]
   refine Qe (Qc rfl (fun h=>by simp[lk]at h) (fun _=>?_))
   refine Qu ?_
   simp only[go_sem,AE.X.next]
   refine Qa ?_
   simp only[go_sem]
   refine Qh ?_
   simp only[go_sem,Q0,Q6,Qam8,List.mem_singleton,forall_eq,RS.op]
   exact hK _ [] rfl (.inl ⟨rfl,rfl,rfl⟩) ⟨by simp,fun _ _ _=>rfl⟩
 ·have hll:l.length=rows.length:=by rw[←Qp];exact hrl
  refine Qb Qaj Q4f ?_
  refine Qa ?_
  simp only[go_sem]
  refine Qz ?_
  refine Qa ?_
  simp only[go_sem]
  refine Qe (Qd (Qt (fun m e1 H1=>∃(i:Nat) (dn td:List (List C)) (Md Mt:List (Nat×Obj)),m=l.length-i∧i≤l.length∧dn.length=i∧td.length=l.length-i∧(∀r∈dn,r.length=3)∧(∀r∈td,r.length=3)∧
   OwL Md dn.flatten (Qm (Qbc (l.take i) k)).flatten∧OwL Mt td.flatten (Qm (l.drop i)).flatten∧(Md++Mt).map Prod.fst=M.map Prod.fst∧Kn H H1 ((y,.vec 3 (dn++td))::(Md++Mt)) []∧
   e1=[(0,.c (.vsl y 3 0 rows.length)),(1,.c (.int .i64 ((k+Qae (l.take i):Nat):Int))),(5,.c (.int .i64 i))]) l.length ?_ ?_))
  ·exact⟨0,[],rows,[],M,by omega,by omega,rfl,by omega,by simp,hr4,.nil,ho,rfl,.startE (fun p hp=>⟨hm p hp,by
    rcases List.mem_cons.1 hp with rfl|hp
    ·nofun
    ·obtain⟨z,r,h1,_⟩:=ho.vecs p hp
     rw[h1];nofun⟩) hd,rfl⟩
  ·rintro m e1 H1 ⟨i,dn,td,Md,Mt,hm,hi,hdn,htd,hd4,ht4,hod,hot,hfst,kn,rfl⟩
   have gy:=kn.e 0 rfl
   have hlen:(dn++td).length=rows.length:=by rw[List.length_append];omega
   refine Qz ?_
   refine Qa ?_
   simp only[go_sem,gy,hlen]
   refine⟨by omega,fun hlm=>?_⟩
   simp only[LIM]at hlm
   refine Qe (Qc rfl ?_ ?_)
   ·intro hc
    have hlt:i<l.length:=by have:=of_decide_eq_true hc;omega
    have hlt2:i<rows.length:=by omega
    obtain⟨x,hx⟩:∃x,l[i]=x:=⟨_,rfl⟩
    have hdr:l.drop i=x::l.drop (i+1):=by rw[List.drop_eq_getElem_cons hlt,hx]
    have htk:l.take (i+1)=l.take i++[x]:=by rw[List.take_succ_eq_append_getElem hlt,hx]
    obtain⟨r,td,rfl⟩:∃r td',td=r::td':=by
     cases td with
     |nil=>simp at htd;omega
     |cons r td'=>exact⟨r,td',rfl⟩
    have hr:=ht4 r (by simp)
    rw[hdr,show Qm (x::l.drop (i+1))=x.cells::Qm (l.drop (i+1)) from by simp[Qm]]at hot
    obtain⟨M1,M2,rfl,ho1,ho2⟩:=hot.uncons (by rw[hr,x.cells_len])
    have hcn:Qae (l.take (i+1))=Qae (l.take i)+Qae [x]:=by rw[htk,Qom]
    have hle:Qae (l.take (i+1))≤Qae l:=by
     have:=Qom (l.take (i+1)) (l.drop (i+1))
     rw[List.take_append_drop]at this;omega
    have hxs:x∈l:=by rw[←hx];exact List.getElem_mem hlt
    obtain⟨kk,hkk⟩:∃kk,k+Qae (l.take i)=kk:=⟨_,rfl⟩
    rw[hkk]
    simp only[Qae]at hcn
    obtain⟨Ma,Mb,ta,tb,rfl,rfl,ha,hb'⟩:=OwL.fn ho1
    have hta:=ha.isOw
    have htb:=hb'.isOw
    have hlen:∀r:List C,(dn++r::td).length=rows.length:=fun r=>by
     simp only[List.length_append,List.length_cons]at htd⊢;omega
    have htake:∀r:List C,List.take rows.length (dn++r::td)=dn++r::td:=fun r=>List.take_of_length_le (by rw[hlen r];omega)
    have hcx:x.mcnt=1+Qac x.params+Q3 x.body:=by rw[Fn.mcnt,Qe0]
    refine Qf ?_
    try simp only[go_sem]
    refine Qe (Qd ?_)
    refine Qa ?_
    simp only[go_sem]
    refine Qfc (k:=kk) (by omega) ?_
    simp only[go_sem,Qtj,gy,hlen,hlt2,Qxd hdn,hta,htb]
    refine⟨by omega,by omega,fun H2 h2=>?_⟩
    rw[Qy2 hdn]at h2
    have kn:Kn H H2 ((y,.vec 3 (dn++([.str (mkT kk),ta,tb]:List C)::td))::(Md++((Ma++Mb)++M2))) []:=kn.stE 0 rfl h2
    have gy:=kn.e 0 rfl
    refine Qa ?_
    simp only[go_sem]
    refine⟨Qo (by omega) (by omega),?_⟩
    refine Qa ?_
    simp only[go_sem,gy,hlen,hlt2,htake,Quv hdn,hta,htb]
    refine⟨by omega,by omega,?_⟩
    have e1:((kk:Nat):Int)+1=((kk+1:Nat):Int):=by omega
    try rw[e1]
    have kn:Kn H H2 (((y,Obj.vec 3 (dn++([.str (mkT kk),ta,tb]:List C)::td))::Md)++(Ma++(Mb++M2))) []:=by simpa only[List.append_assoc,List.cons_append,List.nil_append,List.singleton_append]using kn
    refine Qajc (Qac x.params) x.params Ma ta (kk+1) H2 _ (Nat.le_refl _) ha (fun p hp=>(kn.get p (by simp[hp])).1) (Qam2 kn.dE) (by omega) fun H2 Ma' hf1 ha2 hu=>?_
    have kn:Kn H H2 (((y,Obj.vec 3 (dn++([.str (mkT kk),ta,tb]:List C)::td))::Md)++(Ma'++(Mb++M2))) []:=Kn.callM kn hu hf1 ha2.vecs
    have gy:=kn.e 0 rfl
    simp only[go_sem,Qtk]
    refine Qn ?_
    simp only[go_sem,gy,hlen,hlt2,htake,Quv hdn,hta,htb]
    refine⟨by omega,by omega,?_⟩
    have e2:((kk+1+Qac x.params:Nat):Int)=((kk+1+Qac x.params:Nat):Int):=by omega
    try rw[e2]
    have kn:Kn H H2 (((y,Obj.vec 3 (dn++([.str (mkT kk),ta,tb]:List C)::td))::(Md++Ma'))++(Mb++M2)) []:=by simpa only[List.append_assoc,List.cons_append,List.nil_append,List.singleton_append]using kn
    refine Qare (Qg x.body) x.body Mb tb (kk+1+Qac x.params) H2 _ (Nat.le_refl _) hb' (fun p hp=>(kn.get p (by simp[hp])).1) (Qam2 kn.dE) (by omega) fun H2 Mb' hf2 hb'2 hu=>?_
    have kn:Kn H H2 (((y,Obj.vec 3 (dn++([.str (mkT kk),ta,tb]:List C)::td))::(Md++Ma'))++(Mb'++M2)) []:=Kn.callM kn hu hf2 hb'2.vecs
    have gy:=kn.e 0 rfl
    simp only[go_sem,Qtl]
    refine Qn ?_
    simp only[go_sem,AE.X.next]
    have e5:k+Qae (l.take (i+1))=kk+1+Qac x.params+Q3 x.body:=by omega
    refine⟨Qo (by omega) (by omega),l.length-(i+1),by omega,i+1,dn++[[.str (mkT kk),ta,tb]],td,Md++(Ma'++Mb'),M2,rfl,by omega,by simp[hdn],by simp only[List.length_cons]at htd;omega,?_,fun r hr=>ht4 r (by simp[hr]),?_,ho2,?_,?_,?_⟩
    ·intro r hr
     rcases List.mem_append.1 hr with hr|hr
     ·exact hd4 r hr
     ·rw[List.mem_singleton.1 hr];rfl
    ·rw[htk,Q9q,hkk,Qayx,List.flatten_append,List.flatten_append]
     refine hod.app ?_
     simp only[Qbc,Qayy,Fn.mark,Fn.cells,←Qe0,List.flatten_cons,List.flatten_nil,List.append_nil]
     exact .atom rfl (ha2.cons hb'2.one)
    ·rw[←hfst];simp only[List.map_append,List.append_assoc,hf1,hf2]
    ·have:=kn
     simpa only[List.append_assoc,List.cons_append,List.nil_append,List.singleton_append]using this
    ·rw[e5];rfl
   ·intro hc
    have hge:l.length≤i:=by have:=of_decide_eq_false hc;omega
    rw[List.take_of_length_le hge]at hod
    have htd0:td=[]:=List.length_eq_zero_iff.1 (by omega)
    rw[List.drop_of_length_le hge]at hot
    subst htd0
    obtain rfl:Mt=[]:=by cases hot;rfl
    rw[List.append_nil]at hfst
    rw[List.append_nil,List.append_nil]at kn
    rw[List.take_of_length_le hge]
    have hn2:rows.length=dn.length:=by omega
    refine Qu ?_
    simp only[go_sem,AE.X.next]
    refine Qa ?_
    simp only[go_sem]
    refine Qh ?_
    simp only[go_sem,Q0,Q6,Qam8,List.mem_singleton,forall_eq,RS.op]
    refine hK _ ((y,.vec 3 dn)::Md) (by simp only[List.map_cons,hfst]) (.inr ⟨y,Md,dn,by rw[hn2],rfl,by rw[Qp,Qol];omega,hd4,Qayz,hod⟩) ?_
    have:=kn.upd
    simpa using this
theorem Qzr {L:List (Nat×Obj)}{t:C}{k:Nat}(ho:OwS L 3 (Qm fns) t)(hm:∀p∈L,H p.1=p.2)(hd:(L.map Prod.fst).Nodup)(hb:k+Qae fns<2 ^ 62)
  (hK:∀H' L',L'.map Prod.fst=L.map Prod.fst→OwS L' 3 (Qm (Qbc fns k)) t→Upd H H' L'→K (.c (.int .i64 ((k+Qae fns:Nat):Int))) H'):Qj prog Qd5 [.ag [t],.c (.int .i64 (k:Nat))] H K:=by
 have hto:=ho.isOw
 refine Qb Qaj Q5r ?_
 refine Qa ?_
 simp only[go_sem,hto]
 refine Qa ?_
 simp only[go_sem,hto]
 refine Qa0e fns.length fns L t k H _ (Nat.le_refl _) ho hm hd hb fun H2 L' hf ho' hu=>?_
 simp only[go_sem,Qk7]
 refine Qa ?_
 simp only[go_sem]
 refine Qh ?_
 simp only[go_sem,Q0,Q6,Qam8,List.mem_singleton,forall_eq,RS.op]
 exact hK _ _ hf ho' hu
end Go.AE.Y

namespace Go.AE.Y
attribute [local go_sem] cond_true cond_false Bool.not_true Bool.not_false
open Go.Proofs.Tryz
variable {H H0 F:Heap}{K:V→Heap→Prop}{fns:List Fn}
theorem Qaqt:∀(n:Nat) (l:List Ex) (fl:Bool) (k:Nat) (H:Heap) (K:V→Heap→Prop),Qv l≤n→k+Q9 l<2 ^ 62→K (.c (.int .i64 ((k+Q9 l:Nat):Int))) H→Qj prog Qfo [.c (.sl fl 4 (Q2 (Qa3 l k))),.c (.int .i64 (k:Nat))] H K:=by
 intro n
 induction n using Nat.strongRecOn with
 |ind n ih=>
 intro l fl k H K hn hb hK
 have hlen:(Q2 (Qa3 l k)).length=l.length:=by rw[Qi,Qoc]
 refine Qb Qaj Qadl ?_
 refine Qa ?_
 simp only[go_sem]
 refine Qz ?_
 refine Qa ?_
 simp only[go_sem]
 refine Qe (Qd (Qt (fun m e1 H1=>∃(i:Nat),m=l.length-i∧i≤l.length∧H1=H∧
  e1=[(0,.c (.sl fl 4 (Q2 (Qa3 l k)))),(1,.c (.int .i64 ((k+Q9 (l.take i):Nat):Int))),(5,.c (.int .i64 i))]) l.length ?_ ?_))
 ·exact⟨0,by omega,by omega,rfl,rfl⟩
 ·rintro m e1 H1 ⟨i,hm,hi,rfl,rfl⟩
  refine Qz ?_
  refine Qa ?_
  simp only[go_sem,hlen]
  intro hlm
  simp only[LIM]at hlm
  refine Qe (Qc rfl ?_ ?_)
  ·intro hc
   have hlt:i<l.length:=by simpa using hc
   obtain⟨x,hx⟩:∃x,l[i]=x:=⟨_,rfl⟩
   have hxs:x∈l:=by rw[←hx];exact List.getElem_mem hlt
   have htk:l.take (i+1)=l.take i++[x]:=by rw[List.take_succ_eq_append_getElem hlt,hx]
   have hcn:Q9 (l.take (i+1))=Q9 (l.take i)+Q9 [x]:=by rw[htk,Qun]
   have hle:Q9 (l.take (i+1))≤Q9 l:=by
    have:=Qun (l.take (i+1)) (l.drop (i+1))
    rw[List.take_append_drop]at this;omega
   obtain⟨kk,hkk⟩:∃kk,k+Q9 (l.take i)=kk:=⟨_,rfl⟩
   rw[hkk]
   simp only[Q9]at hcn
   have hdr:l=l.take i++x::l.drop (i+1):=by
    have:=(List.take_append_drop i l).symm
    rwa [List.drop_eq_getElem_cons hlt,hx]at this
   have hrow:(Q2 (Qa3 l k)).getD i []=[.int .i64 (kk:Nat),.int .i64 ((kk:Nat)+1),.str (mkT (kk+2)),.sl false 4 (Q2 (Qa3 x.kids (kk+3)))]:=by
    have e:Qa3 l k=Qa3 (l.take i) k++Qa3 (x::l.drop (i+1)) kk:=by
     rw[←hkk,←Q9i,←hdr]
    rw[e,Qa3]
    have h1:(Qa3 (l.take i) k).length=i:=by rw[Qoc,List.length_take];omega
    rw[Qag _ _ (by simp[Qoc];omega)]
    simp[h1,List.getElem_append_right,Ex.mark_eq,Ex.cells]
   have hcx:=x.cnt_eq
   have hsx:=Qad hxs
   have hsk:=x.size_kids
   refine Qf ?_
   try simp only[go_sem]
   refine Qe (Qd ?_)
   ·skip
    refine Qz ?_
    refine Qa ?_
    simp only[go_sem,hlt,hlen,hrow]
    refine Qe (Qc rfl (fun h=>by simp[lk]at h) (fun _=>?_))
    refine Qf ?_
    try simp only[go_sem]
    refine Qa ?_
    simp only[go_sem]
    refine⟨Qo (by omega) (by omega),?_⟩
    refine Qz ?_
    refine Qa ?_
    simp only[go_sem,hlt,hlen,hrow]
    refine Qe (Qc rfl (fun h=>by simp[lk]at h) (fun _=>?_))
    refine Qf ?_
    try simp only[go_sem]
    refine Qa ?_
    simp only[go_sem]
    refine⟨Qo (by omega) (by omega),?_⟩
    refine Qz ?_
    refine Qeo ?_
    simp only[go_sem,hlt,hlen,hrow]
    refine Qfc (k:=kk+2) (by omega) ?_
    simp only[go_sem,Qnn,hlt,hlen,hrow]
    refine Qe (Qc rfl (fun h=>by simp[lk]at h) (fun _=>?_))
    refine Qf ?_
    try simp only[go_sem]
    refine Qa ?_
    simp only[go_sem]
    refine⟨Qo (by omega) (by omega),?_⟩
    refine Qa ?_
    simp only[go_sem,hlt,hlen,hrow]
    have e4:((kk:Nat):Int)+1+1+1=((kk+3:Nat):Int):=by omega
    try rw[e4]
    refine ih (Qv x.kids) (by omega) x.kids false (kk+3) H1 _ (Nat.le_refl _) (by omega) ?_
    simp only[go_sem,Qno]
    refine Qa ?_
    simp only[go_sem]
    refine Qc rfl (fun h=>by have:=of_decide_eq_true h;omega) (fun _=>?_)
    refine Qf ?_
    try simp only[go_sem,AE.X.next]
    refine Qn ?_
    simp only[go_sem,AE.X.next]
    have e5:k+Q9 (l.take (i+1))=kk+3+Q9 x.kids:=by omega
    exact⟨Qo (by omega) (by omega),l.length-(i+1),by omega,i+1,rfl,by omega,by rw[e5];rfl⟩
  ·intro hc
   have hge:l.length≤i:=by have:=of_decide_eq_false hc;omega
   rw[List.take_of_length_le hge]
   refine Qu ?_
   simp only[go_sem,AE.X.next]
   refine Qa ?_
   simp only[go_sem]
   refine Qh ?_
   simp only[go_sem,Q0,Q6,Qam8,List.mem_singleton,forall_eq,RS.op]
   exact hK
theorem Qaqu:∀(n:Nat) (l:List St) (fl:Bool) (k:Nat) (H:Heap) (K:V→Heap→Prop),Qg l≤n→k+Q3 l<2 ^ 62→K (.c (.int .i64 ((k+Q3 l:Nat):Int))) H→Qj prog Qdf [.c (.sl fl 5 (Ql (Qay l k))),.c (.int .i64 (k:Nat))] H K:=by
 intro n
 induction n using Nat.strongRecOn with
 |ind n ih=>
 intro l fl k H K hn hb hK
 have hlen:(Ql (Qay l k)).length=l.length:=by rw[Qw,Qps]
 refine Qb Qaj Qadm ?_
 refine Qa ?_
 simp only[go_sem]
 refine Qz ?_
 refine Qa ?_
 simp only[go_sem]
 refine Qe (Qd (Qt (fun m e1 H1=>∃(i:Nat),m=l.length-i∧i≤l.length∧H1=H∧
  e1=[(0,.c (.sl fl 5 (Ql (Qay l k)))),(1,.c (.int .i64 ((k+Q3 (l.take i):Nat):Int))),(5,.c (.int .i64 i))]) l.length ?_ ?_))
 ·exact⟨0,by omega,by omega,rfl,rfl⟩
 ·rintro m e1 H1 ⟨i,hm,hi,rfl,rfl⟩
  refine Qz ?_
  refine Qa ?_
  simp only[go_sem,hlen]
  intro hlm
  simp only[LIM]at hlm
  refine Qe (Qc rfl ?_ ?_)
  ·intro hc
   have hlt:i<l.length:=by simpa using hc
   obtain⟨x,hx⟩:∃x,l[i]=x:=⟨_,rfl⟩
   have hxs:x∈l:=by rw[←hx];exact List.getElem_mem hlt
   have htk:l.take (i+1)=l.take i++[x]:=by rw[List.take_succ_eq_append_getElem hlt,hx]
   have hcn:Q3 (l.take (i+1))=Q3 (l.take i)+Q3 [x]:=by rw[htk,Qpt]
   have hle:Q3 (l.take (i+1))≤Q3 l:=by
    have:=Qpt (l.take (i+1)) (l.drop (i+1))
    rw[List.take_append_drop]at this;omega
   obtain⟨kk,hkk⟩:∃kk,k+Q3 (l.take i)=kk:=⟨_,rfl⟩
   rw[hkk]
   simp only[Q3]at hcn
   have hdr:l=l.take i++x::l.drop (i+1):=by
    have:=(List.take_append_drop i l).symm
    rwa [List.drop_eq_getElem_cons hlt,hx]at this
   have hrow:(Ql (Qay l k)).getD i []=[.int .i64 (kk:Nat),.str (mkT (kk+1)),.sl false 4 (Q2 (Qa3 x.args (kk+2))),.sl false 5 (Ql (Qay x.body (kk+2+Q9 x.args))),.sl false 5 (Ql (Qay x.els (kk+2+Q9 x.args+Q3 x.body)))]:=by
    have e:Qay l k=Qay (l.take i) k++Qay (x::l.drop (i+1)) kk:=by
     rw[←hkk,←Qac6,←hdr]
    rw[e,Qay]
    have h1:(Qay (l.take i) k).length=i:=by rw[Qps,List.length_take];omega
    rw[Qar _ _ (by simp[Qps];omega)]
    simp[h1,List.getElem_append_right,St.mark_eq,St.cells]
   have hcx:=x.mcnt_eq
   have hsx:=Qai hxs
   have hsk:=x.size_eq
   refine Qf ?_
   try simp only[go_sem]
   refine Qe (Qd ?_)
   ·skip
    refine Qz ?_
    refine Qa ?_
    simp only[go_sem,hlt,hlen,hrow]
    refine Qe (Qc rfl (fun h=>by simp[lk]at h) (fun _=>?_))
    refine Qf ?_
    try simp only[go_sem]
    refine Qa ?_
    simp only[go_sem]
    refine⟨Qo (by omega) (by omega),?_⟩
    refine Qz ?_
    refine Qeo ?_
    simp only[go_sem,hlt,hlen,hrow]
    refine Qfc (k:=kk+1) (by omega) ?_
    simp only[go_sem,Qnp,hlt,hlen,hrow]
    refine Qe (Qc rfl (fun h=>by simp[lk]at h) (fun _=>?_))
    refine Qf ?_
    try simp only[go_sem]
    refine Qa ?_
    simp only[go_sem]
    refine⟨Qo (by omega) (by omega),?_⟩
    refine Qa ?_
    simp only[go_sem,hlt,hlen,hrow]
    have e3:((kk:Nat):Int)+1+1=((kk+2:Nat):Int):=by omega
    try rw[e3]
    refine Qaqt (Qv x.args) x.args false (kk+2) H1 _ (Nat.le_refl _) (by omega) ?_
    simp only[go_sem,Qnq]
    refine Qz ?_
    refine Qa ?_
    simp only[go_sem]
    refine Qe (Qc rfl (fun h=>by have:=of_decide_eq_true h;omega) (fun _=>?_))
    refine Qf ?_
    try simp only[go_sem]
    refine Qa ?_
    simp only[go_sem,hlt,hlen,hrow]
    have e5:((kk+2+Q9 x.args:Nat):Int)=((kk+2+Q9 x.args:Nat):Int):=by omega
    try rw[e5]
    refine ih (Qg x.body) (by omega) x.body false (kk+2+Q9 x.args) H1 _ (Nat.le_refl _) (by omega) ?_
    simp only[go_sem,Qnr]
    refine Qz ?_
    refine Qa ?_
    simp only[go_sem]
    refine Qe (Qc rfl (fun h=>by have:=of_decide_eq_true h;omega) (fun _=>?_))
    refine Qf ?_
    try simp only[go_sem]
    refine Qa ?_
    simp only[go_sem,hlt,hlen,hrow]
    have e7:((kk+2+Q9 x.args+Q3 x.body:Nat):Int)=((kk+2+Q9 x.args+Q3 x.body:Nat):Int):=by omega
    try rw[e7]
    refine ih (Qg x.els) (by omega) x.els false (kk+2+Q9 x.args+Q3 x.body) H1 _ (Nat.le_refl _) (by omega) ?_
    simp only[go_sem,Qns]
    refine Qa ?_
    simp only[go_sem]
    refine Qc rfl (fun h=>by have:=of_decide_eq_true h;omega) (fun _=>?_)
    refine Qf ?_
    try simp only[go_sem,AE.X.next]
    refine Qn ?_
    simp only[go_sem,AE.X.next]
    have e5:k+Q3 (l.take (i+1))=kk+2+Q9 x.args+Q3 x.body+Q3 x.els:=by omega
    exact⟨Qo (by omega) (by omega),l.length-(i+1),by omega,i+1,rfl,by omega,by rw[e5];rfl⟩
  ·intro hc
   have hge:l.length≤i:=by have:=of_decide_eq_false hc;omega
   rw[List.take_of_length_le hge]
   refine Qu ?_
   simp only[go_sem,AE.X.next]
   refine Qa ?_
   simp only[go_sem]
   refine Qh ?_
   simp only[go_sem,Q0,Q6,Qam8,List.mem_singleton,forall_eq,RS.op]
   exact hK
theorem Qaiw:∀(n:Nat) (l:List (List UInt8)) (fl:Bool) (k:Nat) (H:Heap) (K:V→Heap→Prop),Qac l≤n→k+Qac l<2 ^ 62→K (.c (.int .i64 ((k+Qac l:Nat):Int))) H→Qj prog Qgi [.c (.sl fl 1 (Qy (Qas l k))),.c (.int .i64 (k:Nat))] H K:=by
 intro n
 induction n using Nat.strongRecOn with
 |ind n ih=>
 intro l fl k H K hn hb hK
 have hlen:(Qy (Qas l k)).length=l.length:=by rw[Qr,Qug]
 refine Qb Qaj Q5q ?_
 refine Qa ?_
 simp only[go_sem]
 refine Qz ?_
 refine Qa ?_
 simp only[go_sem]
 refine Qe (Qd (Qt (fun m e1 H1=>∃(i:Nat),m=l.length-i∧i≤l.length∧H1=H∧
  e1=[(0,.c (.sl fl 1 (Qy (Qas l k)))),(1,.c (.int .i64 ((k+Qac (l.take i):Nat):Int))),(5,.c (.int .i64 i))]) l.length ?_ ?_))
 ·exact⟨0,by omega,by omega,rfl,rfl⟩
 ·rintro m e1 H1 ⟨i,hm,hi,rfl,rfl⟩
  refine Qz ?_
  refine Qa ?_
  simp only[go_sem,hlen]
  intro hlm
  simp only[LIM]at hlm
  refine Qe (Qc rfl ?_ ?_)
  ·intro hc
   have hlt:i<l.length:=by simpa using hc
   obtain⟨x,hx⟩:∃x,l[i]=x:=⟨_,rfl⟩
   have hxs:x∈l:=by rw[←hx];exact List.getElem_mem hlt
   have htk:l.take (i+1)=l.take i++[x]:=by rw[List.take_succ_eq_append_getElem hlt,hx]
   have hcn:Qac (l.take (i+1))=Qac (l.take i)+Qac [x]:=by rw[htk,Qpp]
   have hle:Qac (l.take (i+1))≤Qac l:=by
    have:=Qpp (l.take (i+1)) (l.drop (i+1))
    rw[List.take_append_drop]at this;omega
   obtain⟨kk,hkk⟩:∃kk,k+Qac (l.take i)=kk:=⟨_,rfl⟩
   rw[hkk]
   simp only[Qac]at hcn
   have hdr:l=l.take i++x::l.drop (i+1):=by
    have:=(List.take_append_drop i l).symm
    rwa [List.drop_eq_getElem_cons hlt,hx]at this
   have hrow:(Qy (Qas l k)).getD i []=[.str (mkT kk)]:=by
    have e:Qas l k=Qas (l.take i) k++Qas (x::l.drop (i+1)) kk:=by
     rw[←hkk,←Q0z,←hdr]
    rw[e,Qas]
    have h1:(Qas (l.take i) k).length=i:=by rw[Qug,List.length_take];omega
    simp[Qy,List.getD_eq_getElem?_getD,List.getElem?_append_right,h1]
   refine Qf ?_
   try simp only[go_sem]
   refine Qe (Qd ?_)
   ·skip
    refine Qz ?_
    refine Qeo ?_
    simp only[go_sem,hlt,hlen,hrow]
    refine Qfc (k:=kk) (by omega) ?_
    simp only[go_sem,Qk6,hlt,hlen,hrow]
    refine Qe (Qc rfl (fun h=>by simp[lk]at h) (fun _=>?_))
    refine Qf ?_
    try simp only[go_sem]
    refine Qn ?_
    simp only[go_sem]
    refine⟨Qo (by omega) (by omega),?_⟩
    refine Qn ?_
    simp only[go_sem,AE.X.next]
    have e5:k+Qac (l.take (i+1))=kk+1:=by omega
    exact⟨Qo (by omega) (by omega),l.length-(i+1),by omega,i+1,rfl,by omega,by rw[e5];rfl⟩
  ·intro hc
   have hge:l.length≤i:=by have:=of_decide_eq_false hc;omega
   rw[List.take_of_length_le hge]
   refine Qu ?_
   simp only[go_sem,AE.X.next]
   refine Qa ?_
   simp only[go_sem]
   refine Qh ?_
   simp only[go_sem,Q0,Q6,Qam8,List.mem_singleton,forall_eq,RS.op]
   exact hK
theorem Qay7:∀(n:Nat) (l:List Fn) (fl:Bool) (k:Nat) (H:Heap) (K:V→Heap→Prop),l.length≤n→k+Qae l<2 ^ 62→K (.c (.int .i64 ((k+Qae l:Nat):Int))) H→Qj prog Qoi [.c (.sl fl 3 (Qm (Qbc l k))),.c (.int .i64 (k:Nat))] H K:=by
 intro n
 induction n using Nat.strongRecOn with
 |ind n ih=>
 intro l fl k H K hn hb hK
 have hlen:(Qm (Qbc l k)).length=l.length:=by rw[Qp,Qol]
 refine Qb Qaj Qamw ?_
 refine Qa ?_
 simp only[go_sem]
 refine Qz ?_
 refine Qa ?_
 simp only[go_sem]
 refine Qe (Qd (Qt (fun m e1 H1=>∃(i:Nat),m=l.length-i∧i≤l.length∧H1=H∧
  e1=[(0,.c (.sl fl 3 (Qm (Qbc l k)))),(1,.c (.int .i64 ((k+Qae (l.take i):Nat):Int))),(5,.c (.int .i64 i))]) l.length ?_ ?_))
 ·exact⟨0,by omega,by omega,rfl,rfl⟩
 ·rintro m e1 H1 ⟨i,hm,hi,rfl,rfl⟩
  refine Qz ?_
  refine Qa ?_
  simp only[go_sem,hlen]
  intro hlm
  simp only[LIM]at hlm
  refine Qe (Qc rfl ?_ ?_)
  ·intro hc
   have hlt:i<l.length:=by simpa using hc
   obtain⟨x,hx⟩:∃x,l[i]=x:=⟨_,rfl⟩
   have hxs:x∈l:=by rw[←hx];exact List.getElem_mem hlt
   have htk:l.take (i+1)=l.take i++[x]:=by rw[List.take_succ_eq_append_getElem hlt,hx]
   have hcn:Qae (l.take (i+1))=Qae (l.take i)+Qae [x]:=by rw[htk,Qom]
   have hle:Qae (l.take (i+1))≤Qae l:=by
    have:=Qom (l.take (i+1)) (l.drop (i+1))
    rw[List.take_append_drop]at this;omega
   obtain⟨kk,hkk⟩:∃kk,k+Qae (l.take i)=kk:=⟨_,rfl⟩
   rw[hkk]
   simp only[Qae]at hcn
   have hdr:l=l.take i++x::l.drop (i+1):=by
    have:=(List.take_append_drop i l).symm
    rwa [List.drop_eq_getElem_cons hlt,hx]at this
   have hrow:(Qm (Qbc l k)).getD i []=[.str (mkT kk),.sl false 1 (Qy (Qas x.params (kk+1))),.sl false 5 (Ql (Qay x.body (kk+1+Qac x.params)))]:=by
    have e:Qbc l k=Qbc (l.take i) k++Qbc (x::l.drop (i+1)) kk:=by
     rw[←hkk,←Q9q,←hdr]
    rw[e,Qbc]
    have h1:(Qbc (l.take i) k).length=i:=by rw[Qol,List.length_take];omega
    rw[Qam _ _ (by simp[Qol];omega)]
    simp[h1,List.getElem_append_right,Fn.mark,Fn.cells,Qe0]
   have hcx:x.mcnt=1+Qac x.params+Q3 x.body:=by rw[Fn.mcnt,Qe0]
   refine Qf ?_
   try simp only[go_sem]
   refine Qe (Qd ?_)
   ·skip
    refine Qz ?_
    refine Qeo ?_
    simp only[go_sem,hlt,hlen,hrow]
    refine Qfc (k:=kk) (by omega) ?_
    simp only[go_sem,Qtg,hlt,hlen,hrow]
    refine Qe (Qc rfl (fun h=>by simp[lk]at h) (fun _=>?_))
    refine Qf ?_
    try simp only[go_sem]
    refine Qa ?_
    simp only[go_sem]
    refine⟨Qo (by omega) (by omega),?_⟩
    refine Qa ?_
    simp only[go_sem,hlt,hlen,hrow]
    have e2:((kk:Nat):Int)+1=((kk+1:Nat):Int):=by omega
    try rw[e2]
    refine Qaiw (Qac x.params) x.params false (kk+1) H1 _ (Nat.le_refl _) (by omega) ?_
    simp only[go_sem,Qth]
    refine Qz ?_
    refine Qa ?_
    simp only[go_sem]
    refine Qe (Qc rfl (fun h=>by have:=of_decide_eq_true h;omega) (fun _=>?_))
    refine Qf ?_
    try simp only[go_sem]
    refine Qa ?_
    simp only[go_sem,hlt,hlen,hrow]
    have e4:((kk+1+Qac x.params:Nat):Int)=((kk+1+Qac x.params:Nat):Int):=by omega
    try rw[e4]
    refine Qaqu (Qg x.body) x.body false (kk+1+Qac x.params) H1 _ (Nat.le_refl _) (by omega) ?_
    simp only[go_sem,Qti]
    refine Qa ?_
    simp only[go_sem]
    refine Qc rfl (fun h=>by have:=of_decide_eq_true h;omega) (fun _=>?_)
    refine Qf ?_
    try simp only[go_sem,AE.X.next]
    refine Qn ?_
    simp only[go_sem,AE.X.next]
    have e5:k+Qae (l.take (i+1))=kk+1+Qac x.params+Q3 x.body:=by omega
    exact⟨Qo (by omega) (by omega),l.length-(i+1),by omega,i+1,rfl,by omega,by rw[e5];rfl⟩
  ·intro hc
   have hge:l.length≤i:=by have:=of_decide_eq_false hc;omega
   rw[List.take_of_length_le hge]
   refine Qu ?_
   simp only[go_sem,AE.X.next]
   refine Qa ?_
   simp only[go_sem]
   refine Qh ?_
   simp only[go_sem,Q0,Q6,Qam8,List.mem_singleton,forall_eq,RS.op]
   exact hK
theorem Qzl {fl:Bool}{k:Nat}(hb:k+Qae fns<2 ^ 62)(hK:K (.c (.int .i64 ((k+Qae fns:Nat):Int))) H):Qj prog Qd4 [.ag [.sl fl 3 (Qm (Qbc fns k))],.c (.int .i64 (k:Nat))] H K:=by
 refine Qb Qaj Q5p ?_
 refine Qa ?_
 simp only[go_sem]
 refine Qa ?_
 simp only[go_sem]
 refine Qay7 fns.length fns fl k H _ (Nat.le_refl _) hb ?_
 simp only[go_sem,Qk5]
 refine Qz ?_
 refine Qa ?_
 simp only[go_sem]
 refine Qe (Qc rfl (fun h=>by have:=of_decide_eq_true h;omega) (fun _=>?_))
 refine Qf ?_
 try simp only[go_sem]
 refine Qa ?_
 simp only[go_sem]
 refine Qh ?_
 simp only[go_sem,Q0,Q6,Qam8,List.mem_singleton,forall_eq,RS.op]
 exact hK
end Go.AE.Y

namespace Go.AE.Y
inductive TyC (P:Program):TypeId→List C→Prop
 |int {t:TypeId} (n:Int) (h:P.underlying t=some (.int .i64)) (h1:-(2 ^ 63)≤n) (h2:n<2 ^ 63):TyC P t [.int .i64 n]
 |str {t:TypeId} (s:List UInt8) (h:P.underlying t=some .string) (hl:s.length≤LIM):TyC P t [.str s]
 |stb {t:TypeId} (n:Nat) (h:P.underlying t=some .string) (hl:LIM<n) (h2:n<2 ^ 63):TyC P t [.stb n]
 |sl {t e:TypeId} (rows:List (List C)) (h:P.underlying t=some (.slice e)) (hl:rows.length≤LIM) (hr:∀r∈rows,TyC P e r) (hz:∀r∈rows,r.length=P.cellsOf e):TyC P t [.sl false (P.cellsOf e) rows]
 |slb {t e:TypeId} (n:Nat) (h:P.underlying t=some (.slice e)) (hl:LIM<n) (h2:n<2 ^ 63):TyC P t [.slb n]
 |st {t:TypeId} {fs:Array Field} (css:List (List C)) (h:P.underlying t=some (.struct fs)) (hl:css.length=fs.size) (hc:∀(k:Nat) (f:Field) (cs:List C),fs[k]? = some f→css[k]? = some cs→TyC P f.type cs):TyC P t css.flatten
def layB (P:Program):Nat→List Field→Option Nat
 |n,[]=>some n
 |n,f::r=>if f.offset=n then layB P (n+P.cellsOf f.type) r else none
def okT (P:Program)(L:List TypeId):Bool:=L.all fun t=>match P.underlying t with
 |some (.int k)=>k == .i64
 |some .string=>true
 |some (.slice e)=>L.contains e&&decide (0<P.cellsOf e)
 |some (.struct fs)=>fs.toList.all (fun f=>L.contains f.type)&&layB P 0 fs.toList == some (P.cellsOf t)
 |_=>false
theorem Q9b {β:Type}{n:Nat}{p:Nat→β→Prop}(h:∀i,i<n→∃b,p i b):∃l:List β,l.length=n∧∀(i:Nat) (b:β),l[i]? = some b→p i b:=by
 induction n with
 |zero=>exact⟨[],rfl,fun i b h=>by simp at h⟩
 |succ n ih=>
  obtain⟨l,h1,h2⟩:=ih fun i hi=>h i (by omega)
  obtain⟨b,hb⟩:=h n (by omega)
  refine⟨l++[b],by simp[h1],fun i c hc=>?_⟩
  rcases Nat.lt_or_ge i l.length with hi|hi
  ·rw[List.getElem?_append_left hi]at hc;exact h2 i c hc
  ·rw[List.getElem?_append_right hi]at hc
   have:i=l.length:=by
    rcases Nat.lt_or_ge (i-l.length) 1 with h'|h'
    ·omega
    ·rw[List.getElem?_eq_none (by simpa using h')]at hc;simp at hc
   subst this
   simp at hc;subst hc
   rw[h1];exact hb
theorem wf64 {n:Int}(h:(Lit.int .i64 n).wf=true):-(2 ^ 63)≤n∧n<2 ^ 63:=by
 simp[Lit.wf,IntKind.min,IntKind.max,IntKind.signed,IntKind.bits]at h
 omega
theorem Qamj {P:Program}:∀(fs:List Field) (n m:Nat) (cs:List Value) (css:List (List C)),layB P n fs=some m→cs.length=m→css.length=fs.length→
  (∀(k:Nat) (f:Field) (c:List C),fs[k]? = some f→css[k]? = some c→c.length=P.cellsOf f.type)→
  n+css.flatten.length=m∧∀{W:World} {g:G},(∀(k:Nat) (f:Field) (c:List C),fs[k]? = some f→css[k]? = some c→∀(j:Nat) (x:C) (v:Value),c[j]? = some x→((cs.drop f.offset).take (P.cellsOf f.type))[j]? = some v→RepC W g x v)→
   ∀(j:Nat) (x:C) (v:Value),css.flatten[j]? = some x→cs[n+j]? = some v→RepC W g x v
 |[],n,m,cs,css,h,hcs,hl,hk=>by
  simp only[layB,Option.some.injEq]at h
  have:css=[]:=List.length_eq_zero_iff.1 hl
  subst this
  exact⟨by simpa using h,fun _ j x v h1=>by simp at h1⟩
 |f::fs,n,m,cs,css,h,hcs,hl,hk=>by
  simp only[layB]at h
  split at h
  ·rename_i ho
   match css,hl with
   |c::css,hl=>
    have hc:=hk 0 f c rfl rfl
    obtain⟨h1,h2⟩:=Qamj fs (n+P.cellsOf f.type) m cs css h hcs (by simpa using hl) fun k f' c' a b=>hk (k+1) f' c' (by simpa using a) (by simpa using b)
    refine⟨by simp only[List.flatten_cons,List.length_append];omega,fun hr j x v hx hv=>?_⟩
    rw[List.flatten_cons]at hx
    rcases Nat.lt_or_ge j c.length with hj|hj
    ·rw[List.getElem?_append_left hj]at hx
     refine hr 0 f c rfl rfl j x v hx ?_
     rw[List.getElem?_take,if_pos (by omega),List.getElem?_drop,ho];exact hv
    ·rw[List.getElem?_append_right hj]at hx
     refine h2 (fun k f' c' a b=>hr (k+1) f' c' (by simpa using a) (by simpa using b)) (j-c.length) x v hx ?_
     rw[←hv];congr 1;omega
  ·simp at h
theorem Qa48 {W:World}{base:Nat}{a:Addr}{n:Nat}{row:List Value}(hn:0<n)(h:W.cells? base a n=some row):a.spot=none:=by
 obtain⟨_,hl,hc⟩:=World.cells?_some h
 have h0:=hc 0 hn
 rw[List.getElem?_eq_getElem (by omega)]at h0
 simpa[Addr.add]using World.cell?_spot h0
theorem open_ty {P:Program}{L:List TypeId}(hL:okT P L=true){H:Type}{enc:TypeId×Value→H}{W:World}{base:Nat}{sp:Nat→Bool}(hsp:∀b,sp b=true){hd:Bool}{g:G}(hg:∀b,b<W.heap.size→g.per b=true) :
  ∀(fuel:Nat) (t:TypeId),t∈L→∀(cs:List Value) (x:DataW H×List MemPlace),DataW.trod enc P W base sp hd fuel t cs=some x→
   ∃cells:List C,TyC P t cells∧cells.length=cs.length∧∀(j:Nat) (c:C) (v:Value),cells[j]? = some c→cs[j]? = some v→RepC W g c v:=by
 intro fuel
 induction fuel with
 |zero=>intro t _ cs x h;simp[DataW.trod]at h
 |succ fuel ih=>
  intro t ht cs x h
  have hok:=List.all_eq_true.1 hL t ht
  split at hok
  ·rename_i k hu
   obtain rfl:k=.i64:=by simpa using hok
   obtain⟨n,rfl,rfl,hw⟩:=DataW.trod_int hu h
   obtain⟨w1,w2⟩:=wf64 hw
   refine⟨_,.int n hu w1 w2,rfl,fun j c v h1 h2=>?_⟩
   match j with
   |0=>cases h1;cases h2;exact .int _ _
   |j+1=>simp at h1
  ·rename_i hu
   obtain⟨s,rfl,rfl,hw⟩:=DataW.trod_string hu h
   by_cases hl:s.size≤LIM
   ·refine⟨_,.str s.data.toList hu (by simpa using hl),rfl,fun j c v h1 h2=>?_⟩
    match j with
    |0=>
     cases h1;cases h2
     have:=RepC.str (w:=W) (g:=g) s.data.toList (by simpa using hl)
     have hb:s=⟨s.data.toList.toArray⟩:=by cases s;rfl
     rw[←hb]at this
     exact this
    |j+1=>simp at h1
   ·have hlt:s.size<2 ^ 63:=by unfold maxLen at hw;omega
    refine⟨_,.stb s.size hu (by omega) hlt,rfl,fun j c v h1 h2=>?_⟩
    match j with
    |0=>cases h1;cases h2;exact .stb s hlt
    |j+1=>simp at h1
  ·rename_i e hu
   simp only[Bool.and_eq_true,decide_eq_true_eq,List.contains_iff_mem]at hok
   obtain⟨he,hpos⟩:=hok
   rcases DataW.trod_slice hu h with ⟨rfl,rfl⟩|⟨a,len,cap,elems,rest,n,hn,rfl,rfl,hb,hl,hm,hlen,hel,hrest,_⟩
   ·refine⟨_,.sl [] hu (by simp) (by simp) (by simp),rfl,fun j c v h1 h2=>?_⟩
    match j with
    |0=>cases h1;cases h2;exact .slnil _ _ _
    |j+1=>simp at h1
   ·obtain rfl:n=fuel:=by omega
    have hcap:len<2 ^ 63:=by unfold maxLen at hm;omega
    by_cases hlim:len≤LIM
    ·have hrow:∀i,i<len→∃(q:List C×List Value),TyC P e q.1∧q.1.length=P.cellsOf e∧W.cells? base (a.add (i * P.cellsOf e)) (P.cellsOf e)=some q.2∧
       ∀(j:Nat) (c:C) (v:Value),q.1[j]? = some c→q.2[j]? = some v→RepC W g c v:=by
      intro i hi
      have h1:=hel i hi
      rw[List.getElem?_eq_getElem (by omega),Option.bind_eq_some_iff]at h1
      obtain⟨row,h2,h3⟩:=h1
      obtain⟨cells,k1,k2,k3⟩:=ih e he row _ h3
      exact⟨(cells,row),k1,k2.trans (World.cells?_some h2).2.1,h2,k3⟩
     obtain⟨qs,hql,hqs⟩:=Q9b hrow
     have hty:TyC P t [.sl false (P.cellsOf e) (qs.map Prod.fst)]:=.sl _ hu (by simpa[hql]using hlim) (fun r hr=>by
      obtain⟨q,hq,rfl⟩:=List.mem_map.1 hr
      obtain⟨i,hi⟩:=List.getElem?_of_mem hq
      exact (hqs i q hi).1) (fun r hr=>by
      obtain⟨q,hq,rfl⟩:=List.mem_map.1 hr
      obtain⟨i,hi⟩:=List.getElem?_of_mem hq
      exact (hqs i q hi).2.1)
     refine⟨_,hty,rfl,fun j c v h1 h2=>?_⟩
     match j with
     |j+1=>simp at h1
     |0=>
      cases h1;cases h2
      by_cases h0:cap=0
      ·have hl0:len=0:=by omega
       have:qs=[]:=List.length_eq_zero_iff.1 (by omega)
       subst this;subst h0;subst hl0
       exact .slnil _ _ _
      ·have hrow0:∃row,W.cells? base (a.add (0 * P.cellsOf e)) (P.cellsOf e)=some row:=by
        by_cases hl0:len=0
        ·have h1:=(hrest (hsp _)).2 0 (by omega)
         have hrl:=(hrest (hsp _)).1
         rw[List.getElem?_eq_getElem (by omega),Option.bind_eq_some_iff]at h1
         obtain⟨row,h2,_⟩:=h1
         rw[hl0]at h2
         exact⟨row,h2⟩
        ·have h1:=hel 0 (by omega)
         rw[List.getElem?_eq_getElem (by omega),Option.bind_eq_some_iff]at h1
         obtain⟨row,h2,_⟩:=h1
         exact⟨row,h2⟩
       obtain⟨row0,hrow0⟩:=hrow0
       have hspot:a.spot=none:=by simpa[Addr.add]using Qa48 hpos hrow0
       obtain⟨b,off,spot⟩:=a
       simp only at hspot
       subst hspot
       have hadd:∀o i,(⟨b,o,none⟩:Addr).add i=⟨b,o+i,none⟩:=by
        intro o i
        by_cases h:i=0 <;> simp[Addr.add,h]
       have hbk:b<W.heap.size:=by
        have hcc:=(World.cells?_some hrow0).2.2 0 hpos
        have hll:=(World.cells?_some hrow0).2.1
        rw[List.getElem?_eq_getElem (by omega)]at hcc
        rcases Nat.lt_or_ge b W.heap.size with h|h
        ·exact h
        ·simp[World.cell?,hadd,Array.getElem?_eq_none h]at hcc
       have hcell:∀(i:Nat) (q:List C×List Value),qs[i]? = some q→q.2.length=P.cellsOf e∧∀j,j<P.cellsOf e→W.cell? ⟨b,off+i * P.cellsOf e+j,none⟩=q.2[j]?:=by
        intro i q hq
        obtain⟨_,c1,c2⟩:=World.cells?_some (hqs i q hq).2.2.1
        refine⟨c1,fun j hj=>?_⟩
        have:=c2 j hj
        rw[hadd,hadd]at this
        exact this
       have:=RepC.sl (w:=W) (g:=g) false (P.cellsOf e) (qs.map Prod.fst) b off cap (fun i j=>((qs[i]?.map Prod.snd).getD []).getD j undef) (by simpa[hql]using hlim) (by simp) (by simpa[hql]using hl) (hg b hbk)
        (fun i row hi=>by
         rw[List.getElem?_map,Option.map_eq_some_iff]at hi
         obtain⟨q,hq,rfl⟩:=hi
         exact (hqs i q hq).2.1)
        (fun i row j c hi hj=>by
         rw[List.getElem?_map,Option.map_eq_some_iff]at hi
         obtain⟨q,hq,rfl⟩:=hi
         have hjl:j<P.cellsOf e:=by rw[←(hqs i q hq).2.1];exact (List.getElem?_eq_some_iff.1 hj).1
         obtain⟨c1,c2⟩:=hcell i q hq
         rw[c2 j hjl,hq]
         simp[List.getD_eq_getElem?_getD,List.getElem?_eq_getElem (show j<q.2.length by omega)])
        (fun i row j c hi hj=>by
         rw[List.getElem?_map,Option.map_eq_some_iff]at hi
         obtain⟨q,hq,rfl⟩:=hi
         have hjl:j<P.cellsOf e:=by rw[←(hqs i q hq).2.1];exact (List.getElem?_eq_some_iff.1 hj).1
         obtain⟨c1,_⟩:=hcell i q hq
         refine (hqs i q hq).2.2.2 j c _ hj ?_
         rw[hq]
         simp[List.getD_eq_getElem?_getD,List.getElem?_eq_getElem (show j<q.2.length by omega)])
       rw[List.length_map,hql]at this
       exact this
    ·refine⟨_,.slb len hu (by omega) hcap,rfl,fun j c v h1 h2=>?_⟩
     match j with
     |0=>cases h1;cases h2;exact .slb _ _ _ hcap
     |j+1=>simp at h1
  ·rename_i fs hu
   simp only[Bool.and_eq_true,List.all_eq_true,List.contains_iff_mem,beq_iff_eq]at hok
   obtain⟨hfs,hlay⟩:=hok
   obtain⟨xs,n,hn,rfl,hcl,hxl,hx⟩:=DataW.trod_struct hu h
   obtain rfl:n=fuel:=by omega
   have hf:∀i,i<fs.size→∃c:List C,∀f,fs[i]? = some f→TyC P f.type c∧c.length=((cs.drop f.offset).take (P.cellsOf f.type)).length∧
     ∀(j:Nat) (x:C) (v:Value),c[j]? = some x→((cs.drop f.offset).take (P.cellsOf f.type))[j]? = some v→RepC W g x v:=by
    intro i hi
    have h1:=hx i fs[i] (Array.getElem?_eq_getElem hi)
    rw[List.getElem?_eq_getElem (by omega)]at h1
    obtain⟨c,k1,k2,k3⟩:=ih _ (hfs fs[i] (by simp)) _ _ h1
    refine⟨c,fun f hfi=>?_⟩
    rw[Array.getElem?_eq_getElem hi]at hfi
    obtain rfl:=Option.some.inj hfi
    exact⟨k1,k2,k3⟩
   obtain⟨css,hcsl,hcss⟩:=Q9b hf
   have toA:∀(k:Nat) (f:Field),fs.toList[k]? = some f→fs[k]? = some f:=fun k f h=>by simpa using h
   have hbound:∀(k:Nat) (f:Field),fs.toList[k]? = some f→f.offset+P.cellsOf f.type≤cs.length:=by
    have gen:∀(l:List Field) (n m:Nat),layB P n l=some m→n≤m∧∀(k:Nat) (f:Field),l[k]? = some f→f.offset+P.cellsOf f.type≤m:=by
     intro l
     induction l with
     |nil=>intro n m h;simp[layB]at h;exact⟨by omega,fun k f h=>by simp at h⟩
     |cons a l ihl=>
      intro n m h
      simp only[layB]at h
      split at h
      ·rename_i ho
       obtain⟨q1,q2⟩:=ihl _ _ h
       refine⟨by omega,fun k f hk=>?_⟩
       cases k with
       |zero=>simp at hk;subst hk;omega
       |succ k=>exact q2 k f (by simpa using hk)
      ·simp at h
    intro k f hk
    have:=(gen _ _ _ hlay).2 k f hk
    omega
   have hlens:∀(k:Nat) (f:Field) (c:List C),fs.toList[k]? = some f→css[k]? = some c→c.length=P.cellsOf f.type:=fun k f c a b=>by
    have h1:=(hcss k c b f (toA k f a)).2.1
    have h2:=hbound k f a
    rw[h1,List.length_take,List.length_drop];omega
   obtain⟨l1,l2⟩:=Qamj fs.toList 0 _ cs css hlay hcl (by simpa using hcsl) hlens
   refine⟨css.flatten,.st css hu hcsl fun k f c a b=>(hcss k c b f a).1,by omega,fun j x v h1 h2=>?_⟩
   exact l2 (fun k f c a b=>(hcss k c b f (toA k f a)).2.2) j x v h1 (by rw[Nat.zero_add];exact h2)
  ·simp at hok
def Q38 (P:Program)(t:TypeId)(ts:List TypeId):Bool:=match P.underlying t with
 |some (.struct fs)=>fs.toList.map (·.type) == ts
 |_=>false
def Qaic (P:Program)(t e:TypeId)(n:Nat):Bool:=match P.underlying t with
 |some (.slice e')=>e' == e&&P.cellsOf e == n
 |_=>false
def strT (P:Program)(t:TypeId):Bool:=match P.underlying t with
 |some .string=>true
 |_=>false
def intT (P:Program)(t:TypeId):Bool:=match P.underlying t with
 |some (.int .i64)=>true
 |_=>false
variable {P:Program}{t e:TypeId}{cs:List C}
theorem TyC.of_int (h:TyC P t cs)(ht:intT P t=true):∃n,cs=[.int .i64 n]∧-(2 ^ 63)≤n∧n<2 ^ 63:=by
 unfold intT at ht
 split at ht
 ·rename_i hu
  cases h with
  |int n h a b=>exact⟨n,rfl,a,b⟩
  |_=>rename_i h _ _ <;> simp_all
 ·cases ht
theorem TyC.noOw (h:TyC P t cs):Go.AE.noOw cs=true:=by
 induction h with
 |st css h hl hc ih=>
  rename_i t fs
  unfold Go.AE.noOw
  rw[List.all_eq_true]
  intro c hcm
  obtain⟨cs,h1,h2⟩:=List.mem_flatten.1 hcm
  obtain⟨k,hk⟩:=List.getElem?_of_mem h1
  have hlt:k<css.length:=(List.getElem?_eq_some_iff.1 hk).1
  have:=ih k fs[k] cs (Array.getElem?_eq_getElem (by omega)) hk
  exact List.all_eq_true.1 this c h2
 |_=>rfl
def nmC (c:C):Prop:=(∃s,c=.str s)∨∃n,LIM<n∧n<2 ^ 63∧c=.stb n
theorem TyC.of_str (h:TyC P t cs)(ht:strT P t=true):∃c,cs=[c]∧nmC c:=by
 unfold strT at ht
 split at ht
 ·rename_i hu
  cases h with
  |str s h a=>exact⟨_,rfl,.inl ⟨s,rfl⟩⟩
  |stb n h a b=>exact⟨_,rfl,.inr ⟨n,a,b,rfl⟩⟩
  |_=>simp_all
 ·cases ht
theorem TyC.of_sl {n:Nat}(h:TyC P t cs)(ht:Qaic P t e n=true):(∃rows,cs=[.sl false n rows]∧rows.length≤LIM∧(∀r∈rows,TyC P e r)∧∀r∈rows,r.length=n)∨∃m,LIM<m∧m<2 ^ 63∧cs=[.slb m]:=by
 unfold Qaic at ht
 split at ht
 ·rename_i e' hu
  simp only[Bool.and_eq_true,beq_iff_eq]at ht
  obtain⟨rfl,rfl⟩:=ht
  cases h with
  |sl rows h a b c=>
   rw[hu]at h
   simp only[Option.some.injEq,TypeDesc.slice.injEq]at h
   subst h
   exact .inl ⟨rows,rfl,a,b,c⟩
  |slb m h a b=>exact .inr ⟨m,a,b,rfl⟩
  |_=>simp_all
 ·cases ht
theorem TyC.of_struct {ts:List TypeId}(h:TyC P t cs)(ht:Q38 P t ts=true):∃css:List (List C),cs=css.flatten∧css.length=ts.length∧∀(k:Nat) (ty:TypeId) (c:List C),ts[k]? = some ty→css[k]? = some c→TyC P ty c:=by
 unfold Q38 at ht
 split at ht
 ·rename_i fs' hu
  rw[beq_iff_eq]at ht
  subst ht
  cases h with
  |st css h hl hc=>
   rw[hu]at h
   simp only[Option.some.injEq,TypeDesc.struct.injEq]at h
   subst h
   refine⟨css,rfl,by simpa using hl,fun k ty c h1 h2=>?_⟩
   rw[List.getElem?_map,Option.map_eq_some_iff]at h1
   obtain⟨f,h3,rfl⟩:=h1
   exact hc k f c (by simpa using h3) h2
  |_=>simp_all
 ·cases ht
end Go.AE.Y

namespace Go.AE.Y
open Go.Proofs.Tryz
abbrev Qap6:Nat:=3
abbrev Qaih:Nat:=9
abbrev Qavg:Nat:=40
abbrev Qals:Nat:=42
abbrev Qaig:Nat:=54
abbrev Qa2q:Nat:=56
abbrev Qalt:Nat:=57
abbrev Qadb:Nat:=144
abbrev Qa5v:Nat:=146
abbrev Qa2r:Nat:=269
theorem Qa79:intT prog Qap6=true:=by kernel_rfl
theorem Qa5w:strT prog Qaih=true:=by kernel_rfl
theorem Qa92:Qaic prog Qalt Qaih 1=true:=by kernel_rfl
theorem Qbbi:Qaic prog Qaig Qa2q 4=true:=by kernel_rfl
theorem Qbbk:Qaic prog Qadb Qa2r 5=true:=by kernel_rfl
theorem Qbbj:Qaic prog Qavg Qa5v 3=true:=by kernel_rfl
theorem u_Ex:Q38 prog Qa2q [Qap6,Qap6,Qaih,Qaig]=true:=by kernel_rfl
theorem u_St:Q38 prog Qa2r [Qap6,Qaih,Qaig,Qadb,Qadb]=true:=by kernel_rfl
theorem u_Fn:Q38 prog Qa5v [Qaih,Qalt,Qadb]=true:=by kernel_rfl
theorem Qa91:Q38 prog Qals [Qavg]=true:=by kernel_rfl
theorem tys_ok:okT prog [Qap6,Qaih,Qavg,Qals,Qaig,Qa2q,Qalt,Qadb,Qa5v,Qa2r]=true:=by kernel_rfl
end Go.AE.Y

