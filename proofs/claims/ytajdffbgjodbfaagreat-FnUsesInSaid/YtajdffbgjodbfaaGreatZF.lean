/- Part 6 of the proof: the engine, codes, walks and plain laws, each named where it stands. -/
import Derived.Test.YtajdffbgjodbfaaGreatZE
import Derived.Below
import Derived.OpenShut
import Derived.ProofKit
open Nat (reduceEqDiff reduceAdd reduceLeDiff reduceLT)
set_option linter.unusedVariables false
set_option linter.unusedSimpArgs false
set_option maxRecDepth 4000
namespace Go.AE.Y
attribute [local go_sem] cond_true cond_false Bool.not_true Bool.not_false
attribute [local instance] Classical.propDecidable
open Go.Proofs.Tryz
variable {H H0:Heap}{K:V→Heap→Prop}{E B Lg:List (Nat×Obj)}{q:CodeD}
theorem Qazp {S:Nat→Bool}{a b c a' b' c':V}(h:FrzV H S a a')(k:FrzV H S b b')(l:FrzV H S c c'):FrzV H S (.tup [a,b,c]) (.tup [a',b',c']):=by
 refine .tup _ _ rfl fun j x x' h1 h2=>?_
 match j with
 |0=>simp at h1 h2;subst h1;subst h2;exact h
 |1=>simp at h1 h2;subst h1;subst h2;exact k
 |2=>simp at h1 h2;subst h1;subst h2;exact l
 |j+3=>simp at h1
theorem Qbea {cs:List CodeD}(h:0<cs.length):((cs.length:Int)-1)=((cs.length-1:Nat):Int):=by omega
set_option maxHeartbeats 4000000 in
theorem Qa1a {fl:Bool}{bs:List UInt8}(hK:∀(cs:List CodeD) (k r:Int) (H':Heap),Upd H H' []→UnitOk cs→-1≤k→k≤4→K (.tup [.ag [.sl false 3 (Qr cs)],.c (.int .i64 k),.c (.int .i64 r)]) H') :
  Qw prog Qp3 [.c (.sl fl 1 (Qbt bs))] H K:=by
 refine Qz ?_
 refine Qe Qax Qa1l ?_
 refine Qa ?_
 simp only[go_sem]
 intro x2 hx2 H1 h1
 have kn:=(Kn.start0 H).al hx2 h1
 simp only[go_sem,Qtl]
 refine Qa ?_
 simp only[go_sem]
 refine Qa5n fun R H2 hR h2=>?_
 have kn:=kn.al hR h2 (R.o_ne 0)
 simp only[go_sem,Qtm]
 refine Qa ?_
 simp only[go_sem]
 refine Qa5f (kn.l 1 rfl) (by omega) fun cs H3 k2 hk3 hk4 hu hok=>?_
 have kn:=kn.callL 1 rfl hu (R.o_ne _)
 simp only[go_sem,Qto]
 intro x6 hx6 H4 h4
 have kn:=kn.al hx6 h4
 have hx6:=kn.l 2 rfl
 simp only[go_sem,Qtn,hx6]
 intro H5 h5
 have kn:Kn H H5 [] [(x2,.st [.sl true 3 []]),(R.l,R.o k2),(x6,.st [.sl false 3 (Qr cs)])]:=kn.stL 2 rfl h5
 refine Q1 ?_
 refine Qa ?_
 simp only[go_sem]
 refine Qa7 (kn.l 1 rfl) (by omega) fun v H6 hv hu=>?_
 have kn:=kn.callL 1 rfl hu (R.o_ne _)
 simp only[go_sem,Qtp]
 refine Qcp (fun e2 H2=>∃(cs:List CodeD) (k:Nat),k≤20000000∧UnitOk cs∧Kn H H2 [] [(x2,.st [.sl true 3 []]),(R.l,R.o k),(x6,.st [.sl false 3 (Qr cs)])]∧lk 2 e2=.c (.ptr x2 0)∧lk 5 e2=.c (.ptr R.l 0)∧lk 6 e2=.c (.ptr x6 0)) ?_ ?_
 ·intro Q hnr _ _
  refine Qf rfl ?_ ?_
  ·intro _
   refine Qq ?_
   simp only[go_sem]
   refine Qajs (kn.l 1 rfl) (by omega) fun cs2 H7 k3 hk5 hk6 hu hok2=>?_
   have kn:=kn.callL 1 rfl hu (R.o_ne _)
   have hx6:=kn.l 2 rfl
   simp only[go_sem,Qtq,hx6]
   intro H8 h8
   have kn:=kn.stL 2 rfl h8
   exact hnr _ _ ⟨cs2,k3,by omega,hok2,kn,rfl,rfl,rfl⟩
  ·intro _
   refine Qi ?_
   try simp only[go_sem]
   exact hnr _ _ ⟨cs,k2+1,by omega,hok,kn,rfl,rfl,rfl⟩
 ·clear kn hx6 hok hk3 hk4
  rintro e2 H7 ⟨cs,k,hk,hok,kn,l2,l5,l6⟩
  have hx6:=kn.l 2 rfl
  obtain⟨h0,h4',hgd⟩:=hok
  have hi:cs.length-1<cs.length:=by omega
  refine Qa ?_
  simp only[go_sem,l2,l5,l6,hx6,Q6]
  try intro _
  refine⟨Qp (by omega) (by omega),fun _=>?_⟩
  refine Qfq (ns:=[(cs.length:Int)-1,0,-1,(cs.length:Int),0]) (kn.l 1 rfl) (by omega) (by simp) fun n H8 hn hu=>?_
  have kn:=kn.callL 1 rfl hu (R.o_ne _)
  have hn2:-1≤n∧n≤4:=by simp at hn;omega
  have hx6:=kn.l 2 rfl
  simp only[go_sem,Qtr,l2,l5,l6]
  refine Qa ?_
  simp only[go_sem,hx6,Q6,Qbea h0,hi,Qah _ _ hi,CodeD.cells]
  try intro _
  refine⟨Qp (by omega) (by omega),?_⟩
  generalize cs[cs.length-1].regs=rg
  refine Qar ?_
  simp only[go_sem,hx6]
  refine Qa7 (kn.l 1 rfl) (by omega) fun v1 H9 hv1 hu=>?_
  have kn:=kn.callL 1 rfl hu (R.o_ne _)
  have hx6:=kn.l 2 rfl
  simp only[go_sem,Qo4,hx6]
  refine Qa7 (kn.l 1 rfl) (by omega) fun v2 H10 hv2 hu=>?_
  have kn:=kn.callL 1 rfl hu (R.o_ne _)
  have hx6:=kn.l 2 rfl
  simp only[go_sem,Qo3,hx6]
  refine Qfq (ns:=[v1,0,v2,-1,rg]) (kn.l 1 rfl) (by omega) (by simp) fun r H11 hr hu=>?_
  have kn:=kn.callL 1 rfl hu (R.o_ne _)
  have hx6:=kn.l 2 rfl
  have hx2:=kn.l 0 rfl
  simp only[go_sem,Qtt,hx6,hx2]
  intro H12 h12
  have kn:=kn.stL 0 rfl h12
  have hx2:=kn.l 0 rfl
  simp only[go_sem,Qts]
  refine Qk ?_
  simp only[go_sem,Q7,Qae,Qadv,List.forall_mem_cons,List.not_mem_nil,RS.op,hx2]
  exact⟨fun _=>trivial,_,Qazp (Qi5 cs) (.c _ _ (Qg rfl)) (.c _ _ (Qg rfl)),hK cs n r _ kn.fin ⟨h0,h4',hgd⟩ hn2.1 hn2.2⟩
theorem Qai9 {fl:Bool}{bs:List UInt8}(hK:∀(cs:List CodeD) (k r:Int) (H':Heap),Upd H H' []→UnitOk cs→-1≤k→k≤4→K (.tup [.ag [.sl false 3 (Qr cs)],.c (.int .i64 k),.c (.int .i64 r)]) H') :
  Qw prog Qd5 [.c (.sl fl 1 (Qbt bs))] H K:=by
 refine Qz ?_
 refine Qe Qax Q3j ?_
 refine Qa ?_
 simp only[go_sem]
 intro x2 hx2 H1 h1
 have kn:=(Kn.start0 H).al hx2 h1
 simp only[go_sem,Qf8]
 refine Qa ?_
 simp only[go_sem]
 refine Qa1a fun cs k r H2 hu hok hk1 hk2=>?_
 have kn:=kn.call0 hu
 have hx2:=kn.l 0 rfl
 simp only[go_sem,Qga,List.getD_cons_zero,List.getD_cons_succ,hx2]
 intro H4 h4
 have kn:=kn.stL 0 rfl h4
 have hx2:=kn.l 0 rfl
 simp only[go_sem,Qf9]
 refine Qk ?_
 simp only[go_sem,Q7,Qae,Qle,List.forall_mem_cons,List.not_mem_nil,RS.op,hx2]
 exact⟨fun _=>trivial,_,Qazp (Qi5 cs) (.c _ _ (Qg rfl)) (.c _ _ (Qg rfl)),hK cs k r _ kn.fin hok hk1 hk2⟩
def caI (q:CodeD)(b j:Nat):List Plc:=((List.range j).filter fun i=>decide ((((Qb0 q b).ins[i]?).map InsD.op).getD 0=14)).map fun (i:Nat)=>((b:Int),(i:Int))
def caTo (q:CodeD)(b:Nat):List Plc:=(List.range b).flatMap fun b=>caI q b (Qb0 q b).ins.length
def caL (q:CodeD):List Plc:=caTo q q.blocks.length
noncomputable def callsI (cs:List CodeD)(k:Int):List Plc:=if hasG cs k=true then match cs[k.toNat]? with
 |some q=>caL q
 |none=>[]else []
end Go.AE.Y

namespace Go.AE.Y
attribute [local go_sem] cond_true cond_false Bool.not_true Bool.not_false
attribute [local instance] Classical.propDecidable
open Go.Proofs.Tryz
variable {H H0:Heap}{K:V→Heap→Prop}{E B Lg:List (Nat×Obj)}{q:CodeD}
def bks (q:CodeD):Nat:=q.blocks.length
noncomputable def blocksI (cs:List CodeD):Int:=if Qm6 cs=true then (Qkq bks cs:Nat)else -1
end Go.AE.Y

namespace Go.AE.Y
attribute [local go_sem] cond_true cond_false Bool.not_true Bool.not_false
attribute [local instance] Classical.propDecidable
open Go.Proofs.Tryz
variable {H H0:Heap}{K:V→Heap→Prop}{E B Lg:List (Nat×Obj)}{q:CodeD}
noncomputable def sizeI (cs:List CodeD)(k:Int):Int:=if hasG cs k=true then match cs[k.toNat]? with
 |some q=>(cntQ q:Nat)
 |none=>-1 else -1
end Go.AE.Y

namespace Go.AE.Y
attribute [local go_sem] cond_true cond_false Bool.not_true Bool.not_false
attribute [local instance] Classical.propDecidable
open Go.Proofs.Tryz
variable {H H0:Heap}{K:V→Heap→Prop}{E B Lg:List (Nat×Obj)}{q:CodeD}
section
variable {P:Program}{e:Env}{its r:List Item}{KK:Env→Heap→Prop}{d:Option Nat}{t:Nat}{w:Bool}{op:FOp}
def isF:Item→Bool
 |.f ..=>true
 |_=>false
end
def plcLt (p r:Plc):Prop:=p.1<r.1∨(p.1=r.1∧p.2<r.2)
end Go.AE.Y

namespace Go.AE.Y
attribute [local go_sem] cond_true cond_false Bool.not_true Bool.not_false
attribute [local instance] Classical.propDecidable
open Go.Proofs.Tryz
variable {H H0:Heap}{K:V→Heap→Prop}{E B Lg:List (Nat×Obj)}{q:CodeD}
def usP (y:BlkD):List Int:=y.phis.flatMap fun p=>p.args
def usI (y:BlkD):List Int:=y.ins.flatMap fun x=>x.args
def usO (y:BlkD):List Int:=if y.jump=1 then []else [y.on]
def usB (y:BlkD):List Int:=usP y++usI y++usO y
def Qub (q:CodeD)(n:Nat):List Int:=(List.range n).flatMap fun b=>usB (Qb0 q b)
def Qam (R:Nat)(U:List Int):List Int:=(List.range R).map fun (r:Nat)=>((U.count (r:Int):Nat):Int)
theorem Quc (n:Nat):Qub q (n+1)=Qub q n++usB (Qb0 q n):=by simp[Qub,List.range_succ]
theorem Qbc {R:Nat}{U:List Int}:(Qam R U).length=R:=by simp[Qam]
theorem Qazi {R:Nat}:Qam R []=List.replicate R 0:=by
 rw[Qam];simp[List.map_const']
theorem Qic {R r:Nat}{U:List Int}(h:r<R):(Qam R U).getD r 0=((U.count (r:Int):Nat):Int):=by
 simp[Qam,List.getD_eq_getElem?_getD,h]
theorem Qrf {R r:Nat}{U:List Int}(h:r<R):(Qam R U).set r (((U.count (r:Int):Nat):Int)+1)=Qam R (U++[(r:Int)]):=by
 refine List.ext_getElem (by simp[Qam]) fun i h1 h2=>?_
 simp only[Qam,List.getElem_set,List.getElem_map,List.getElem_range,List.count_append,List.count_singleton]
 by_cases hi:r=i
 ·subst hi;simp
 ·have:¬(r:Int)=(i:Int):=by omega
  simp[hi,this]
theorem flp {α:Type}{f:α→List Int}{l:List α}{i j:Nat}(h:i<l.length):((l.take i).flatMap f++(f l[i]).take j).length≤(l.flatMap f).length:=by
 have e:l.flatMap f=(l.take i).flatMap f++(f l[i]++(l.drop (i+1)).flatMap f):=by
  conv=>lhs;rw[←List.take_append_drop i l,List.flatMap_append,List.drop_eq_getElem_cons h,List.flatMap_cons]
 rw[e,List.length_append,List.length_append,List.length_append,List.length_take]
 omega
theorem Qm7 {α:Type}{f:α→List Int}{l:List α}{i:Nat}(h:i<l.length):(l.take (i+1)).flatMap f=(l.take i).flatMap f++f l[i]:=by
 rw[List.take_succ_eq_append_getElem h,List.flatMap_append];simp
theorem Qart {α:Type}{f:α→List Int}{n:Nat}:∀{l:List α},(∀x∈l,(f x).length≤n)→(l.flatMap f).length≤l.length * n
 |[],_=>by simp
 |x::l,h=>by
  have h1:=h x List.mem_cons_self
  have h2:=Qart (l:=l) (n:=n) (f:=f) fun y hy=>h y (List.mem_cons_of_mem _ hy)
  rw[List.flatMap_cons,List.length_append,List.length_cons,Nat.succ_mul];omega
theorem Qa0j (ho:q.ok){b:Nat}(hb:b<q.blocks.length):(usB (Qb0 q b)).length≤200000:=by
 have hk:=ho.bs b hb
 have hl:=ho.il b hb
 have hb1:=ho.b1
 rw[Qcg hb]
 have h1:(usP q.blocks[b]).length≤q.blocks[b].phis.length * 160:=Qart fun p hp=>by
  rw[hk.pal p hp];have:=Qbi (gnx q) (b:Int) q.blocks.length;omega
 have h2:(usI q.blocks[b]).length≤q.blocks[b].ins.length * 3:=Qart fun x hx=>hk.al x hx
 have h3:(usO q.blocks[b]).length≤1:=by rw[usO];split <;> simp
 rw[usB,List.length_append,List.length_append]
 omega
theorem Qai7 (ho:q.ok):∀n,n≤q.blocks.length→(Qub q n).length≤n * 200000
 |0,_=>by simp[Qub]
 |n+1,h=>by
  have h1:=Qai7 ho n (by omega)
  have h2:=Qa0j ho (b:=n) (by omega)
  rw[Quc,List.length_append];omega
theorem rIn.nt {v:Int}(h:rIn q v):∃r:Nat,v=(r:Int)∧r<q.regs.toNat:=⟨v.toNat,by have:=h.1;omega,by have:=h.1;have:=h.2;omega⟩
set_option maxHeartbeats 8000000 in
theorem Qa5j (ho:q.ok)(hK:∀H',Upd H H' []→K (.c (.sl false 1 (Qb (Qam q.regs.toNat (Qub q q.blocks.length))))) H') :
  Qw prog Qur [.ag q.cells] H K:=by
 have hb1:=ho.b1
 have hr0:=ho.r0
 have hr1:=ho.r1
 obtain⟨R,hR⟩:∃R,q.regs.toNat=R:=⟨_,rfl⟩
 have hRi:q.regs=(R:Int):=by omega
 rw[hR]at hK
 refine Qz ?_
 refine Qe Qax Qa6b ?_
 refine Qa ?_
 simp only[go_sem,CodeD.cells]
 refine Qa ?_
 simp only[go_sem,hRi]
 refine⟨by simp only[LIM];omega,fun y1 hy1 H1 h1=>?_⟩
 rw[Qeq,←Qazi]at h1
 have kn:=(Kn.start0 H).al hy1 h1
 simp only[go_sem,Qx7]
 refine Q1 ?_
 refine Qa ?_
 simp only[go_sem]
 refine Qh (Qc (Qt (fun m e1 H1=>∃(b:Nat),m=q.blocks.length-b∧b≤q.blocks.length∧Kn H H1 [] [(y1,.vec 1 (Qb (Qam R (Qub q b))))]∧
  lk 1 e1=.c (.pp [.int .i64 q.params,.int .i64 R,.sl false 5 (Qm q.blocks)])∧lk 3 e1=.c (.vsl y1 1 0 R)∧lk 4 e1=.c (.int .i64 b)) q.blocks.length ?_ ?_))
 ·exact⟨0,by omega,by omega,kn,rfl,rfl,rfl⟩
 ·clear kn h1
  rintro m e1 H2 ⟨b,hm,hb,kn,l1,l3,l4⟩
  refine Q1 ?_
  refine Qa ?_
  simp only[go_sem,l1,l3,l4,Qj]
  try intro _
  refine Qh (Qf rfl ?_ ?_)
  ·intro hc
   have hlt:b<q.blocks.length:=by simpa using hc
   obtain⟨y,hy⟩:∃y,q.blocks[b]=y:=⟨_,rfl⟩
   have hya:Qb0 q b=y:=by rw[Qcg hlt,hy]
   have hyo:=ho.bs b hlt
   have hlB:=Qa0j ho hlt
   have hlT:=Qai7 ho b hb
   have hyl:=ho.il b hlt
   rw[hy]at hyo hyl
   have hpl:∀p∈y.phis,p.args.length≤160:=fun p hp=>by
    rw[hyo.pal p hp];have:=Qbi (gnx q) (b:Int) q.blocks.length;omega
   rw[hya]at hlB
   simp only[usB,List.length_append]at hlB
   obtain⟨U,hU⟩:∃U,Qub q b=U:=⟨_,rfl⟩
   have hUs:Qub q (b+1)=U++usB y:=by rw[Quc,hU,hya]
   rw[hU]at kn hlT
   refine Qi ?_
   try simp only[go_sem]
   refine Qcp (fun e2 H2=>Kn H H2 [] [(y1,.vec 1 (Qb (Qam R (Qub q (b+1)))))]∧
    lk 1 e2=.c (.pp [.int .i64 q.params,.int .i64 R,.sl false 5 (Qm q.blocks)])∧lk 3 e2=.c (.vsl y1 1 0 R)∧lk 4 e2=.c (.int .i64 b)) ?_ ?_
   ·intro Q hnr _ _
    refine Qc ?_
    refine Qa ?_
    simp only[go_sem,l1,l3,l4,hlt,Qj,Qaa _ _ hlt,BlkD.cells,hy]
    intro x5 hx5 H3 h3
    have kn:=kn.al hx5 h3
    have hx5:H3 x5=.st [.sl true 2 [],.sl true 4 [],.int .i64 0,.int .i64 0,.sl true 1 []]:=kn.l 1 rfl
    simp only[go_sem,Qx8,hx5]
    intro H4 h4
    have kn:Kn H H4 [] [(y1,.vec 1 (Qb (Qam R U))),(x5,.st [.sl false 2 (Q0 y.phis),.sl false 4 (Qak y.ins),.int .i64 y.jump,.int .i64 y.on,.sl false 1 (Qb y.next)])]:=kn.stL 1 rfl h4
    clear h3 h4 hx5
    refine Q1 ?_
    refine Qa ?_
    simp only[go_sem]
    refine Qh (Qc (Qt (fun m e1 H1=>∃(i:Nat),m=y.phis.length-i∧i≤y.phis.length∧
     Kn H H1 [] [(y1,.vec 1 (Qb (Qam R (U++(y.phis.take i).flatMap fun p=>p.args)))),(x5,.st [.sl false 2 (Q0 y.phis),.sl false 4 (Qak y.ins),.int .i64 y.jump,.int .i64 y.on,.sl false 1 (Qb y.next)])]∧
     lk 1 e1=.c (.pp [.int .i64 q.params,.int .i64 R,.sl false 5 (Qm q.blocks)])∧lk 3 e1=.c (.vsl y1 1 0 R)∧lk 4 e1=.c (.int .i64 b)∧lk 5 e1=.c (.ptr x5 0)∧lk 6 e1=.c (.int .i64 i)) y.phis.length ?_ ?_))
    ·exact⟨0,by omega,by omega,by simpa using kn,rfl,rfl,rfl,rfl,rfl⟩
    ·clear kn l1 l3 l4
     rintro m2 e2 H5 ⟨i,hm2,hi,kn,l1,l3,l4,l5,l6⟩
     have hx5:=kn.l 1 rfl
     refine Q1 ?_
     refine Qa ?_
     simp only[go_sem,l1,l3,l4,l5,l6,hx5,Q5]
     try intro _
     refine Qh (Qf rfl ?_ ?_)
     ·intro hc2
      have hlt2:i<y.phis.length:=by simpa using hc2
      obtain⟨p,hp⟩:∃p,y.phis[i]=p:=⟨_,rfl⟩
      have hpm:p∈y.phis:=by rw[←hp];exact List.getElem_mem hlt2
      have hpl1:=hpl p hpm
      have hsu:=Qm7 (f:=fun p:PhiD=>p.args) hlt2
      rw[hp]at hsu
      have hpre:=fun j=>flp (f:=fun p:PhiD=>p.args) (j:=j) hlt2
      rw[hp]at hpre
      obtain⟨W,hW⟩:∃W,((y.phis.take i).flatMap fun p=>p.args)=W:=⟨_,rfl⟩
      rw[hW]at kn hsu hpre
      refine Qi ?_
      try simp only[go_sem]
      refine Qh (Qc ?_)
      refine Qa ?_
      simp only[go_sem]
      refine Qc (Qt (fun m e1 H1=>∃(j:Nat),m=p.args.length-j∧j≤p.args.length∧
       Kn H H1 [] [(y1,.vec 1 (Qb (Qam R (U++(W++p.args.take j))))),(x5,.st [.sl false 2 (Q0 y.phis),.sl false 4 (Qak y.ins),.int .i64 y.jump,.int .i64 y.on,.sl false 1 (Qb y.next)])]∧
       lk 1 e1=.c (.pp [.int .i64 q.params,.int .i64 R,.sl false 5 (Qm q.blocks)])∧lk 3 e1=.c (.vsl y1 1 0 R)∧lk 4 e1=.c (.int .i64 b)∧lk 5 e1=.c (.ptr x5 0)∧lk 6 e1=.c (.int .i64 i)∧lk 7 e1=.c (.int .i64 j)) p.args.length ?_ ?_)
      ·exact⟨0,by omega,by omega,by simpa using kn,rfl,rfl,rfl,rfl,rfl,rfl⟩
      ·clear kn l1 l3 l4 l5 l6 hx5
       rintro m3 e3 H6 ⟨j,hm3,hj,kn,l1,l3,l4,l5,l6,l7⟩
       have hx5:=kn.l 1 rfl
       have hy1:=kn.l 0 rfl
       refine Q1 ?_
       refine Qa ?_
       simp only[go_sem,l1,l3,l4,l5,l6,l7,hx5,hlt2,Q5,Qaz _ _ hlt2,PhiD.cells,hp,Qd]
       try intro _
       refine Qh (Qf rfl ?_ ?_)
       ·intro hc3
        have hlt3:j<p.args.length:=by simpa using hc3
        obtain⟨r,hr,hrR⟩:=(hyo.pargs p hpm _ (List.getElem_mem hlt3)).nt
        rw[hR]at hrR
        have hgd:p.args.getD j 0=(r:Int):=by simp[List.getD_eq_getElem?_getD,hlt3,hr]
        have hpj:=hpre j
        have hct:(U++(W++p.args.take j)).count (r:Int)≤40000000:=by
         have h1:=List.count_le_length (a:=(r:Int)) (l:=U++(W++p.args.take j))
         rw[List.length_append]at h1
         have:((y.phis.flatMap fun p=>p.args)).length≤200000:=by rw[usP]at hlB;omega
         omega
        have hcs:=Qrf (U:=U++(W++p.args.take j)) hrR
        have hcg:=Qic (U:=U++(W++p.args.take j)) hrR
        have htk:List.take R (Qb (Qam R (U++(W++p.args.take j))))=Qb (Qam R (U++(W++p.args.take j))):=List.take_of_length_le (by rw[Qd,Qbc];omega)
        have hrl:r<(Qam R (U++(W++p.args.take j))).length:=by rw[Qbc];exact hrR
        refine Qi ?_
        try simp only[go_sem]
        refine Qh (Qc ?_)
        refine Qba ?_
        simp only[go_sem,l1,l3,l4,l5,l6,l7,hx5,hy1,hlt2,hlt3,hgd,hrR,Q5,Qaz _ _ hlt2,PhiD.cells,hp,Qd,Qn _ _ hlt3,Qbc,Qn _ _ hrl,hcg,htk,Qbf,hcs,Nat.zero_add,Nat.le_refl]
        refine⟨Qp (by omega) (by omega),fun H7 h7=>?_⟩
        have kn:=kn.stL 0 rfl h7
        have e2:U++(W++p.args.take (j+1))=U++(W++p.args.take j)++[(r:Int)]:=by
         rw[List.take_succ_eq_append_getElem hlt3,hr];simp
        refine Qq ?_
        simp only[go_sem]
        refine⟨Qp (by omega) (by omega),?_⟩
        show ∃m,_
        exact⟨p.args.length-(j+1),by omega,j+1,rfl,by omega,by rw[e2];exact kn,rfl,rfl,rfl,rfl,rfl,rfl⟩
       ·intro hc3
        have hje:p.args.length≤j:=by simpa using hc3
        rw[List.take_of_length_le hje]at kn
        refine Qs ?_
        simp only[go_sem,X.next]
        refine Qq ?_
        simp only[go_sem,l1,l3,l4,l5,l6]
        refine⟨Qp (by omega) (by omega),?_⟩
        show ∃m,_
        exact⟨y.phis.length-(i+1),by omega,i+1,rfl,by omega,by rw[hsu];exact kn,rfl,rfl,rfl,rfl,rfl⟩
     ·intro hc2
      have hge:y.phis.length≤i:=by simpa using hc2
      rw[List.take_of_length_le hge]at kn
      refine Qs ?_
      simp only[go_sem,X.next]
      refine Q1 ?_
      refine Qa ?_
      simp only[go_sem,l1,l3,l4,l5]
      obtain⟨U2,hU2⟩:∃U2,U++usP y=U2:=⟨_,rfl⟩
      have kn:Kn H H5 [] [(y1,.vec 1 (Qb (Qam R U2))),(x5,.st [.sl false 2 (Q0 y.phis),.sl false 4 (Qak y.ins),.int .i64 y.jump,.int .i64 y.on,.sl false 1 (Qb y.next)])]:=by rw[←hU2];exact kn
      have hl2:U2.length≤b * 200000+200000:=by rw[←hU2,List.length_append];omega
      refine Qh (Qc (Qt (fun m e1 H1=>∃(i:Nat),m=y.ins.length-i∧i≤y.ins.length∧
       Kn H H1 [] [(y1,.vec 1 (Qb (Qam R (U2++(y.ins.take i).flatMap fun x=>x.args)))),(x5,.st [.sl false 2 (Q0 y.phis),.sl false 4 (Qak y.ins),.int .i64 y.jump,.int .i64 y.on,.sl false 1 (Qb y.next)])]∧
       lk 1 e1=.c (.pp [.int .i64 q.params,.int .i64 R,.sl false 5 (Qm q.blocks)])∧lk 3 e1=.c (.vsl y1 1 0 R)∧lk 4 e1=.c (.int .i64 b)∧lk 5 e1=.c (.ptr x5 0)∧lk 8 e1=.c (.int .i64 i)) y.ins.length ?_ ?_))
      ·exact⟨0,by omega,by omega,by simpa using kn,rfl,rfl,rfl,rfl,rfl⟩
      ·clear kn l1 l3 l4
       rintro m2 e2 G5 ⟨i,hm2,hi,kn,l1,l3,l4,l5,l8⟩
       have hx5:=kn.l 1 rfl
       refine Q1 ?_
       refine Qa ?_
       simp only[go_sem,l1,l3,l4,l5,l8,hx5,Qan]
       try intro _
       refine Qh (Qf rfl ?_ ?_)
       ·intro hc2
        have hlt2:i<y.ins.length:=by simpa using hc2
        obtain⟨x,hx⟩:∃x,y.ins[i]=x:=⟨_,rfl⟩
        have hxm:x∈y.ins:=by rw[←hx];exact List.getElem_mem hlt2
        have hpl1:=hyo.al x hxm
        have hsu:=Qm7 (f:=fun x:InsD=>x.args) hlt2
        rw[hx]at hsu
        have hpre:=fun j=>flp (f:=fun x:InsD=>x.args) (j:=j) hlt2
        rw[hx]at hpre
        obtain⟨W,hW⟩:∃W,((y.ins.take i).flatMap fun x=>x.args)=W:=⟨_,rfl⟩
        rw[hW]at kn hsu hpre
        refine Qi ?_
        try simp only[go_sem]
        refine Qh (Qc ?_)
        refine Qa ?_
        simp only[go_sem]
        refine Qc (Qt (fun m e1 H1=>∃(j:Nat),m=x.args.length-j∧j≤x.args.length∧
         Kn H H1 [] [(y1,.vec 1 (Qb (Qam R (U2++(W++x.args.take j))))),(x5,.st [.sl false 2 (Q0 y.phis),.sl false 4 (Qak y.ins),.int .i64 y.jump,.int .i64 y.on,.sl false 1 (Qb y.next)])]∧
         lk 1 e1=.c (.pp [.int .i64 q.params,.int .i64 R,.sl false 5 (Qm q.blocks)])∧lk 3 e1=.c (.vsl y1 1 0 R)∧lk 4 e1=.c (.int .i64 b)∧lk 5 e1=.c (.ptr x5 0)∧lk 8 e1=.c (.int .i64 i)∧lk 9 e1=.c (.int .i64 j)) x.args.length ?_ ?_)
        ·exact⟨0,by omega,by omega,by simpa using kn,rfl,rfl,rfl,rfl,rfl,rfl⟩
        ·clear kn l1 l3 l4 l5 l8 hx5
         rintro m3 e3 G6 ⟨j,hm3,hj,kn,l1,l3,l4,l5,l8,l9⟩
         have hx5:=kn.l 1 rfl
         have hy1:=kn.l 0 rfl
         refine Q1 ?_
         refine Qa ?_
         simp only[go_sem,l1,l3,l4,l5,l8,l9,hx5,hlt2,Qan,Qb1 _ _ hlt2,InsD.cells,hx,Qd]
         try intro _
         refine Qh (Qf rfl ?_ ?_)
         ·intro hc3
          have hlt3:j<x.args.length:=by simpa using hc3
          obtain⟨r,hr,hrR⟩:=(hyo.args x hxm _ (List.getElem_mem hlt3)).nt
          rw[hR]at hrR
          have hgd:x.args.getD j 0=(r:Int):=by simp[List.getD_eq_getElem?_getD,hlt3,hr]
          have hpj:=hpre j
          have hct:(U2++(W++x.args.take j)).count (r:Int)≤40000000:=by
           have h1:=List.count_le_length (a:=(r:Int)) (l:=U2++(W++x.args.take j))
           rw[List.length_append]at h1
           have:((y.ins.flatMap fun x=>x.args)).length≤200000:=by rw[usI]at hlB;omega
           omega
          have hcs:=Qrf (U:=U2++(W++x.args.take j)) hrR
          have hcg:=Qic (U:=U2++(W++x.args.take j)) hrR
          have htk:List.take R (Qb (Qam R (U2++(W++x.args.take j))))=Qb (Qam R (U2++(W++x.args.take j))):=List.take_of_length_le (by rw[Qd,Qbc];omega)
          have hrl:r<(Qam R (U2++(W++x.args.take j))).length:=by rw[Qbc];exact hrR
          refine Qi ?_
          try simp only[go_sem]
          refine Qh (Qc ?_)
          refine Qba ?_
          simp only[go_sem,l1,l3,l4,l5,l8,l9,hx5,hy1,hlt2,hlt3,hgd,hrR,Qan,Qb1 _ _ hlt2,InsD.cells,hx,Qd,Qn _ _ hlt3,Qbc,Qn _ _ hrl,hcg,htk,Qbf,hcs,Nat.zero_add,Nat.le_refl]
          refine⟨Qp (by omega) (by omega),fun G7 g7=>?_⟩
          have kn:=kn.stL 0 rfl g7
          have e2:U2++(W++x.args.take (j+1))=U2++(W++x.args.take j)++[(r:Int)]:=by
           rw[List.take_succ_eq_append_getElem hlt3,hr];simp
          refine Qq ?_
          simp only[go_sem]
          refine⟨Qp (by omega) (by omega),?_⟩
          show ∃m,_
          exact⟨x.args.length-(j+1),by omega,j+1,rfl,by omega,by rw[e2];exact kn,rfl,rfl,rfl,rfl,rfl,rfl⟩
         ·intro hc3
          have hje:x.args.length≤j:=by simpa using hc3
          rw[List.take_of_length_le hje]at kn
          refine Qs ?_
          simp only[go_sem,X.next]
          refine Qq ?_
          simp only[go_sem,l1,l3,l4,l5,l8]
          refine⟨Qp (by omega) (by omega),?_⟩
          show ∃m,_
          exact⟨y.ins.length-(i+1),by omega,i+1,rfl,by omega,by rw[hsu];exact kn,rfl,rfl,rfl,rfl,rfl⟩
       ·intro hc2
        have hge:y.ins.length≤i:=by simpa using hc2
        rw[List.take_of_length_le hge]at kn
        refine Qs ?_
        simp only[go_sem,X.next]
        refine Qa ?_
        simp only[go_sem,l1,l3,l4,l5,hx5]
        have hy1:=kn.l 0 rfl
        obtain⟨U3,hU3⟩:∃U3,(U2++y.ins.flatMap fun x=>x.args)=U3:=⟨_,rfl⟩
        rw[hU3]at kn hy1
        have hUe:Qub q (b+1)=U3++usO y:=by rw[hUs,←hU3,←hU2,usB,←List.append_assoc,←List.append_assoc];rfl
        have hl3:U3.length≤b * 200000+400000:=by
         rw[←hU3,List.length_append]
         have:(y.ins.flatMap fun x=>x.args).length≤200000:=by rw[usI]at hlB;omega
         omega
        refine Qf rfl ?_ ?_
        ·intro hc4
         have hj:¬y.jump=1:=by simpa using hc4
         obtain⟨r,hr,hrR⟩:=(hyo.on hj).nt
         rw[hR]at hrR
         have hct:U3.count (r:Int)≤40000000:=by
          have h1:=List.count_le_length (a:=(r:Int)) (l:=U3)
          omega
         have hcs:=Qrf (U:=U3) hrR
         have hcg:=Qic (U:=U3) hrR
         have htk:List.take R (Qb (Qam R U3))=Qb (Qam R U3):=List.take_of_length_le (by rw[Qd,Qbc];omega)
         have hrl:r<(Qam R U3).length:=by rw[Qbc];exact hrR
         refine Qba ?_
         simp only[go_sem,hx5,hy1,hr,hrR,Qd,Qbc,Qn _ _ hrl,hcg,htk,Qbf,hcs,Nat.zero_add,Nat.le_refl]
         refine⟨Qp (by omega) (by omega),fun G8 g8=>?_⟩
         have kn:=kn.stL 0 rfl g8
         refine hnr _ _ ⟨?_,rfl,rfl,rfl⟩
         rw[hUe,usO,if_neg hj,hr]
         exact Kn.drop (B:=[(x5,_)]) (kn.perm (List.Perm.refl _))
        ·intro hc4
         have hj:y.jump=1:=by simpa using hc4
         refine Qi ?_
         try simp only[go_sem]
         refine hnr _ _ ⟨?_,rfl,rfl,rfl⟩
         rw[hUe,usO,if_pos hj,List.append_nil]
         exact Kn.drop (B:=[(x5,_)]) (kn.perm (List.Perm.refl _))
   ·rintro e3 H6 ⟨kn,l1,l3,l4⟩
    refine Qq ?_
    simp only[go_sem,l1,l3,l4]
    refine⟨Qp (by omega) (by omega),?_⟩
    show ∃m,_
    exact⟨q.blocks.length-(b+1),by omega,b+1,rfl,by omega,kn,rfl,rfl,rfl⟩
  ·intro hc
   have hbe:b=q.blocks.length:=by have:q.blocks.length≤b:=(by simpa using hc);omega
   subst hbe
   have hy1:=kn.l 0 rfl
   refine Qs ?_
   simp only[go_sem,X.next]
   refine Qa ?_
   simp only[go_sem,l3]
   refine Qk ?_
   simp only[go_sem,Q7,Qae,Qakq,List.mem_singleton,forall_eq,RS.op]
   exact⟨_,.c _ _ ((FrzR.same (Qu _)).vsl (kn.un 0 rfl) hy1 (by rw[Qd,Qbc])),hK _ kn.fin⟩
end Go.AE.Y

namespace Go.AE.Y
attribute [local go_sem] cond_true cond_false Bool.not_true Bool.not_false
attribute [local instance] Classical.propDecidable
open Go.Proofs.Tryz
variable {H H0:Heap}{K:V→Heap→Prop}{E B Lg:List (Nat×Obj)}{q:CodeD}
set_option maxHeartbeats 4000000 in
theorem Qbcz {y1 x3 R:Nat}{U args:List Int}{f:Bool}(hne:x3≠y1)(hR:R≤1000)(hx:H x3=.st [.vsl y1 1 0 R])(hy:H y1=.vec 1 (Qb (Qam R U)))
  (ha:∀v∈args,∃r:Nat,v=(r:Int)∧r<R) (hb:U.length+args.length≤40000000) (hK:∀H',Upd H H' [(y1,.vec 1 (Qb (Qam R (U++args))))]→K (.tup []) H') :
  Qw prog Qat [.c (.sl f 1 (Qb args)),.c (.ptr x3 0)] H K:=by
 refine Qe Qax Q9v ?_
 have kn:=Kn.start1 hy (by nofun)
 refine Qa ?_
 simp only[go_sem,Qd]
 try intro _
 refine Qc (Qt (fun m e1 H1=>∃(j:Nat),m=args.length-j∧j≤args.length∧Kn H H1 [(y1,.vec 1 (Qb (Qam R (U++args.take j))))] []∧H1 x3=.st [.vsl y1 1 0 R]∧
  lk 1 e1=.c (.ptr x3 0)∧lk 5 e1=.c (.sl f 1 (Qb args))∧lk 6 e1=.c (.int .i64 args.length)∧lk 7 e1=.c (.int .i64 j)) args.length ?_ ?_)
 ·exact⟨0,by omega,by omega,by simpa using kn,hx,rfl,rfl,rfl,rfl⟩
 ·clear kn hy hx
  rintro m e1 H2 ⟨j,hm,hj,kn,hx,l1,l5,l6,l7⟩
  have hy:=kn.e 0 rfl
  refine Qa ?_
  simp only[go_sem,l1,l5,l6,l7]
  refine Qh (Qf rfl ?_ ?_)
  ·intro hc3
   have hlt3:j<args.length:=by simpa using hc3
   obtain⟨r,hr,hrR⟩:=ha _ (List.getElem_mem hlt3)
   have hgd:args.getD j 0=(r:Int):=by simp[List.getD_eq_getElem?_getD,hlt3,hr]
   obtain⟨W,hW⟩:∃W,U++args.take j=W:=⟨_,rfl⟩
   have e2:U++args.take (j+1)=W++[(r:Int)]:=by
    rw[List.take_succ_eq_append_getElem hlt3,hr,←hW];simp
   rw[hW]at kn hy
   have hct:W.count (r:Int)≤40000000:=by
    have h1:=List.count_le_length (a:=(r:Int)) (l:=W)
    rw[←hW,List.length_append,List.length_take]at h1
    rw[←hW]
    omega
   have hcs:=Qrf (U:=W) hrR
   have hcg:=Qic (U:=W) hrR
   have htk:List.take R (Qb (Qam R W))=Qb (Qam R W):=List.take_of_length_le (by rw[Qd,Qbc];omega)
   have hrl:r<(Qam R W).length:=by rw[Qbc];exact hrR
   refine Qi ?_
   try simp only[go_sem]
   refine Qh (Qc ?_)
   refine Qa ?_
   simp only[go_sem,l1,l5,l6,l7,hlt3,hgd,Qd,Qn _ _ hlt3]
   refine Qq ?_
   simp only[go_sem,hx,hy,hrR,Qd,Qbc,Qn _ _ hrl,hcg,htk,Qbf,hcs,Nat.zero_add,Nat.le_refl]
   refine⟨Qp (by omega) (by omega),fun H7 h7=>?_⟩
   have kn:=kn.stE 0 rfl h7
   have hx:H7 x3=.st [.vsl y1 1 0 R]:=by rw[h7,Heap.set_other _ _ hne];exact hx
   refine Qq ?_
   simp only[go_sem]
   refine⟨Qp (by omega) (by omega),?_⟩
   show ∃m,_
   exact⟨args.length-(j+1),by omega,j+1,rfl,by omega,by rw[e2];exact kn,hx,rfl,rfl,rfl,rfl⟩
  ·intro hc3
   have hje:args.length≤j:=by simpa using hc3
   rw[List.take_of_length_le hje]at kn
   refine Qs ?_
   simp only[go_sem,X.next,Q7,Qae,Qod,List.mem_singleton,forall_eq,RS.op]
   exact hK _ kn.upd
set_option maxHeartbeats 4000000 in
theorem Qbff {y:BlkD}{b R x3 x6 y1 n:Nat}{U:List Int}{rows:List (List C)}{Q:X→Env→Heap→Prop}{e:Env}(hR:q.regs.toNat=R)(hR1:R≤1000)(hyo:y.ok q b)(hil:y.ins.length≤1200∧y.phis.length≤1200)(hpl:∀p∈y.phis,p.args.length≤160)
  (hUl:U.length≤35000000) (kn:Kn H0 H [] [(y1,.vec 1 (Qb (Qam R U))),(x3,.st [.vsl y1 1 0 R]),(x6,.st [.sl false 2 (Q0 y.phis),.sl false 4 (Qak y.ins),.int .i64 y.jump,.int .i64 y.on,.sl false 1 (Qb y.next)])])
  (he:e=[(3,.c (.ptr x3 0)),(4,.c (.fn Qat [.ptr x3 0])),(6,.c (.ptr x6 0)),(16,.c (.sl false 5 rows)),(17,.c (.int .i64 n)),(18,.c (.int .i64 b)),(23,.c (.sl false 2 (Q0 y.phis))),(24,.c (.int .i64 y.phis.length)),(25,.c (.int .i64 0))])
  (hQ:∀H',Kn H0 H' [] [(y1,.vec 1 (Qb (Qam R (U++usP y)))),(x3,.st [.vsl y1 1 0 R]),(x6,.st [.sl false 2 (Q0 y.phis),.sl false 4 (Qak y.ins),.int .i64 y.jump,.int .i64 y.on,.sl false 1 (Qb y.next)])]→
   ∀e',lk 3 e'=.c (.ptr x3 0)→lk 4 e'=.c (.fn Qat [.ptr x3 0])→lk 6 e'=.c (.ptr x6 0)→lk 16 e'=.c (.sl false 5 rows)→lk 17 e'=.c (.int .i64 n)→lk 18 e'=.c (.int .i64 b)→Qab prog Qgx Q e' H') :
  Qab prog (.seq (.block 2 (.loop Qoy)) Qgx) Q e H:=by
 subst he
 refine Qh (Qc (Qt (fun m e1 H1=>∃(i:Nat),m=y.phis.length-i∧i≤y.phis.length∧Kn H0 H1 [] [(y1,.vec 1 (Qb (Qam R (U++(y.phis.take i).flatMap fun p=>p.args)))),(x3,.st [.vsl y1 1 0 R]),(x6,.st [.sl false 2 (Q0 y.phis),.sl false 4 (Qak y.ins),.int .i64 y.jump,.int .i64 y.on,.sl false 1 (Qb y.next)])]∧
  lk 3 e1=.c (.ptr x3 0)∧lk 4 e1=.c (.fn Qat [.ptr x3 0])∧lk 6 e1=.c (.ptr x6 0)∧lk 16 e1=.c (.sl false 5 rows)∧lk 17 e1=.c (.int .i64 n)∧lk 18 e1=.c (.int .i64 b)∧
  lk 23 e1=.c (.sl false 2 (Q0 y.phis))∧lk 24 e1=.c (.int .i64 y.phis.length)∧lk 25 e1=.c (.int .i64 i)) y.phis.length ?_ ?_))
 ·exact⟨0,by omega,by omega,by simpa using kn,rfl,rfl,rfl,rfl,rfl,rfl,rfl,rfl,rfl⟩
 ·clear kn
  rintro m e1 H2 ⟨i,hm,hi,kn,l3,l4,l6,l16,l17,l18,la,ln,lc⟩
  refine Qa ?_
  simp only[go_sem,l3,l4,l6,l16,l17,l18,la,ln,lc]
  refine Qh (Qf rfl ?_ ?_)
  ·intro hc
   have hlt:i<y.phis.length:=by simpa using hc
   obtain⟨p,hp⟩:∃p,y.phis[i]=p:=⟨_,rfl⟩
   have hpm:p∈y.phis:=by rw[←hp];exact List.getElem_mem hlt
   have hpl1:=hpl p hpm
   have hsu:=Qm7 (f:=fun p:PhiD=>p.args) hlt
   rw[hp]at hsu
   have hfl:((y.phis.take i).flatMap fun p=>p.args).length≤(y.phis.take i).length * 160:=Qart fun p hp=>by
    have hpm:=List.mem_of_mem_take hp
    have:=hpl p hpm;omega
   rw[List.length_take]at hfl
   refine Qi ?_
   try simp only[go_sem]
   refine Qh (Qc ?_)
   refine Qa ?_
   simp only[go_sem,l3,l4,l6,l16,l17,l18,la,ln,lc,hlt,Q5,Qaz _ _ hlt,PhiD.cells,hp]
   intro x8 hx8 H3 h3
   have kn:=kn.al hx8 h3
   have hx8:H3 x8=.st [.int .i64 0,.sl true 1 []]:=kn.l 3 rfl
   simp only[go_sem,Qow,hx8]
   intro H4 h4
   have kn:Kn H0 H4 [] [(y1,.vec 1 (Qb (Qam R (U++(y.phis.take i).flatMap fun p=>p.args)))),(x3,.st [.vsl y1 1 0 R]),(x6,.st [.sl false 2 (Q0 y.phis),.sl false 4 (Qak y.ins),.int .i64 y.jump,.int .i64 y.on,.sl false 1 (Qb y.next)]),(x8,.st [.int .i64 p.to,.sl false 1 (Qb p.args)])]:=kn.stL 3 rfl h4
   have hx8:=kn.l 3 rfl
   refine Qq ?_
   simp only[go_sem,hx8]
   refine Qbcz (U:=U++(y.phis.take i).flatMap fun p=>p.args) ?_ hR1 (kn.l 1 rfl) (kn.l 0 rfl) (fun v hv=>by have h9:=(hyo.pargs p hpm v hv).nt;rw[hR]at h9;exact h9) (by rw[List.length_append];omega) fun H5 hu=>?_
   ·exact fun h=>(List.nodup_cons.1 kn.dL).1 (by simp[h])
   have kn:=kn.callL 0 rfl hu (by nofun)
   rw[List.append_assoc,←hsu]at kn
   try simp only[go_sem]
   refine Qq ?_
   simp only[go_sem]
   refine⟨Qp (by omega) (by omega),?_⟩
   show ∃m,_
   exact⟨y.phis.length-(i+1),by omega,i+1,rfl,by omega,Kn.drop (B:=[(x8,_)]) (kn.perm (List.Perm.refl _)),rfl,rfl,rfl,rfl,rfl,rfl,rfl,rfl,rfl⟩
  ·intro hc
   have hge:y.phis.length≤i:=by simpa using hc
   rw[List.take_of_length_le hge]at kn
   refine Qs ?_
   simp only[go_sem,X.next]
   exact hQ _ kn _ rfl rfl rfl rfl rfl rfl
set_option maxHeartbeats 4000000 in
theorem Qbfe {y:BlkD}{b R x3 x6 y1 n:Nat}{U:List Int}{rows:List (List C)}{Q:X→Env→Heap→Prop}{e:Env}(hR:q.regs.toNat=R)(hR1:R≤1000)(hyo:y.ok q b)(hil:y.ins.length≤1200∧y.phis.length≤1200)(hpl:∀p∈y.phis,p.args.length≤160)
  (hUl:U.length≤35000000) (kn:Kn H0 H [] [(y1,.vec 1 (Qb (Qam R U))),(x3,.st [.vsl y1 1 0 R]),(x6,.st [.sl false 2 (Q0 y.phis),.sl false 4 (Qak y.ins),.int .i64 y.jump,.int .i64 y.on,.sl false 1 (Qb y.next)])])
  (he:e=[(3,.c (.ptr x3 0)),(4,.c (.fn Qat [.ptr x3 0])),(6,.c (.ptr x6 0)),(16,.c (.sl false 5 rows)),(17,.c (.int .i64 n)),(18,.c (.int .i64 b)),(35,.c (.sl false 4 (Qak y.ins))),(36,.c (.int .i64 y.ins.length)),(37,.c (.int .i64 0))])
  (hQ:∀H',Kn H0 H' [] [(y1,.vec 1 (Qb (Qam R (U++usI y)))),(x3,.st [.vsl y1 1 0 R]),(x6,.st [.sl false 2 (Q0 y.phis),.sl false 4 (Qak y.ins),.int .i64 y.jump,.int .i64 y.on,.sl false 1 (Qb y.next)])]→
   ∀e',lk 3 e'=.c (.ptr x3 0)→lk 4 e'=.c (.fn Qat [.ptr x3 0])→lk 6 e'=.c (.ptr x6 0)→lk 16 e'=.c (.sl false 5 rows)→lk 17 e'=.c (.int .i64 n)→lk 18 e'=.c (.int .i64 b)→Qab prog Qgw Q e' H') :
  Qab prog (.seq (.block 4 (.loop Qlm)) Qgw) Q e H:=by
 subst he
 refine Qh (Qc (Qt (fun m e1 H1=>∃(i:Nat),m=y.ins.length-i∧i≤y.ins.length∧Kn H0 H1 [] [(y1,.vec 1 (Qb (Qam R (U++(y.ins.take i).flatMap fun p=>p.args)))),(x3,.st [.vsl y1 1 0 R]),(x6,.st [.sl false 2 (Q0 y.phis),.sl false 4 (Qak y.ins),.int .i64 y.jump,.int .i64 y.on,.sl false 1 (Qb y.next)])]∧
  lk 3 e1=.c (.ptr x3 0)∧lk 4 e1=.c (.fn Qat [.ptr x3 0])∧lk 6 e1=.c (.ptr x6 0)∧lk 16 e1=.c (.sl false 5 rows)∧lk 17 e1=.c (.int .i64 n)∧lk 18 e1=.c (.int .i64 b)∧
  lk 35 e1=.c (.sl false 4 (Qak y.ins))∧lk 36 e1=.c (.int .i64 y.ins.length)∧lk 37 e1=.c (.int .i64 i)) y.ins.length ?_ ?_))
 ·exact⟨0,by omega,by omega,by simpa using kn,rfl,rfl,rfl,rfl,rfl,rfl,rfl,rfl,rfl⟩
 ·clear kn
  rintro m e1 H2 ⟨i,hm,hi,kn,l3,l4,l6,l16,l17,l18,la,ln,lc⟩
  refine Qa ?_
  simp only[go_sem,l3,l4,l6,l16,l17,l18,la,ln,lc]
  refine Qh (Qf rfl ?_ ?_)
  ·intro hc
   have hlt:i<y.ins.length:=by simpa using hc
   obtain⟨p,hp⟩:∃p,y.ins[i]=p:=⟨_,rfl⟩
   have hpm:p∈y.ins:=by rw[←hp];exact List.getElem_mem hlt
   have hpl1:=hyo.al p hpm
   have hsu:=Qm7 (f:=fun p:InsD=>p.args) hlt
   rw[hp]at hsu
   have hfl:((y.ins.take i).flatMap fun p=>p.args).length≤(y.ins.take i).length * 160:=Qart fun p hp=>by
    have hpm:=List.mem_of_mem_take hp
    have:=hyo.al p hpm;omega
   rw[List.length_take]at hfl
   refine Qi ?_
   try simp only[go_sem]
   refine Qh (Qc ?_)
   refine Qa ?_
   simp only[go_sem,l3,l4,l6,l16,l17,l18,la,ln,lc,hlt,Qan,Qb1 _ _ hlt,InsD.cells,hp]
   intro x8 hx8 H3 h3
   have kn:=kn.al hx8 h3
   have hx8:H3 x8=.st [.int .i64 0,.int .i64 0,.sl true 1 [],.int .i64 0]:=kn.l 3 rfl
   simp only[go_sem,Qox,hx8]
   intro H4 h4
   have kn:Kn H0 H4 [] [(y1,.vec 1 (Qb (Qam R (U++(y.ins.take i).flatMap fun p=>p.args)))),(x3,.st [.vsl y1 1 0 R]),(x6,.st [.sl false 2 (Q0 y.phis),.sl false 4 (Qak y.ins),.int .i64 y.jump,.int .i64 y.on,.sl false 1 (Qb y.next)]),(x8,.st [.int .i64 p.op,.int .i64 p.to,.sl false 1 (Qb p.args),.int .i64 p.n])]:=kn.stL 3 rfl h4
   have hx8:=kn.l 3 rfl
   refine Qq ?_
   simp only[go_sem,hx8]
   refine Qbcz (U:=U++(y.ins.take i).flatMap fun p=>p.args) ?_ hR1 (kn.l 1 rfl) (kn.l 0 rfl) (fun v hv=>by have h9:=(hyo.args p hpm v hv).nt;rw[hR]at h9;exact h9) (by rw[List.length_append];omega) fun H5 hu=>?_
   ·exact fun h=>(List.nodup_cons.1 kn.dL).1 (by simp[h])
   have kn:=kn.callL 0 rfl hu (by nofun)
   rw[List.append_assoc,←hsu]at kn
   try simp only[go_sem]
   refine Qq ?_
   simp only[go_sem]
   refine⟨Qp (by omega) (by omega),?_⟩
   show ∃m,_
   exact⟨y.ins.length-(i+1),by omega,i+1,rfl,by omega,Kn.drop (B:=[(x8,_)]) (kn.perm (List.Perm.refl _)),rfl,rfl,rfl,rfl,rfl,rfl,rfl,rfl,rfl⟩
  ·intro hc
   have hge:y.ins.length≤i:=by simpa using hc
   rw[List.take_of_length_le hge]at kn
   refine Qs ?_
   simp only[go_sem,X.next]
   exact hQ _ kn _ rfl rfl rfl rfl rfl rfl
set_option maxHeartbeats 8000000 in
theorem Qa9u (ho:q.ok)(hK:∀H',Upd H H' []→K (.c (.sl false 1 (Qb (Qam q.regs.toNat (Qub q q.blocks.length))))) H') :
  Qw prog Qkx [.ag q.cells] H K:=by
 have hb1:=ho.b1
 have hr0:=ho.r0
 have hr1:=ho.r1
 obtain⟨R,hR⟩:∃R,q.regs.toNat=R:=⟨_,rfl⟩
 have hRi:q.regs=(R:Int):=by omega
 rw[hR]at hK
 refine Qz ?_
 refine Qe Qax Qase ?_
 refine Qa ?_
 simp only[go_sem,CodeD.cells]
 refine Qa ?_
 simp only[go_sem,hRi]
 refine⟨by simp only[LIM];omega,fun y1 hy1 H1 h1=>?_⟩
 rw[Qeq,←Qazi]at h1
 have kn:=(Kn.start0 H).al hy1 h1
 simp only[go_sem,Qou]
 intro x3 hx3 H2 h2
 have kn:=kn.al hx3 h2
 have hx3:H2 x3=.st [.sl true 1 []]:=kn.l 1 rfl
 simp only[go_sem,Qot,hx3]
 intro H3 h3
 have kn:Kn H H3 [] [(y1,.vec 1 (Qb (Qam R []))),(x3,.st [.vsl y1 1 0 R])]:=kn.stL 1 rfl h3
 refine Qa ?_
 simp only[go_sem]
 refine Q1 ?_
 refine Qa ?_
 simp only[go_sem,Qj]
 try intro _
 refine Qh (Qc (Qt (fun m e1 H1=>∃(b:Nat),m=q.blocks.length-b∧b≤q.blocks.length∧Kn H H1 [] [(y1,.vec 1 (Qb (Qam R (Qub q b)))),(x3,.st [.vsl y1 1 0 R])]∧
  lk 3 e1=.c (.ptr x3 0)∧lk 4 e1=.c (.fn Qat [.ptr x3 0])∧lk 16 e1=.c (.sl false 5 (Qm q.blocks))∧lk 17 e1=.c (.int .i64 q.blocks.length)∧lk 18 e1=.c (.int .i64 b)) q.blocks.length ?_ ?_))
 ·exact⟨0,by omega,by omega,kn,rfl,rfl,rfl,rfl,rfl⟩
 ·clear kn h1 h2 h3 hx3
  rintro m e1 H2 ⟨b,hm,hb,kn,l3,l4,l16,l17,l18⟩
  refine Qa ?_
  simp only[go_sem,l3,l4,l16,l17,l18,Qj]
  refine Qh (Qf rfl ?_ ?_)
  ·intro hc
   have hlt:b<q.blocks.length:=by simpa using hc
   obtain⟨y,hy⟩:∃y,q.blocks[b]=y:=⟨_,rfl⟩
   have hya:Qb0 q b=y:=by rw[Qcg hlt,hy]
   have hyo:=ho.bs b hlt
   have hlB:=Qa0j ho hlt
   have hlT:=Qai7 ho b hb
   have hyl:=ho.il b hlt
   rw[hy]at hyo hyl
   have hpl:∀p∈y.phis,p.args.length≤160:=fun p hp=>by
    rw[hyo.pal p hp];have:=Qbi (gnx q) (b:Int) q.blocks.length;omega
   rw[hya]at hlB
   simp only[usB,List.length_append]at hlB
   obtain⟨U,hU⟩:∃U,Qub q b=U:=⟨_,rfl⟩
   have hUs:Qub q (b+1)=U++usB y:=by rw[Quc,hU,hya]
   rw[hU]at kn hlT
   refine Qi ?_
   try simp only[go_sem]
   refine Qcp (fun e2 H2=>Kn H H2 [] [(y1,.vec 1 (Qb (Qam R (Qub q (b+1))))),(x3,.st [.vsl y1 1 0 R])]∧
    lk 3 e2=.c (.ptr x3 0)∧lk 4 e2=.c (.fn Qat [.ptr x3 0])∧lk 16 e2=.c (.sl false 5 (Qm q.blocks))∧lk 17 e2=.c (.int .i64 q.blocks.length)∧lk 18 e2=.c (.int .i64 b)) ?_ ?_
   ·intro Q hnr _ _
    refine Qc ?_
    refine Qa ?_
    simp only[go_sem,l3,l4,l16,l17,l18,hlt,Qj,Qaa _ _ hlt,BlkD.cells,hy]
    intro x6 hx6 H3 h3
    have kn:=kn.al hx6 h3
    have hx6:H3 x6=.st [.sl true 2 [],.sl true 4 [],.int .i64 0,.int .i64 0,.sl true 1 []]:=kn.l 2 rfl
    simp only[go_sem,Qov,hx6]
    intro H4 h4
    have kn:Kn H H4 [] [(y1,.vec 1 (Qb (Qam R U))),(x3,.st [.vsl y1 1 0 R]),(x6,.st [.sl false 2 (Q0 y.phis),.sl false 4 (Qak y.ins),.int .i64 y.jump,.int .i64 y.on,.sl false 1 (Qb y.next)])]:=kn.stL 2 rfl h4
    have hx6:=kn.l 2 rfl
    refine Q1 ?_
    refine Qa ?_
    simp only[go_sem,hx6,Q5]
    try intro _
    refine Qbff hR (by omega) hyo hyl hpl (by omega) kn rfl fun H5 kn e5 l3 l4 l6 l16 l17 l18=>?_
    clear h3 h4 hx6
    have hx6:=kn.l 2 rfl
    refine Q1 ?_
    refine Qa ?_
    simp only[go_sem,l3,l4,l6,l16,l17,l18,hx6,Qan]
    try intro _
    refine Qbfe hR (by omega) hyo hyl hpl (by rw[List.length_append];omega) kn rfl fun H6 kn e6 l3 l4 l6 l16 l17 l18=>?_
    clear hx6
    have hx6:=kn.l 2 rfl
    obtain⟨U3,hU3⟩:∃U3,(U++usP y++usI y)=U3:=⟨_,rfl⟩
    rw[hU3]at kn
    have hUe:Qub q (b+1)=U3++usO y:=by rw[hUs,←hU3,usB,←List.append_assoc,←List.append_assoc]
    have hl3:U3.length≤b * 200000+400000:=by
     rw[←hU3,List.length_append,List.length_append]
     omega
    refine Qa ?_
    simp only[go_sem,l3,l4,l6,l16,l17,l18,hx6]
    refine Q2h ?_
    try simp only[go_sem]
    refine Qf rfl ?_ ?_
    ·intro hc4
     have hj:¬y.jump=1:=by simp at hc4;omega
     have hy1:=kn.l 0 rfl
     have hx3:=kn.l 1 rfl
     obtain⟨r,hr,hrR⟩:=(hyo.on hj).nt
     rw[hR]at hrR
     have hct:U3.count (r:Int)≤40000000:=by
      have h1:=List.count_le_length (a:=(r:Int)) (l:=U3)
      omega
     have hcs:=Qrf (U:=U3) hrR
     have hcg:=Qic (U:=U3) hrR
     have htk:List.take R (Qb (Qam R U3))=Qb (Qam R U3):=List.take_of_length_le (by rw[Qd,Qbc];omega)
     have hrl:r<(Qam R U3).length:=by rw[Qbc];exact hrR
     refine Qq ?_
     simp only[go_sem,hx6,hx3,hy1,hr,hrR,Qd,Qbc,Qn _ _ hrl,hcg,htk,Qbf,hcs,Nat.zero_add,Nat.le_refl]
     refine⟨Qp (by omega) (by omega),fun G8 g8=>?_⟩
     have kn:=kn.stL 0 rfl g8
     refine hnr _ _ ⟨?_,rfl,rfl,rfl,rfl,rfl⟩
     rw[hUe,usO,if_neg hj,hr]
     exact Kn.drop (B:=[(x6,_)]) (kn.perm (List.Perm.refl _))
    ·intro hc4
     have hj:y.jump=1:=by
      have:=hyo.jmp
      simp at hc4;omega
     refine Qi ?_
     try simp only[go_sem]
     refine hnr _ _ ⟨?_,rfl,rfl,rfl,rfl,rfl⟩
     rw[hUe,usO,if_pos hj,List.append_nil]
     exact Kn.drop (B:=[(x6,_)]) (kn.perm (List.Perm.refl _))
   ·rintro e3 H6 ⟨kn,l3,l4,l16,l17,l18⟩
    refine Qq ?_
    simp only[go_sem,l3,l4,l16,l17,l18]
    refine⟨Qp (by omega) (by omega),?_⟩
    show ∃m,_
    exact⟨q.blocks.length-(b+1),by omega,b+1,rfl,by omega,kn,rfl,rfl,rfl,rfl,rfl⟩
  ·intro hc
   have hbe:b=q.blocks.length:=by have:q.blocks.length≤b:=(by simpa using hc);omega
   subst hbe
   have hy1:=kn.l 0 rfl
   have hx3:=kn.l 1 rfl
   refine Qs ?_
   simp only[go_sem,X.next]
   refine Qa ?_
   simp only[go_sem,l3,hx3]
   refine Qk ?_
   simp only[go_sem,Q7,Qae,Q3u,List.mem_singleton,forall_eq,RS.op]
   exact⟨_,.c _ _ ((FrzR.same (Qu _)).vsl (kn.un 0 rfl) hy1 (by rw[Qd,Qbc])),hK _ kn.fin⟩
end Go.AE.Y

namespace Go.AE.Y
attribute [local go_sem] cond_true cond_false Bool.not_true Bool.not_false
attribute [local instance] Classical.propDecidable
open Go.Proofs.Tryz
variable {H H0:Heap}{K:V→Heap→Prop}{E B Lg:List (Nat×Obj)}{q:CodeD}
noncomputable def Q92 (cs:List CodeD)(k r:Int):Bool:=hasG cs k&&match cs[k.toNat]? with
 |some q=>decide (0≤r)&&decide (r≤q.regs-1)
 |none=>false
noncomputable def Qazb (cs:List CodeD)(k r:Int):Int:=if Q92 cs k r=true then match cs[k.toNat]? with
 |some q=>((Qub q q.blocks.length).count r:Nat)
 |none=>-1 else -1
theorem Qas4 {cs:List CodeD}{m:Nat}{r:Int}(hg:hasG cs (m:Int)=true)(hm:m<cs.length):Q92 cs (m:Int) r=(decide (0≤r)&&decide (r≤cs[m].regs-1)):=by
 rw[Q92,hg];simp[hm]
theorem Qbbg {cs:List CodeD}{k r:Int}(h:Q92 cs k r=true):hasG cs k=true:=by
 rw[Q92,Bool.and_eq_true]at h;exact h.1
set_option maxHeartbeats 4000000 in
theorem Qbey {cs:List CodeD}{fl:Bool}{k r:Int}(hfit:∀c∈cs,c.fits)(hK:∀(H':Heap),Upd H H' []→K (.c (.bool (Q92 cs k r))) H') :
  Qw prog Qpz [.ag [.sl fl 3 (Qr cs)],.c (.int .i64 k),.c (.int .i64 r)] H K:=by
 refine Qe Qax Qa1f ?_
 refine Qa ?_
 simp only[go_sem]
 refine Qa ?_
 simp only[go_sem]
 refine Qa9c hfit fun H1 hu=>?_
 simp only[go_sem,Qsk]
 cases hg:hasG cs k with
 |false=>
  have e:Q92 cs k r=false:=by rw[Q92,hg];rfl
  simp only[go_sem,Qiw]
  refine Qk ?_
  simp only[go_sem,Q7,Qae,Qu8,List.mem_singleton,forall_eq,RS.op]
  have:=hK _ hu
  rw[e]at this
  exact this
 |true=>
  obtain⟨m,hm,rfl,ho⟩:=Q3b hg
  have e:=Qas4 (r:=r) hg hm
  obtain⟨q,hq⟩:∃q,cs[m]=q:=⟨_,rfl⟩
  rw[hq]at ho e
  have hr0:=ho.r0
  have hr1:=ho.r1
  simp only[go_sem,hm,Q6,Qah _ _ hm,CodeD.cells,hq]
  refine⟨Qp (by omega) (by omega),?_⟩
  refine Qco ?_
  simp only[go_sem,Qiw]
  refine Qk ?_
  simp only[go_sem,Q7,Qae,Qu8,List.mem_singleton,forall_eq,RS.op]
  have:=hK _ hu
  rw[e]at this
  exact this
set_option maxHeartbeats 4000000 in
theorem Qa98 {cs:List CodeD}{fl:Bool}{k r:Int}(hfit:∀c∈cs,c.fits)(hK:∀(H':Heap),Upd H H' []→K (.c (.bool (Q92 cs k r))) H') :
  Qw prog Q20 [.ag [.sl fl 3 (Qr cs)],.c (.int .i64 k),.c (.int .i64 r)] H K:=by
 refine Qe Qax Qbao ?_
 refine Qa ?_
 simp only[go_sem]
 refine Qa ?_
 simp only[go_sem]
 refine Qa97 hfit fun H1 hu=>?_
 simp only[go_sem,Q4z]
 cases hg:hasG cs k with
 |false=>
  have e:Q92 cs k r=false:=by rw[Q92,hg];rfl
  simp only[go_sem,Qqz]
  refine Qk ?_
  simp only[go_sem,Q7,Qae,Qafn,List.mem_singleton,forall_eq,RS.op]
  have:=hK _ hu
  rw[e]at this
  exact this
 |true=>
  obtain⟨m,hm,rfl,ho⟩:=Q3b hg
  have e:=Qas4 (r:=r) hg hm
  obtain⟨q,hq⟩:∃q,cs[m]=q:=⟨_,rfl⟩
  rw[hq]at ho e
  have hr0:=ho.r0
  have hr1:=ho.r1
  simp only[go_sem,hm,Q6,Qah _ _ hm,CodeD.cells,hq]
  refine⟨Qp (by omega) (by omega),?_⟩
  refine Qcd ?_
  simp only[go_sem,Qqz]
  refine Qk ?_
  simp only[go_sem,Q7,Qae,Qafn,List.mem_singleton,forall_eq,RS.op]
  have:=hK _ hu
  rw[e,←Bool.decide_and]at this
  exact this
theorem Q2g {cs:List CodeD}{k r:Int}(h:Q92 cs k r=false):Qazb cs k r=-1:=by rw[Qazb,h];simp
theorem Q2f {cs:List CodeD}{m:Nat}{r:Int}(h:Q92 cs (m:Int) r=true)(hm:m<cs.length):Qazb cs (m:Int) r=((Qub cs[m] cs[m].blocks.length).count r:Nat):=by
 rw[Qazb,if_pos h];simp[hm]
theorem Q2d {cs:List CodeD}{k r:Int}(h:Q92 cs k r=true):∃(m r':Nat) (hm:m<cs.length),k=(m:Int)∧r=(r':Int)∧cs[m].ok∧r'<cs[m].regs.toNat:=by
 have hg:=Qbbg h
 obtain⟨m,hm,rfl,ho⟩:=Q3b hg
 rw[Qas4 hg hm,Bool.and_eq_true,decide_eq_true_eq,decide_eq_true_eq]at h
 exact⟨m,r.toNat,hm,rfl,by omega,ho,by omega⟩
set_option maxHeartbeats 4000000 in
theorem Qa01 {cs:List CodeD}{fl:Bool}{k r:Int}(hfit:∀c∈cs,c.fits)(hK:∀(H':Heap),Upd H H' []→K (.c (.int .i64 (Qazb cs k r))) H') :
  Qw prog Qkt [.ag [.sl fl 3 (Qr cs)],.c (.int .i64 k),.c (.int .i64 r)] H K:=by
 refine Qz ?_
 refine Qe Qax Qasa ?_
 refine Qa ?_
 simp only[go_sem]
 refine Q1 ?_
 refine Qa ?_
 simp only[go_sem]
 refine Qbey hfit fun H1 hu=>?_
 have kn:=(Kn.start0 H).call0 hu
 simp only[go_sem,Qoh]
 refine Qh (Qf rfl ?_ ?_)
 ·intro hc
  have hg:Q92 cs k r=false:=Qrt hc
  refine Qa ?_
  simp only[go_sem]
  refine Qk ?_
  simp only[go_sem,X.next,Q7,Qae,Qp6,List.mem_singleton,forall_eq,RS.op]
  have:=hK _ kn.fin
  rw[Q2g hg]at this
  exact⟨_,.c _ _ (Qg rfl),this⟩
 ·intro hc
  have hg:Q92 cs k r=true:=Qd7 hc
  obtain⟨m,r',hm,rfl,rfl,ho,hr⟩:=Q2d hg
  have e:=Q2f hg hm
  obtain⟨q,hq⟩:∃q,cs[m]=q:=⟨_,rfl⟩
  rw[hq]at ho e hr
  refine Qi ?_
  try simp only[go_sem]
  refine Qa ?_
  simp only[go_sem,hm,Q6,Qah _ _ hm,CodeD.cells,hq]
  refine Qa9u ho fun H2 hu=>?_
  have kn:=kn.call0 hu
  have hcg:=Qic (U:=Qub q q.blocks.length) hr
  have hrl:r'<(Qam q.regs.toNat (Qub q q.blocks.length)).length:=by rw[Qbc];exact hr
  simp only[go_sem,Qoi,hr,Qd,Qbc,Qn _ _ hrl,hcg]
  refine Qk ?_
  simp only[go_sem,Q7,Qae,Qp6,List.mem_singleton,forall_eq,RS.op]
  have:=hK _ kn.fin
  rw[e]at this
  exact⟨_,.c _ _ (Qg rfl),this⟩
set_option maxHeartbeats 4000000 in
theorem Qaee {cs:List CodeD}{fl:Bool}{k r:Int}(hfit:∀c∈cs,c.fits)(hK:∀(H':Heap),Upd H H' []→K (.c (.int .i64 (Qazb cs k r))) H') :
  Qw prog Qfx [.ag [.sl fl 3 (Qr cs)],.c (.int .i64 k),.c (.int .i64 r)] H K:=by
 refine Qz ?_
 refine Qe Qax Qasr ?_
 refine Qa ?_
 simp only[go_sem]
 refine Q1 ?_
 refine Qa ?_
 simp only[go_sem]
 refine Qa98 hfit fun H1 hu=>?_
 have kn:=(Kn.start0 H).call0 hu
 simp only[go_sem,Qpr]
 refine Qh (Qf rfl ?_ ?_)
 ·intro hc
  have hg:Q92 cs k r=false:=Qrt hc
  refine Qa ?_
  simp only[go_sem]
  refine Qk ?_
  simp only[go_sem,X.next,Q7,Qae,Qqb,List.mem_singleton,forall_eq,RS.op]
  have:=hK _ kn.fin
  rw[Q2g hg]at this
  exact⟨_,.c _ _ (Qg rfl),this⟩
 ·intro hc
  have hg:Q92 cs k r=true:=Qd7 hc
  obtain⟨m,r',hm,rfl,rfl,ho,hr⟩:=Q2d hg
  have e:=Q2f hg hm
  obtain⟨q,hq⟩:∃q,cs[m]=q:=⟨_,rfl⟩
  rw[hq]at ho e hr
  refine Qi ?_
  try simp only[go_sem]
  refine Qa ?_
  simp only[go_sem,hm,Q6,Qah _ _ hm,CodeD.cells,hq]
  refine Qa5j ho fun H2 hu=>?_
  have kn:=kn.call0 hu
  have hcg:=Qic (U:=Qub q q.blocks.length) hr
  have hrl:r'<(Qam q.regs.toNat (Qub q q.blocks.length)).length:=by rw[Qbc];exact hr
  simp only[go_sem,Qps,hr,Qd,Qbc,Qn _ _ hrl,hcg]
  refine Qk ?_
  simp only[go_sem,Q7,Qae,Qqb,List.mem_singleton,forall_eq,RS.op]
  have:=hK _ kn.fin
  rw[e]at this
  exact⟨_,.c _ _ (Qg rfl),this⟩
set_option maxHeartbeats 4000000 in
theorem Qbeb {y:BlkD}{b x3 x9 n c0 r:Nat}{v6:Int}{O3:Obj}{rows:List (List C)}{Q:X→Env→Heap→Prop}{e:Env}(hyo:y.ok q b)(hil:y.ins.length≤1200∧y.phis.length≤1200)(hpl:∀p∈y.phis,p.args.length≤160)
  (hc0:c0≤35000000) (kn:Kn H0 H [] [(x3,O3),(x9,.st [.sl false 2 (Q0 y.phis),.sl false 4 (Qak y.ins),.int .i64 y.jump,.int .i64 y.on,.sl false 1 (Qb y.next)])])
  (he:e=[(5,.c (.int .i64 r)),(6,.c (.int .i64 v6)),(7,.c (.int .i64 c0)),(9,.c (.ptr x9 0)),(56,.c (.sl false 5 rows)),(57,.c (.int .i64 n)),(58,.c (.int .i64 b)),(63,.c (.sl false 4 (Qak y.ins))),(64,.c (.int .i64 y.ins.length)),(65,.c (.int .i64 0))])
  (hQ:∀H',Kn H0 H' [] [(x3,O3),(x9,.st [.sl false 2 (Q0 y.phis),.sl false 4 (Qak y.ins),.int .i64 y.jump,.int .i64 y.on,.sl false 1 (Qb y.next)])]→∀e',lk 5 e'=.c (.int .i64 r)→lk 6 e'=.c (.int .i64 v6)→lk 7 e'=.c (.int .i64 (c0+(usI y).count (r:Int):Nat))→lk 9 e'=.c (.ptr x9 0)→
   lk 56 e'=.c (.sl false 5 rows)→lk 57 e'=.c (.int .i64 n)→lk 58 e'=.c (.int .i64 b)→Qab prog Qea Q e' H') :
  Qab prog (.seq (.block 2 (.loop Qhw)) Qea) Q e H:=by
 subst he
 refine Qh (Qc (Qt (fun m e1 H1=>∃(i:Nat),m=y.ins.length-i∧i≤y.ins.length∧Kn H0 H1 [] [(x3,O3),(x9,.st [.sl false 2 (Q0 y.phis),.sl false 4 (Qak y.ins),.int .i64 y.jump,.int .i64 y.on,.sl false 1 (Qb y.next)])]∧
  lk 5 e1=.c (.int .i64 r)∧lk 6 e1=.c (.int .i64 v6)∧lk 7 e1=.c (.int .i64 (c0+((y.ins.take i).flatMap fun p=>p.args).count (r:Int):Nat))∧lk 9 e1=.c (.ptr x9 0)∧lk 56 e1=.c (.sl false 5 rows)∧lk 57 e1=.c (.int .i64 n)∧lk 58 e1=.c (.int .i64 b)∧
  lk 63 e1=.c (.sl false 4 (Qak y.ins))∧lk 64 e1=.c (.int .i64 y.ins.length)∧lk 65 e1=.c (.int .i64 i)) y.ins.length ?_ ?_))
 ·exact⟨0,by omega,by omega,kn,rfl,rfl,by simp[lk],rfl,rfl,rfl,rfl,rfl,rfl,rfl⟩
 ·clear kn
  rintro m e1 H2 ⟨i,hm,hi,kn,l5,l6,l7,l9,l56,l57,l58,la,ln,lc⟩
  refine Qa ?_
  simp only[go_sem,l5,l6,l7,l9,l56,l57,l58,la,ln,lc]
  refine Qh (Qf rfl ?_ ?_)
  ·intro hc
   have hlt:i<y.ins.length:=by simpa using hc
   obtain⟨p,hp⟩:∃p,y.ins[i]=p:=⟨_,rfl⟩
   have hpm:p∈y.ins:=by rw[←hp];exact List.getElem_mem hlt
   have hpl1:=hyo.al p hpm
   have hsu:=Qm7 (f:=fun p:InsD=>p.args) hlt
   rw[hp]at hsu
   have hfl:((y.ins.take i).flatMap fun p=>p.args).length≤(y.ins.take i).length * 160:=Qart fun p hp=>by
    have hpm:=List.mem_of_mem_take hp
    have:=hyo.al p hpm;omega
   rw[List.length_take]at hfl
   obtain⟨W,hW⟩:∃W,((y.ins.take i).flatMap fun p=>p.args)=W:=⟨_,rfl⟩
   rw[hW]at hsu hfl l7
   have hct:=List.count_le_length (a:=(r:Int)) (l:=W)
   obtain⟨c1,hc1⟩:∃c1,c0+W.count (r:Int)=c1:=⟨_,rfl⟩
   rw[hc1]at l7
   refine Qi ?_
   try simp only[go_sem]
   refine Qh (Qc ?_)
   refine Qa ?_
   simp only[go_sem,l5,l6,l7,l9,l56,l57,l58,la,ln,lc,hlt,Qan,Qb1 _ _ hlt,InsD.cells,hp]
   intro x8 hx8 H3 h3
   have kn:=kn.al hx8 h3
   have hx8:H3 x8=.st [.int .i64 0,.int .i64 0,.sl true 1 [],.int .i64 0]:=kn.l 2 rfl
   simp only[go_sem,Qkk,hx8]
   intro H4 h4
   have kn:Kn H0 H4 [] [(x3,O3),(x9,.st [.sl false 2 (Q0 y.phis),.sl false 4 (Qak y.ins),.int .i64 y.jump,.int .i64 y.on,.sl false 1 (Qb y.next)]),(x8,.st [.int .i64 p.op,.int .i64 p.to,.sl false 1 (Qb p.args),.int .i64 p.n])]:=kn.stL 2 rfl h4
   have hx8:=kn.l 2 rfl
   refine Qa ?_
   simp only[go_sem,hx8,Qd]
   try intro _
   have kn:Kn H0 H4 [] [(x3,O3),(x9,.st [.sl false 2 (Q0 y.phis),.sl false 4 (Qak y.ins),.int .i64 y.jump,.int .i64 y.on,.sl false 1 (Qb y.next)])]:=Kn.drop (B:=[(x8,_)]) (kn.perm (List.Perm.refl _))
   clear hx8 h3 h4 l5 l6 l7 l9 l56 l57 l58 la ln lc
   refine Qc (Qt (fun m e1 H1=>∃(j:Nat),m=p.args.length-j∧j≤p.args.length∧Kn H0 H1 [] [(x3,O3),(x9,.st [.sl false 2 (Q0 y.phis),.sl false 4 (Qak y.ins),.int .i64 y.jump,.int .i64 y.on,.sl false 1 (Qb y.next)])]∧
    lk 5 e1=.c (.int .i64 r)∧lk 6 e1=.c (.int .i64 v6)∧lk 7 e1=.c (.int .i64 (c1+(p.args.take j).count (r:Int):Nat))∧lk 9 e1=.c (.ptr x9 0)∧lk 56 e1=.c (.sl false 5 rows)∧lk 57 e1=.c (.int .i64 n)∧lk 58 e1=.c (.int .i64 b)∧
    lk 63 e1=.c (.sl false 4 (Qak y.ins))∧lk 64 e1=.c (.int .i64 y.ins.length)∧lk 65 e1=.c (.int .i64 i)∧
    lk 70 e1=.c (.sl false 1 (Qb p.args))∧lk 71 e1=.c (.int .i64 p.args.length)∧lk 72 e1=.c (.int .i64 j)) p.args.length ?_ ?_)
   ·exact⟨0,by omega,by omega,kn,rfl,rfl,by simp[lk,hW];omega,rfl,rfl,rfl,rfl,rfl,rfl,rfl,rfl,rfl,rfl⟩
   ·clear kn
    rintro m2 e2 H5 ⟨j,hm2,hj,kn,l5,l6,l7,l9,l56,l57,l58,la,ln,lc,la2,ln2,lc2⟩
    refine Qa ?_
    simp only[go_sem,l5,l6,l7,l9,l56,l57,l58,la,ln,lc,la2,ln2,lc2]
    refine Qh (Qf rfl ?_ ?_)
    ·intro hc3
     have hlt3:j<p.args.length:=by simpa using hc3
     have hgd:p.args.getD j 0=p.args[j]:=by simp[List.getD_eq_getElem?_getD,hlt3]
     have hcs:(p.args.take (j+1)).count (r:Int)=(p.args.take j).count (r:Int)+if p.args[j]=(r:Int)then 1 else 0:=by
      rw[List.take_succ_eq_append_getElem hlt3,List.count_append,List.count_singleton]
      simp
     have hcl:=List.count_le_length (a:=(r:Int)) (l:=p.args.take j)
     rw[List.length_take]at hcl
     obtain⟨c2,hc2⟩:∃c2,c1+(p.args.take j).count (r:Int)=c2:=⟨_,rfl⟩
     rw[hc2]at l7
     refine Qi ?_
     try simp only[go_sem]
     refine Qcp (fun e1 H1=>Kn H0 H1 [] [(x3,O3),(x9,.st [.sl false 2 (Q0 y.phis),.sl false 4 (Qak y.ins),.int .i64 y.jump,.int .i64 y.on,.sl false 1 (Qb y.next)])]∧
      lk 5 e1=.c (.int .i64 r)∧lk 6 e1=.c (.int .i64 v6)∧lk 7 e1=.c (.int .i64 (c1+(p.args.take (j+1)).count (r:Int):Nat))∧lk 9 e1=.c (.ptr x9 0)∧lk 56 e1=.c (.sl false 5 rows)∧lk 57 e1=.c (.int .i64 n)∧lk 58 e1=.c (.int .i64 b)∧
      lk 63 e1=.c (.sl false 4 (Qak y.ins))∧lk 64 e1=.c (.int .i64 y.ins.length)∧lk 65 e1=.c (.int .i64 i)∧
      lk 70 e1=.c (.sl false 1 (Qb p.args))∧lk 71 e1=.c (.int .i64 p.args.length)∧lk 72 e1=.c (.int .i64 j)) ?_ ?_
     ·intro Q2 hnr _ _
      refine Qc ?_
      refine Qa ?_
      simp only[go_sem,l5,l6,l7,l9,l56,l57,l58,la,ln,lc,la2,ln2,lc2,hlt3,Qd,Qn _ _ hlt3,hgd]
      refine Qa ?_
      simp only[go_sem]
      refine Qf rfl ?_ ?_
      ·intro hc4
       have hv:p.args[j]=(r:Int):=by simpa using hc4
       refine Qq ?_
       simp only[go_sem]
       refine⟨Qp (by omega) (by omega),?_⟩
       refine hnr _ _ ⟨kn,rfl,rfl,?_,rfl,rfl,rfl,rfl,rfl,rfl,rfl,rfl,rfl,rfl⟩
       rw[hcs,if_pos hv,←Nat.add_assoc,hc2];rfl
      ·intro hc4
       have hv:¬p.args[j]=(r:Int):=by simpa using hc4
       refine Qi ?_
       try simp only[go_sem]
       refine hnr _ _ ⟨kn,rfl,rfl,?_,rfl,rfl,rfl,rfl,rfl,rfl,rfl,rfl,rfl,rfl⟩
       rw[hcs,if_neg hv,Nat.add_zero,hc2];rfl
     ·rintro e3 H6 ⟨kn,l5,l6,l7,l9,l56,l57,l58,la,ln,lc,la2,ln2,lc2⟩
      refine Qq ?_
      simp only[go_sem,l5,l6,l7,l9,l56,l57,l58,la,ln,lc,la2,ln2,lc2]
      refine⟨Qp (by omega) (by omega),?_⟩
      show ∃m,_
      exact⟨p.args.length-(j+1),by omega,j+1,rfl,by omega,kn,rfl,rfl,rfl,rfl,rfl,rfl,rfl,rfl,rfl,rfl,rfl,rfl,rfl⟩
    ·intro hc3
     have hje:p.args.length≤j:=by simpa using hc3
     rw[List.take_of_length_le hje]at l7
     refine Qs ?_
     simp only[go_sem,X.next]
     refine Qq ?_
     simp only[go_sem,l5,l6,l7,l9,l56,l57,l58,la,ln,lc]
     refine⟨Qp (by omega) (by omega),?_⟩
     show ∃m,_
     exact⟨y.ins.length-(i+1),by omega,i+1,rfl,by omega,kn,rfl,rfl,by rw[hsu,List.count_append,←Nat.add_assoc,hc1];simp[lk,List.take_of_length_le hje],rfl,rfl,rfl,rfl,rfl,rfl,rfl⟩
  ·intro hc
   have hge:y.ins.length≤i:=by simpa using hc
   rw[List.take_of_length_le hge]at l7
   refine Qs ?_
   simp only[go_sem,X.next]
   exact hQ _ kn _ rfl rfl (by simp[lk,usI,List.take_of_length_le hge]) rfl rfl rfl rfl
set_option maxHeartbeats 4000000 in
theorem Qbec {y:BlkD}{b x3 x9 n c0 r:Nat}{v6:Int}{O3:Obj}{rows:List (List C)}{Q:X→Env→Heap→Prop}{e:Env}(hyo:y.ok q b)(hil:y.ins.length≤1200∧y.phis.length≤1200)(hpl:∀p∈y.phis,p.args.length≤160)
  (hc0:c0≤35000000) (kn:Kn H0 H [] [(x3,O3),(x9,.st [.sl false 2 (Q0 y.phis),.sl false 4 (Qak y.ins),.int .i64 y.jump,.int .i64 y.on,.sl false 1 (Qb y.next)])])
  (he:e=[(5,.c (.int .i64 r)),(6,.c (.int .i64 v6)),(7,.c (.int .i64 c0)),(9,.c (.ptr x9 0)),(56,.c (.sl false 5 rows)),(57,.c (.int .i64 n)),(58,.c (.int .i64 b)),(84,.c (.sl false 2 (Q0 y.phis))),(85,.c (.int .i64 y.phis.length)),(86,.c (.int .i64 0))])
  (hQ:∀H',Kn H0 H' [] [(x3,O3),(x9,.st [.sl false 2 (Q0 y.phis),.sl false 4 (Qak y.ins),.int .i64 y.jump,.int .i64 y.on,.sl false 1 (Qb y.next)])]→∀e',lk 5 e'=.c (.int .i64 r)→lk 6 e'=.c (.int .i64 v6)→lk 7 e'=.c (.int .i64 (c0+(usP y).count (r:Int):Nat))→lk 9 e'=.c (.ptr x9 0)→
   lk 56 e'=.c (.sl false 5 rows)→lk 57 e'=.c (.int .i64 n)→lk 58 e'=.c (.int .i64 b)→Qab prog Qd9 Q e' H') :
  Qab prog (.seq (.block 6 (.loop Qhx)) Qd9) Q e H:=by
 subst he
 refine Qh (Qc (Qt (fun m e1 H1=>∃(i:Nat),m=y.phis.length-i∧i≤y.phis.length∧Kn H0 H1 [] [(x3,O3),(x9,.st [.sl false 2 (Q0 y.phis),.sl false 4 (Qak y.ins),.int .i64 y.jump,.int .i64 y.on,.sl false 1 (Qb y.next)])]∧
  lk 5 e1=.c (.int .i64 r)∧lk 6 e1=.c (.int .i64 v6)∧lk 7 e1=.c (.int .i64 (c0+((y.phis.take i).flatMap fun p=>p.args).count (r:Int):Nat))∧lk 9 e1=.c (.ptr x9 0)∧lk 56 e1=.c (.sl false 5 rows)∧lk 57 e1=.c (.int .i64 n)∧lk 58 e1=.c (.int .i64 b)∧
  lk 84 e1=.c (.sl false 2 (Q0 y.phis))∧lk 85 e1=.c (.int .i64 y.phis.length)∧lk 86 e1=.c (.int .i64 i)) y.phis.length ?_ ?_))
 ·exact⟨0,by omega,by omega,kn,rfl,rfl,by simp[lk],rfl,rfl,rfl,rfl,rfl,rfl,rfl⟩
 ·clear kn
  rintro m e1 H2 ⟨i,hm,hi,kn,l5,l6,l7,l9,l56,l57,l58,la,ln,lc⟩
  refine Qa ?_
  simp only[go_sem,l5,l6,l7,l9,l56,l57,l58,la,ln,lc]
  refine Qh (Qf rfl ?_ ?_)
  ·intro hc
   have hlt:i<y.phis.length:=by simpa using hc
   obtain⟨p,hp⟩:∃p,y.phis[i]=p:=⟨_,rfl⟩
   have hpm:p∈y.phis:=by rw[←hp];exact List.getElem_mem hlt
   have hpl1:=hpl p hpm
   have hsu:=Qm7 (f:=fun p:PhiD=>p.args) hlt
   rw[hp]at hsu
   have hfl:((y.phis.take i).flatMap fun p=>p.args).length≤(y.phis.take i).length * 160:=Qart fun p hp=>by
    have hpm:=List.mem_of_mem_take hp
    have:=hpl p hpm;omega
   rw[List.length_take]at hfl
   obtain⟨W,hW⟩:∃W,((y.phis.take i).flatMap fun p=>p.args)=W:=⟨_,rfl⟩
   rw[hW]at hsu hfl l7
   have hct:=List.count_le_length (a:=(r:Int)) (l:=W)
   obtain⟨c1,hc1⟩:∃c1,c0+W.count (r:Int)=c1:=⟨_,rfl⟩
   rw[hc1]at l7
   refine Qi ?_
   try simp only[go_sem]
   refine Qh (Qc ?_)
   refine Qa ?_
   simp only[go_sem,l5,l6,l7,l9,l56,l57,l58,la,ln,lc,hlt,Q5,Qaz _ _ hlt,PhiD.cells,hp]
   intro x8 hx8 H3 h3
   have kn:=kn.al hx8 h3
   have hx8:H3 x8=.st [.int .i64 0,.sl true 1 []]:=kn.l 2 rfl
   simp only[go_sem,Qhv,hx8]
   intro H4 h4
   have kn:Kn H0 H4 [] [(x3,O3),(x9,.st [.sl false 2 (Q0 y.phis),.sl false 4 (Qak y.ins),.int .i64 y.jump,.int .i64 y.on,.sl false 1 (Qb y.next)]),(x8,.st [.int .i64 p.to,.sl false 1 (Qb p.args)])]:=kn.stL 2 rfl h4
   have hx8:=kn.l 2 rfl
   refine Qa ?_
   simp only[go_sem,hx8,Qd]
   try intro _
   have kn:Kn H0 H4 [] [(x3,O3),(x9,.st [.sl false 2 (Q0 y.phis),.sl false 4 (Qak y.ins),.int .i64 y.jump,.int .i64 y.on,.sl false 1 (Qb y.next)])]:=Kn.drop (B:=[(x8,_)]) (kn.perm (List.Perm.refl _))
   clear hx8 h3 h4 l5 l6 l7 l9 l56 l57 l58 la ln lc
   refine Qc (Qt (fun m e1 H1=>∃(j:Nat),m=p.args.length-j∧j≤p.args.length∧Kn H0 H1 [] [(x3,O3),(x9,.st [.sl false 2 (Q0 y.phis),.sl false 4 (Qak y.ins),.int .i64 y.jump,.int .i64 y.on,.sl false 1 (Qb y.next)])]∧
    lk 5 e1=.c (.int .i64 r)∧lk 6 e1=.c (.int .i64 v6)∧lk 7 e1=.c (.int .i64 (c1+(p.args.take j).count (r:Int):Nat))∧lk 9 e1=.c (.ptr x9 0)∧lk 56 e1=.c (.sl false 5 rows)∧lk 57 e1=.c (.int .i64 n)∧lk 58 e1=.c (.int .i64 b)∧
    lk 84 e1=.c (.sl false 2 (Q0 y.phis))∧lk 85 e1=.c (.int .i64 y.phis.length)∧lk 86 e1=.c (.int .i64 i)∧
    lk 91 e1=.c (.sl false 1 (Qb p.args))∧lk 92 e1=.c (.int .i64 p.args.length)∧lk 93 e1=.c (.int .i64 j)) p.args.length ?_ ?_)
   ·exact⟨0,by omega,by omega,kn,rfl,rfl,by simp[lk,hW];omega,rfl,rfl,rfl,rfl,rfl,rfl,rfl,rfl,rfl,rfl⟩
   ·clear kn
    rintro m2 e2 H5 ⟨j,hm2,hj,kn,l5,l6,l7,l9,l56,l57,l58,la,ln,lc,la2,ln2,lc2⟩
    refine Qa ?_
    simp only[go_sem,l5,l6,l7,l9,l56,l57,l58,la,ln,lc,la2,ln2,lc2]
    refine Qh (Qf rfl ?_ ?_)
    ·intro hc3
     have hlt3:j<p.args.length:=by simpa using hc3
     have hgd:p.args.getD j 0=p.args[j]:=by simp[List.getD_eq_getElem?_getD,hlt3]
     have hcs:(p.args.take (j+1)).count (r:Int)=(p.args.take j).count (r:Int)+if p.args[j]=(r:Int)then 1 else 0:=by
      rw[List.take_succ_eq_append_getElem hlt3,List.count_append,List.count_singleton]
      simp
     have hcl:=List.count_le_length (a:=(r:Int)) (l:=p.args.take j)
     rw[List.length_take]at hcl
     obtain⟨c2,hc2⟩:∃c2,c1+(p.args.take j).count (r:Int)=c2:=⟨_,rfl⟩
     rw[hc2]at l7
     refine Qi ?_
     try simp only[go_sem]
     refine Qcp (fun e1 H1=>Kn H0 H1 [] [(x3,O3),(x9,.st [.sl false 2 (Q0 y.phis),.sl false 4 (Qak y.ins),.int .i64 y.jump,.int .i64 y.on,.sl false 1 (Qb y.next)])]∧
      lk 5 e1=.c (.int .i64 r)∧lk 6 e1=.c (.int .i64 v6)∧lk 7 e1=.c (.int .i64 (c1+(p.args.take (j+1)).count (r:Int):Nat))∧lk 9 e1=.c (.ptr x9 0)∧lk 56 e1=.c (.sl false 5 rows)∧lk 57 e1=.c (.int .i64 n)∧lk 58 e1=.c (.int .i64 b)∧
      lk 84 e1=.c (.sl false 2 (Q0 y.phis))∧lk 85 e1=.c (.int .i64 y.phis.length)∧lk 86 e1=.c (.int .i64 i)∧
      lk 91 e1=.c (.sl false 1 (Qb p.args))∧lk 92 e1=.c (.int .i64 p.args.length)∧lk 93 e1=.c (.int .i64 j)) ?_ ?_
     ·intro Q2 hnr _ _
      refine Qc ?_
      refine Qa ?_
      simp only[go_sem,l5,l6,l7,l9,l56,l57,l58,la,ln,lc,la2,ln2,lc2,hlt3,Qd,Qn _ _ hlt3,hgd]
      refine Qa ?_
      simp only[go_sem]
      refine Qf rfl ?_ ?_
      ·intro hc4
       have hv:p.args[j]=(r:Int):=by simpa using hc4
       refine Qq ?_
       simp only[go_sem]
       refine⟨Qp (by omega) (by omega),?_⟩
       refine hnr _ _ ⟨kn,rfl,rfl,?_,rfl,rfl,rfl,rfl,rfl,rfl,rfl,rfl,rfl,rfl⟩
       rw[hcs,if_pos hv,←Nat.add_assoc,hc2];rfl
      ·intro hc4
       have hv:¬p.args[j]=(r:Int):=by simpa using hc4
       refine Qi ?_
       try simp only[go_sem]
       refine hnr _ _ ⟨kn,rfl,rfl,?_,rfl,rfl,rfl,rfl,rfl,rfl,rfl,rfl,rfl,rfl⟩
       rw[hcs,if_neg hv,Nat.add_zero,hc2];rfl
     ·rintro e3 H6 ⟨kn,l5,l6,l7,l9,l56,l57,l58,la,ln,lc,la2,ln2,lc2⟩
      refine Qq ?_
      simp only[go_sem,l5,l6,l7,l9,l56,l57,l58,la,ln,lc,la2,ln2,lc2]
      refine⟨Qp (by omega) (by omega),?_⟩
      show ∃m,_
      exact⟨p.args.length-(j+1),by omega,j+1,rfl,by omega,kn,rfl,rfl,rfl,rfl,rfl,rfl,rfl,rfl,rfl,rfl,rfl,rfl,rfl⟩
    ·intro hc3
     have hje:p.args.length≤j:=by simpa using hc3
     rw[List.take_of_length_le hje]at l7
     refine Qs ?_
     simp only[go_sem,X.next]
     refine Qq ?_
     simp only[go_sem,l5,l6,l7,l9,l56,l57,l58,la,ln,lc]
     refine⟨Qp (by omega) (by omega),?_⟩
     show ∃m,_
     exact⟨y.phis.length-(i+1),by omega,i+1,rfl,by omega,kn,rfl,rfl,by rw[hsu,List.count_append,←Nat.add_assoc,hc1];simp[lk,List.take_of_length_le hje],rfl,rfl,rfl,rfl,rfl,rfl,rfl⟩
  ·intro hc
   have hge:y.phis.length≤i:=by simpa using hc
   rw[List.take_of_length_le hge]at l7
   refine Qs ?_
   simp only[go_sem,X.next]
   exact hQ _ kn _ rfl rfl (by simp[lk,usP,List.take_of_length_le hge]) rfl rfl rfl rfl
set_option maxHeartbeats 8000000 in
theorem FnUsesIn_c {bs:List UInt8}(hK:∀H',K (.c (.bool true)) H'):Qw prog Qn6 [.c (.sl false 1 (Qbt bs))] H K:=by
 refine Qe Qax Qaff ?_
 have retT':∀(e:Env) (H':Heap),lk 2 e=.c (.bool true)→Q7 Qis K .ret e H':=by
  intro e H' h2
  simp only[go_sem,Q7,Qae,Qis,List.mem_singleton,forall_eq,RS.op,h2]
  exact hK H'
 refine Qa ?_
 simp only[go_sem]
 refine Q1 ?_
 refine Qa ?_
 simp only[go_sem,Qay]
 intro _
 refine Qh (Qf rfl (fun hc=>?_) (fun hc=>?_))
 ·refine Qa ?_
  simp only[go_sem]
  refine Qk ?_
  exact retT' _ _ rfl
 refine Qi ?_
 try simp only[go_sem]
 refine Qa ?_
 simp only[go_sem]
 refine Qai9 fun cs k r0 H1 hu hok hn1 hn2=>?_
 have hfit:=hok.fits
 have kn:=(Kn.start0 H).call0 hu
 simp only[go_sem,Qkf,List.getD_cons_zero,List.getD_cons_succ]
 intro x3 hx3 H2 h2
 have kn:=kn.al hx3 h2
 have hx3:=kn.l 0 rfl
 simp only[go_sem,Qke,hx3]
 intro H3 h3
 have kn:Kn H H3 [] [(x3,.st [.sl false 3 (Qr cs)])]:=kn.stL 0 rfl h3
 have hx3:=kn.l 0 rfl
 simp only[go_sem,Qkd]
 refine Qa ?_
 simp only[go_sem,hx3]
 refine Qa01 hfit fun H4 hu=>?_
 have kn:=kn.call0 hu
 have hx3:=kn.l 0 rfl
 simp only[go_sem,Qkg]
 refine Q1 ?_
 refine Qa ?_
 simp only[go_sem,hx3]
 refine Qaee hfit fun H5 hu=>?_
 have kn:=kn.call0 hu
 have hx3:=kn.l 0 rfl
 obtain⟨v6,hv6⟩:∃v,Qazb cs k r0=v:=⟨_,rfl⟩
 rw[hv6]
 simp only[go_sem,Qkh,decide_true]
 refine Qh (Qf rfl ?_ ?_)
 ·intro hc1
  have hneg:v6<0:=by simpa using hc1
  have hm1:v6=-1:=by
   cases hg:Q92 cs k r0 with
   |false=>rw[←hv6,Q2g hg]
   |true=>
    obtain⟨m,r',hm,rfl,rfl,ho,hr⟩:=Q2d hg
    rw[Q2f hg hm]at hv6;omega
  refine Qa ?_
  simp only[go_sem,hx3]
  refine Qaee hfit fun H6 hu=>?_
  rw[hv6,hm1]
  simp only[go_sem,Qki,decide_true]
  refine Qk ?_
  exact retT' _ _ rfl
 ·intro hc1
  have hneg:¬v6<0:=by simpa using hc1
  refine Qi ?_
  try simp only[go_sem]
  have hg:Q92 cs k r0=true:=by
   cases hg:Q92 cs k r0 with
   |false=>rw[Q2g hg]at hv6;omega
   |true=>rfl
  obtain⟨m,r,hm,rfl,rfl,ho,hr⟩:=Q2d hg
  rw[Q2f hg hm]at hv6
  obtain⟨q,hq⟩:∃q,cs[m]=q:=⟨_,rfl⟩
  rw[hq]at ho hr hv6
  have hb1:=ho.b1
  refine Qa ?_
  simp only[go_sem]
  refine Q1 ?_
  refine Qa ?_
  simp only[go_sem,hx3,hm,Q6,Qah _ _ hm,CodeD.cells,hq,Qj]
  try intro _
  refine Qh (Qc (Qt (fun mm e1 H1=>∃(b:Nat),mm=q.blocks.length-b∧b≤q.blocks.length∧Kn H H1 [] [(x3,.st [.sl false 3 (Qr cs)])]∧
   lk 5 e1=.c (.int .i64 r)∧lk 6 e1=.c (.int .i64 v6)∧lk 7 e1=.c (.int .i64 ((Qub q b).count (r:Int):Nat))∧lk 56 e1=.c (.sl false 5 (Qm q.blocks))∧lk 57 e1=.c (.int .i64 q.blocks.length)∧lk 58 e1=.c (.int .i64 b)) q.blocks.length ?_ ?_))
  ·exact⟨0,by omega,by omega,kn,rfl,rfl,rfl,rfl,rfl,rfl⟩
  ·clear kn hx3
   rintro mm e1 H6 ⟨b,hmm,hb,kn,l5,l6,l7,l56,l57,l58⟩
   refine Qa ?_
   simp only[go_sem,l5,l6,l7,l56,l57,l58]
   refine Qh (Qf rfl ?_ ?_)
   ·intro hc
    have hlt:b<q.blocks.length:=by simpa using hc
    obtain⟨y,hy⟩:∃y,q.blocks[b]=y:=⟨_,rfl⟩
    have hya:Qb0 q b=y:=by rw[Qcg hlt,hy]
    have hyo:=ho.bs b hlt
    have hlB:=Qa0j ho hlt
    have hlT:=Qai7 ho b hb
    have hyl:=ho.il b hlt
    rw[hy]at hyo hyl
    have hpl:∀p∈y.phis,p.args.length≤160:=fun p hp=>by
     rw[hyo.pal p hp];have:=Qbi (gnx q) (b:Int) q.blocks.length;omega
    rw[hya]at hlB
    simp only[usB,List.length_append]at hlB
    have hct:=List.count_le_length (a:=(r:Int)) (l:=Qub q b)
    have hcI:=List.count_le_length (a:=(r:Int)) (l:=usI y)
    have hcP:=List.count_le_length (a:=(r:Int)) (l:=usP y)
    have hUs:(Qub q (b+1)).count (r:Int)=(Qub q b).count (r:Int)+(usI y).count (r:Int)+(usP y).count (r:Int)+(usO y).count (r:Int):=by
     rw[Quc,hya,usB,List.count_append,List.count_append,List.count_append];omega
    obtain⟨c0,hc0⟩:∃c0,(Qub q b).count (r:Int)=c0:=⟨_,rfl⟩
    rw[hc0]at hUs l7 hct
    refine Qi ?_
    try simp only[go_sem]
    refine Qcp (fun e1 H1=>Kn H H1 [] [(x3,.st [.sl false 3 (Qr cs)])]∧
     lk 5 e1=.c (.int .i64 r)∧lk 6 e1=.c (.int .i64 v6)∧lk 7 e1=.c (.int .i64 ((Qub q (b+1)).count (r:Int):Nat))∧lk 56 e1=.c (.sl false 5 (Qm q.blocks))∧lk 57 e1=.c (.int .i64 q.blocks.length)∧lk 58 e1=.c (.int .i64 b)) ?_ ?_
    ·intro Q hnr _ _
     refine Qc ?_
     refine Qa ?_
     simp only[go_sem,l5,l6,l7,l56,l57,l58,hlt,Qj,Qaa _ _ hlt,BlkD.cells,hy]
     intro x6 hx6 H7 h7
     have kn:=kn.al hx6 h7
     have hx6:H7 x6=.st [.sl true 2 [],.sl true 4 [],.int .i64 0,.int .i64 0,.sl true 1 []]:=kn.l 1 rfl
     simp only[go_sem,Qkj,hx6]
     intro H8 h8
     have kn:Kn H H8 [] [(x3,.st [.sl false 3 (Qr cs)]),(x6,.st [.sl false 2 (Q0 y.phis),.sl false 4 (Qak y.ins),.int .i64 y.jump,.int .i64 y.on,.sl false 1 (Qb y.next)])]:=kn.stL 1 rfl h8
     have hx6:=kn.l 1 rfl
     refine Q1 ?_
     refine Qa ?_
     simp only[go_sem,hx6,Qan]
     try intro _
     clear h7 h8 hx6 l5 l6 l7 l56 l57 l58
     refine Qbeb hyo hyl hpl (by omega) kn rfl fun H9 kn e5 l5 l6 l7 l9 l56 l57 l58=>?_
     rw[hc0]at l7
     have hx6:=kn.l 1 rfl
     refine Q1 ?_
     refine Qa ?_
     simp only[go_sem,l5,l6,l7,l9,l56,l57,l58,hx6,Q5]
     try intro _
     refine Qbec (c0:=c0+(usI y).count (r:Int)) hyo hyl hpl (by omega) kn rfl fun H9 kn e5 l5 l6 l7 l9 l56 l57 l58=>?_
     clear hx6
     have hx6:=kn.l 1 rfl
     obtain⟨c3,hc3⟩:∃c3,c0+(usI y).count (r:Int)+(usP y).count (r:Int)=c3:=⟨_,rfl⟩
     rw[hc3]at hUs l7
     by_cases hj:y.jump=1
     ·have hcj:(!decide (y.jump=1))=false:=by simp[hj]
      refine Qa ?_
      simp only[go_sem,l5,l6,l7,l9,l56,l57,l58,hx6,hcj]
      refine Qf rfl ?_ ?_
      ·intro h;simp at h
      ·intro _
       refine Qi ?_
       try simp only[go_sem]
       refine hnr _ _ ⟨Kn.drop (B:=[(x6,_)]) (kn.perm (List.Perm.refl _)),rfl,rfl,?_,rfl,rfl,rfl⟩
       rw[hUs,usO,if_pos hj];rfl
     ·have hcj:(!decide (y.jump=1))=true:=by simp[hj]
      refine Qa ?_
      simp only[go_sem,l5,l6,l7,l9,l56,l57,l58,hx6,hcj]
      have hc1':(usO y).count (r:Int)=if y.on=(r:Int)then 1 else 0:=by
       rw[usO,if_neg hj,List.count_singleton];simp
      refine Qf rfl ?_ ?_
      ·intro h
       have hv:y.on=(r:Int):=by simpa using h
       refine Qq ?_
       simp only[go_sem]
       refine⟨Qp (by omega) (by omega),?_⟩
       refine hnr _ _ ⟨Kn.drop (B:=[(x6,_)]) (kn.perm (List.Perm.refl _)),rfl,rfl,?_,rfl,rfl,rfl⟩
       rw[hUs,hc1',if_pos hv];rfl
      ·intro h
       have hv:¬y.on=(r:Int):=by simpa using h
       refine Qi ?_
       try simp only[go_sem]
       refine hnr _ _ ⟨Kn.drop (B:=[(x6,_)]) (kn.perm (List.Perm.refl _)),rfl,rfl,?_,rfl,rfl,rfl⟩
       rw[hUs,hc1',if_neg hv];rfl
    ·rintro e3 H9 ⟨kn,l5,l6,l7,l56,l57,l58⟩
     refine Qq ?_
     simp only[go_sem,l5,l6,l7,l56,l57,l58]
     refine⟨Qp (by omega) (by omega),?_⟩
     show ∃m,_
     exact⟨q.blocks.length-(b+1),by omega,b+1,rfl,by omega,kn,rfl,rfl,rfl,rfl,rfl,rfl⟩
   ·intro hc
    have hbe:b=q.blocks.length:=by have:q.blocks.length≤b:=(by simpa using hc);omega
    subst hbe
    refine Qs ?_
    simp only[go_sem,X.next]
    refine Qa ?_
    simp only[go_sem,l5,l6,l7,hv6,decide_true]
    refine Qk ?_
    exact retT' _ _ rfl
end Go.AE.Y

namespace Go.AE.Y
open Go.ChangeShapes Go.WideShapes Go.ChangeAt Go.RowKit
def Qbc2 (w:World)(a:Option Addr)(len cap:Nat)(zs:List Int):Prop:=
 (a=none∧len=0∧cap=0∧zs=[])∨
 ∃x,a=some x∧len≤cap∧zs.length=cap∧(∀i,i<zs.length→w.cell? (x.add i)=some (.int .u8 (zs.getD i 0)))∧∀n∈zs,(Lit.int .u8 n).wf=true
theorem Qa8s (w:World):Sat (fun _=>.none) ⟨fun b=>decide (b<w.heap.size),fun _=>none,fun _=>none⟩ w:=by
 refine⟨fun b hb=>⟨by simp;omega,rfl⟩,⟨0,fun _ _=>rfl⟩,fun b x h=>by simp at h,fun b l p h=>by simp at h,fun l=>trivial⟩
theorem Qbdf {n:Int}(h:(Lit.int .u8 n).wf=true):((UInt8.ofNat n.toNat).toNat:Int)=n:=by
 simp only[Lit.wf,Bool.and_eq_true,decide_eq_true_eq]at h
 have a1:IntKind.min .u8=0:=by decide
 have a2:IntKind.max .u8=255:=by decide
 rw[a1,a2]at h
 rw[UInt8.toNat_ofNat']
 omega
theorem calls_of_acall {P:Program}{f:Nat}(h:∀bs:List UInt8,bs.length≤1048576→Qw P f [.c (.sl false 1 (Qbt bs))] (fun _=>.none) fun v _=>v=.c (.bool true))
  {a0:Option Addr} {len0 cap0:Nat} {z0:List Int} {w:World} (hr:Qbc2 w a0 len0 cap0 z0) (hl:len0≤1048576) :
  Calls P f #[.slice a0 len0 cap0] w fun e w'=>e=.returned (.bool true)∧Below w.heap.size w w':=by
 have key:∃bs:List UInt8,bs.length=len0∧RepC w ⟨fun b=>decide (b<w.heap.size),fun _=>none,fun _=>none⟩ (.sl false 1 (Qbt bs)) (.slice a0 len0 cap0):=by
  rcases hr with ⟨rfl,rfl,rfl,rfl⟩|⟨x,rfl,hlc,hz,hcell,hwf⟩
  ·exact⟨[],rfl,.slnil _ _ _⟩
  ·obtain⟨b,off,spot⟩:=x
   have hbl:((z0.take len0).map fun n=>UInt8.ofNat n.toNat).length=len0:=by simp;omega
   by_cases h0:cap0=0
   ·subst h0
    have:len0=0:=by omega
    subst this
    exact⟨[],rfl,.slnil _ _ _⟩
   have hc0:=hcell 0 (by omega)
   have hspot:spot=none:=by simpa[Addr.add]using World.cell?_spot hc0
   subst hspot
   have hadd:∀i,(⟨b,off,none⟩:Addr).add i=⟨b,off+i,none⟩:=by
    intro i
    by_cases h:i=0 <;> simp[Addr.add,h]
   have hb:b<w.heap.size:=by
    rcases Nat.lt_or_ge b w.heap.size with h|h
    ·exact h
    ·simp[World.cell?,Addr.add,Array.getElem?_eq_none h]at hc0
   refine⟨_,hbl,?_⟩
   have hget:∀(i:Nat) (row:List C),(Qbt ((z0.take len0).map fun n=>UInt8.ofNat n.toNat))[i]? = some row→i<len0∧row=[.int .u8 (z0.getD i 0)]:=by
    intro i row hi
    have hlt:i<len0:=by
     rcases Nat.lt_or_ge i len0 with h|h
     ·exact h
     ·rw[List.getElem?_eq_none (by rw[Qay];omega)]at hi;simp at hi
    have hz0:i<z0.length:=by omega
    refine⟨hlt,?_⟩
    simp only[Qbt,List.getElem?_map,List.getElem?_take,if_pos hlt,List.getElem?_eq_getElem hz0,Option.map_some,Option.some.injEq]at hi
    rw[←hi,Qbdf (hwf _ (List.getElem_mem hz0))]
    simp[List.getD_eq_getElem?_getD,hz0]
   have:=RepC.sl (w:=w) (g:=⟨fun b=>decide (b<w.heap.size),fun _=>none,fun _=>none⟩) false 1 (Qbt ((z0.take len0).map fun n=>UInt8.ofNat n.toNat)) b off cap0 (fun i _=>.int .u8 (z0.getD i 0))
    (by rw[Qay,hbl];simp only[LIM];omega) (by simp) (by rw[Qay,hbl];exact hlc) (by simpa using hb)
    (fun i row hi=>by rw[(hget i row hi).2];rfl)
    (fun i row j c hi hj=>by
     obtain⟨h1,rfl⟩:=hget i row hi
     have hj0:j=0:=by
      rcases Nat.eq_zero_or_pos j with h|h
      ·exact h
      ·rw[List.getElem?_eq_none (by simp;omega)]at hj;simp at hj
     subst hj0
     have:=hcell i (by omega)
     rw[hadd]at this
     simpa using this)
    (fun i row j c hi hj=>by
     obtain⟨h1,rfl⟩:=hget i row hi
     have hj0:j=0:=by
      rcases Nat.eq_zero_or_pos j with h|h
      ·exact h
      ·rw[List.getElem?_eq_none (by simp;omega)]at hj;simp at hj
     subst hj0
     simp at hj;subst hj
     exact .int _ _)
   rw[Qay,hbl]at this
   exact this
 obtain⟨bs,hbl,hrep⟩:=key
 have hc:=(h bs (by omega)).2 _ w [.slice a0 len0 cap0] (Qa8s w) rfl (fun j x u hj hu=>by
  cases j with
  |zero=>simp at hj hu;subst hj;subst hu;exact .c _ _ hrep
  |succ j=>simp at hj)
 refine hc.mono fun e w'=>?_
 rintro⟨v,x,H',g',rfl,rfl,hst,hv⟩
 have:v=.bool true:=by cases hv with|c _ _ h=>cases h;rfl
 subst this
 exact⟨rfl,hst.le.os,hst.le.tape,hst.le.output,hst.le.size,fun k hk=>(hst.le.per k (by simpa using hk)).2⟩
end Go.AE.Y

