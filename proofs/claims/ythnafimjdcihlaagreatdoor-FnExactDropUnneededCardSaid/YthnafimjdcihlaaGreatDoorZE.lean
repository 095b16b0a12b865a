/- Part 5 of the proof: the engine, codes, walks and plain laws, each named where it stands. -/
import Derived.Test.YthnafimjdcihlaaGreatDoorZD
import Derived.Below
import Derived.OpenShut
import Derived.WideKeyElems2
open Nat (reduceEqDiff reduceAdd reduceLeDiff reduceLT)
set_option linter.unusedVariables false
set_option linter.unusedSimpArgs false
set_option maxRecDepth 4000
set_option maxHeartbeats 4000000
namespace Go.AE.Y
attribute [local go_sem] cond_true cond_false Bool.not_true Bool.not_false
open Go.Proofs.Tryz
variable {H H0 F:Heap}{K:V→Heap→Prop}{fns:List Fn}
def SzE (f:Nat)(v:V)(ok:Nat→Prop):Prop:=∀(left:Int) (H:Heap) (K:V→Heap→Prop),0≤left→left≤2 ^ 20→
 (∀r:Int,-1≤r→r≤left→(0≤r→∃n:Nat,ok n∧(n:Int)+r≤left)→K (.c (.int .i64 r)) H)→Qj prog f [v,.c (.int .i64 left)] H K
theorem Qzn (n:Nat):Qa7i (.slb n):=trivial
theorem Qay0 (a b:List Fn):Qjo (a++b)=Qjo a+Qjo b:=by
 induction a with
 |nil=>simp[Qjo]
 |cons x r ih=>simp only[List.cons_append,Qjo,ih];omega
theorem nmC.ow {c:C}(h:nmC c):c.isOw=false:=by
 rcases h with ⟨s,rfl⟩|⟨n,_,_,rfl⟩ <;> rfl
def okXs (c:C)(n:Nat):Prop:=∃l,c=.sl false 4 (Q2 l)∧Qv l≤n
def okSs (c:C)(n:Nat):Prop:=∃l,c=.sl false 5 (Ql l)∧Qg l≤n
def okTs (c:C)(n:Nat):Prop:=∃l,c=.sl false 1 (Qy l)∧l.length≤n
def okFs (c:C)(n:Nat):Prop:=∃l,c=.sl false 3 (Qm l)∧Qjo l≤n
theorem SzE.imp {f:Nat}{v:V}{p q:Nat→Prop}(h:SzE f v p)(hi:∀n,p n→q n):SzE f v q:=fun left H K h0 hl hK=>h left H K h0 hl fun r a b c=>hK r a b fun h1=>by
 obtain⟨n,h2,h3⟩:=c h1
 exact⟨n,hi n h2,h3⟩
theorem Qauc {n:Nat}(hn:LIM<n)(hn2:n<2 ^ 63)(ok:Nat→Prop):SzE Qbb (.c (.slb n)) ok:=by
 intro left H K h0 hl hK
 simp only[LIM]at hn
 refine Qb Qaj Q4g ?_
 refine Qa ?_
 simp only[go_sem]
 refine Qa ?_
 simp only[go_sem,lenX]
 refine⟨.inr (Qzn n),fun _=>⟨Qo (by omega) (by omega),?_⟩⟩
 refine Qz ?_
 refine Qa ?_
 simp only[go_sem]
 refine Qe (Qc rfl (fun hn=>?_) (fun hn=>by have:=of_decide_eq_false hn;omega))
 refine Qa ?_
 simp only[go_sem]
 refine Qh ?_
 simp only[go_sem,Q0,Q6,Qam8,List.mem_singleton,forall_eq,RS.op]
 exact hK _ (by omega) (by omega) fun h=>by omega
theorem Qa2g {rows:List (List C)}(hrl:rows.length≤LIM)(hr4:∀r∈rows,r.length=4)(hro:∀r∈rows,noOw r=true)(hf:∀r∈rows,SzE Qe6 (.ag r) fun n=>∃x:Ex,r=x.cells∧x.size≤n+1) :
  SzE Qbb (.c (.sl false 4 rows)) fun n=>∃l:List Ex,rows=Q2 l∧Qv l≤n:=by
 intro left H K h0 hl hK
 simp only[LIM]at hrl
 refine Qb Qaj Q4g ?_
 refine Qa ?_
 simp only[go_sem]
 refine Qa ?_
 simp only[go_sem,lenX]
 refine⟨.inl trivial,fun _=>⟨Qo (by omega) (by omega),?_⟩⟩
 refine Qz ?_
 refine Qa ?_
 simp only[go_sem]
 refine Qe (Qc rfl (fun hn=>?_) (fun hn=>?_))
 ·refine Qa ?_
  simp only[go_sem]
  refine Qh ?_
  simp only[go_sem,Q0,Q6,Qam8,List.mem_singleton,forall_eq,RS.op]
  exact hK _ (by omega) (by omega) fun h=>by omega
 have h2:0≤left-rows.length:=by have:=of_decide_eq_false hn;omega
 refine Qf ?_
 try simp only[go_sem]
 refine Qz ?_
 refine Qa ?_
 simp only[go_sem]
 refine Qe (Qd (Qt (fun m e1 H1=>∃(i:Nat) (l0:List Ex) (lf:Int),m=rows.length-i∧i≤rows.length∧H1=H∧rows.take i=Q2 l0∧0≤lf∧lf≤left∧(Qv l0:Int)+lf≤left-rows.length+i∧
  e1=[(0,.c (.sl false 4 rows)),(1,.c (.int .i64 lf)),(5,.c (.int .i64 i))]) rows.length ?_ ?_))
 ·exact⟨0,[],left-rows.length,by omega,by omega,rfl,rfl,h2,by omega,by simp only[Qv];omega,rfl⟩
 ·rintro m e1 H1 ⟨i,l0,lf,hm,hi,rfl,htk,h3,h4,h5,rfl⟩
  refine Qz ?_
  refine Qa ?_
  simp only[go_sem,lenX]
  refine⟨.inl trivial,fun _=>?_⟩
  refine Qe (Qc rfl (fun hc=>?_) (fun hc=>?_))
  ·have hlt:i<rows.length:=by have:=of_decide_eq_true hc;omega
   obtain⟨r,hrr2⟩:∃r,rows[i]=r:=⟨_,rfl⟩
   have hrm:r∈rows:=by rw[←hrr2];exact List.getElem_mem hlt
   have hrow:rows.getD i []=r:=by rw[List.getD_eq_getElem?_getD,List.getElem?_eq_getElem hlt,hrr2];rfl
   have hr:=hr4 r hrm
   have htk4:List.take 4 r=r:=List.take_of_length_le (by omega)
   have hao:(r.all fun c=>!c.isOw)=true:=hro r hrm
   refine Qf ?_
   try simp only[go_sem]
   refine Qe (Qd ?_)
   refine Qa ?_
   simp only[go_sem,hlt,hrow,htk4,hao,hr]
   refine hf r hrm lf H1 _ h3 (by omega) fun rr b1 b2 hrr=>?_
   simp only[go_sem,Qtm]
   refine Qa ?_
   simp only[go_sem]
   refine Qc rfl (fun hn=>?_) (fun hn=>?_)
   ·refine Qa ?_
    simp only[go_sem]
    refine Qh ?_
    simp only[go_sem,AE.X.next,Q0,Q6,Qam8,List.mem_singleton,forall_eq,RS.op]
    exact hK _ (by omega) (by omega) fun h=>by omega
   have h6:0≤rr:=by have:=of_decide_eq_false hn;omega
   obtain⟨n,⟨x,hx,hxs⟩,hle⟩:=hrr h6
   refine Qf ?_
   try simp only[go_sem,AE.X.next]
   refine Qn ?_
   simp only[go_sem,AE.X.next]
   refine⟨Qo (by omega) (by omega),rows.length-(i+1),by omega,i+1,l0++[x],rr,rfl,by omega,?_,h6,by omega,?_,rfl⟩
   ·rw[List.take_succ_eq_append_getElem hlt,htk,hrr2,hx,Qe3]
   ·simp only[Qet,Qv];omega
  ·have hge:rows.length≤i:=by have:=of_decide_eq_false hc;omega
   rw[List.take_of_length_le hge]at htk
   refine Qu ?_
   simp only[go_sem,AE.X.next]
   refine Qa ?_
   simp only[go_sem]
   refine Qh ?_
   simp only[go_sem,Q0,Q6,Qam8,List.mem_singleton,forall_eq,RS.op]
   exact hK lf (by omega) h4 fun _=>⟨Qv l0,⟨l0,htk,Nat.le_refl _⟩,by omega⟩
theorem Qa5j {a b:Int}{cn ck:C}(hnm:nmC cn)(hk:SzE Qbb (.c ck) (okXs ck))(hko:ck.isOw=false):SzE Qe6 (.ag [.int .i64 a,.int .i64 b,cn,ck]) fun n=>∃x:Ex,[C.int .i64 a,.int .i64 b,cn,ck]=x.cells∧x.size≤n+1:=by
 intro left H K h0 hl hK
 have hno:=hnm.ow
 have hko2:=hko
 refine Qb Qaj Qaq6 ?_
 refine Qa ?_
 simp only[go_sem,hno,hko2]
 rcases hnm with ⟨s,rfl⟩|⟨n,hn1,hn2,rfl⟩
 rotate_left
 ·simp only[LIM]at hn1
  refine Qa ?_
  simp only[go_sem,hno,hko2]
  refine fun _=>⟨Qo (by omega) (by omega),?_⟩
  refine Qz ?_
  refine Qa ?_
  simp only[go_sem,hno,hko2]
  refine Qe (Qc rfl (fun hn=>?_) (fun hn=>by have:=of_decide_eq_false hn;omega))
  refine Qa ?_
  simp only[go_sem]
  refine Qh ?_
  simp only[go_sem,Q0,Q6,Qam8,List.mem_singleton,forall_eq,RS.op]
  exact hK _ (by omega) (by omega) fun h=>by omega
 refine Qa ?_
 simp only[go_sem,hno,hko2]
 refine fun hsl=>?_
 simp only[LIM]at hsl
 refine⟨Qo (by omega) (by omega),?_⟩
 refine Qz ?_
 refine Qa ?_
 simp only[go_sem,hno,hko2]
 refine Qe (Qc rfl (fun hn=>?_) (fun hn=>?_))
 ·refine Qa ?_
  simp only[go_sem]
  refine Qh ?_
  simp only[go_sem,Q0,Q6,Qam8,List.mem_singleton,forall_eq,RS.op]
  exact hK _ (by omega) (by omega) fun h=>by omega
 have k0:0≤left-s.length:=by have:=of_decide_eq_false hn;omega
 refine Qf ?_
 try simp only[go_sem]
 refine Qa ?_
 simp only[go_sem,hno,hko2]
 refine hk (left-s.length) H _ k0 (by omega) fun r1 a0 b0 d0=>?_
 simp only[go_sem,Qwy,hno,hko2]
 refine Qz ?_
 refine Qa ?_
 simp only[go_sem,hno,hko2]
 refine Qe (Qc rfl (fun hn=>?_) (fun hn=>?_))
 ·refine Qa ?_
  simp only[go_sem]
  refine Qh ?_
  simp only[go_sem,Q0,Q6,Qam8,List.mem_singleton,forall_eq,RS.op]
  exact hK _ (by omega) (by omega) fun h=>by omega
 have k1:0≤r1:=by have:=of_decide_eq_false hn;omega
 obtain⟨n0,⟨x0,e0,f0⟩,g0⟩:=d0 k1
 refine Qf ?_
 try simp only[go_sem]
 refine Qa ?_
 simp only[go_sem]
 refine Qh ?_
 simp only[go_sem,Q0,Q6,Qam8,List.mem_singleton,forall_eq,RS.op]
 exact hK r1 (by omega) (by omega) fun _=>⟨n0,⟨.mk a b s x0,by rw[e0,Ex.cells],by simp only[Ex.size];omega⟩,by omega⟩
theorem Qaue {n:Nat}(hn:LIM<n)(hn2:n<2 ^ 63)(ok:Nat→Prop):SzE Qaw (.c (.slb n)) ok:=by
 intro left H K h0 hl hK
 simp only[LIM]at hn
 refine Qb Qaj Q4h ?_
 refine Qa ?_
 simp only[go_sem]
 refine Qa ?_
 simp only[go_sem,lenX]
 refine⟨.inr (Qzn n),fun _=>⟨Qo (by omega) (by omega),?_⟩⟩
 refine Qz ?_
 refine Qa ?_
 simp only[go_sem]
 refine Qe (Qc rfl (fun hn=>?_) (fun hn=>by have:=of_decide_eq_false hn;omega))
 refine Qa ?_
 simp only[go_sem]
 refine Qh ?_
 simp only[go_sem,Q0,Q6,Qam8,List.mem_singleton,forall_eq,RS.op]
 exact hK _ (by omega) (by omega) fun h=>by omega
theorem Qa2k {rows:List (List C)}(hrl:rows.length≤LIM)(hr4:∀r∈rows,r.length=5)(hro:∀r∈rows,noOw r=true)(hf:∀r∈rows,SzE Qe7 (.ag r) fun n=>∃x:St,r=x.cells∧x.size≤n+1) :
  SzE Qaw (.c (.sl false 5 rows)) fun n=>∃l:List St,rows=Ql l∧Qg l≤n:=by
 intro left H K h0 hl hK
 simp only[LIM]at hrl
 refine Qb Qaj Q4h ?_
 refine Qa ?_
 simp only[go_sem]
 refine Qa ?_
 simp only[go_sem,lenX]
 refine⟨.inl trivial,fun _=>⟨Qo (by omega) (by omega),?_⟩⟩
 refine Qz ?_
 refine Qa ?_
 simp only[go_sem]
 refine Qe (Qc rfl (fun hn=>?_) (fun hn=>?_))
 ·refine Qa ?_
  simp only[go_sem]
  refine Qh ?_
  simp only[go_sem,Q0,Q6,Qam8,List.mem_singleton,forall_eq,RS.op]
  exact hK _ (by omega) (by omega) fun h=>by omega
 have h2:0≤left-rows.length:=by have:=of_decide_eq_false hn;omega
 refine Qf ?_
 try simp only[go_sem]
 refine Qz ?_
 refine Qa ?_
 simp only[go_sem]
 refine Qe (Qd (Qt (fun m e1 H1=>∃(i:Nat) (l0:List St) (lf:Int),m=rows.length-i∧i≤rows.length∧H1=H∧rows.take i=Ql l0∧0≤lf∧lf≤left∧(Qg l0:Int)+lf≤left-rows.length+i∧
  e1=[(0,.c (.sl false 5 rows)),(1,.c (.int .i64 lf)),(5,.c (.int .i64 i))]) rows.length ?_ ?_))
 ·exact⟨0,[],left-rows.length,by omega,by omega,rfl,rfl,h2,by omega,by simp only[Qg];omega,rfl⟩
 ·rintro m e1 H1 ⟨i,l0,lf,hm,hi,rfl,htk,h3,h4,h5,rfl⟩
  refine Qz ?_
  refine Qa ?_
  simp only[go_sem,lenX]
  refine⟨.inl trivial,fun _=>?_⟩
  refine Qe (Qc rfl (fun hc=>?_) (fun hc=>?_))
  ·have hlt:i<rows.length:=by have:=of_decide_eq_true hc;omega
   obtain⟨r,hrr2⟩:∃r,rows[i]=r:=⟨_,rfl⟩
   have hrm:r∈rows:=by rw[←hrr2];exact List.getElem_mem hlt
   have hrow:rows.getD i []=r:=by rw[List.getD_eq_getElem?_getD,List.getElem?_eq_getElem hlt,hrr2];rfl
   have hr:=hr4 r hrm
   have htk4:List.take 5 r=r:=List.take_of_length_le (by omega)
   have hao:(r.all fun c=>!c.isOw)=true:=hro r hrm
   refine Qf ?_
   try simp only[go_sem]
   refine Qe (Qd ?_)
   refine Qa ?_
   simp only[go_sem,hlt,hrow,htk4,hao,hr]
   refine hf r hrm lf H1 _ h3 (by omega) fun rr b1 b2 hrr=>?_
   simp only[go_sem,Qtn]
   refine Qa ?_
   simp only[go_sem]
   refine Qc rfl (fun hn=>?_) (fun hn=>?_)
   ·refine Qa ?_
    simp only[go_sem]
    refine Qh ?_
    simp only[go_sem,AE.X.next,Q0,Q6,Qam8,List.mem_singleton,forall_eq,RS.op]
    exact hK _ (by omega) (by omega) fun h=>by omega
   have h6:0≤rr:=by have:=of_decide_eq_false hn;omega
   obtain⟨n,⟨x,hx,hxs⟩,hle⟩:=hrr h6
   refine Qf ?_
   try simp only[go_sem,AE.X.next]
   refine Qn ?_
   simp only[go_sem,AE.X.next]
   refine⟨Qo (by omega) (by omega),rows.length-(i+1),by omega,i+1,l0++[x],rr,rfl,by omega,?_,h6,by omega,?_,rfl⟩
   ·rw[List.take_succ_eq_append_getElem hlt,htk,hrr2,hx,Qn7]
   ·simp only[Qy5,Qg];omega
  ·have hge:rows.length≤i:=by have:=of_decide_eq_false hc;omega
   rw[List.take_of_length_le hge]at htk
   refine Qu ?_
   simp only[go_sem,AE.X.next]
   refine Qa ?_
   simp only[go_sem]
   refine Qh ?_
   simp only[go_sem,Q0,Q6,Qam8,List.mem_singleton,forall_eq,RS.op]
   exact hK lf (by omega) h4 fun _=>⟨Qg l0,⟨l0,htk,Nat.le_refl _⟩,by omega⟩
theorem Qa5n {a:Int}{cn ca cb cd:C}(hnm:nmC cn)(hka:SzE Qbb (.c ca) (okXs ca))(hoa:ca.isOw=false)(hkb:SzE Qaw (.c cb) (okSs cb))(hob:cb.isOw=false)(hkd:SzE Qaw (.c cd) (okSs cd))(hod:cd.isOw=false):SzE Qe7 (.ag [.int .i64 a,cn,ca,cb,cd]) fun n=>∃x:St,[C.int .i64 a,cn,ca,cb,cd]=x.cells∧x.size≤n+1:=by
 intro left H K h0 hl hK
 have hno:=hnm.ow
 have hoa2:=hoa
 have hob2:=hob
 have hod2:=hod
 refine Qb Qaj Qaq7 ?_
 refine Qa ?_
 simp only[go_sem,hno,hoa2,hob2,hod2]
 rcases hnm with ⟨s,rfl⟩|⟨n,hn1,hn2,rfl⟩
 rotate_left
 ·simp only[LIM]at hn1
  refine Qa ?_
  simp only[go_sem,hno,hoa2,hob2,hod2]
  refine fun _=>⟨Qo (by omega) (by omega),?_⟩
  refine Qz ?_
  refine Qa ?_
  simp only[go_sem,hno,hoa2,hob2,hod2]
  refine Qe (Qc rfl (fun hn=>?_) (fun hn=>by have:=of_decide_eq_false hn;omega))
  refine Qa ?_
  simp only[go_sem]
  refine Qh ?_
  simp only[go_sem,Q0,Q6,Qam8,List.mem_singleton,forall_eq,RS.op]
  exact hK _ (by omega) (by omega) fun h=>by omega
 refine Qa ?_
 simp only[go_sem,hno,hoa2,hob2,hod2]
 refine fun hsl=>?_
 simp only[LIM]at hsl
 refine⟨Qo (by omega) (by omega),?_⟩
 refine Qz ?_
 refine Qa ?_
 simp only[go_sem,hno,hoa2,hob2,hod2]
 refine Qe (Qc rfl (fun hn=>?_) (fun hn=>?_))
 ·refine Qa ?_
  simp only[go_sem]
  refine Qh ?_
  simp only[go_sem,Q0,Q6,Qam8,List.mem_singleton,forall_eq,RS.op]
  exact hK _ (by omega) (by omega) fun h=>by omega
 have k0:0≤left-s.length:=by have:=of_decide_eq_false hn;omega
 refine Qf ?_
 try simp only[go_sem]
 refine Qa ?_
 simp only[go_sem,hno,hoa2,hob2,hod2]
 refine hka (left-s.length) H _ k0 (by omega) fun r1 a0 b0 d0=>?_
 simp only[go_sem,Qwz,hno,hoa2,hob2,hod2]
 refine Qz ?_
 refine Qa ?_
 simp only[go_sem,hno,hoa2,hob2,hod2]
 refine Qe (Qc rfl (fun hn=>?_) (fun hn=>?_))
 ·refine Qa ?_
  simp only[go_sem]
  refine Qh ?_
  simp only[go_sem,Q0,Q6,Qam8,List.mem_singleton,forall_eq,RS.op]
  exact hK _ (by omega) (by omega) fun h=>by omega
 have k1:0≤r1:=by have:=of_decide_eq_false hn;omega
 obtain⟨n0,⟨x0,e0,f0⟩,g0⟩:=d0 k1
 refine Qf ?_
 try simp only[go_sem]
 refine Qa ?_
 simp only[go_sem,hno,hoa2,hob2,hod2]
 refine hkb r1 H _ k1 (by omega) fun r2 a1 b1 d1=>?_
 simp only[go_sem,Qw0,hno,hoa2,hob2,hod2]
 refine Qz ?_
 refine Qa ?_
 simp only[go_sem,hno,hoa2,hob2,hod2]
 refine Qe (Qc rfl (fun hn=>?_) (fun hn=>?_))
 ·refine Qa ?_
  simp only[go_sem]
  refine Qh ?_
  simp only[go_sem,Q0,Q6,Qam8,List.mem_singleton,forall_eq,RS.op]
  exact hK _ (by omega) (by omega) fun h=>by omega
 have k2:0≤r2:=by have:=of_decide_eq_false hn;omega
 obtain⟨n1,⟨x1,e1,f1⟩,g1⟩:=d1 k2
 refine Qf ?_
 try simp only[go_sem]
 refine Qa ?_
 simp only[go_sem,hno,hoa2,hob2,hod2]
 refine hkd r2 H _ k2 (by omega) fun r3 a2 b2 d2=>?_
 simp only[go_sem,Qw1,hno,hoa2,hob2,hod2]
 refine Qz ?_
 refine Qa ?_
 simp only[go_sem,hno,hoa2,hob2,hod2]
 refine Qe (Qc rfl (fun hn=>?_) (fun hn=>?_))
 ·refine Qa ?_
  simp only[go_sem]
  refine Qh ?_
  simp only[go_sem,Q0,Q6,Qam8,List.mem_singleton,forall_eq,RS.op]
  exact hK _ (by omega) (by omega) fun h=>by omega
 have k3:0≤r3:=by have:=of_decide_eq_false hn;omega
 obtain⟨n2,⟨x2,e2,f2⟩,g2⟩:=d2 k3
 refine Qf ?_
 try simp only[go_sem]
 refine Qa ?_
 simp only[go_sem]
 refine Qh ?_
 simp only[go_sem,Q0,Q6,Qam8,List.mem_singleton,forall_eq,RS.op]
 exact hK r3 (by omega) (by omega) fun _=>⟨n0+n1+n2,⟨.mk a s x0 x1 x2,by rw[e0,e1,e2,St.cells],by simp only[St.size];omega⟩,by omega⟩
theorem Qalq {n:Nat}(hn:LIM<n)(hn2:n<2 ^ 63)(ok:Nat→Prop):SzE Qbz (.c (.slb n)) ok:=by
 intro left H K h0 hl hK
 simp only[LIM]at hn
 refine Qb Qaj Qwh ?_
 refine Qa ?_
 simp only[go_sem]
 refine Qa ?_
 simp only[go_sem,lenX]
 refine⟨.inr (Qzn n),fun _=>⟨Qo (by omega) (by omega),?_⟩⟩
 refine Qz ?_
 refine Qa ?_
 simp only[go_sem]
 refine Qe (Qc rfl (fun hn=>?_) (fun hn=>by have:=of_decide_eq_false hn;omega))
 refine Qa ?_
 simp only[go_sem]
 refine Qh ?_
 simp only[go_sem,Q0,Q6,Qam8,List.mem_singleton,forall_eq,RS.op]
 exact hK _ (by omega) (by omega) fun h=>by omega
theorem Qauf {rows:List (List C)}(hrl:rows.length≤LIM)(hr4:∀r∈rows,r.length=1)(hro:∀r∈rows,noOw r=true)(hf:∀r∈rows,∃c,r=[c]∧nmC c) :
  SzE Qbz (.c (.sl false 1 rows)) fun n=>∃l:List (List UInt8),rows=Qy l∧List.length l≤n:=by
 intro left H K h0 hl hK
 simp only[LIM]at hrl
 refine Qb Qaj Qwh ?_
 refine Qa ?_
 simp only[go_sem]
 refine Qa ?_
 simp only[go_sem,lenX]
 refine⟨.inl trivial,fun _=>⟨Qo (by omega) (by omega),?_⟩⟩
 refine Qz ?_
 refine Qa ?_
 simp only[go_sem]
 refine Qe (Qc rfl (fun hn=>?_) (fun hn=>?_))
 ·refine Qa ?_
  simp only[go_sem]
  refine Qh ?_
  simp only[go_sem,Q0,Q6,Qam8,List.mem_singleton,forall_eq,RS.op]
  exact hK _ (by omega) (by omega) fun h=>by omega
 have h2:0≤left-rows.length:=by have:=of_decide_eq_false hn;omega
 refine Qf ?_
 try simp only[go_sem]
 refine Qz ?_
 refine Qa ?_
 simp only[go_sem]
 refine Qe (Qd (Qt (fun m e1 H1=>∃(i:Nat) (l0:List (List UInt8)) (lf:Int),m=rows.length-i∧i≤rows.length∧H1=H∧rows.take i=Qy l0∧0≤lf∧lf≤left∧(List.length l0:Int)+lf≤left-rows.length+i∧
  e1=[(0,.c (.sl false 1 rows)),(1,.c (.int .i64 lf)),(5,.c (.int .i64 i))]) rows.length ?_ ?_))
 ·exact⟨0,[],left-rows.length,by omega,by omega,rfl,rfl,h2,by omega,by simp only[List.length_nil];omega,rfl⟩
 ·rintro m e1 H1 ⟨i,l0,lf,hm,hi,rfl,htk,h3,h4,h5,rfl⟩
  refine Qz ?_
  refine Qa ?_
  simp only[go_sem,lenX]
  refine⟨.inl trivial,fun _=>?_⟩
  refine Qe (Qc rfl (fun hc=>?_) (fun hc=>?_))
  ·have hlt:i<rows.length:=by have:=of_decide_eq_true hc;omega
   obtain⟨r,hrr2⟩:∃r,rows[i]=r:=⟨_,rfl⟩
   have hrm:r∈rows:=by rw[←hrr2];exact List.getElem_mem hlt
   have hrow:rows.getD i []=r:=by rw[List.getD_eq_getElem?_getD,List.getElem?_eq_getElem hlt,hrr2];rfl
   have hr:=hr4 r hrm
   have htk4:List.take 1 r=r:=List.take_of_length_le (by omega)
   have hao:(r.all fun c=>!c.isOw)=true:=hro r hrm
   refine Qf ?_
   try simp only[go_sem]
   refine Qe (Qd ?_)
   obtain⟨c,rfl,hnm⟩:=hf r hrm
   have hno:=hnm.ow
   rcases hnm with ⟨s,rfl⟩|⟨n,hn1,hn2,rfl⟩
   rotate_left
   ·simp only[LIM]at hn1
    refine Qa ?_
    simp only[go_sem,hlt,hrow,htk4,hao,hr,hno]
    refine fun _=>⟨Qo (by omega) (by omega),?_⟩
    refine Qa ?_
    simp only[go_sem]
    refine Qc rfl (fun hn=>?_) (fun hn=>by have:=of_decide_eq_false hn;omega)
    refine Qa ?_
    simp only[go_sem]
    refine Qh ?_
    simp only[go_sem,AE.X.next,Q0,Q6,Qam8,List.mem_singleton,forall_eq,RS.op]
    exact hK _ (by omega) (by omega) fun h=>by omega
   refine Qa ?_
   simp only[go_sem,hlt,hrow,htk4,hao,hr,hno]
   refine fun hsl=>?_
   simp only[LIM]at hsl
   refine⟨Qo (by omega) (by omega),?_⟩
   refine Qa ?_
   simp only[go_sem]
   refine Qc rfl (fun hn=>?_) (fun hn=>?_)
   ·refine Qa ?_
    simp only[go_sem]
    refine Qh ?_
    simp only[go_sem,AE.X.next,Q0,Q6,Qam8,List.mem_singleton,forall_eq,RS.op]
    exact hK _ (by omega) (by omega) fun h=>by omega
   have h6:0≤lf-s.length:=by have:=of_decide_eq_false hn;omega
   refine Qf ?_
   try simp only[go_sem,AE.X.next]
   refine Qn ?_
   simp only[go_sem,AE.X.next]
   refine⟨Qo (by omega) (by omega),rows.length-(i+1),by omega,i+1,l0++[s],lf-s.length,rfl,by omega,?_,h6,by omega,?_,rfl⟩
   ·rw[List.take_succ_eq_append_getElem hlt,htk,hrr2,Qpq]
   ·simp only[List.length_append,List.length_cons,List.length_nil];omega
  ·have hge:rows.length≤i:=by have:=of_decide_eq_false hc;omega
   rw[List.take_of_length_le hge]at htk
   refine Qu ?_
   simp only[go_sem,AE.X.next]
   refine Qa ?_
   simp only[go_sem]
   refine Qh ?_
   simp only[go_sem,Q0,Q6,Qam8,List.mem_singleton,forall_eq,RS.op]
   exact hK lf (by omega) h4 fun _=>⟨List.length l0,⟨l0,htk,Nat.le_refl _⟩,by omega⟩
theorem Qa9x {cn ct cb:C}(hnm:nmC cn)(hka:SzE Qbz (.c ct) (okTs ct))(hoa:ct.isOw=false)(hkb:SzE Qaw (.c cb) (okSs cb))(hob:cb.isOw=false):SzE Qmu (.ag [cn,ct,cb]) fun n=>∃x:Fn,[cn,ct,cb]=x.cells∧1+x.params.length+Qg x.body≤n+1:=by
 intro left H K h0 hl hK
 have hno:=hnm.ow
 have hoa2:=hoa
 have hob2:=hob
 refine Qb Qaj Qaz8 ?_
 refine Qa ?_
 simp only[go_sem,hno,hoa2,hob2]
 rcases hnm with ⟨s,rfl⟩|⟨n,hn1,hn2,rfl⟩
 rotate_left
 ·simp only[LIM]at hn1
  refine Qa ?_
  simp only[go_sem,hno,hoa2,hob2]
  refine fun _=>⟨Qo (by omega) (by omega),?_⟩
  refine Qz ?_
  refine Qa ?_
  simp only[go_sem,hno,hoa2,hob2]
  refine Qe (Qc rfl (fun hn=>?_) (fun hn=>by have:=of_decide_eq_false hn;omega))
  refine Qa ?_
  simp only[go_sem]
  refine Qh ?_
  simp only[go_sem,Q0,Q6,Qam8,List.mem_singleton,forall_eq,RS.op]
  exact hK _ (by omega) (by omega) fun h=>by omega
 refine Qa ?_
 simp only[go_sem,hno,hoa2,hob2]
 refine fun hsl=>?_
 simp only[LIM]at hsl
 refine⟨Qo (by omega) (by omega),?_⟩
 refine Qz ?_
 refine Qa ?_
 simp only[go_sem,hno,hoa2,hob2]
 refine Qe (Qc rfl (fun hn=>?_) (fun hn=>?_))
 ·refine Qa ?_
  simp only[go_sem]
  refine Qh ?_
  simp only[go_sem,Q0,Q6,Qam8,List.mem_singleton,forall_eq,RS.op]
  exact hK _ (by omega) (by omega) fun h=>by omega
 have k0:0≤left-s.length:=by have:=of_decide_eq_false hn;omega
 refine Qf ?_
 try simp only[go_sem]
 refine Qa ?_
 simp only[go_sem,hno,hoa2,hob2]
 refine hka (left-s.length) H _ k0 (by omega) fun r1 a0 b0 d0=>?_
 simp only[go_sem,Q5h,hno,hoa2,hob2]
 refine Qz ?_
 refine Qa ?_
 simp only[go_sem,hno,hoa2,hob2]
 refine Qe (Qc rfl (fun hn=>?_) (fun hn=>?_))
 ·refine Qa ?_
  simp only[go_sem]
  refine Qh ?_
  simp only[go_sem,Q0,Q6,Qam8,List.mem_singleton,forall_eq,RS.op]
  exact hK _ (by omega) (by omega) fun h=>by omega
 have k1:0≤r1:=by have:=of_decide_eq_false hn;omega
 obtain⟨n0,⟨x0,e0,f0⟩,g0⟩:=d0 k1
 refine Qf ?_
 try simp only[go_sem]
 refine Qa ?_
 simp only[go_sem,hno,hoa2,hob2]
 refine hkb r1 H _ k1 (by omega) fun r2 a1 b1 d1=>?_
 simp only[go_sem,Q5i,hno,hoa2,hob2]
 refine Qz ?_
 refine Qa ?_
 simp only[go_sem,hno,hoa2,hob2]
 refine Qe (Qc rfl (fun hn=>?_) (fun hn=>?_))
 ·refine Qa ?_
  simp only[go_sem]
  refine Qh ?_
  simp only[go_sem,Q0,Q6,Qam8,List.mem_singleton,forall_eq,RS.op]
  exact hK _ (by omega) (by omega) fun h=>by omega
 have k2:0≤r2:=by have:=of_decide_eq_false hn;omega
 obtain⟨n1,⟨x1,e1,f1⟩,g1⟩:=d1 k2
 refine Qf ?_
 try simp only[go_sem]
 refine Qa ?_
 simp only[go_sem]
 refine Qh ?_
 simp only[go_sem,Q0,Q6,Qam8,List.mem_singleton,forall_eq,RS.op]
 exact hK r2 (by omega) (by omega) fun _=>⟨n0+n1,⟨⟨s,x0,x1⟩,by rw[e0,e1,Fn.cells],by simp only;omega⟩,by omega⟩
theorem Qa2i {n:Nat}(hn:LIM<n)(hn2:n<2 ^ 63)(ok:Nat→Prop):SzE Qgk (.c (.slb n)) ok:=by
 intro left H K h0 hl hK
 simp only[LIM]at hn
 refine Qb Qaj Qahw ?_
 refine Qa ?_
 simp only[go_sem]
 refine Qa ?_
 simp only[go_sem,lenX]
 refine⟨.inr (Qzn n),fun _=>⟨Qo (by omega) (by omega),?_⟩⟩
 refine Qz ?_
 refine Qa ?_
 simp only[go_sem]
 refine Qe (Qc rfl (fun hn=>?_) (fun hn=>by have:=of_decide_eq_false hn;omega))
 refine Qa ?_
 simp only[go_sem]
 refine Qh ?_
 simp only[go_sem,Q0,Q6,Qam8,List.mem_singleton,forall_eq,RS.op]
 exact hK _ (by omega) (by omega) fun h=>by omega
theorem Qa75 {rows:List (List C)}(hrl:rows.length≤LIM)(hr4:∀r∈rows,r.length=3)(hro:∀r∈rows,noOw r=true)(hf:∀r∈rows,SzE Qmu (.ag r) fun n=>∃x:Fn,r=x.cells∧1+x.params.length+Qg x.body≤n+1) :
  SzE Qgk (.c (.sl false 3 rows)) fun n=>∃l:List Fn,rows=Qm l∧Qjo l≤n:=by
 intro left H K h0 hl hK
 simp only[LIM]at hrl
 refine Qb Qaj Qahw ?_
 refine Qa ?_
 simp only[go_sem]
 refine Qa ?_
 simp only[go_sem,lenX]
 refine⟨.inl trivial,fun _=>⟨Qo (by omega) (by omega),?_⟩⟩
 refine Qz ?_
 refine Qa ?_
 simp only[go_sem]
 refine Qe (Qc rfl (fun hn=>?_) (fun hn=>?_))
 ·refine Qa ?_
  simp only[go_sem]
  refine Qh ?_
  simp only[go_sem,Q0,Q6,Qam8,List.mem_singleton,forall_eq,RS.op]
  exact hK _ (by omega) (by omega) fun h=>by omega
 have h2:0≤left-rows.length:=by have:=of_decide_eq_false hn;omega
 refine Qf ?_
 try simp only[go_sem]
 refine Qz ?_
 refine Qa ?_
 simp only[go_sem]
 refine Qe (Qd (Qt (fun m e1 H1=>∃(i:Nat) (l0:List Fn) (lf:Int),m=rows.length-i∧i≤rows.length∧H1=H∧rows.take i=Qm l0∧0≤lf∧lf≤left∧(Qjo l0:Int)+lf≤left-rows.length+i∧
  e1=[(0,.c (.sl false 3 rows)),(1,.c (.int .i64 lf)),(5,.c (.int .i64 i))]) rows.length ?_ ?_))
 ·exact⟨0,[],left-rows.length,by omega,by omega,rfl,rfl,h2,by omega,by simp only[Qjo];omega,rfl⟩
 ·rintro m e1 H1 ⟨i,l0,lf,hm,hi,rfl,htk,h3,h4,h5,rfl⟩
  refine Qz ?_
  refine Qa ?_
  simp only[go_sem,lenX]
  refine⟨.inl trivial,fun _=>?_⟩
  refine Qe (Qc rfl (fun hc=>?_) (fun hc=>?_))
  ·have hlt:i<rows.length:=by have:=of_decide_eq_true hc;omega
   obtain⟨r,hrr2⟩:∃r,rows[i]=r:=⟨_,rfl⟩
   have hrm:r∈rows:=by rw[←hrr2];exact List.getElem_mem hlt
   have hrow:rows.getD i []=r:=by rw[List.getD_eq_getElem?_getD,List.getElem?_eq_getElem hlt,hrr2];rfl
   have hr:=hr4 r hrm
   have htk4:List.take 3 r=r:=List.take_of_length_le (by omega)
   have hao:(r.all fun c=>!c.isOw)=true:=hro r hrm
   refine Qf ?_
   try simp only[go_sem]
   refine Qe (Qd ?_)
   refine Qa ?_
   simp only[go_sem,hlt,hrow,htk4,hao,hr]
   refine hf r hrm lf H1 _ h3 (by omega) fun rr b1 b2 hrr=>?_
   simp only[go_sem,Q0v]
   refine Qa ?_
   simp only[go_sem]
   refine Qc rfl (fun hn=>?_) (fun hn=>?_)
   ·refine Qa ?_
    simp only[go_sem]
    refine Qh ?_
    simp only[go_sem,AE.X.next,Q0,Q6,Qam8,List.mem_singleton,forall_eq,RS.op]
    exact hK _ (by omega) (by omega) fun h=>by omega
   have h6:0≤rr:=by have:=of_decide_eq_false hn;omega
   obtain⟨n,⟨x,hx,hxs⟩,hle⟩:=hrr h6
   refine Qf ?_
   try simp only[go_sem,AE.X.next]
   refine Qn ?_
   simp only[go_sem,AE.X.next]
   refine⟨Qo (by omega) (by omega),rows.length-(i+1),by omega,i+1,l0++[x],rr,rfl,by omega,?_,h6,by omega,?_,rfl⟩
   ·rw[List.take_succ_eq_append_getElem hlt,htk,hrr2,hx,Qmx]
   ·simp only[Qay0,Qjo];omega
  ·have hge:rows.length≤i:=by have:=of_decide_eq_false hc;omega
   rw[List.take_of_length_le hge]at htk
   refine Qu ?_
   simp only[go_sem,AE.X.next]
   refine Qa ?_
   simp only[go_sem]
   refine Qh ?_
   simp only[go_sem,Q0,Q6,Qam8,List.mem_singleton,forall_eq,RS.op]
   exact hK lf (by omega) h4 fun _=>⟨Qjo l0,⟨l0,htk,Nat.le_refl _⟩,by omega⟩
theorem Qaud {c:C}(hka:SzE Qgk (.c c) (okFs c))(hoa:c.isOw=false):SzE Qdh (.ag [c]) fun n=>okFs c n:=by
 intro left H K h0 hl hK
 have hoa2:=hoa
 refine Qb Qaj Qadn ?_
 refine Qa ?_
 simp only[go_sem,hoa2]
 refine Qa ?_
 simp only[go_sem,hoa2]
 refine hka left H _ h0 (by omega) fun r1 a0 b0 d0=>?_
 simp only[go_sem,Qnz,hoa2]
 refine Qz ?_
 refine Qa ?_
 simp only[go_sem,hoa2]
 refine Qe (Qc rfl (fun hn=>?_) (fun hn=>?_))
 ·refine Qa ?_
  simp only[go_sem]
  refine Qh ?_
  simp only[go_sem,Q0,Q6,Qam8,List.mem_singleton,forall_eq,RS.op]
  exact hK _ (by omega) (by omega) fun h=>by omega
 have k1:0≤r1:=by have:=of_decide_eq_false hn;omega
 obtain⟨n0,⟨x0,e0,f0⟩,g0⟩:=d0 k1
 refine Qf ?_
 try simp only[go_sem]
 refine Qa ?_
 simp only[go_sem]
 refine Qh ?_
 simp only[go_sem,Q0,Q6,Qam8,List.mem_singleton,forall_eq,RS.op]
 exact hK r1 (by omega) (by omega) fun _=>⟨n0,⟨x0,e0,f0⟩,by omega⟩
end Go.AE.Y

namespace Go.AE.Y
open Go.Proofs.Tryz
theorem Qcp:∀(a b:List C),SizeOf.sizeOf a≤SizeOf.sizeOf (a++b)∧SizeOf.sizeOf b≤SizeOf.sizeOf (a++b)
 |[],b=>⟨by cases b <;> simp <;> omega,Nat.le_refl _⟩
 |x::a,b=>by have:=Qcp a b;simp only[List.cons_append,List.cons.sizeOf_spec];omega
theorem Qaxv {cs:List C}(h:TyC prog Qalt cs):∃c,cs=[c]∧c.isOw=false∧SzE Qbz (.c c) (okTs c):=by
 rcases h.of_sl Qa92 with ⟨rows,rfl,h1,h2,h3⟩|⟨m,h1,h2,rfl⟩
 ·refine⟨_,rfl,rfl,(Qauf h1 h3 (fun r hr=>(h2 r hr).noOw) fun r hr=>(h2 r hr).of_str Qa5w).imp fun n hn=>?_⟩
  obtain⟨l,rfl,h4⟩:=hn
  exact⟨l,rfl,h4⟩
 ·exact⟨_,rfl,rfl,Qalq h1 h2 _⟩
theorem Qavf {k:Nat}(hf:∀cs,SizeOf.sizeOf cs≤k→TyC prog Qa2q cs→SzE Qe6 (.ag cs) fun n=>∃x:Ex,cs=x.cells∧x.size≤n+1){cs:List C}(h:TyC prog Qaig cs)(hk:SizeOf.sizeOf cs≤k+1):∃c,cs=[c]∧c.isOw=false∧SzE Qbb (.c c) (okXs c):=by
 rcases h.of_sl Qbbi with ⟨rows,rfl,h1,h2,h3⟩|⟨m,h1,h2,rfl⟩
 ·refine⟨_,rfl,rfl,(Qa2g h1 h3 (fun r hr=>(h2 r hr).noOw) fun r hr=>hf r ?_ (h2 r hr)).imp fun n hn=>?_⟩
  ·have:=List.sizeOf_lt_of_mem hr
   simp only[List.cons.sizeOf_spec,C.sl.sizeOf_spec]at hk
   omega
  ·obtain⟨l,rfl,h4⟩:=hn
   exact⟨l,rfl,h4⟩
 ·exact⟨_,rfl,rfl,Qauc h1 h2 _⟩
theorem Qa5i:∀(k:Nat) (cs:List C),SizeOf.sizeOf cs≤k→TyC prog Qa2q cs→SzE Qe6 (.ag cs) fun n=>∃x:Ex,cs=x.cells∧x.size≤n+1:=by
 intro k
 induction k with
 |zero=>intro cs h _;cases cs <;> simp at h <;> omega
 |succ k ih=>
 intro cs hs h
 obtain⟨css,rfl,h1,h2⟩:=h.of_struct u_Ex
 match css,h1 with
 |[c0,c1,c2,c3],_=>
  obtain⟨a,rfl,_⟩:=(h2 0 _ _ rfl rfl).of_int Qa79
  obtain⟨b,rfl,_⟩:=(h2 1 _ _ rfl rfl).of_int Qa79
  obtain⟨cn,rfl,hn⟩:=(h2 2 _ _ rfl rfl).of_str Qa5w
  obtain⟨ck,rfl,h3,h4⟩:=Qavf ih (h2 3 _ _ rfl rfl) (by
   have:SizeOf.sizeOf c3≤SizeOf.sizeOf ([[C.int .i64 a],[C.int .i64 b],[cn],c3].flatten):=by
    simp only[List.flatten_cons,List.flatten_nil,List.cons_append,List.nil_append,List.append_nil,List.cons.sizeOf_spec];omega
   omega)
  exact Qa5j hn h4 h3
theorem Qa2h {cs:List C}(h:TyC prog Qaig cs):∃c,cs=[c]∧c.isOw=false∧SzE Qbb (.c c) (okXs c):=Qavf (k:=SizeOf.sizeOf cs) (fun cs2 _ h2=>Qa5i _ cs2 (Nat.le_refl _) h2) h (by omega)
theorem Qalr {k:Nat}(hf:∀cs,SizeOf.sizeOf cs≤k→TyC prog Qa2r cs→SzE Qe7 (.ag cs) fun n=>∃x:St,cs=x.cells∧x.size≤n+1){cs:List C}(h:TyC prog Qadb cs)(hk:SizeOf.sizeOf cs≤k+1):∃c,cs=[c]∧c.isOw=false∧SzE Qaw (.c c) (okSs c):=by
 rcases h.of_sl Qbbk with ⟨rows,rfl,h1,h2,h3⟩|⟨m,h1,h2,rfl⟩
 ·refine⟨_,rfl,rfl,(Qa2k h1 h3 (fun r hr=>(h2 r hr).noOw) fun r hr=>hf r ?_ (h2 r hr)).imp fun n hn=>?_⟩
  ·have:=List.sizeOf_lt_of_mem hr
   simp only[List.cons.sizeOf_spec,C.sl.sizeOf_spec]at hk
   omega
  ·obtain⟨l,rfl,h4⟩:=hn
   exact⟨l,rfl,h4⟩
 ·exact⟨_,rfl,rfl,Qaue h1 h2 _⟩
theorem Qa5m:∀(k:Nat) (cs:List C),SizeOf.sizeOf cs≤k→TyC prog Qa2r cs→SzE Qe7 (.ag cs) fun n=>∃x:St,cs=x.cells∧x.size≤n+1:=by
 intro k
 induction k with
 |zero=>intro cs h _;cases cs <;> simp at h <;> omega
 |succ k ih=>
 intro cs hs h
 obtain⟨css,rfl,h1,h2⟩:=h.of_struct u_St
 match css,h1 with
 |[c0,c1,c2,c3,c4],_=>
  have hb3:SizeOf.sizeOf c3≤SizeOf.sizeOf ([c0,c1,c2,c3,c4].flatten):=by
   have:=Qcp c3 (c4++[]);have:=Qcp c2 (c3++(c4++[]));have:=Qcp c1 (c2++(c3++(c4++[])));have:=Qcp c0 (c1++(c2++(c3++(c4++[]))))
   simp only[List.flatten_cons,List.flatten_nil];omega
  have hb4:SizeOf.sizeOf c4≤SizeOf.sizeOf ([c0,c1,c2,c3,c4].flatten):=by
   have:=Qcp c4 [];have:=Qcp c3 (c4++[]);have:=Qcp c2 (c3++(c4++[]));have:=Qcp c1 (c2++(c3++(c4++[])));have:=Qcp c0 (c1++(c2++(c3++(c4++[]))))
   simp only[List.flatten_cons,List.flatten_nil];omega
  obtain⟨a,rfl,_⟩:=(h2 0 _ _ rfl rfl).of_int Qa79
  obtain⟨cn,rfl,hn⟩:=(h2 1 _ _ rfl rfl).of_str Qa5w
  obtain⟨ca,rfl,h3,h4⟩:=Qa2h (h2 2 _ _ rfl rfl)
  obtain⟨cb,rfl,h5,h6⟩:=Qalr ih (h2 3 _ _ rfl rfl) (by omega)
  obtain⟨cd,rfl,h7,h8⟩:=Qalr ih (h2 4 _ _ rfl rfl) (by omega)
  exact Qa5n hn h4 h3 h6 h5 h8 h7
theorem Qa2l {cs:List C}(h:TyC prog Qadb cs):∃c,cs=[c]∧c.isOw=false∧SzE Qaw (.c c) (okSs c):=Qalr (k:=SizeOf.sizeOf cs) (fun cs2 _ h2=>Qa5m _ cs2 (Nat.le_refl _) h2) h (by omega)
theorem Qa5k {cs:List C}(h:TyC prog Qa5v cs):SzE Qmu (.ag cs) fun n=>∃x:Fn,cs=x.cells∧1+x.params.length+Qg x.body≤n+1:=by
 obtain⟨css,rfl,h1,h2⟩:=h.of_struct u_Fn
 match css,h1 with
 |[c0,c1,c2],_=>
  obtain⟨cn,rfl,hn⟩:=(h2 0 _ _ rfl rfl).of_str Qa5w
  obtain⟨ct,rfl,h3,h4⟩:=Qaxv (h2 1 _ _ rfl rfl)
  obtain⟨cb,rfl,h5,h6⟩:=Qa2l (h2 2 _ _ rfl rfl)
  exact Qa9x hn h4 h3 h6 h5
theorem Qa2j {cs:List C}(h:TyC prog Qavg cs):∃c,cs=[c]∧c.isOw=false∧SzE Qgk (.c c) (okFs c):=by
 rcases h.of_sl Qbbj with ⟨rows,rfl,h1,h2,h3⟩|⟨m,h1,h2,rfl⟩
 ·refine⟨_,rfl,rfl,(Qa75 h1 h3 (fun r hr=>(h2 r hr).noOw) fun r hr=>Qa5k (h2 r hr)).imp fun n hn=>?_⟩
  obtain⟨l,rfl,h4⟩:=hn
  exact⟨l,rfl,h4⟩
 ·exact⟨_,rfl,rfl,Qa2i h1 h2 _⟩
theorem Qaxu {cs:List C}(h:TyC prog Qals cs):∃c,cs=[c]∧c.isOw=false∧SzE Qdh (.ag [c]) (okFs c):=by
 obtain⟨css,rfl,h1,h2⟩:=h.of_struct Qa91
 match css,h1 with
 |[c0],_=>
  obtain⟨c,rfl,h3,h4⟩:=Qa2j (h2 0 _ _ rfl rfl)
  exact⟨c,rfl,h3,Qaud h4 h3⟩
end Go.AE.Y

namespace Go.AE.Y
attribute [local go_sem] cond_true cond_false Bool.not_true Bool.not_false
open Go.Proofs.Tryz
variable {H H0 F:Heap}{K:V→Heap→Prop}{E B Lg:List (Nat×Obj)}{fns:List Fn}
end Go.AE.Y

namespace Go.AE.Y
attribute [local go_sem] cond_true cond_false Bool.not_true Bool.not_false
attribute [local instance] Classical.propDecidable
open Go.Proofs.Tryz
variable {H H0 F:Heap}{K:V→Heap→Prop}{E B Lg:List (Nat×Obj)}{fns:List Fn}
theorem Gr.slc2 {sz:Nat}{rows:List (List C)}{c:C}(h:Gr Lg sz rows c)(kn:Kn H0 H E (B++Lg)):Slc H sz rows c:=⟨h.okSl kn,h.elemSz,h.rowsOf kn,h.lenC⟩
theorem Qazn {c:C}{ss:List (List UInt8)}{s:List UInt8}(how:c.isOw=false)(hg:Slc H 1 (Qy ss) c)(hK:K (.c (.bool (decide (s∈ss)))) H):Qj prog Q8y [.c c,.c (.str s)] H K:=by
 have hok:=eq_true hg.ok
 have hrw:=hg.rows
 have hln:=hg.len
 have hsz:=hg.sz
 rw[Qr]at hln
 refine Qb Qaj Qa7q ?_
 have retf:∀(b:Bool) (e:Env),decide (s∈ss)=b→lk 4 e=.c (.bool b)→Q0 Qam8 K .ret e H:=by
  intro b e h0 h1
  simp only[go_sem,Q0,Q6,Qam8,List.mem_singleton,forall_eq,RS.op,h1]
  rw[←h0];exact hK
 refine Qa ?_
 simp only[go_sem,how]
 refine Qz ?_
 refine Qa ?_
 simp only[go_sem,how]
 refine Qe (Qd (Qt (fun n e1 H1=>∃(i:Nat),n=ss.length-i∧i≤ss.length∧H1=H∧(∀x∈ss.take i,¬x=s)∧e1=[(0,.c c),(1,.c (.str s)),(5,.c (.int .i64 i))]) ss.length ?_ ?_))
 ·exact⟨0,by omega,by omega,rfl,by simp,rfl⟩
 ·rintro n e1 H1 ⟨i,hn1,hi,rfl,hall,rfl⟩
  refine Qz ?_
  refine Qa ?_
  simp only[go_sem,how,hok,hln]
  intro hl
  simp only[LIM]at hl
  refine Qe (Qc rfl ?_ ?_)
  ·intro hc
   have hlt:i<ss.length:=by simpa using hc
   obtain⟨y,hy⟩:∃y,ss[i]=y:=⟨_,rfl⟩
   have hyd:ss.getD i []=y:=by simp[List.getD_eq_getElem?_getD,hlt,hy]
   refine Qf ?_
   simp only[go_sem]
   refine Qe (Qd ?_)
   refine Qa ?_
   simp only[go_sem,how,hok,hln,hrw,hsz,hlt,Qck _ _ hlt,hyd]
   refine Qc rfl ?_ ?_
   ·intro hc2
    have hnm:y=s:=by simpa using hc2
    refine Qa ?_
    simp only[go_sem]
    refine Qh ?_
    simp only[go_sem,AE.X.next]
    exact retf true _ (decide_eq_true (by rw[←hnm,←hy];exact List.getElem_mem hlt)) rfl
   ·intro hc2
    have hnm:¬y=s:=by simpa using hc2
    refine Qf ?_
    simp only[go_sem]
    refine Qn ?_
    simp only[go_sem,AE.X.next,how]
    refine⟨Qo (by omega) (by omega),ss.length-(i+1),by omega,i+1,rfl,by omega,?_,rfl⟩
    rw[List.take_succ_eq_append_getElem hlt,hy]
    intro x hx
    rcases List.mem_append.1 hx with hx|hx
    ·exact hall x hx
    ·simp only[List.mem_singleton]at hx;subst hx;exact hnm
  ·intro hc
   have hge:ss.length≤i:=by simpa using hc
   rw[List.take_of_length_le hge]at hall
   refine Qu ?_
   simp only[go_sem,AE.X.next]
   refine Qa ?_
   simp only[go_sem]
   refine Qh ?_
   exact retf false _ (decide_eq_false fun h=>hall s h rfl) rfl
structure Nms (a b:List (List UInt8))(l:List Ex):Prop where
 mem:∀s,s∈b↔s∈a∨∃p∈l,p.op=13∧p.name=s
 len:b.length≤a.length+l.length
theorem Nms.refl (a:List (List UInt8)):Nms a a []:=⟨fun s=>by simp,by simp⟩
theorem Nms.trans {a b c:List (List UInt8)}{l m:List Ex}(h:Nms a b l)(k:Nms b c m):Nms a c (l++m):=
 ⟨fun s=>by
  rw[k.mem,h.mem]
  simp only[List.mem_append,or_and_right,exists_or,or_assoc],by have:=h.len;have:=k.len;rw[List.length_append];omega⟩
theorem Qazp:∀(n:Nat) (x:Ex) (ss:List (List UInt8)) (t:C) (Lg:List (Nat×Obj)) (F H:Heap) (K:V→Heap→Prop),x.size≤n→Gr Lg 1 (Qy ss) t→Kn F H [] Lg→ss.length+x.size≤2^38→
  (∀H' t' Lg' ss',Nms ss ss' x.pre→Gr Lg' 1 (Qy ss') t'→Kn F H' [] Lg'→K (.c t') H')→Qj prog Quq [.ag x.cells,.c (.int .i64 13),.c t] H K:=by
 intro n
 induction n with
 |zero=>intro x ss t Lg F H K h;have:=x.size_pos;omega
 |succ n ih=>
 intro x ss t Lg F H K hn hgr kn hb hK
 have hsz:=x.size_kids
 have hto:=hgr.isOw
 refine Qb Qaj Qaz0 ?_
 have kids:∀(H1:Heap) (e1:Env) (t1:C) (Lg1:List (Nat×Obj)) (ss1:List (List UInt8)),Nms ss ss1 [x]→Gr Lg1 1 (Qy ss1) t1→Kn F H1 [] Lg1→lk 1 e1=.c (.int .i64 13)→lk 2 e1=.c t1→lk 3 e1=.c (.pp [.int .i64 x.op,.int .i64 x.n,.str x.name,.sl false 4 (Q2 x.kids)])→
   Qah prog Qabn (Q0 Qaae K) e1 H1:=by
  intro H1 e1 t1 Lg1 ss1 hns hgr kn f1 f2 f3
  have hto:=hgr.isOw
  refine Qz ?_
  refine Qa ?_
  simp only[go_sem,f1,f2,f3,hto]
  refine Qe (Qd (Qt (fun m e2 H2=>∃(i:Nat) (t2:C) (Lg2:List (Nat×Obj)) (ss2:List (List UInt8)),m=x.kids.length-i∧i≤x.kids.length∧Nms ss ss2 (x::Qaa (x.kids.take i))∧Gr Lg2 1 (Qy ss2) t2∧Kn F H2 [] Lg2∧
   e2=[(1,.c (.int .i64 13)),(2,.c t2),(3,.c (.pp [.int .i64 x.op,.int .i64 x.n,.str x.name,.sl false 4 (Q2 x.kids)])),(7,.c (.int .i64 i))]) x.kids.length ?_ ?_))
  ·exact⟨0,t1,Lg1,ss1,by omega,by omega,by simpa[Qaa]using hns,hgr,kn,rfl⟩
  ·clear kn hgr hto hns
   rintro m e2 H2 ⟨i,t2,Lg2,ss2,hm1,hi,hns,hgr,kn,rfl⟩
   have hto:=hgr.isOw
   refine Qz ?_
   refine Qa ?_
   simp only[go_sem,hto,Qi]
   intro hl
   simp only[LIM]at hl
   refine Qe (Qc rfl ?_ ?_)
   ·intro hc
    have hlt:i<x.kids.length:=by simpa using hc
    have hms:=Qad (List.getElem_mem hlt)
    obtain⟨y,hy⟩:∃y,x.kids[i]=y:=⟨_,rfl⟩
    have htk:=Qda hlt
    have hlen:(Qaa (x.kids.take i)).length+y.size≤Qv x.kids:=by
     rw[Qe4]
     have h2:Qv x.kids=Qv (x.kids.take i)+Qv (x.kids.drop i):=by rw[←Qet,List.take_append_drop]
     have h3:x.kids.drop i=y::x.kids.drop (i+1):=by rw[←hy];exact (List.getElem_cons_drop hlt).symm
     rw[h3]at h2
     simp only[Qv]at h2
     omega
    have hnl:=hns.len
    rw[List.length_cons]at hnl
    rw[hy]at hms htk
    refine Qf ?_
    try simp only[go_sem]
    refine Qe (Qd ?_)
    refine Qn ?_
    simp only[go_sem,hto,hlt,Qi,Qag _ _ hlt,hy,y.cells_eq]
    have hih:=fun K=>ih y ss2 t2 Lg2 F H2 K
    rw[y.cells_eq]at hih
    refine hih _ (by omega) hgr kn (by omega) fun H3 t3 Lg3 ss3 hns3 hgr3 kn=>?_
    have hto3:=hgr3.isOw
    simp only[go_sem,Q40,hto3]
    refine Qn ?_
    simp only[go_sem,AE.X.next,hto3]
    refine⟨Qo (by omega) (by omega),x.kids.length-(i+1),by omega,i+1,t3,Lg3,ss3,rfl,by omega,?_,hgr3,kn,rfl⟩
    rw[htk]
    exact hns.trans hns3
   ·intro hc
    have hge:x.kids.length≤i:=by simpa using hc
    rw[List.take_of_length_le hge,←x.pre_eq]at hns
    refine Qu ?_
    simp only[go_sem,AE.X.next]
    refine Qa ?_
    simp only[go_sem,hto]
    refine Qh ?_
    simp only[go_sem,Q0,Q6,Qaae,List.mem_singleton,forall_eq,RS.op,hto]
    exact hK _ _ _ _ hns hgr kn
 refine Qa ?_
 simp only[go_sem,x.cells_eq,hto]
 refine Qz ?_
 by_cases h13:x.op=13
 ·have hd:decide (x.op=13)=true:=decide_eq_true h13
  refine Qa ?_
  simp only[go_sem,hto,hd]
  refine Qazn hto (Gr.slc2 (B:=[]) hgr kn) ?_
  simp only[go_sem,Qs6,hto]
  refine Qe (Qc rfl ?_ ?_)
  ·intro hc
   have hnm:x.name∉ss:=by simpa using hc
   refine Qn ?_
   simp only[go_sem,hto]
   refine Kn.growR (B:=[]) kn hgr (.mk' _ true 1 _) (by simp[noOw,C.isOw]) (by simp only[Qr,List.length_cons,List.length_nil,LIM];omega) fun t' Lg' H1 hgr' hto' kn=>?_
   rw[Qpq]at hgr'
   simp only[go_sem,Q4z,hto',AE.X.next]
   refine kids _ _ t' Lg' (ss++[x.name]) ⟨fun s=>?_,by simp⟩ hgr' kn rfl rfl rfl
   simp only[List.mem_append,List.mem_singleton,exists_eq_left,h13,true_and]
   exact or_congr Iff.rfl eq_comm
  ·intro hc
   have hnm:x.name∈ss:=by simpa using hc
   refine Qf ?_
   simp only[go_sem,AE.X.next]
   refine kids _ _ t Lg ss ⟨fun s=>?_,by simp⟩ hgr kn rfl rfl rfl
   simp only[List.mem_singleton,exists_eq_left,h13,true_and]
   exact⟨.inl,fun h=>h.elim id fun e=>e▸hnm⟩
 ·have hd:decide (x.op=13)=false:=decide_eq_false h13
  refine Qa ?_
  simp only[go_sem,hto,hd,Qs6]
  refine Qe (Qc rfl (fun h=>by cases h) (fun _=>?_))
  refine Qf ?_
  simp only[go_sem,AE.X.next]
  refine kids _ _ t Lg ss ⟨fun s=>?_,by simp⟩ hgr kn rfl rfl rfl
  simp[h13]
theorem Qazs:∀(n:Nat) (l:List St) (f5:Bool) (ss:List (List UInt8)) (t:C) (Lg:List (Nat×Obj)) (F H:Heap) (K:V→Heap→Prop),Qg l≤n→Gr Lg 1 (Qy ss) t→Kn F H [] Lg→ss.length+Qg l≤2^38→
  (∀H' t' Lg' ss',Nms ss ss' (Qa5 l)→Gr Lg' 1 (Qy ss') t'→Kn F H' [] Lg'→K (.c t') H')→Qj prog Qmt [.c (.sl f5 5 (Ql l)),.c t] H K:=by
 intro n
 induction n using Nat.strongRecOn with
 |_ n ih=>
 intro l f5 ss t Lg F H K hn hgr kn hb hK
 have hto:=hgr.isOw
 refine Qb Qaj Qaz5 ?_
 refine Qa ?_
 simp only[go_sem,hto]
 refine Qz ?_
 refine Qa ?_
 simp only[go_sem,hto]
 refine Qe (Qd (Qt (fun m e1 H1=>∃(i:Nat) (t1:C) (Lg1:List (Nat×Obj)) (ss1:List (List UInt8)),m=l.length-i∧i≤l.length∧Nms ss ss1 (Qa5 (l.take i))∧Gr Lg1 1 (Qy ss1) t1∧Kn F H1 [] Lg1∧
  e1=[(0,.c (.sl f5 5 (Ql l))),(1,.c t1),(5,.c (.int .i64 i))]) l.length ?_ ?_))
 ·exact⟨0,t,Lg,ss,by omega,by omega,.refl ss,hgr,kn,rfl⟩
 ·clear kn hgr hto
  rintro m e1 H1 ⟨i,t1,Lg1,ss1,hm,hi,hns,hgr,kn,rfl⟩
  have hto:=hgr.isOw
  refine Qz ?_
  refine Qa ?_
  simp only[go_sem,hto,Qw]
  intro hl
  simp only[LIM]at hl
  refine Qe (Qc rfl ?_ ?_)
  ·intro hc
   have hlt:i<l.length:=by simpa using hc
   have hms:=Qai (List.getElem_mem hlt)
   have htk:=Qac7 hlt
   have hst:=Ql0 hlt
   have hsl2:=Qca l (i+1)
   have hpl:=Qfh (l.take i)
   obtain⟨x,hx⟩:∃x,l[i]=x:=⟨_,rfl⟩
   rw[hx]at hms hst htk
   have hse:=x.size_eq
   have hnl:=hns.len
   refine Qf ?_
   try simp only[go_sem]
   refine Qe (Qd ?_)
   refine Qz ?_
   refine Qa ?_
   simp only[go_sem,hto]
   refine Qe (Qd (Qt (fun m2 e2 H2=>∃(j:Nat) (t2:C) (Lg2:List (Nat×Obj)) (ss2:List (List UInt8)),m2=x.args.length-j∧j≤x.args.length∧Nms ss ss2 (Qa5 (l.take i)++Qaa (x.args.take j))∧Gr Lg2 1 (Qy ss2) t2∧Kn F H2 [] Lg2∧
    e2=[(0,.c (.sl f5 5 (Ql l))),(1,.c t2),(5,.c (.int .i64 i)),(6,.c (.int .i64 j))]) x.args.length ?_ ?_))
   ·exact⟨0,t1,Lg1,ss1,by omega,by omega,by simpa[Qaa]using hns,hgr,kn,rfl⟩
   ·clear kn hgr hto hns hnl
    rintro m2 e2 H2 ⟨j,t2,Lg2,ss2,hm2,hj,hns,hgr,kn,rfl⟩
    have hto:=hgr.isOw
    have hnl:=hns.len
    rw[List.length_append,Qe4]at hnl
    refine Qz ?_
    refine Qa ?_
    simp only[go_sem,hto,hlt,Qw,Qar _ _ hlt,hx,x.cells_eq,Qi]
    try intro hl2
    try simp only[LIM]at hl2
    refine Qe (Qc rfl ?_ ?_)
    ·intro hc2
     have hlt2:j<x.args.length:=by simpa using hc2
     have hms2:=Qad (List.getElem_mem hlt2)
     obtain⟨y,hy⟩:∃y,x.args[j]=y:=⟨_,rfl⟩
     have htk2:=Qda hlt2
     have hlen:Qv (x.args.take j)+y.size≤Qv x.args:=by
      have h2:Qv x.args=Qv (x.args.take j)+Qv (x.args.drop j):=by rw[←Qet,List.take_append_drop]
      have h3:x.args.drop j=y::x.args.drop (j+1):=by rw[←hy];exact (List.getElem_cons_drop hlt2).symm
      rw[h3]at h2
      simp only[Qv]at h2
      omega
     rw[hy]at hms2 htk2
     refine Qf ?_
     try simp only[go_sem]
     refine Qe (Qd ?_)
     refine Qn ?_
     simp only[go_sem,hto,hlt,Qw,Qar _ _ hlt,hx,x.cells_eq,hlt2,Qi,Qag _ _ hlt2,hy,y.cells_eq]
     have hih:=fun K=>Qazp y.size y ss2 t2 Lg2 F H2 K
     rw[y.cells_eq]at hih
     refine hih _ (Nat.le_refl _) hgr kn (by omega) fun H3 t3 Lg3 ss3 hns3 hgr3 kn=>?_
     have hto3:=hgr3.isOw
     simp only[go_sem,Q46,hto3]
     refine Qn ?_
     simp only[go_sem,AE.X.next,hto3]
     refine⟨Qo (by omega) (by omega),x.args.length-(j+1),by omega,j+1,t3,Lg3,ss3,rfl,by omega,?_,hgr3,kn,rfl⟩
     rw[htk2,←List.append_assoc]
     exact hns.trans hns3
    ·intro hc2
     have hge2:x.args.length≤j:=by simpa using hc2
     rw[List.take_of_length_le hge2]at hns
     have hj2:j=x.args.length:=by omega
     have hasz:Qv (x.args.take j)≤Qv x.args:=by rw[List.take_of_length_le hge2];exact Nat.le_refl _
     refine Qu ?_
     simp only[go_sem,AE.X.next]
     refine Qwc ?_
     simp only[go_sem,hto,hlt,Qw,Qar _ _ hlt,hx,x.cells_eq]
     have hpb:=Qfh x.body
     refine ih (Qg x.body) (by omega) x.body false ss2 t2 Lg2 F H2 _ (Nat.le_refl _) hgr kn (by omega) fun H3 t3 Lg3 ss3 hns3 hgr kn=>?_
     have hto:=hgr.isOw
     have hnl3:=hns3.len
     simp only[go_sem,Q48,hto,hlt,Qw,Qar _ _ hlt,hx,x.cells_eq]
     refine ih (Qg x.els) (by omega) x.els false ss3 t3 Lg3 F H3 _ (Nat.le_refl _) hgr kn (by omega) fun H4 t4 Lg4 ss4 hns4 hgr kn=>?_
     have hto:=hgr.isOw
     simp only[go_sem,Q47,hto]
     refine Qn ?_
     simp only[go_sem,AE.X.next,hto]
     refine⟨Qo (by omega) (by omega),l.length-(i+1),by omega,i+1,t4,Lg4,ss4,rfl,by omega,?_,hgr,kn,rfl⟩
     rw[htk,x.pre_eq]
     have:=(hns.trans hns3).trans hns4
     simpa only[List.append_assoc]using this
  ·intro hc
   have hge:l.length≤i:=by simpa using hc
   rw[List.take_of_length_le hge]at hns
   refine Qu ?_
   simp only[go_sem,AE.X.next]
   refine Qa ?_
   simp only[go_sem,hto]
   refine Qh ?_
   simp only[go_sem,Q0,Q6,Qam8,List.mem_singleton,forall_eq,RS.op,hto]
   exact hK _ _ _ _ hns hgr kn
def calF (fns:List Fn)(ss:List (List UInt8))(k:Nat):List Nat:=(List.range k).filter fun i=>decide ((Q1e fns i).name∈ss)
theorem Qa6h {k:Nat}(h:FineP fns)(hk:k<fns.length){ss:List (List UInt8)}(hs:Nms [] ss (Qa5 fns[k].body)):calF fns ss k=Qmo fns k:=by
 refine Qalw (List.Pairwise.filter _ List.pairwise_lt_range) Qain fun x=>?_
 rw[Qmo,ascL_mem,calF,List.mem_filter,List.mem_range,decide_eq_true_eq]
 constructor
 ·rintro⟨hx,hm⟩
  have hxl:x<fns.length:=by omega
  rw[Qji hxl,hs.mem]at hm
  rcases hm with hm|⟨p,hp,ho,hn⟩
  ·simp at hm
  ·exact⟨hxl,hk,hxl,p,hp,ho,hn⟩
 ·rintro⟨hxl,hc⟩
  have hlt:=h.cls_lt hc
  obtain⟨_,_,p,hp,ho,hn⟩:=hc
  refine⟨hlt,?_⟩
  rw[Qji hxl,hs.mem]
  exact .inr ⟨p,hp,ho,hn⟩
theorem Qawa {fl:Bool}{k:Nat}(h:FineP fns)(hk:k<fns.length)(hb:Qg fns[k].body≤2^36)(hK:∀H',Upd H H' []→K (.c (.sl false 1 (Qa4 (Qmo fns k)))) H') :
  Qj prog Qxa [.ag [.sl fl 3 (Qm fns)],.c (.int .i64 k)] H K:=by
 obtain⟨f,hfe⟩:∃f,fns[k]=f:=⟨_,rfl⟩
 have hcal:=fun ss hs=>Qa6h h hk (ss:=ss) hs
 rw[hfe]at hb hcal
 have hlen4:=h.len
 refine Q8 ?_
 refine Qb Qaj Qawb ?_
 refine Qa ?_
 simp only[go_sem]
 refine Qa ?_
 simp only[go_sem,hk,Qp,Qam _ _ hk,hfe,Fn.cells]
 refine Qazs (Qg f.body) f.body false [] (.sl true 1 []) [] H H _ (Nat.le_refl _) (.nil 1) (Kn.start0 H) (by simp only[List.length_nil];omega) fun H1 t Lg ss hns hgr kn=>?_
 have hto:=hgr.isOw
 have hcal:=hcal ss hns
 simp only[go_sem,Qz6,hto]
 refine Qa ?_
 simp only[go_sem,hto]
 refine Qz ?_
 refine Qa ?_
 simp only[go_sem,hto]
 refine Qe (Qd (Qt (fun m e1 H1=>∃(i:Nat) (t1:C) (L1:List (Nat×Obj)),m=k-i∧i≤k∧Gr L1 1 (Qa4 (calF fns ss i)) t1∧Kn H H1 [] (Lg++L1)∧
  e1=[(1,.c (.int .i64 k)),(2,.c (.pp [.sl fl 3 (Qm fns)])),(5,.c t),(6,.c t1),(7,.c (.int .i64 i))]) k ?_ ?_))
 ·exact⟨0,.sl true 1 [],[],by omega,by omega,.nil 1,by simpa using kn,rfl⟩
 ·clear kn
  rintro m e1 H2 ⟨i,t1,L1,hm,hi,hg1,kn,rfl⟩
  have hto1:=hg1.isOw
  refine Qz ?_
  refine Qa ?_
  simp only[go_sem,hto,hto1]
  refine Qe (Qc rfl ?_ ?_)
  ·intro hc
   have hlt:i<k:=by simpa using hc
   have hltl:i<fns.length:=by omega
   have hcs:calF fns ss (i+1)=calF fns ss i++(if fns[i].name∈ss then [i]else []):=by
    rw[calF,calF,List.range_succ,List.filter_append]
    congr 1
    by_cases hmm:fns[i].name∈ss
    ·simp[Qji hltl,hmm]
    ·simp[Qji hltl,hmm]
   have hcl:(calF fns ss i).length≤i:=by
    have:=List.length_filter_le (fun i=>decide ((Q1e fns i).name∈ss)) (List.range i)
    rw[List.length_range]at this
    exact this
   refine Qf ?_
   try simp only[go_sem]
   refine Qe (Qd ?_)
   refine Qa ?_
   simp only[go_sem,hto,hto1,hltl,Qp,Qam _ _ hltl,Fn.cells]
   have ksw:Kn H H2 [] (L1++Lg):=kn.perm List.perm_append_comm
   refine Qazn hto (Gr.slc2 hgr ksw) ?_
   simp only[go_sem,hto,hto1]
   refine Qc rfl ?_ ?_
   ·intro hc2
    have hmm:fns[i].name∈ss:=by simpa using hc2
    rw[if_pos hmm]at hcs
    refine Qn ?_
    simp only[go_sem,hto,hto1]
    refine kn.growR hg1 (new:=[[.int .i64 (i:Int)]]) (.mk' _ true 1 _) (by simp[noOw,C.isOw]) (by simp only[Qax,List.length_cons,List.length_nil,LIM];omega) fun t2 L2 H3 hg2 hto2 kn=>?_
    rw[Q93,←hcs]at hg2
    simp only[go_sem,Qz7,hto,hto2,AE.X.next]
    refine Qn ?_
    simp only[go_sem,hto,hto2,AE.X.next]
    exact⟨Qo (by omega) (by omega),k-(i+1),by omega,i+1,t2,L2,rfl,by omega,hg2,kn,rfl⟩
   ·intro hc2
    have hmm:fns[i].name∉ss:=by simpa using hc2
    rw[if_neg hmm,List.append_nil]at hcs
    refine Qf ?_
    simp only[go_sem,AE.X.next]
    refine Qn ?_
    simp only[go_sem,hto,hto1,AE.X.next]
    exact⟨Qo (by omega) (by omega),k-(i+1),by omega,i+1,t1,L1,rfl,by omega,by rw[hcs];exact hg1,kn,rfl⟩
  ·intro hc
   have hge:k≤i:=by simpa using hc
   have hik:i=k:=by omega
   subst hik
   rw[hcal]at hg1
   refine Qu ?_
   simp only[go_sem,AE.X.next]
   refine Qa ?_
   simp only[go_sem,hto1]
   refine Qh ?_
   simp only[go_sem,Q0,Q6,Qam8,List.mem_singleton,forall_eq,RS.op,hto1]
   exact⟨_,.c _ _ (hg1.frz kn (Qjs _)),hK _ kn.fin⟩
def NdUp (fns:List Fn)(k:Nat)(m:Nat):Prop:=m+1=fns.length∨∃k',k≤k'∧NdF fns k'∧Cls fns k' m
theorem Qa0h (h:FineP fns){k:Nat}(hk:k<fns.length):NdUp fns (k+1) k↔NdF fns k:=by
 constructor
 ·rintro (e|⟨k',_,h1,h2⟩)
  ·have:k=fns.length-1:=by omega
   rw[this];exact .top
  ·exact .to h1 h2
 ·intro hn
  cases hn with
  |top=>exact .inl (by omega)
  |to h1 h2=>exact .inr ⟨_,h.cls_lt h2,h1,h2⟩
theorem Qa0j (h:FineP fns){m:Nat}:NdUp fns 0 m↔NdF fns m:=by
 constructor
 ·rintro (e|⟨k',_,h1,h2⟩)
  ·have:m=fns.length-1:=by omega
   rw[this];exact .top
  ·exact .to h1 h2
 ·intro hn
  cases hn with
  |top=>have:=h.len;exact .inl (by omega)
  |to h1 h2=>exact .inr ⟨_,Nat.zero_le _,h1,h2⟩
theorem Qa0i {k m:Nat}:NdUp fns k m↔NdUp fns (k+1) m∨(NdF fns k∧Cls fns k m):=by
 constructor
 ·rintro (e|⟨k',h0,h1,h2⟩)
  ·exact .inl (.inl e)
  ·rcases Nat.lt_or_ge k k' with hlt|hge
   ·exact .inl (.inr ⟨k',hlt,h1,h2⟩)
   ·have:k'=k:=by omega
    subst this;exact .inr ⟨h1,h2⟩
 ·rintro ((e|⟨k',h0,h1,h2⟩)|⟨h1,h2⟩)
  ·exact .inl e
  ·exact .inr ⟨k',by omega,h1,h2⟩
  ·exact .inr ⟨k,Nat.le_refl _,h1,h2⟩
structure BsOk (fns:List Fn)(bs:List Bool)(S:Nat→Prop):Prop where
 len:bs.length=fns.length
 get:∀m,m<fns.length→(bs.getD m false=true↔S m)
theorem BsOk.set {bs:List Bool}{S:Nat→Prop}(h:BsOk fns bs S){a:Nat}(ha:a<fns.length)(b:Bool):BsOk fns (bs.set a b) fun m=>if m=a then b=true else S m:=by
 refine⟨by rw[List.length_set];exact h.len,fun m hm=>?_⟩
 have hl:=h.len
 by_cases e:m=a
 ·subst e
  simp[List.getD_eq_getElem?_getD,hl,hm]
 ·rw[if_neg e,←h.get m hm,List.getD_eq_getElem?_getD,List.getD_eq_getElem?_getD,List.getElem?_set_ne (fun x=>e x.symm)]
theorem BsOk.congr {bs:List Bool}{S T:Nat→Prop}(h:BsOk fns bs S)(he:∀m,m<fns.length→(S m↔T m)):BsOk fns bs T:=⟨h.len,fun m hm=>(h.get m hm).trans (he m hm)⟩
def Qap5 (bs:List Bool)(n:Nat):List Nat:=(List.range n).filter fun i=>bs.getD i false
theorem Qa5t (h:FineP fns){bs:List Bool}(hb:BsOk fns bs (NdF fns)):Qap5 bs fns.length=Qfy fns:=by
 refine Qalw (List.Pairwise.filter _ List.pairwise_lt_range) (Qoo fns) fun x=>?_
 rw[Qap5,List.mem_filter,List.mem_range,h.need_mem]
 exact⟨fun ⟨h1,h2⟩=>(hb.get x h1).1 h2,fun hn=>⟨h.nd_lt hn,(hb.get x (h.nd_lt hn)).2 hn⟩⟩
theorem Qapw {fl:Bool}(hf:Q1 fns≤2^36)(hK:∀H',Upd H H' []→K (.c (.sl false 1 (Qa4 (Qajd fns)))) H') :
  Qj prog Ql7 [.ag [.sl fl 3 (Qm fns)]] H K:=by
 refine Q8 ?_
 refine Qb Qaj Qaja ?_
 refine Qa ?_
 simp only[go_sem]
 refine Qa ?_
 simp only[go_sem]
 refine Qz ?_
 refine Qa ?_
 simp only[go_sem]
 refine Qavb hf fun H1 hu=>?_
 have kn:=(Kn.start0 H).call0 hu
 simp only[go_sem,Qqh]
 refine Qe (Qc rfl ?_ ?_)
 ·intro hc
  have hg:Qmp fns=false:=by simpa using hc
  refine Qa ?_
  simp only[go_sem]
  refine Qh ?_
  simp only[go_sem,AE.X.next,Q0,Q6,Qgm,List.mem_singleton,forall_eq,RS.op]
  have:=hK _ kn.fin
  rw[Qajd,hg]at this
  exact⟨_,.c _ _ FrzR.nil.sl,this⟩
 intro hc
 have hgb:Qmp fns=true:=by simpa using hc
 have hg:=fine_iff.1 hgb
 rw[Qajd,if_pos hgb]at hK
 have hlen:=hg.len
 have e1:(fns.length:Int)-1=((fns.length-1:Nat):Int):=by omega
 have hl1:fns.length-1<fns.length:=by omega
 have hlr:fns.length-1<(List.replicate fns.length false).length:=by rw[List.length_replicate];exact hl1
 refine Qf ?_
 try simp only[go_sem]
 refine Qa ?_
 simp only[go_sem,Qp,Q1b]
 try intro _
 refine⟨by simp only[LIM];omega,?_⟩
 intro y hy H2 h2
 have kn:=kn.al hy h2
 have gy:=kn.l 0 rfl
 simp only[go_sem,Qqi]
 refine Qa ?_
 simp only[go_sem,gy,e1,hl1,Qp,Qes,Qe1 _ _ hlr,List.length_replicate,Nat.zero_add]
 try intro _
 refine⟨Qo (by omega) (by omega),?_⟩
 intro H3 h3
 have kn:Kn H H3 [] [(y,.vec 1 (Qbp ((List.replicate fns.length false).set (fns.length-1) true)))]:=by
  rw[←Q88]
  exact kn.stL 0 rfl h3
 have hb0:BsOk fns ((List.replicate fns.length false).set (fns.length-1) true) (NdUp fns fns.length):=by
  have h0:BsOk fns (List.replicate fns.length false) fun _=>False:=⟨by simp,fun m hm=>by simp[List.getD_eq_getElem?_getD,hm]⟩
  refine (h0.set hl1 true).congr fun m hm=>?_
  by_cases e:m=fns.length-1
  ·simp only[e,if_true,true_iff];exact .inl (by omega)
  ·simp only[e,if_false,false_iff]
   rintro (h|⟨k',h1,h2,_⟩)
   ·omega
   ·have:=hg.nd_lt h2;omega
 obtain⟨bs0,hbs0⟩:∃bs0,(List.replicate fns.length false).set (fns.length-1) true=bs0:=⟨_,rfl⟩
 rw[hbs0]at kn hb0
 refine Qz ?_
 refine Qa ?_
 simp only[go_sem,Qp]
 try intro _
 refine⟨Qo (by omega) (by omega),?_⟩
 refine Qe (Qd (Qt (fun m e1 H1=>∃(j:Nat) (bs:List Bool),m=j∧j≤fns.length∧BsOk fns bs (NdUp fns j)∧Kn H H1 [] [(y,.vec 1 (Qbp bs))]∧
  e1=[(1,.c (.pp [.sl fl 3 (Qm fns)])),(3,.c (.sl true 1 [])),(4,.c (.vsl y 1 0 fns.length)),(5,.c (.int .i64 ((j:Int)-1)))]) fns.length ?_ ?_))
 ·exact⟨fns.length,bs0,rfl,Nat.le_refl _,hb0,kn,rfl⟩
 ·clear kn gy h3 h2 hy hb0 hbs0
  rintro m e1 H4 ⟨j,bs,hm,hj,hbs,kn,rfl⟩
  refine Qz ?_
  refine Qa ?_
  simp only[go_sem]
  refine Qe (Qc rfl ?_ ?_)
  ·intro hc2
   have hj1:1≤j:=by simp at hc2;omega
   obtain⟨k,rfl⟩:∃k,j=k+1:=⟨j-1,by omega⟩
   have ek:(((k+1:Nat):Int)-1)=(k:Int):=by omega
   have hk:k<fns.length:=by omega
   rw[ek]at hc2⊢
   refine Qf ?_
   try simp only[go_sem]
   refine Qe (Qd ?_)
   refine Qa ?_
   simp only[go_sem]
   refine Qawa hg hk (Qaly hf k hk) fun H5 hu=>?_
   have kn:=kn.call0 hu
   simp only[go_sem,Qqj]
   obtain⟨l,hl⟩:∃l,Qmo fns k=l:=⟨_,rfl⟩
   have hlm:∀x∈l,x<k:=fun x hx=>hg.cls_lt (Qza (by rw[hl];exact hx))
   rw[hl]
   refine Qa ?_
   simp only[go_sem]
   refine Qd (Qt (fun m2 e2 H6=>∃(i:Nat) (bs2:List Bool),m2=l.length-i∧i≤l.length∧BsOk fns bs2 (fun m=>NdUp fns (k+1) m∨(NdF fns k∧m∈l.take i))∧Kn H H6 [] [(y,.vec 1 (Qbp bs2))]∧
    e2=[(1,.c (.pp [.sl fl 3 (Qm fns)])),(3,.c (.sl true 1 [])),(4,.c (.vsl y 1 0 fns.length)),(5,.c (.int .i64 k)),(6,.c (.sl false 1 (Qa4 l))),(7,.c (.int .i64 i))]) l.length ?_ ?_)
   ·exact⟨0,bs,by omega,by omega,hbs.congr fun m hm=>by simp,kn,rfl⟩
   ·clear kn
    rintro m2 e2 H6 ⟨i,bs2,hm2,hi,hb2,kn,rfl⟩
    have gy:=kn.l 0 rfl
    have hbl:=hb2.len
    refine Qz ?_
    refine Qa ?_
    simp only[go_sem,Qax]
    intro hlim
    simp only[LIM]at hlim
    refine Qe (Qc rfl ?_ ?_)
    ·intro hc3
     have hlt:i<l.length:=by simpa using hc3
     obtain⟨a,ha⟩:∃a,l[i]=a:=⟨_,rfl⟩
     have had:l.getD i 0=a:=by simp[List.getD_eq_getElem?_getD,hlt,ha]
     have hak:a<k:=hlm a (by rw[←ha];exact List.getElem_mem hlt)
     have hal:a<fns.length:=by omega
     have htkb:(Qbp bs2).take fns.length=Qbp bs2:=List.take_of_length_le (by rw[Qes,hbl];exact Nat.le_refl _)
     have hkn:(bs2.getD k false=true)↔NdF fns k:=by
      rw[hb2.get k hk,Qa0h hg hk]
      exact⟨fun h=>h.elim id fun h=>h.1,.inl⟩
     refine Qf ?_
     try simp only[go_sem]
     refine Qe (Qd ?_)
     have put:∀(v:Bool) (H7:Heap),(v=(bs2.getD a false || bs2.getD k false))→H7=H6.set y (.vec 1 ((Qbp bs2).set a [.bool v]))→Qah prog Qt7 (X.next (fun e2 H6=>∃m',m'<m2∧∃(i:Nat) (bs2:List Bool),m'=l.length-i∧i≤l.length∧BsOk fns bs2 (fun m=>NdUp fns (k+1) m∨(NdF fns k∧m∈l.take i))∧Kn H H6 [] [(y,.vec 1 (Qbp bs2))]∧
       e2=[(1,.c (.pp [.sl fl 3 (Qm fns)])),(3,.c (.sl true 1 [])),(4,.c (.vsl y 1 0 fns.length)),(5,.c (.int .i64 k)),(6,.c (.sl false 1 (Qa4 l))),(7,.c (.int .i64 i))])
       (X.inBlock 2 (X.inBlock 1 (X.sq prog Qt8 (X.next (fun e1 H1=>∃m',m'<m∧∃(j:Nat) (bs:List Bool),m'=j∧j≤fns.length∧BsOk fns bs (NdUp fns j)∧Kn H H1 [] [(y,.vec 1 (Qbp bs))]∧
        e1=[(1,.c (.pp [.sl fl 3 (Qm fns)])),(3,.c (.sl true 1 [])),(4,.c (.vsl y 1 0 fns.length)),(5,.c (.int .i64 ((j:Int)-1)))]) (X.inBlock 0 (X.sq prog Qqg (Q0 Qgm (unK H K)))))))))
       [(1,.c (.pp [.sl fl 3 (Qm fns)])),(3,.c (.sl true 1 [])),(4,.c (.vsl y 1 0 fns.length)),(5,.c (.int .i64 k)),(6,.c (.sl false 1 (Qa4 l))),(7,.c (.int .i64 i))] H7:=by
      intro v H7 hv h7
      have kn:=kn.stL 0 rfl h7
      have kn:Kn H H7 [] [(y,.vec 1 (Qbp (bs2.set a v)))]:=by rw[←Q88];exact kn
      refine Qn ?_
      simp only[go_sem,AE.X.next]
      refine⟨Qo (by omega) (by omega),l.length-(i+1),by omega,i+1,bs2.set a v,rfl,by omega,(hb2.set hal v).congr fun m hm=>?_,kn,rfl⟩
      rw[List.take_succ_eq_append_getElem hlt,ha]
      by_cases e:m=a
      ·subst e
       simp only[if_true,hv,Bool.or_eq_true,hb2.get m hm,hkn,List.mem_append,List.mem_singleton]
       constructor
       ·rintro ((h|⟨h1,h2⟩)|h)
        ·exact .inl h
        ·exact .inr ⟨h1,.inl h2⟩
        ·exact .inr ⟨h,.inr trivial⟩
       ·rintro (h|⟨h,_⟩)
        ·exact .inl (.inl h)
        ·exact .inr h
      ·simp[e]
     cases hba:bs2.getD a false with
     |true=>
      refine Qwc ?_
      simp only[go_sem,gy,hlt,hal,hk,hbl,htkb,hba,had,Qax,Qew _ _ hlt,Qes,Qe1 _ _ (show a<bs2.length by omega),Qe1 _ _ (show k<bs2.length by omega),Nat.zero_add,Nat.le_refl]
      intro H7 h7
      try simp only[go_sem,AE.X.next]
      exact put true H7 (by rw[hba];rfl) h7
     |false=>
      refine Qwc ?_
      simp only[go_sem,gy,hlt,hal,hk,hbl,htkb,hba,had,Qax,Qew _ _ hlt,Qes,Qe1 _ _ (show a<bs2.length by omega),Qe1 _ _ (show k<bs2.length by omega),Nat.zero_add,Nat.le_refl]
      intro H7 h7
      try simp only[go_sem,AE.X.next]
      exact put (bs2.getD k false) H7 (by rw[hba];rfl) h7
    ·intro hc3
     have hge:l.length≤i:=by simpa using hc3
     rw[List.take_of_length_le hge]at hb2
     refine Qu ?_
     simp only[go_sem,AE.X.next]
     refine Qn ?_
     simp only[go_sem,AE.X.next]
     refine⟨Qo (by omega) (by omega),k,by omega,k,bs2,rfl,by omega,hb2.congr fun m hm=>?_,kn,rfl⟩
     rw[Qa0i (k:=k) (m:=m),←hl]
     exact or_congr Iff.rfl (and_congr Iff.rfl ⟨Qza,Qam0 hg⟩)
  ·intro hc2
   have hj0:j=0:=by simp at hc2;omega
   subst hj0
   have hbs:=hbs.congr fun m _=>Qa0j (m:=m) hg
   have htl:=Qa5t hg hbs
   have hbl:=hbs.len
   have htkb:(Qbp bs).take fns.length=Qbp bs:=List.take_of_length_le (by rw[Qes,hbl];exact Nat.le_refl _)
   refine Qu ?_
   simp only[go_sem,AE.X.next]
   refine Qz ?_
   refine Qa ?_
   simp only[go_sem]
   refine Qe (Qd (Qt (fun m e1 H1=>∃(i:Nat) (t1:C) (L1:List (Nat×Obj)),m=fns.length-i∧i≤fns.length∧Gr L1 1 (Qa4 (Qap5 bs i)) t1∧Kn H H1 [] ([(y,.vec 1 (Qbp bs))]++L1)∧
    e1=[(3,.c t1),(4,.c (.vsl y 1 0 fns.length)),(8,.c (.int .i64 i))]) fns.length ?_ ?_))
   ·exact⟨0,.sl true 1 [],[],by omega,by omega,.nil 1,by simpa using kn,rfl⟩
   ·clear kn
    rintro m e1 H5 ⟨i,t1,L1,hm,hi,hg1,kn,rfl⟩
    have hto1:=hg1.isOw
    have gy:=kn.l 0 rfl
    refine Qz ?_
    refine Qa ?_
    simp only[go_sem,gy,hbl,Qes,hto1,Nat.zero_add,Nat.le_refl]
    try intro hlim
    refine Qe (Qc rfl ?_ ?_)
    ·intro hc3
     have hlt:i<fns.length:=by simpa using hc3
     have hts:Qap5 bs (i+1)=Qap5 bs i++(if bs.getD i false=true then [i]else []):=by
      rw[Qap5,Qap5,List.range_succ,List.filter_append,List.filter_cons,List.filter_nil]
     have hcl:(Qap5 bs i).length≤i:=by
      have:=List.length_filter_le (fun i=>bs.getD i false) (List.range i)
      rw[List.length_range]at this
      exact this
     refine Qf ?_
     try simp only[go_sem]
     refine Qe (Qd ?_)
     refine Qa ?_
     simp only[go_sem,gy,hlt,hbl,htkb,hto1,Qes,Qe1 _ _ (show i<bs.length by omega),Nat.zero_add,Nat.le_refl]
     refine Qc rfl ?_ ?_
     ·intro hc4
      rw[if_pos hc4]at hts
      refine Qn ?_
      simp only[go_sem,hto1]
      refine kn.growR hg1 (new:=[[.int .i64 (i:Int)]]) (.mk' _ true 1 _) (by simp[noOw,C.isOw]) (by simp only[Qax,List.length_cons,List.length_nil,LIM];omega) fun t2 L2 H6 hg2 hto2 kn=>?_
      rw[Q93,←hts]at hg2
      simp only[go_sem,Qn6,hto2,AE.X.next]
      refine Qn ?_
      simp only[go_sem,hto2,AE.X.next]
      exact⟨Qo (by omega) (by omega),fns.length-(i+1),by omega,i+1,t2,L2,rfl,by omega,hg2,kn,rfl⟩
     ·intro hc4
      rw[if_neg (by rw[hc4];simp),List.append_nil]at hts
      refine Qf ?_
      simp only[go_sem,AE.X.next]
      refine Qn ?_
      simp only[go_sem,hto1,AE.X.next]
      exact⟨Qo (by omega) (by omega),fns.length-(i+1),by omega,i+1,t1,L1,rfl,by omega,by rw[hts];exact hg1,kn,rfl⟩
    ·intro hc3
     have hge:fns.length≤i:=by simpa using hc3
     have hik:i=fns.length:=by omega
     subst hik
     rw[htl]at hg1
     refine Qu ?_
     simp only[go_sem,AE.X.next]
     refine Qa ?_
     simp only[go_sem,hto1]
     refine Qh ?_
     simp only[go_sem,Q0,Q6,Qgm,List.mem_singleton,forall_eq,RS.op,hto1]
     exact⟨_,.c _ _ (hg1.frz kn (Qjs _)),hK _ kn.fin⟩
end Go.AE.Y

namespace Go.AE
variable {H0 H H1:Heap}{E L N Lg B:List (Nat×Obj)}{sz:Nat}{rows rows':List (List C)}{c:C}{S:Nat→Bool}
theorem Slc.kn (h:Slc H sz rows c)(kn:Kn H H1 [] L):Slc H1 sz rows c:=by
 match c,h with
 |.sl f z r,h=>exact⟨trivial,h.sz,h.rows,h.len⟩
 |.vsl l a st n,h=>
  have hl:H l≠.none:=fun e=>by
   have:=h.ok
   simp only[okSl,e]at this
  have he:=kn.chg l hl (by simp)
  have h1:=h.ok
  have h2:=h.rows
  simp only[okSl,rowsOf]at h1 h2
  refine⟨?_,h.sz,?_,h.len⟩
  ·simp only[okSl,he];exact h1
  ·simp only[rowsOf,he];exact h2
theorem Kn.addNew (kn:Kn H0 H E L)(k2:Kn H H1 [] N):Kn H0 H1 E (L++N):=by
 refine⟨fun p hp=>?_,kn.ext,fun p hp=>?_,kn.dE,?_,fun m hm hn=>?_⟩
 ·rcases List.mem_append.1 hp with hp|hp
  ·obtain⟨h1,h2⟩:=kn.get p (List.mem_append_left _ hp)
   rw[k2.chg p.1 (by rw[h1];exact h2) (by simp)];exact⟨h1,h2⟩
  ·rcases List.mem_append.1 hp with hp|hp
   ·obtain⟨h1,h2⟩:=kn.get p (List.mem_append_right _ hp)
    rw[k2.chg p.1 (by rw[h1];exact h2) (by simp)];exact⟨h1,h2⟩
   ·exact k2.get p (by simpa using hp)
 ·rcases List.mem_append.1 hp with hp|hp
  ·exact kn.loc p hp
  ·exact (kn.newFree (k2.loc p hp)).1
 ·rw[List.map_append]
  refine List.nodup_append.2 ⟨kn.dL,k2.dL,fun a ha b hb hab=>?_⟩
  obtain⟨p,hp,rfl⟩:=List.mem_map.1 hb
  exact (kn.newFree (k2.loc p hp)).2.2 (hab▸ha)
 ·rw[k2.chg m (by rw[kn.chg m hm hn];exact hm) (by simp),kn.chg m hm hn]
theorem Gr.frzm (h:Gr Lg sz rows c)(hm:∀p∈Lg,H p.1=p.2∧S p.1=true)(hr:Y.FrzR H S rows rows'):FrzC H S c (.sl false sz rows'):=by
 rcases h with ⟨rfl,rfl,rfl⟩|⟨y,rfl,rfl⟩
 ·cases hr;exact Y.FrzR.nil.sl
 ·obtain⟨h1,h2⟩:=hm (y,.vec sz rows) (by simp)
  exact hr.vsl h2 h1 rfl
end Go.AE
namespace Go.AE.Y
attribute [local go_sem] cond_true cond_false Bool.not_true Bool.not_false
open Go.Proofs.Tryz
variable {H H0 F:Heap}{K:V→Heap→Prop}{E B Lg:List (Nat×Obj)}{fns:List Fn}{S:Nat→Bool}
theorem Qaqo {α β:Type}{f:α→List C}{g:β→List C}{d:α→β}:∀(l:List α),(∀x∈l,FrzL H S (f x) (g (d x)))→FrzR H S (l.map f) ((l.map d).map g)
 |[],_=>.nil
 |x::l,h=>.cons (h x List.mem_cons_self) (Qaqo l fun z hz=>h z (List.mem_cons_of_mem _ hz))
structure OSt where
 x:St
 ac:C
 al:List (Nat×Obj)
def OSt.row (o:OSt):List C:=[.int .i64 o.x.op,.str o.x.name,o.ac,.sl false 5 (Ql o.x.body),.sl false 5 (Ql o.x.els)]
def OSt.ok (o:OSt):Prop:=Gr o.al 4 (Q2 o.x.args) o.ac
theorem OSt.noOw {o:OSt}(h:o.ok):Go.AE.noOw o.row=true:=by
 have:=h.isOw
 simp only[OSt.row,Go.AE.noOw,List.all_cons,List.all_nil,Qauu,Qaiz,Qazk,this];rfl
theorem OSt.frz {o:OSt}(h:o.ok)(hm:∀p∈o.al,H p.1=p.2∧S p.1=true):FrzL H S o.row o.x.cells:=by
 rw[o.x.cells_eq]
 exact .cons (Qk rfl) (.cons (Qk rfl) (.cons (Gr.frzm h hm (FrzR.same (Qe2 _))) (.cons (FrzR.same (Qfg _)).sl (.cons (FrzR.same (Qfg _)).sl .nil))))
theorem Qau1 {os:List OSt}{Lz:List (Nat×Obj)}{t:C}(ho:∀o∈os,o.ok)(hz:Gr Lz 5 (os.map OSt.row) t)(hm:∀p∈os.flatMap OSt.al++Lz,H p.1=p.2∧S p.1=true):FrzC H S t (.sl false 5 (Ql (os.map OSt.x))):=by
 rw[Qhu]
 refine Gr.frzm hz (fun p hp=>hm p (List.mem_append_right _ hp)) (Qaqo os fun o hoo=>OSt.frz (ho o hoo) fun p hp=>hm p (List.mem_append_left _ (List.mem_flatMap.2 ⟨o,hoo,hp⟩)))
theorem Qa38:∀(n:Nat) (x:Ex) {H:Heap} {K:V→Heap→Prop},x.size≤n→(∀H',Upd H H' []→K (.ag x.cells) H')→Qj prog Qze [.ag x.cells] H K:=by
 intro n
 induction n with
 |zero=>intro x H K h;have:=x.size_pos;omega
 |succ n ih=>
 intro x H K hn hK
 have hsz:=x.size_kids
 refine Q8 ?_
 refine Qb Qaj Qa4d ?_
 refine Qa ?_
 simp only[go_sem,x.cells_eq]
 intro x1 hx1 H1 h1
 have kn:=(Kn.start0 H).al hx1 h1
 simp only[go_sem,Qabf]
 intro x2 hx2 H2 h2
 have kn:Kn H H2 [] ([(x1,exO x.op x.n x.name (.sl false 4 (Q2 x.kids))),(x2,exO 0 0 [] (.sl true 4 []))]):=kn.al hx2 h2
 refine Qa ?_
 simp only[go_sem]
 refine Qz ?_
 refine Qa ?_
 simp only[go_sem]
 refine Qe (Qd (Qt (fun m e2 H2=>∃(j:Nat) (Lk:List (Nat×Obj)) (t:C),m=x.kids.length-j∧j≤x.kids.length∧Gr Lk 4 (Q2 (x.kids.take j)) t∧
  Kn H H2 [] ([(x1,exO x.op x.n x.name (.sl false 4 (Q2 x.kids))),(x2,exO 0 0 [] (.sl true 4 []))]++Lk)∧
  e2=[(1,.c (.ptr x1 0)),(2,.c (.ptr x2 0)),(3,.c t),(4,.c (.int .i64 j))]) x.kids.length ?_ ?_))
 ·exact⟨0,[],.sl true 4 [],by omega,by omega,.nil 4,kn,rfl⟩
 ·clear kn
  rintro m e2 H3 ⟨j,Lk,t,hm,hj,hgk,kn,rfl⟩
  have hto:=hgk.isOw
  have g1:=kn.l 0 rfl
  refine Qz ?_
  refine Qa ?_
  simp only[go_sem,g1,hto,Qi]
  intro hl
  simp only[LIM]at hl
  refine Qe (Qc rfl ?_ ?_)
  ·intro hc
   have hlt:j<x.kids.length:=by simpa using hc
   have hms:=Qad (List.getElem_mem hlt)
   obtain⟨y,hy⟩:∃y,x.kids[j]=y:=⟨_,rfl⟩
   have htk:Q2 (x.kids.take (j+1))=Q2 (x.kids.take j)++[y.cells]:=by
    rw[Qe3,List.take_succ_eq_append_getElem hlt,hy]
   rw[hy]at hms
   refine Qf ?_
   try simp only[go_sem]
   refine Qe (Qd ?_)
   refine Qn ?_
   simp only[go_sem,g1,hto,hlt,Qi,Qag _ _ hlt,hy,Ex.take4,Ex.allOw,Ex.cells_len]
   refine ih y (by omega) fun H5 hu=>?_
   have kn:=kn.call0 hu
   simp only[go_sem,Qabh,hto,y.cells_len]
   refine kn.growR hgk (new:=[y.cells]) (.mk' _ true 4 _) (by simpa using y.noOw) (by simp only[Qi,List.length_take,List.length_cons,List.length_nil,LIM];omega) fun t' Lk' H6 hg' hto' kn=>?_
   rw[←htk]at hg'
   simp only[go_sem,Qabg,hto']
   refine Qn ?_
   simp only[go_sem,AE.X.next,hto']
   exact⟨Qo (by omega) (by omega),x.kids.length-(j+1),by omega,j+1,Lk',t',rfl,by omega,hg',kn,rfl⟩
  ·intro hc
   have hge:x.kids.length≤j:=by simpa using hc
   rw[List.take_of_length_le hge]at hgk
   refine Qu ?_
   simp only[go_sem,AE.X.next]
   refine Qa ?_
   simp only[go_sem,g1,hto]
   intro H4 h4
   have kn:=kn.stL 0 rfl h4
   have g1:=kn.l 0 rfl
   have g2:=kn.l 1 rfl
   refine Qa ?_
   simp only[go_sem,g1,g2,hto]
   intro H5 h5
   have kn:=kn.stL 1 rfl h5
   have g2:=kn.l 1 rfl
   refine Qh ?_
   simp only[go_sem,Q0,Q6,Qmc,List.mem_singleton,forall_eq,RS.op,g2,hto]
   rw[x.cells_eq]at hK
   exact⟨_,(FrzL.cons (Qk rfl) (.cons (Qk rfl) (.cons (Qk rfl) (.cons (hgk.frz (B:=[_,_]) kn (Qe2 _)) .nil)))).ag,hK _ kn.fin⟩
structure SRd (H:Heap)(rows:List (List C))(l:List St):Prop where
 len:rows.length=l.length
 get:∀i (h:i<l.length),∃ac:C,rows.getD i []=[.int .i64 l[i].op,.str l[i].name,ac,.sl false 5 (Ql l[i].body),.sl false 5 (Ql l[i].els)]∧ac.isOw=false∧Slc H 4 (Q2 l[i].args) ac
theorem SRd.fz (H:Heap)(l:List St):SRd H (Ql l) l:=⟨Qw l,fun i h=>⟨.sl false 4 (Q2 l[i].args),by rw[Qar _ _ h,St.cells_eq],rfl,.mk' H false 4 _⟩⟩
theorem SRd.kn {H1:Heap}{L:List (Nat×Obj)}{rows:List (List C)}{l:List St}(h:SRd H rows l)(kn:Kn H H1 [] L):SRd H1 rows l:=⟨h.len,fun i hi=>by
 obtain⟨ac,h1,h2,h3⟩:=h.get i hi
 exact⟨ac,h1,h2,h3.kn kn⟩⟩
theorem OSt.slc {o:OSt}(h:o.ok)(hm:∀p∈o.al,H p.1=p.2):Slc H 4 (Q2 o.x.args) o.ac:=by
 have hk:Gr o.al 4 (Q2 o.x.args) o.ac:=h
 refine⟨?_,hk.elemSz,?_,hk.lenC⟩
 ·rcases hk with ⟨h1,h2,h3⟩|⟨y,h1,h2⟩
  ·rw[h1];trivial
  ·have:H y=.vec 4 (Q2 o.x.args):=hm (y,_) (by rw[h2];simp)
   rw[h1];simp[okSl,this]
 ·rcases hk with ⟨h1,h2,h3⟩|⟨y,h1,h2⟩
  ·rw[h1,h2];rfl
  ·have:H y=.vec 4 (Q2 o.x.args):=hm (y,_) (by rw[h2];simp)
   rw[h1];simp[rowsOf,this]
theorem SRd.os {os:List OSt}(ho:∀o∈os,o.ok)(hm:∀p∈os.flatMap OSt.al,H p.1=p.2):SRd H (os.map OSt.row) (os.map OSt.x):=by
 refine⟨by simp,fun i hi=>?_⟩
 have hi2:i<os.length:=by simpa using hi
 have hm2:=List.getElem_mem hi2
 refine⟨os[i].ac,?_,(ho _ hm2).isOw,?_⟩
 ·simp[List.getD_eq_getElem?_getD,hi2,OSt.row]
 ·rw[List.getElem_map]
  exact OSt.slc (ho _ hm2) fun p hp=>hm p (List.mem_flatMap.2 ⟨_,hm2,hp⟩)
def StO (n:Nat):Prop:=∀(l:List St) (rows:List (List C)) (c:C) (H:Heap) (K:V→Heap→Prop),Qg l≤n→Qg l≤2^38→c.isOw=false→Slc H 5 rows c→SRd H rows l→
 (∀(os:List OSt) t Lz H',os.map OSt.x=l→(∀o∈os,o.ok)→Gr Lz 5 (os.map OSt.row) t→Kn H H' [] (os.flatMap OSt.al++Lz)→K (.c t) H')→Qj prog Qi8 [.c c] H K
theorem Qa57 {n:Nat}(h:StO n){l:List St}{f:Bool}{H:Heap}{K:V→Heap→Prop}(hn:Qg l≤n)(hb:Qg l≤2^38)(hK:∀H',Upd H H' []→K (.c (.sl false 5 (Ql l))) H'):Qj prog Qi8 [.c (.sl f 5 (Ql l))] H K:=by
 refine Q8 (h l (Ql l) (.sl f 5 (Ql l)) H _ hn hb rfl (.mk' H f 5 _) (.fz H l) fun os t Lz H' hx ho hz kn=>?_)
 refine⟨_,.c _ _ (Qau1 ho hz fun p hp=>⟨(kn.get p (by simpa using hp)).1,Qy6 (kn.loc p hp)⟩),?_⟩
 rw[hx]
 exact hK _ kn.fin
theorem Qbbe:∀n,StO n:=by
 intro n
 induction n using Nat.strongRecOn with
 |_ n ih=>
 intro l rows c H K hn hb how hs0 hr0 hK
 have hsl0:=Qg4 l
 have hrl:=hr0.len
 refine Qb Qaj Qaz6 ?_
 refine Qa ?_
 simp only[go_sem,how]
 refine Qa ?_
 simp only[go_sem,how]
 refine Qz ?_
 refine Qa ?_
 simp only[go_sem,how]
 refine Qe (Qd (Qt (fun m e1 H1=>∃(i:Nat) (os:List OSt) (Lz:List (Nat×Obj)) (t:C),m=l.length-i∧i≤l.length∧os.map OSt.x=l.take i∧(∀o∈os,o.ok)∧Gr Lz 5 (os.map OSt.row) t∧Kn H H1 [] (os.flatMap OSt.al++Lz)∧
  e1=[(0,.c c),(3,.c t),(4,.c (.int .i64 i))]) l.length ?_ ?_))
 ·exact⟨0,[],[],.sl true 5 [],by omega,by omega,by simp,by simp,.nil 5,Kn.start0 H,rfl⟩
 ·rintro m e1 H1 ⟨i,os,Lz,t,hm,hi,hox,ho,hz,kn,rfl⟩
  have hto:=hz.isOw
  have hs1:=hs0.kn kn
  have hok:=eq_true hs1.ok
  have hrw:=hs1.rows
  have hln:=hs1.len
  have hsz:=hs1.sz
  rw[hrl]at hln
  refine Qz ?_
  refine Qa ?_
  simp only[go_sem,how,hok,hln,hto]
  intro hl
  simp only[LIM]at hl
  refine Qe (Qc rfl ?_ ?_)
  ·intro hc
   have hlt:i<l.length:=by simpa using hc
   have hms:=Qai (List.getElem_mem hlt)
   obtain⟨x,hx⟩:∃x,l[i]=x:=⟨_,rfl⟩
   rw[hx]at hms
   have hse:=x.size_eq
   obtain⟨ac,hrow,haw,_⟩:=hr0.get i hlt
   rw[hx]at hrow
   have hol:os.length=i:=by
    have:=congrArg List.length hox
    rw[List.length_map,List.length_take]at this;omega
   refine Qf ?_
   try simp only[go_sem]
   refine Qe (Qd ?_)
   refine Qa ?_
   simp only[go_sem,how,hok,hln,hrw,hsz,hto,haw,hlt,hrow]
   intro x5 hx5 H3 h3
   have kn:Kn H H3 [] ((os.flatMap OSt.al++Lz)++(x5,.st [.int .i64 0,.str [],.sl true 4 [],.sl true 5 [],.sl true 5 []])::[]):=kn.al hx5 h3
   have g5:=kn.getM
   simp only[go_sem,Q49,g5,how,hto,haw]
   intro H4 h4
   have kn:Kn H H4 [] ((os.flatMap OSt.al++Lz)++(x5,stX x.op x.name ac (.sl false 5 (Ql x.body)) (.sl false 5 (Ql x.els)))::[]):=kn.stM h4
   refine Qa ?_
   simp only[go_sem,how,hto]
   refine Qz ?_
   refine Qa ?_
   simp only[go_sem,how,hto]
   refine Qe (Qd (Qt (fun m2 e2 H5=>∃(j:Nat) (La:List (Nat×Obj)) (ta:C),m2=x.args.length-j∧j≤x.args.length∧Gr La 4 (Q2 (x.args.take j)) ta∧Kn H H5 [] ((os.flatMap OSt.al++Lz)++(x5,stX x.op x.name ac (.sl false 5 (Ql x.body)) (.sl false 5 (Ql x.els)))::La)∧
    e2=[(0,.c c),(3,.c t),(4,.c (.int .i64 i)),(5,.c (.ptr x5 0)),(6,.c ta),(7,.c (.int .i64 j))]) x.args.length ?_ ?_))
   ·exact⟨0,[],.sl true 4 [],by omega,by omega,.nil 4,kn,rfl⟩
   ·clear kn g5 h4 h3
    rintro m2 e2 H5 ⟨j,La,ta,hm2,hj,hga,kn,rfl⟩
    have hao:=hga.isOw
    have g5:=kn.getM
    obtain⟨ac',hrow',haw',hsa⟩:=(hr0.kn kn).get i hlt
    rw[hx]at hrow' hsa
    have hacc:ac=ac':=by
     rw[hrow]at hrow'
     simp only[List.cons.injEq]at hrow'
     exact hrow'.2.2.1
    subst hacc
    have hoka:=eq_true hsa.ok
    have hrwa:=hsa.rows
    have hlna:=hsa.len
    have hsza:=hsa.sz
    rw[Qi]at hlna
    refine Qz ?_
    refine Qa ?_
    simp only[go_sem,how,haw,hto,hao,g5,hoka,hlna]
    intro hl2
    simp only[LIM]at hl2
    refine Qe (Qc rfl ?_ ?_)
    ·intro hc2
     have hlt2:j<x.args.length:=by simpa using hc2
     have hms2:=Qad (List.getElem_mem hlt2)
     obtain⟨y,hy⟩:∃y,x.args[j]=y:=⟨_,rfl⟩
     have htk:Q2 (x.args.take (j+1))=Q2 (x.args.take j)++[y.cells]:=by
      rw[Qe3,List.take_succ_eq_append_getElem hlt2,hy]
     refine Qf ?_
     try simp only[go_sem]
     refine Qe (Qd ?_)
     refine Qn ?_
     simp only[go_sem,how,haw,hto,hao,g5,hoka,hlna,hrwa,hsza,hlt2,Qag _ _ hlt2,hy,Ex.take4,Ex.allOw,Ex.cells_len]
     refine Qa38 y.size y (Nat.le_refl _) fun H6 hu=>?_
     have kn:=kn.call0 hu
     simp only[go_sem,how,haw,Q5b,hto,hao,y.cells_len]
     have kn:Kn H H6 [] (((os.flatMap OSt.al++Lz)++[(x5,stX x.op x.name ac (.sl false 5 (Ql x.body)) (.sl false 5 (Ql x.els)))])++La):=by rw[List.append_assoc _ [_]];exact kn
     refine kn.growR hga (new:=[y.cells]) (.mk' _ true 4 _) (by simpa using y.noOw) (by simp only[Qi,List.length_take,List.length_cons,List.length_nil,LIM];omega) fun ta' La' H7 hga' hao' kn=>?_
     rw[←htk]at hga'
     simp only[go_sem,how,haw,Q5a,hto,hao']
     refine Qn ?_
     simp only[go_sem,AE.X.next,how,haw,hto,hao']
     refine⟨Qo (by omega) (by omega),x.args.length-(j+1),by omega,j+1,La',ta',rfl,by omega,hga',?_,rfl⟩
     rw[List.append_assoc _ [_]]at kn;exact kn
    ·intro hc2
     have hge2:x.args.length≤j:=by simpa using hc2
     rw[List.take_of_length_le hge2]at hga
     refine Qu ?_
     simp only[go_sem,AE.X.next]
     refine Qwc ?_
     simp only[go_sem,how,haw,hto,hao,g5]
     refine Qa57 (ih (Qg x.body) (by omega)) (Nat.le_refl _) (by omega) fun H6 hu=>?_
     have kn:=kn.call0 hu
     have g5:=kn.getM
     simp only[go_sem,how,haw,Q5e,hto,hao,g5]
     refine Qa57 (ih (Qg x.els) (by omega)) (Nat.le_refl _) (by omega) fun H7 hu=>?_
     have kn:=kn.call0 hu
     have g5:=kn.getM
     simp only[go_sem,how,haw,Q5d,hto,hao,g5]
     have kn:Kn H H7 [] ((os.flatMap OSt.al++(x5,stX x.op x.name ac (.sl false 5 (Ql x.body)) (.sl false 5 (Ql x.els)))::La)++Lz):=kn.perm (by
      rw[List.append_assoc,List.append_assoc]
      exact List.Perm.append_left _ List.perm_append_comm)
     have hok:OSt.ok ⟨x,ta,La⟩:=hga
     refine kn.growR hz (new:=[OSt.row ⟨x,ta,La⟩]) (.mk' _ true 5 _) (by simpa using OSt.noOw hok) (by simp only[List.length_map,List.length_cons,List.length_nil,LIM];omega) fun t' Lz' H8 hz' hto' kn=>?_
     have kn:Kn H H8 [] ((os++[(⟨x,ta,La⟩:OSt)]).flatMap OSt.al++Lz'):=by
      refine kn.sub ?_
      rw[List.flatMap_append,List.flatMap_cons,List.flatMap_nil,List.append_nil]
      exact List.Sublist.append (List.Sublist.append (List.Sublist.refl _) (List.sublist_cons_self _ _)) (List.Sublist.refl _)
     simp only[go_sem,how,haw,Q5c,hto']
     refine Qn ?_
     simp only[go_sem,AE.X.next,how,hto']
     refine⟨Qo (by omega) (by omega),l.length-(i+1),by omega,i+1,os++[(⟨x,ta,La⟩:OSt)],Lz',t',rfl,by omega,?_,?_,?_,kn,rfl⟩
     ·rw[List.map_append,hox,List.take_succ_eq_append_getElem hlt,hx];rfl
     ·intro o hoo
      rcases List.mem_append.1 hoo with hoo|hoo
      ·exact ho o hoo
      ·simp only[List.mem_singleton]at hoo;subst hoo;exact hok
     ·rw[List.map_append];exact hz'
  ·intro hc
   have hge:l.length≤i:=by simpa using hc
   rw[List.take_of_length_le hge]at hox
   refine Qu ?_
   simp only[go_sem,AE.X.next]
   refine Qa ?_
   simp only[go_sem,hto]
   refine Qh ?_
   simp only[go_sem,Q0,Q6,Qgm,List.mem_singleton,forall_eq,RS.op,hto]
   exact hK os t Lz _ hox ho hz kn
theorem Qa0q (A B C D:List (Nat×Obj)):(((A++B)++C)++D).Perm ((A++(C++D))++B):=by
 simp only[List.append_assoc]
 refine List.Perm.append_left _ (List.perm_append_comm.trans ?_)
 simp only[List.append_assoc]
 exact .refl _
structure OFn where
 f:Fn
 pc:C
 pl:List (Nat×Obj)
 os:List OSt
 bc:C
 bl:List (Nat×Obj)
def OFn.row (u:OFn):List C:=[.str u.f.name,u.pc,u.bc]
def OFn.lg (u:OFn):List (Nat×Obj):=u.pl++(u.os.flatMap OSt.al++u.bl)
structure OFn.ok (u:OFn):Prop where
 p:Gr u.pl 1 (Qy u.f.params) u.pc
 o:∀o∈u.os,o.ok
 b:Gr u.bl 5 (u.os.map OSt.row) u.bc
 x:u.os.map OSt.x=u.f.body
theorem OFn.noOw {u:OFn}(h:u.ok):Go.AE.noOw u.row=true:=by
 have h1:=h.p.isOw
 have h2:=h.b.isOw
 simp only[OFn.row,Go.AE.noOw,List.all_cons,List.all_nil,Qaiz,h1,h2];rfl
theorem OFn.frz {u:OFn}(h:u.ok)(hm:∀p∈u.lg,H p.1=p.2∧S p.1=true):FrzL H S u.row u.f.cells:=by
 have hb:=Qau1 (H:=H) (S:=S) h.o h.b fun p hp=>hm p (List.mem_append_right _ hp)
 rw[h.x]at hb
 exact .cons (Qk rfl) (.cons (Gr.frzm h.p (fun p hp=>hm p (List.mem_append_left _ hp)) (FrzR.same (Qd2 _))) (.cons hb .nil))
theorem Qa4m {us:List OFn}{Lz:List (Nat×Obj)}{t:C}(ho:∀u∈us,u.ok)(hz:Gr Lz 3 (us.map OFn.row) t)(hm:∀p∈us.flatMap OFn.lg++Lz,H p.1=p.2∧S p.1=true):FrzC H S t (.sl false 3 (Qm (us.map OFn.f))):=
 Gr.frzm hz (fun p hp=>hm p (List.mem_append_right _ hp)) (Qaqo us fun o hoo=>OFn.frz (ho o hoo) fun p hp=>hm p (List.mem_append_left _ (List.mem_flatMap.2 ⟨o,hoo,hp⟩)))
theorem Qazt {l:List Fn}{c:C}(how:c.isOw=false)(hs:Slc H 3 (Qm l) c)(hb:Q1 l≤2^38)(hp:∀f∈l,f.params.length≤2^38)
  (hK:∀(us:List OFn) t Lz H',us.map OFn.f=l→(∀u∈us,u.ok)→Gr Lz 3 (us.map OFn.row) t→t.isOw=false→Kn H H' [] (us.flatMap OFn.lg++Lz)→K (.ag [t]) H'):Qj prog Qzg [.ag [c]] H K:=by
 refine Qb Qaj Qa4i ?_
 refine Qa ?_
 simp only[go_sem,how]
 intro x2 hx2 H1 h1
 have kn:=(Kn.start0 H).al hx2 h1
 refine Qa ?_
 simp only[go_sem,how]
 intro x3 hx3 H2 h2
 have kn:=kn.al hx3 h2
 have g3:=kn.l 1 rfl
 simp only[go_sem,Qabs,g3,how]
 intro H3 h3
 have kn:Kn H H3 [] ((x2,.st [.sl true 3 []])::(x3,.st [.sl true 3 []])::([]++[])):=kn.stL 1 rfl h3
 refine Qz ?_
 refine Qa ?_
 simp only[go_sem,how]
 refine Qe (Qd (Qt (fun m e1 H1=>∃(i:Nat) (us:List OFn) (Lz:List (Nat×Obj)) (t:C),m=l.length-i∧i≤l.length∧us.map OFn.f=l.take i∧(∀o∈us,o.ok)∧Gr Lz 3 (us.map OFn.row) t∧
  Kn H H1 [] ((x2,.st [.sl true 3 []])::(x3,.st [t])::(us.flatMap OFn.lg++Lz))∧
  e1=[(1,.c (.pp [c])),(2,.c (.ptr x2 0)),(3,.c (.ptr x3 0)),(4,.c (.int .i64 i))]) l.length ?_ ?_))
 ·exact⟨0,[],[],.sl true 3 [],by omega,by omega,by simp,by simp,.nil 3,kn,rfl⟩
 ·clear kn g3 h3 h2 h1
  rintro m e1 H1 ⟨i,us,Lz,t,hm,hi,hux,hu,hz,kn,rfl⟩
  have hto:=hz.isOw
  have hs1:=hs.kn kn
  have hok:=eq_true hs1.ok
  have hrw:=hs1.rows
  have hln:=hs1.len
  have hsz:=hs1.sz
  rw[Qp]at hln
  refine Qz ?_
  refine Qa ?_
  simp only[go_sem,how,hto,hok,hln]
  intro hl
  simp only[LIM]at hl
  refine Qe (Qc rfl ?_ ?_)
  ·intro hc
   have hlt:i<l.length:=by simpa using hc
   have hms:=Qcd (List.getElem_mem hlt)
   have hpl:=hp _ (List.getElem_mem hlt)
   obtain⟨x,hx⟩:∃x,l[i]=x:=⟨_,rfl⟩
   rw[hx]at hms hpl
   have hul:us.length=i:=by
    have:=congrArg List.length hux
    rw[List.length_map,List.length_take]at this;omega
   refine Qf ?_
   try simp only[go_sem]
   refine Qe (Qd ?_)
   refine Qa ?_
   simp only[go_sem,how,hto,hok,hln,hrw,hsz,hlt,Qam _ _ hlt,hx,Fn.cells]
   intro x5 hx5 H3 h3
   have kn:=(kn.al hx5 h3).perm (L':=(x2,.st [.sl true 3 []])::(x3,.st [t])::(x5,_)::(us.flatMap OFn.lg++Lz)) (.cons _ (.cons _ List.perm_append_comm))
   have g5:=kn.l 2 rfl
   simp only[go_sem,Qabt,g5,how,hto]
   intro H4 h4
   have kn:Kn H H4 [] ((x2,.st [.sl true 3 []])::(x3,.st [t])::(x5,fnO x)::(us.flatMap OFn.lg++Lz)):=kn.stL 2 rfl h4
   have g5:=kn.l 2 rfl
   have g3:=kn.l 1 rfl
   refine Qwc ?_
   simp only[go_sem,g5,g3,how,hto,Qr]
   refine⟨.inl trivial,Qd2 _,by simp only[LIM];omega,fun z hz0 H5 h5=>?_⟩
   have kn:=kn.al hz0 h5
   have g5:=kn.l 2 rfl
   have g3:=kn.l 1 rfl
   simp only[go_sem,Qabw,g5,g3,how,hto]
   refine Qbbe (Qg x.body) x.body _ (.sl false 5 (Ql x.body)) H5 _ (Nat.le_refl _) (by omega) rfl (.mk' _ false 5 _) (.fz _ _) fun os tb Lb H6 hox ho hzb k2=>?_
   have kn:=kn.addNew k2
   have htb:=hzb.isOw
   have g5:=kn.l 2 rfl
   have g3:=kn.l 1 rfl
   simp only[go_sem,Qabv,g5,g3,how,hto,htb]
   obtain⟨u,hue⟩:∃u:OFn,u=⟨x,.vsl z 1 0 (0+x.params.length),[(z,.vec 1 ([]++Qy x.params))],os,tb,Lb⟩:=⟨_,rfl⟩
   have huo:u.ok:=by
    rw[hue]
    exact⟨by simpa using Gr.mk (n:=0+x.params.length) z 1 (Qy x.params) (by rw[Qr];omega),ho,hzb,hox⟩
   have hulg:u.lg=[(z,.vec 1 ([]++Qy x.params))]++(os.flatMap OSt.al++Lb):=by rw[hue];rfl
   have hur:u.row=[.str x.name,.vsl z 1 0 (0+x.params.length),tb]:=by rw[hue];rfl
   have kn:Kn H H6 [] (((x2,.st [.sl true 3 []])::(x3,.st [t])::(x5,fnO x)::(us.flatMap OFn.lg++u.lg))++Lz):=kn.perm (by
    rw[hulg]
    exact .cons _ (.cons _ (.cons _ (Qa0q _ _ _ _))))
   refine kn.growR hz (new:=[u.row]) (by rw[hur];exact .mk' _ true 3 _) (by simpa using OFn.noOw huo) (by simp only[List.length_map,List.length_cons,List.length_nil,LIM];omega) fun t' Lz' H8 hz' hto' kn=>?_
   have g3:=kn.l 1 rfl
   simp only[go_sem,Qabu,g3,how,hto']
   intro H9 h9
   have kn:=kn.stL 1 rfl h9
   have kn:Kn H H9 [] ((x2,.st [.sl true 3 []])::(x3,.st [t'])::((us++[u]).flatMap OFn.lg++Lz')):=by
    refine kn.sub ?_
    rw[List.flatMap_append,List.flatMap_cons,List.flatMap_nil,List.append_nil]
    exact .cons_cons _ (.cons_cons _ (.cons _ (List.Sublist.refl _)))
   try simp only[go_sem,AE.X.next]
   refine Qn ?_
   simp only[go_sem,AE.X.next,how]
   refine⟨Qo (by omega) (by omega),l.length-(i+1),by omega,i+1,us++[u],Lz',t',rfl,by omega,?_,?_,?_,kn,rfl⟩
   ·rw[List.map_append,hux,List.take_succ_eq_append_getElem hlt,hx,hue];rfl
   ·intro o hoo
    rcases List.mem_append.1 hoo with hoo|hoo
    ·exact hu o hoo
    ·simp only[List.mem_singleton]at hoo;subst hoo;exact huo
   ·rw[List.map_append];exact hz'
  ·intro hc
   have hge:l.length≤i:=by simpa using hc
   rw[List.take_of_length_le hge]at hux
   have g3:=kn.l 1 rfl
   have g2:=kn.l 0 rfl
   refine Qu ?_
   simp only[go_sem,AE.X.next]
   refine Qa ?_
   simp only[go_sem,g3,g2,hto]
   intro H3 h3
   have kn:=kn.stL 0 rfl h3
   have g2:=kn.l 0 rfl
   refine Qh ?_
   simp only[go_sem,Q0,Q6,Qau7,List.mem_singleton,forall_eq,RS.op,g2,hto]
   exact hK us t Lz _ hux hu hz hto (kn.sub (.cons _ (.cons _ (List.Sublist.refl _))))
theorem Qa4b {l:List Fn}{c:C}(how:c.isOw=false)(hs:Slc H 3 (Qm l) c)(hb:Q1 l≤2^38)(hp:∀f∈l,f.params.length≤2^38)(hK:∀H',Upd H H' []→K (.ag [.sl false 3 (Qm l)]) H'):Qj prog Qzg [.ag [c]] H K:=by
 refine Q8 (Qazt how hs hb hp fun us t Lz H' hx hu hz hto kn=>?_)
 have hf:=Qa4m (H:=H') (S:=un H) hu hz fun p hp=>⟨(kn.get p (by simpa using hp)).1,Qy6 (kn.loc p hp)⟩
 rw[hx]at hf
 exact⟨_,(FrzL.cons hf .nil).ag,hK _ kn.fin⟩
theorem Qajg (a b:List Fn):Q1 (a++b)=Q1 a+Q1 b:=by
 induction a with
 |nil=>simp[Q1]
 |cons x r ih=>simp only[List.cons_append,Q1,ih];omega
theorem Q4j:∀(l:List Nat) (n:Nat),l.Pairwise (· < ·)→(∀x∈l,n≤x∧x<fns.length)→Q1 (l.map (Q1e fns))≤Q1 (fns.drop n)
 |[],n,_,_=>by simp[Q1]
 |x::r,n,hp,hx=>by
  obtain⟨h1,h2⟩:=hx x List.mem_cons_self
  have hp2:=List.pairwise_cons.1 hp
  have ih:=Q4j r (x+1) hp2.2 fun y hy=>⟨hp2.1 y hy,(hx y (List.mem_cons_of_mem _ hy)).2⟩
  have e1:fns.drop x=fns[x]::fns.drop (x+1):=(List.getElem_cons_drop h2).symm
  have e2:Q1 (fns.drop x)≤Q1 (fns.drop n):=by
   have:fns.drop n=(fns.drop n).take (x-n)++fns.drop x:=by
    conv=>lhs;rw[←List.take_append_drop (x-n) (fns.drop n)]
    rw[List.drop_drop];congr 2;omega
   rw[this,Qajg];omega
  rw[e1]at e2
  simp only[List.map_cons,Q1,Qji h2]at e2⊢
  omega
theorem Qavw (h:FineP fns):Q1 (Ql2 fns)≤Q1 fns:=by
 have:=Q4j (fns:=fns) (Qfy fns) 0 (Qoo fns) fun x hx=>⟨Nat.zero_le _,h.nd_lt (h.need_mem.1 hx)⟩
 rw[List.drop_zero]at this
 exact this
theorem Qa47 {fl:Bool}(hf:Q1 fns≤2^36)(hK:∀H',Upd H H' []→K (.tup [.ag [.sl false 3 (Qm (Qzc fns))],.c (.bool (Qmp fns))]) H') :
  Qj prog Qfv [.ag [.sl fl 3 (Qm fns)]] H K:=by
 refine Q8 ?_
 refine Qb Qaj Q1t ?_
 refine Qa ?_
 simp only[go_sem]
 intro x2 hx2 H1 h1
 have kn:=(Kn.start0 H).al hx2 h1
 simp only[go_sem,Qim]
 refine Qz ?_
 refine Qa ?_
 simp only[go_sem]
 refine Qavb hf fun H2 hu=>?_
 have kn:=kn.call0 hu
 have g2:=kn.l 0 rfl
 simp only[go_sem,Qin]
 refine Qe (Qc rfl ?_ ?_)
 ·intro hc
  have hb:Qmp fns=false:=by simpa using hc
  refine Qa ?_
  simp only[go_sem,g2]
  intro H3 h3
  have kn:=kn.stL 0 rfl h3
  have g2:=kn.l 0 rfl
  simp only[go_sem,Qio]
  refine Qh ?_
  simp only[go_sem,AE.X.next,Q0,Q6,Qb0,List.forall_mem_cons,List.not_mem_nil,RS.op,g2]
  have:=hK _ kn.fin
  rw[Qzc,hb]at this
  exact⟨fun _=>trivial,_,Q84 (by simp) false,this⟩
 intro hc
 have hb:Qmp fns=true:=by simpa using hc
 have hg:=fine_iff.1 hb
 have hlen:=hg.len
 have hsd:=Qavw hg
 have hpd:∀f∈Ql2 fns,f.params.length≤2^38:=fun f hf=>by have:=Qr5 (Qavv hg).v f hf;omega
 rw[hb,Qzc,if_pos hb]at hK
 refine Qf ?_
 try simp only[go_sem]
 refine Qa ?_
 simp only[go_sem]
 refine Qapw hf fun H3 hu=>?_
 have kn:=kn.call0 hu
 rw[Qajd,if_pos hb]
 simp only[go_sem,Qip]
 obtain⟨l,hl⟩:∃l,Qfy fns=l:=⟨_,rfl⟩
 have hlm:∀k∈l,k<fns.length:=fun k hk=>hg.nd_lt (hg.need_mem.1 (by rw[hl];exact hk))
 have hll:l.length≤4:=by
  have:(Qfy fns).length≤fns.length:=Qax8
  rw[hl]at this;omega
 have hdl:Ql2 fns=l.map (Q1e fns):=by rw[Ql2,hl]
 rw[hl]
 refine Qa ?_
 simp only[go_sem]
 intro x5 hx5 H4 h4
 have kn:=kn.al hx5 h4
 have g5:=kn.l 1 rfl
 simp only[go_sem,Qiq,g5]
 intro H5 h5
 have kn:=kn.stL 1 rfl h5
 refine Qz ?_
 refine Qa ?_
 simp only[go_sem]
 refine Qe (Qd (Qt (fun m e1 H1=>∃(i:Nat) (Lz:List (Nat×Obj)) (t:C),m=l.length-i∧i≤l.length∧Gr Lz 3 (Qm ((l.take i).map (Q1e fns))) t∧Kn H H1 [] ([(x2,.st [.sl true 3 []]),(x5,.st [t])]++Lz)∧
  e1=[(1,.c (.pp [.sl fl 3 (Qm fns)])),(2,.c (.ptr x2 0)),(4,.c (.sl false 1 (Qa4 l))),(5,.c (.ptr x5 0)),(6,.c (.int .i64 i))]) l.length ?_ ?_))
 ·exact⟨0,[],.sl true 3 [],by omega,by omega,.nil 3,kn,rfl⟩
 ·clear kn g5 g2 h5 h4
  rintro m e1 H6 ⟨i,Lz,t,hm,hi,hz,kn,rfl⟩
  have hto:=hz.isOw
  have g5:=kn.l 1 rfl
  refine Qz ?_
  refine Qa ?_
  simp only[go_sem,Qax]
  intro hlim
  simp only[LIM]at hlim
  refine Qe (Qc rfl ?_ ?_)
  ·intro hc2
   have hlt:i<l.length:=by simpa using hc2
   obtain⟨x,hx⟩:∃x,l[i]=x:=⟨_,rfl⟩
   have hxd:l.getD i 0=x:=by simp[List.getD_eq_getElem?_getD,hlt,hx]
   have hxm:x<fns.length:=hlm x (by rw[←hx];exact List.getElem_mem hlt)
   have htk:Qm ((l.take (i+1)).map (Q1e fns))=Qm ((l.take i).map (Q1e fns))++[(Q1e fns x).cells]:=by
    rw[Qmx,List.take_succ_eq_append_getElem hlt,hx];simp
   rw[Qji hxm]at htk
   refine Qf ?_
   try simp only[go_sem]
   refine Qe (Qd ?_)
   refine Qwc ?_
   simp only[go_sem,g5,hto,hlt,Qax,Qew _ _ hlt,hxd,hxm,Qp,Qam _ _ hxm,Fn.take3,Fn.allOw,Fn.cells_len]
   refine kn.growR hz (new:=[fns[x].cells]) (.mk' _ true 3 _) (by simp[Fn.noOw]) (by simp only[Qp,List.length_map,List.length_take,List.length_cons,List.length_nil,LIM];omega) fun t' Lz' H8 hz' hto' kn=>?_
   rw[←htk]at hz'
   have g5:=kn.l 1 rfl
   simp only[go_sem,Qir,g5,hto']
   intro H9 h9
   have kn:=kn.stL 1 rfl h9
   try simp only[go_sem,AE.X.next]
   refine Qn ?_
   simp only[go_sem,AE.X.next]
   exact⟨Qo (by omega) (by omega),l.length-(i+1),by omega,i+1,Lz',t',rfl,by omega,hz',kn,rfl⟩
  ·intro hc2
   have hge:l.length≤i:=by simpa using hc2
   rw[List.take_of_length_le hge,←hdl]at hz
   have hsz:=Gr.slc2 hz kn
   refine Qu ?_
   simp only[go_sem,AE.X.next]
   refine Qa ?_
   simp only[go_sem,g5,hto]
   refine Qa4b hto hsz (by omega) hpd fun H7 hu=>?_
   have kn:=kn.call0 hu
   have g2:=kn.l 0 rfl
   simp only[go_sem,Qhs,g2]
   intro H8 h8
   have kn:=kn.stL 0 rfl h8
   have g2:=kn.l 0 rfl
   simp only[go_sem,Qhr]
   refine Qh ?_
   simp only[go_sem,Q0,Q6,Qb0,List.forall_mem_cons,List.not_mem_nil,RS.op,g2]
   exact⟨fun _=>trivial,_,Q84 (Qi9 _) true,hK _ kn.fin⟩
end Go.AE.Y

namespace Go.AE.Y
attribute [local go_sem] cond_true cond_false Bool.not_true Bool.not_false
open Go.Proofs.Tryz
variable {H H' H0 F:Heap}{K:V→Heap→Prop}{fns:List Fn}{L:List (Nat×Obj)}
theorem Qay1 {l l':List Fn}(h:l.Sublist l'):Qjo l≤Qjo l':=by
 induction h with
 |slnil=>exact Nat.le_refl _
 |cons f _ ih=>simp only[Qjo];omega
 |cons_cons f _ ih=>simp only[Qjo];omega
theorem Qav3 (fns:List Fn):Qjo (Qzc fns)≤Qjo fns:=by
 rw[Qzc]
 split
 ·refine Qay1 ?_
  have h1:(Ql2 fns).Sublist ((List.range fns.length).map (Q1e fns)):=List.Sublist.map _ List.filter_sublist
  have h2:(List.range fns.length).map (Q1e fns)=fns:=List.ext_getElem (by simp) fun i h _=>by
   simp only[List.length_map,List.length_range]at h
   simp[Qji h]
  rwa [h2]at h1
 ·exact Nat.zero_le _
theorem Q98:∀fns:List Fn,Q1 fns≤Qjo fns
 |[]=>Nat.le_refl _
 |f::r=>by have:=Q98 r;simp only[Q1,Qjo];omega
theorem GK.hide (g:GK H):GK (Qbd H):=by
 obtain⟨ks,rows,h3,h4⟩:=g.sign
 exact⟨Qay9 g.keys,ks,rows,Qay9 h3,h4⟩
theorem Quk {fl:Bool}(hK:∀H',Upd H H' []→K (.ag [.sl false 3 (Qm fns)]) H'):Qj prog Qbi [.ag [.sl fl 3 (Qm fns)]] H K:=
 Q8 (Qac8 fun H' L cs kn ho=>⟨_,(ho.frz fun p hp=>⟨(kn.get p (by simpa using hp)).1,Qy6 (kn.loc p hp)⟩).ag,hK _ kn.fin⟩)
theorem Qrv {c:C}(hc:c.isOw=false)(g:GK H)(hs:SzE Qdh (.ag [c]) (okFs c))(hK:∀H',K (.c (.bool true)) H'):Qj prog Qbr [.ag [c]] H K:=by
 refine Qb Qaj Qm1 ?_
 refine Qa ?_
 simp only[go_sem,hc]
 refine Qa ?_
 simp only[go_sem,hc]
 refine Qa ?_
 simp only[go_sem,hc]
 refine hs 1048576 H _ (by omega) (by omega) fun r h1 h2 hr=>?_
 simp only[go_sem,Qds,List.getD_cons_zero,List.getD_cons_succ]
 refine Qz ?_
 refine Qa ?_
 simp only[go_sem]
 refine Qe (Qc rfl (fun hn=>?_) (fun hn=>?_))
 ·refine Qa ?_
  simp only[go_sem]
  refine Qh ?_
  simp only[go_sem,Q0,Q6,Qgm,List.mem_singleton,forall_eq,RS.op]
  exact hK _
 have h0:0≤r:=by have:=of_decide_eq_false hn;omega
 obtain⟨n,⟨fns,rfl,hsz⟩,hle⟩:=hr h0
 have hz:Qjo fns≤2 ^ 20:=by omega
 have hps:Q1 fns≤2 ^ 36:=by have:=Q98 fns;omega
 have hdz:Qae (Qzc fns)≤2 ^ 22:=by have:=Q1h (Qzc fns);have:=Qav3 fns;omega
 have hfz:Qae fns≤2 ^ 22:=by have:=Q1h fns;omega
 obtain⟨D,hD⟩:∃D,Qzc fns=D:=⟨_,rfl⟩
 obtain⟨B,hB⟩:∃B,Qmp fns=B:=⟨_,rfl⟩
 rw[hD]at hdz
 refine Qf ?_
 try simp only[go_sem]
 refine Qa ?_
 simp only[go_sem]
 refine Quk fun H1 hu=>?_
 have kn:=(Kn.start0 H).call0 hu
 simp only[go_sem,Qdw,List.getD_cons_zero,List.getD_cons_succ]
 refine Qa47 hps fun H1 hu=>?_
 rw[hD,hB]
 have kn:=kn.call0 hu
 simp only[go_sem,Qdv,List.getD_cons_zero,List.getD_cons_succ]
 intro x4 hx4 H1 h1
 have kn:=kn.al hx4 h1
 have g4:=kn.l 0 rfl
 simp only[go_sem,Qdu,List.getD_cons_zero,List.getD_cons_succ,g4]
 intro H1 h1
 have kn:Kn H H1 [] [(x4,.st [.sl false 3 (Qm D)])]:=kn.stL 0 rfl h1
 simp only[go_sem,Qdt,List.getD_cons_zero,List.getD_cons_succ]
 refine Qa ?_
 simp only[go_sem]
 refine Qac8 fun H1 L6 cs k6 hoa=>?_
 obtain⟨t6,rfl,ho6⟩:=hoa.inv_one
 have ht6:=ho6.isOw
 have kn:=kn.comp0 k6
 simp only[go_sem,Qdy,List.getD_cons_zero,List.getD_cons_succ,ht6]
 intro x6 hx6 H1 h1
 have kn:=(kn.al hx6 h1).swap
 have g6:=kn.l 1 rfl
 simp only[go_sem,Qdx,List.getD_cons_zero,List.getD_cons_succ,g6,ht6]
 intro H1 h1
 have kn:Kn H H1 [] ([(x4,.st [.sl false 3 (Qm D)]),(x6,.st [t6])]++L6):=kn.stL 1 rfl h1
 have g6:=kn.l 1 rfl
 refine Qa ?_
 simp only[go_sem,g6,ht6]
 refine Qaqc (x':=.tup [.ag [.sl false 3 (Qm D)],.c (.bool B)]) (lntL L6) (args':=[.ag [.sl false 3 (Qm fns)]]) rfl (Qbap (ho6.lend fun p hp=>(kn.get p (by simp[hp])).1)) (fun K' hk=>Qazb hps (g.kn kn).hide (by rw[hD,hB];exact hk)) fun H1 L7 x k7 hx=>?_
 obtain⟨t7,rfl,ho7⟩:=hx.tup1
 have ht7:=ho7.isOw
 have kn:=kn.comp0 k7
 simp only[go_sem,Qct,List.getD_cons_zero,List.getD_cons_succ,ht7]
 intro x7 hx7 H1 h1
 have kn:=(kn.al hx7 h1).swap2
 have g7:=kn.l 2 rfl
 simp only[go_sem,Qd0,List.getD_cons_zero,List.getD_cons_succ,g7,ht7]
 intro H1 h1
 have kn:Kn H H1 [] (([(x4,.st [.sl false 3 (Qm D)]),(x6,.st [t6]),(x7,.st [t7])]++L6)++L7):=kn.stL 2 rfl h1
 have g4:=kn.l 0 rfl
 have g6:=kn.l 1 rfl
 have g7:=kn.l 2 rfl
 have hm7:∀p∈L7,H1 p.1=p.2:=fun p hp=>(kn.get p (by simp[hp])).1
 have hm6:∀p∈L6,H1 p.1=p.2:=fun p hp=>(kn.get p (by simp[hp])).1
 simp only[go_sem,Qdz,List.getD_cons_zero,List.getD_cons_succ]
 refine Qz ?_
 refine Qa ?_
 simp only[go_sem,g4,g7,ht7]
 refine Qmn (lntL L7) (args':=[.ag [.sl false 3 (Qm D)],.ag [.sl false 3 (Qm D)]]) rfl (Qazu (ho7.lend hm7) (Qa67 (Qi9 _))) rfl (fun K' hk=>Qob (hk _ (Q02 _))) ?_
 simp only[go_sem,Qcu,List.getD_cons_zero,List.getD_cons_succ]
 have hbb:(!B == B)=false∨True:=.inr trivial
 have hB1:(!(B == B))=false:=by simp
 try simp only[hB1]
 refine Qe (Qc rfl (fun h=>by simp[lk]at h) (fun _=>?_))
 refine Qf ?_
 try simp only[go_sem]
 refine Qz ?_
 refine Qeo ?_
 simp only[go_sem,g6,ht6]
 refine Quk fun H2 hu=>?_
 have kn:=kn.call0 hu
 have g4:=kn.l 0 rfl
 have g6:=kn.l 1 rfl
 have g7:=kn.l 2 rfl
 have hm6:∀p∈L6,H2 p.1=p.2:=fun p hp=>(kn.get p (by simp[hp])).1
 simp only[go_sem,Qcw,List.getD_cons_zero,List.getD_cons_succ,g6,ht6]
 refine Qmn (lntL L6) (args':=[.ag [.sl false 3 (Qm fns)],.ag [.sl false 3 (Qm fns)]]) rfl (Qazu (ho6.lend hm6) (Qa67 (Qi9 _))) rfl (fun K' hk=>Qob (hk _ (Q02 _))) ?_
 simp only[go_sem,Qcv,List.getD_cons_zero,List.getD_cons_succ]
 refine Qe (Qc rfl (fun h=>by simp[lk]at h) (fun _=>?_))
 refine Qf ?_
 try simp only[go_sem]
 refine Qa ?_
 simp only[go_sem]
 refine Qa ?_
 simp only[go_sem,g6,ht6]
 have kn:Kn H H2 [] (L6++([(x4,.st [.sl false 3 (Qm D)]),(x6,.st [t6]),(x7,.st [t7])]++L7)):=kn.perm (by
  simp only[List.append_assoc]
  rw[←List.append_assoc,←List.append_assoc]
  exact List.Perm.append_right L7 List.perm_append_comm)
 refine Qzr (k:=1) ho6 (fun p hp=>(kn.get p (by simp[hp])).1) (by have:=kn.dL;rw[List.map_append]at this;exact (List.nodup_append.1 this).1) (by omega) fun H3 L6m hf6 ho6m hu=>?_
 have kn:=(kn.callLs hu hf6 ho6m.vecs).sub (List.sublist_append_right _ _)
 have g4:=kn.l 0 rfl
 have g7:=kn.l 2 rfl
 have hm7:∀p∈L7,H3 p.1=p.2:=fun p hp=>(kn.get p (by simp[hp])).1
 simp only[go_sem,Qcx,List.getD_cons_zero,List.getD_cons_succ]
 refine Qz ?_
 refine Qa ?_
 have hk9:decide (((1+Qae fns:Nat):Int)<0)=false:=decide_eq_false (by omega)
 simp only[go_sem,hk9,g4,g7,ht7]
 refine Qmn (lntL L7) (args':=[.ag [.sl false 3 (Qm D)],.ag [.sl false 3 (Qm D)]]) rfl (Qazu (ho7.lend hm7) (Qa67 (Qi9 _))) rfl (fun K' hk=>Qob (hk _ (Q02 _))) ?_
 simp only[go_sem,Qcy,List.getD_cons_zero,List.getD_cons_succ,hB1]
 try simp only[hB1]
 refine Qe (Qc rfl (fun h=>by simp[lk]at h) (fun _=>?_))
 refine Qf ?_
 try simp only[go_sem]
 refine Qa ?_
 simp only[go_sem]
 refine Qa ?_
 simp only[go_sem,g7,ht7]
 have kn:Kn H H3 [] (L7++[(x4,.st [.sl false 3 (Qm D)]),(x6,.st [t6]),(x7,.st [t7])]):=kn.perm List.perm_append_comm
 refine Qzr (k:=1) ho7 (fun p hp=>(kn.get p (by simp[hp])).1) (by have:=kn.dL;rw[List.map_append]at this;exact (List.nodup_append.1 this).1) (by omega) fun H4 L7m hf7 ho7m hu=>?_
 have kn:Kn H H4 [] ([(x4,.st [.sl false 3 (Qm D)]),(x6,.st [t6]),(x7,.st [t7])]++L7m):=(kn.callLs hu hf7 ho7m.vecs).perm List.perm_append_comm
 have g4:=kn.l 0 rfl
 have g7:=kn.l 2 rfl
 have hm7:∀p∈L7m,H4 p.1=p.2:=fun p hp=>(kn.get p (by simp[hp])).1
 simp only[go_sem,Qcz,List.getD_cons_zero,List.getD_cons_succ]
 refine Qa ?_
 simp only[go_sem]
 refine Qa ?_
 simp only[go_sem,g7,ht7]
 refine Qmn (v:=.c (.int .i64 ((1+Qae D:Nat):Int))) (lntL L7m) (args':=[.ag [.sl false 3 (Qm (Qbc D 1))],.c (.int .i64 ((1:Nat):Int))]) rfl (Qazu (ho7m.lend hm7) (.c _ _ (.same _ rfl))) rfl (fun K' hk=>Qzl (k:=1) (by omega) (hk _ (Q02 _))) ?_
 simp only[go_sem,Qc0,List.getD_cons_zero,List.getD_cons_succ]
 refine Qz ?_
 refine Qa ?_
 simp only[go_sem]
 refine Qe (Qc rfl (fun h=>by have:=of_decide_eq_true h;omega) (fun _=>?_))
 refine Qf ?_
 try simp only[go_sem]
 refine Qz ?_
 refine Qa ?_
 simp only[go_sem]
 refine Qe (Qc rfl (fun h=>by simp[lk]at h) (fun _=>?_))
 refine Qf ?_
 try simp only[go_sem]
 refine Qa ?_
 simp only[go_sem]
 refine Quk fun H5 hu=>?_
 have kn:=kn.call0 hu
 simp only[go_sem,Qc4,List.getD_cons_zero,List.getD_cons_succ]
 refine Qa3t hps (g.kn kn) fun H5 hu=>?_
 rw[hD,hB]
 have kn:=kn.call0 hu
 simp only[go_sem,Qc3,List.getD_cons_zero,List.getD_cons_succ]
 intro x12 hx12 H5 h5
 have kn:=(kn.al hx12 h5).swap
 have g12:=kn.l 3 rfl
 simp only[go_sem,Qc2,List.getD_cons_zero,List.getD_cons_succ,g12]
 intro H5 h5
 have kn:Kn H H5 [] ([(x4,.st [.sl false 3 (Qm D)]),(x6,.st [t6]),(x7,.st [t7]),(x12,.st [.sl false 3 (Qm D)])]++L7m):=kn.stL 3 rfl h5
 have g4:=kn.l 0 rfl
 have g7:=kn.l 2 rfl
 have g12:=kn.l 3 rfl
 have hm7:∀p∈L7m,H5 p.1=p.2:=fun p hp=>(kn.get p (by simp[hp])).1
 simp only[go_sem,Qc1,List.getD_cons_zero,List.getD_cons_succ]
 refine Qz ?_
 refine Qa ?_
 simp only[go_sem,g4,g12]
 refine Qob ?_
 simp only[go_sem,Qc5,List.getD_cons_zero,List.getD_cons_succ,hB1]
 try simp only[hB1]
 refine Qe (Qc rfl (fun h=>by simp[lk]at h) (fun _=>?_))
 refine Qf ?_
 try simp only[go_sem]
 refine Qa ?_
 simp only[go_sem]
 refine Qa ?_
 simp only[go_sem,g7,ht7]
 refine Qmn (v:=.c (.int .i64 ((1+Qae D:Nat):Int))) (lntL L7m) (args':=[.ag [.sl false 3 (Qm (Qbc D 1))],.c (.int .i64 ((1:Nat):Int))]) rfl (Qazu (ho7m.lend hm7) (.c _ _ (.same _ rfl))) rfl (fun K' hk=>Qzl (k:=1) (by omega) (hk _ (Q02 _))) ?_
 simp only[go_sem,Qc6,List.getD_cons_zero,List.getD_cons_succ]
 refine Qz ?_
 refine Qa ?_
 simp only[go_sem]
 refine Qe (Qc rfl (fun h=>by have:=of_decide_eq_true h;omega) (fun _=>?_))
 refine Qf ?_
 try simp only[go_sem]
 refine Qz ?_
 refine Qa ?_
 simp only[go_sem]
 refine Qe (Qc rfl (fun h=>by simp[lk]at h) (fun _=>?_))
 refine Qf ?_
 try simp only[go_sem]
 refine Qa ?_
 simp only[go_sem]
 refine Qh ?_
 simp only[go_sem,Q0,Q6,Qgm,List.mem_singleton,forall_eq,RS.op]
 exact hK _
theorem FnExactDropUnneeded_ty {cells:List C}(h:TyC prog Qals cells)(g:GK H):Qj prog Qbr [.ag cells] H fun v _=>v=.c (.bool true):=by
 obtain⟨c,rfl,h1,h2⟩:=Qaxu h
 exact Qrv h1 g h2 fun _=>rfl
end Go.AE.Y

namespace Go.AE.Y
open Go.ChangeShapes Go.WideShapes Go.ChangeAt Go.RowKit
def signL:List (Int×List UInt8×Int):=[(3,[43],3),(4,[45],3),(5,[42],4),(6,[47],4),(7,[37],4),(8,[60],2),(9,[61],2),(10,[38],1)]
def kC (t:Int×List UInt8×Int):C:=.int .i64 t.1
def rC (t:Int×List UInt8×Int):List C:=[.str t.2.1,.int .i64 t.2.2]
def kvV (t:Int×List UInt8×Int):Value×Value:=(.int .i64 t.1,.agg #[.string ⟨t.2.1.toArray⟩,.int .i64 t.2.2])
def eC (t:Int×List UInt8×Int):C×V:=(kC t,.ag (rC t))
structure Tabs (w:World):Prop where
 keys:∀(j:Nat) (s:List UInt8),keysL[j]? = some s→w.cell? ⟨Qfx,j,none⟩=some (.string ⟨s.toArray⟩)
 sign:∃b ms clock ts,w.cell? ⟨Qa1,0,none⟩=some (.map (some b))∧w.heap[b]? = some (.map ms clock)∧Go.MapKept.Stamped ms clock∧List.Perm ts signL∧
  ms.toList.map (fun m=>(m.key,m.val))=ts.map kvV
def gh5 (w:World):G:=⟨fun b=>decide (b<w.heap.size),fun _=>none,fun l=>if l=Qfx then some (Qfx,9,0)else if l=Qa1 then some (Qa1,1,0)else none⟩
def hp5 (ts:List (Int×List UInt8×Int)):Heap:=fun l=>if l=Qfx then .gl Qfx (keysL.map C.str)else if l=Qa1 then .gl Qa1 [.cm true (ts.map kC) (ts.map rC)]else .none
theorem Qav2 {op:Int}:∀{l1 l2:List (Int×List UInt8×Int)},l1.Perm l2→(l2.map (·.1)).Nodup→Qel (.int .i64 op) (l1.map eC)=Qel (.int .i64 op) (l2.map eC):=by
 intro l1 l2 hp
 induction hp with
 |nil=>intro _;rfl
 |cons x h ih=>
  intro hn
  simp only[List.map_cons,List.nodup_cons]at hn
  simp only[List.map_cons,Qel,ih hn.2]
 |swap x y l=>
  intro hn
  simp only[List.map_cons,List.nodup_cons,List.mem_cons,not_or]at hn
  simp only[List.map_cons,Qel,eC,kC,Qev,decide_eq_true_eq]
  by_cases h1:op=y.1
  ·have h2:¬op=x.1:=fun e=>hn.1.1 (e.symm.trans h1)
   rw[if_pos h1,if_neg h2,if_pos h1]
  ·by_cases h2:op=x.1
   ·rw[if_neg h1,if_pos h2,if_pos h2]
   ·rw[if_neg h1,if_neg h2,if_neg h2,if_neg h1]
 |trans h1 h2 ih1 ih2=>
  intro hn
  exact (ih1 ((h2.map _).nodup_iff.2 hn)).trans (ih2 hn)
theorem Qa3r {ts:List (Int×List UInt8×Int)}(hp:ts.Perm signL):GK (hp5 ts):=by
 refine⟨rfl,ts.map kC,ts.map rC,rfl,fun op=>?_⟩
 have e:((ts.map kC).zip (ts.map rC)).map (fun e=>(e.1,V.ag e.2))=ts.map eC:=by
  rw[List.zip_map',List.map_map];rfl
 rw[e]
 refine⟨?_,?_⟩
 ·intro x hx
  obtain⟨t,_,rfl⟩:=List.mem_map.1 hx
  exact⟨_,rfl⟩
 ·rw[Qav2 hp (by decide)]
  simp only[signL,List.map_cons,List.map_nil,Qel,eC,kC,rC,Qev,decide_eq_true_eq,levN]
  by_cases h3:op=3
  ·subst h3;exact⟨_,rfl⟩
  by_cases h4:op=4
  ·subst h4;exact⟨_,rfl⟩
  by_cases h5:op=5
  ·subst h5;exact⟨_,rfl⟩
  by_cases h6:op=6
  ·subst h6;exact⟨_,rfl⟩
  by_cases h7:op=7
  ·subst h7;exact⟨_,rfl⟩
  by_cases h8:op=8
  ·subst h8;exact⟨_,rfl⟩
  by_cases h9:op=9
  ·subst h9;exact⟨_,rfl⟩
  by_cases h10:op=10
  ·subst h10;exact⟨_,rfl⟩
  exact⟨[],by simp[h3,h4,h5,h6,h7,h8,h9,h10]⟩
theorem Qaxn {w:World}{ts:List (Int×List UInt8×Int)}{b:Nat}{ms:Array MapEntry}{clock:Nat}(hk:∀(j:Nat) (s:List UInt8),keysL[j]? = some s→w.cell? ⟨Qfx,j,none⟩=some (.string ⟨s.toArray⟩))
  (hc:w.cell? ⟨Qa1,0,none⟩=some (.map (some b))) (hb:w.heap[b]? = some (.map ms clock)) (hst:Go.MapKept.Stamped ms clock) (hp:ts.Perm signL)
  (hm:ms.toList.map (fun m=>(m.key,m.val))=ts.map kvV):Sat (hp5 ts) (gh5 w) w:=by
 have szof:∀{a:Addr} {v:Value},w.cell? a=some v→a.block<w.heap.size:=by
  intro a v h
  rcases Nat.lt_or_ge a.block w.heap.size with h'|h'
  ·exact h'
  ·simp[World.cell?,Array.getElem?_eq_none h']at h
 have h1:Qfx<w.heap.size:=szof (hk 0 _ rfl)
 have h2:Qa1<w.heap.size:=szof hc
 have h3:b<w.heap.size:=by
  rcases Nat.lt_or_ge b w.heap.size with h'|h'
  ·exact h'
  ·simp[Array.getElem?_eq_none h']at hb
 have hlen:ms.size=ts.length:=by
  have:=congrArg List.length hm
  simpa using this
 have hl8:ts.length=8:=hp.length_eq
 have hget:∀(i:Nat) (m:MapEntry),ms[i]? = some m→∃t,ts[i]? = some t∧t∈signL∧m.key=.int .i64 t.1∧m.val=.agg #[.string ⟨t.2.1.toArray⟩,.int .i64 t.2.2]:=by
  intro i m h
  have h':(ms.toList.map (fun m=>(m.key,m.val)))[i]? = some (m.key,m.val):=by
   rw[List.getElem?_map,Array.getElem?_toList,h];rfl
  rw[hm,List.getElem?_map]at h'
  cases ht:ts[i]? with
  |none=>rw[ht]at h';cases h'
  |some t=>
   rw[ht]at h'
   simp only[Option.map_some,Option.some.injEq,kvV,Prod.mk.injEq]at h'
   exact⟨t,rfl,(hp.mem_iff).1 (List.mem_of_getElem? ht),h'.1.symm,h'.2.symm⟩
 refine⟨fun b hb=>⟨by simp[gh5];omega,rfl⟩,⟨3,fun l hl=>by simp only[gh5];rw[if_neg (by simp only[Qfx];omega),if_neg (by simp only[Qa1];omega)]⟩,fun b x h=>by simp[gh5]at h,fun b l p h=>by simp[gh5]at h,fun l=>?_⟩
 by_cases e1:l=Qfx
 ·subst e1
  refine⟨9,fun j=>.string ⟨(keysL.getD j []).toArray⟩,by simp[gh5],by simpa[gh5]using h1,fun j c h=>?_,fun j c h=>?_⟩
  ·rw[List.getElem?_map]at h
   cases hs:keysL[j]? with
   |none=>rw[hs]at h;cases h
   |some s=>
    show _=some (Value.string ⟨(keysL.getD j []).toArray⟩)
    rw[hk j s hs,List.getD_eq_getElem?_getD,hs];rfl
  ·rw[List.getElem?_map]at h
   cases hs:keysL[j]? with
   |none=>rw[hs]at h;cases h
   |some s=>
    rw[hs]at h
    obtain rfl:=Option.some.inj h
    have hle:s.length≤4:=by
     have:∀s∈keysL,s.length≤4:=by decide
     exact this s (List.mem_of_getElem? hs)
    show RepC _ _ _ (Value.string ⟨(keysL.getD j []).toArray⟩)
    rw[List.getD_eq_getElem?_getD,hs]
    exact .str _ (by simp only[LIM];omega)
 ·by_cases e2:l=Qa1
  ·subst e2
   refine⟨1,fun _=>.map (some b),by simp[gh5],by simpa[gh5]using h2,fun j c h=>?_,fun j c h=>?_⟩
   ·obtain rfl:j=0:=by
     rcases Nat.eq_zero_or_pos j with h'|h'
     ·exact h'
     ·rw[List.getElem?_eq_none (by simp;omega)]at h;cases h
    exact hc
   ·obtain rfl:j=0:=by
     rcases Nat.eq_zero_or_pos j with h'|h'
     ·exact h'
     ·rw[List.getElem?_eq_none (by simp;omega)]at h;cases h
    obtain rfl:=Option.some.inj h
    obtain⟨_,s2,s3⟩:=hst
    refine .cm true (ts.map kC) (ts.map rC) b ms clock (fun i j=>match ts[i]? with|some t=>if j=0 then .string ⟨t.2.1.toArray⟩else .int .i64 t.2.2|none=>.int .i64 0) (by simpa[gh5]using h3) hb (by simpa using hlen) (by simp) (by simp[hl8,LIM]) ?_ ?_ ?_ ?_
    ·intro i j m m' hi hj he
     have gi:ms.toList[i]? = some m:=by rw[Array.getElem?_toList];exact hi
     have gj:ms.toList[j]? = some m':=by rw[Array.getElem?_toList];exact hj
     rcases he with he|he
     ·have:=List.getElem?_inj (l:=ms.toList.map (·.born)) (i:=i) (j:=j) (by simpa using (Array.getElem?_eq_some_iff.1 hi).1) s2
      exact this.1 (by rw[List.getElem?_map,List.getElem?_map,gi,gj];simp[he])
     ·have:=List.getElem?_inj (l:=ms.toList.map (·.key)) (i:=i) (j:=j) (by simpa using (Array.getElem?_eq_some_iff.1 hi).1) s3
      exact this.1 (by rw[List.getElem?_map,List.getElem?_map,gi,gj];simp[he])
    ·intro i row m hr hi
     obtain⟨t,ht,_,_,hv⟩:=hget i m hi
     rw[List.getElem?_map,ht]at hr
     obtain rfl:=Option.some.inj hr
     refine⟨?_,fun h=>by cases h⟩
     rw[hv]
     simp[rC,ht,List.range_succ]
    ·intro i k m hk' hi
     obtain⟨t,ht,_,hkey,_⟩:=hget i m hi
     rw[List.getElem?_map,ht]at hk'
     obtain rfl:=Option.some.inj hk'
     rw[hkey]
     exact .int _ _
    ·intro i row j c hr hj
     rw[List.getElem?_map]at hr
     cases ht:ts[i]? with
     |none=>rw[ht]at hr;cases hr
     |some t=>
      rw[ht]at hr
      obtain rfl:=Option.some.inj hr
      have hmem:t∈signL:=(hp.mem_iff).1 (List.mem_of_getElem? ht)
      have hle:t.2.1.length≤1:=by
       have:∀t∈signL,t.2.1.length≤1:=by decide
       exact this t hmem
      match j,hj with
      |0,hj=>
       obtain rfl:=Option.some.inj hj
       exact .str _ (by simp only[LIM];omega)
      |1,hj=>
       obtain rfl:=Option.some.inj hj
       exact .int _ _
      |j+2,hj=>simp[rC]at hj
  ·show SatObj _ _ _ _ (hp5 ts l)
   rw[hp5,if_neg e1,if_neg e2];trivial
theorem Q9r {H:Type}(x:Lit×DataW H):∀l,(DataW.insert x l).Perm (x::l)
 |[]=>.refl _
 |y::r=>by
  rw[DataW.insert]
  split
  ·exact .refl _
  ·exact ((Q9r x r).cons y).trans (.swap x y r)
theorem Qahp {H:Type}:∀l:List (Lit×DataW H),(l.foldr DataW.insert []).Perm l
 |[]=>.refl _
 |x::r=>(Q9r x _).trans ((Qahp r).cons x)
def litD (t:Int×List UInt8×Int):Lit×DataW Unit:=(.int .i64 t.1,.agg [.lit (.string t.2.1),.lit (.int .i64 t.2.2)])
def decD:Lit×DataW Unit→Int×List UInt8×Int
 |(.int _ n,.agg [.lit (.string s),.lit (.int _ l)])=>(n,s,l)
 |_=>(0,[],0)
theorem sign_entries {l:List MapEntry}{f:MapEntry→Lit×DataW Unit}(hp:((l.map f).foldr DataW.insert [])=signL.map litD)(hf:∀m∈l,∀t,f m=litD t→(m.key,m.val)=kvV t) :
  ∃ts,List.Perm ts signL∧l.map (fun m=>(m.key,m.val))=ts.map kvV:=by
 have h1:(l.map f).Perm (signL.map litD):=(Qahp _).symm.trans (by rw[hp])
 refine⟨(l.map f).map decD,?_,?_⟩
 ·have:=h1.map decD
  rw[List.map_map (g:=decD) (f:=litD)]at this
  exact this
 ·rw[List.map_map,List.map_map]
  refine List.map_congr_left fun m hm=>?_
  have hmem:f m∈signL.map litD:=(h1.mem_iff).1 (List.mem_map.2 ⟨m,hm,rfl⟩)
  obtain⟨t,_,ht⟩:=List.mem_map.1 hmem
  have e:decD (f m)=t:=by rw[←ht];rfl
  simp only[Function.comp,e]
  exact hf m hm t ht.symm
end Go.AE.Y

namespace Go.AE.Y
open Go.ChangeShapes Go.WideShapes Go.ChangeAt Go.RowKit
theorem Q89 {P:Program}{f:Nat}{H0:Heap}{g0:G}{w:World}{xs:List V}{vs:List Value}(h:Qj P f xs H0 fun v _=>v=.c (.bool true))(hg:∀b,b<w.heap.size→g0.per b=true)(hs:Sat H0 g0 w)
  (hl:vs.length=xs.length) (hv:∀(j:Nat) (x:V) (u:Value),xs[j]? = some x→vs[j]? = some u→RepV w g0 x u) :
  Calls P f vs.toArray w fun e w'=>e=.returned (.bool true)∧Below w.heap.size w w':=by
 refine (h.2 _ w vs hs hl hv).mono fun e w'=>?_
 rintro (⟨v,x,H',g',rfl,rfl,hst,hv⟩|⟨v,H',g',_,h,_⟩)
 rotate_left
 ·cases h
 have:v=.bool true:=by cases hv with|c _ _ h=>cases h;rfl
 subst this
 exact⟨rfl,hst.le.os,hst.le.tape,hst.le.output,hst.le.size,fun k hk=>(hst.le.per k (hg _ hk)).2⟩
theorem calls_of_acall6 {P:Program}{f:Nat}{cells:List C}(h:∀H:Heap,GK H→Qj P f [.ag cells] H fun v _=>v=.c (.bool true))
  {w:World} {cs:Array Value} (ht:Tabs w) (hl:cs.toList.length=cells.length) (hr:∀(j:Nat) (c:C) (v:Value),cells[j]? = some c→cs.toList[j]? = some v→RepC w (gh5 w) c v) :
  Calls P f #[.agg cs] w fun e w'=>e=.returned (.bool true)∧Below w.heap.size w w':=by
 obtain⟨hk,b,ms,clock,ts,h1,h2,h3,h4,h5⟩:=ht
 refine Q89 (xs:=[.ag cells]) (vs:=[.agg cs]) (g0:=gh5 w) (h (hp5 ts) (Qa3r h4)) (fun b hb=>by simpa[gh5]using hb) (Qaxn hk h1 h2 h3 h4 h5) rfl fun j x u hj hu=>?_
 cases j with
 |zero=>
  simp at hj hu;subst hj;subst hu
  have:=RepV.ag (w:=w) (g:=gh5 w) cells cs.toList hl hr
  simpa using this
 |succ j=>simp at hj
end Go.AE.Y

