/- Part 3 of the proof: the engine, codes, walks and plain laws, each named where it stands. -/
import Derived.Test.YtdlbfkfpogdiiaaGreatDoorZB
open Nat (reduceEqDiff reduceAdd reduceLeDiff reduceLT)
set_option linter.unusedVariables false
set_option linter.unusedSimpArgs false
set_option maxRecDepth 4000
namespace Go.AE.Y
open Go.Proofs.Tryz
variable {H:Heap}{K:V→Heap→Prop}
def St.raw (x:St):List C:=[.int .i64 x.op,.str x.name,.sl false 4 (Qv x.args),.sl false 5 (Qk x.body),.sl false 5 (Qk x.els)]
theorem Qax9:∀(n:Nat) (l:List St) {fl:Bool} {H:Heap} {K:V→Heap→Prop},Qh l≤n→Qh l≤2^40→(∀v:Nat,v≤Qh l→K (.c (.int .i64 v)) H)→Qp prog Qje [.c (.sl fl 5 (Qk l))] H K:=by
 intro n
 induction n using Nat.strongRecOn with
 |ind n ih=>
 intro l fl H K hn hb hK
 have hlen:=Qby l
 refine Qb Qah Qakv ?_
 refine Qa ?_
 simp only[go_sem]
 refine Qa ?_
 simp only[go_sem,Qn]
 intro hl
 refine Q4 ?_
 refine Qa ?_
 simp only[go_sem]
 refine Qf (Qd (Q0 (fun n e1 H1=>∃(i v:Nat),n=l.length-i∧i≤l.length∧v≤(l.length-i)+Qh (l.take i)∧H1=H∧e1=[(0,.c (.sl fl 5 (Qk l))),(3,.c (.int .i64 v)),(4,.c (.int .i64 i))]) l.length ?_ ?_))
 ·exact⟨0,l.length,by omega,by omega,by omega,rfl,rfl⟩
 ·rintro n e1 H1 ⟨i,v,hn1,hi,hv,rfl,rfl⟩
  refine Q4 ?_
  refine Qa ?_
  simp only[go_sem,Qn]
  simp only[LIM]at hl
  refine fun _=>?_
  refine Qf (Qc rfl ?_ ?_)
  ·intro hc
   have hlt:i<l.length:=by simpa using hc
   have hm:=Qak (List.getElem_mem hlt)
   have htk:=Qhn hlt
   have htl:=Qa3 l (i+1)
   have hse:=(l[i]'hlt).size_eq
   refine Qe ?_
   simp only[go_sem]
   refine Qf (Qd (Qeo ?_))
   simp only[go_sem,hlt,Qn,Qae _ _ hlt,St.cells_eq]
   refine ih (Qh l[i].body) (by omega) l[i].body (Nat.le_refl _) (by omega) fun a ha=>?_
   simp only[go_sem,Qsu,hlt,Qn,Qae _ _ hlt,St.cells_eq]
   refine⟨Qu (by omega) (by omega),?_⟩
   refine ih (Qh l[i].els) (by omega) l[i].els (Nat.le_refl _) (by omega) fun c hc=>?_
   simp only[go_sem,Qst]
   refine⟨Qu (by omega) (by omega),?_⟩
   refine Qs ?_
   simp only[go_sem,X.next]
   refine⟨Qu (by omega) (by omega),l.length-(i+1),by omega,i+1,v+a+c,rfl,by omega,by omega,rfl⟩
  ·intro hc
   have hge:l.length≤i:=by simpa using hc
   refine Q1 ?_
   simp only[go_sem,X.next]
   refine Qa ?_
   simp only[go_sem]
   refine Qi ?_
   simp only[go_sem,Qy,Q7,Q9l,List.mem_singleton,forall_eq,RS.op]
   rw[List.take_of_length_le hge]at hv
   exact hK v (by omega)
def Qa6v (n:Nat):Prop:=∀(x:St) (deep:Int) (H:Heap) (K:V→Heap→Prop),x.size≤n→x.size≤2^40→deep≤100→(∀b:Bool,K (.c (.bool b)) H)→Qp prog Q0u [.ag x.cells,.c (.int .i64 deep)] H K
def Qawz (n:Nat):Prop:=∀(l:List St) (deep:Int) (fl:Bool) (H:Heap) (K:V→Heap→Prop),Qh l≤n→Qh l≤2^40→deep≤100→(∀b:Bool,K (.c (.bool b)) H)→Qp prog Qjf [.c (.sl fl 5 (Qk l)),.c (.int .i64 deep)] H K
theorem Qa3o {n:Nat}(hS:Qa6v n):Qawz n:=by
 intro l deep fl H K hn hb hd hK
 refine Qb Qah Qak1 ?_
 have retf:∀(b:Bool) (e:Env),lk 4 e=.c (.bool b)→Qy Qrv K .ret e H:=by
  intro b e h1
  simp only[go_sem,Qy,Q7,Qrv,List.mem_singleton,forall_eq,RS.op,h1]
  exact hK _
 refine Qa ?_
 simp only[go_sem]
 refine Q4 ?_
 refine Qa ?_
 simp only[go_sem]
 refine Qf (Qd (Q0 (fun n e1 H1=>∃(i:Nat),n=l.length-i∧i≤l.length∧H1=H∧e1=[(0,.c (.sl fl 5 (Qk l))),(1,.c (.int .i64 deep)),(5,.c (.int .i64 i))]) l.length ?_ ?_))
 ·exact⟨0,by omega,by omega,rfl,rfl⟩
 ·rintro n e1 H1 ⟨i,hn1,hi,rfl,rfl⟩
  refine Q4 ?_
  refine Qa ?_
  simp only[go_sem,Qn]
  intro hl
  simp only[LIM]at hl
  refine Qf (Qc rfl ?_ ?_)
  ·intro hc
   have hlt:i<l.length:=by simpa using hc
   have hm:=Qak (List.getElem_mem hlt)
   refine Qe ?_
   simp only[go_sem]
   refine Qf (Qd ?_)
   refine Qa ?_
   simp only[go_sem,hlt,Qn,Qae _ _ hlt,St.take5,St.allOw,St.cells_len]
   refine hS _ deep _ _ (by omega) (by omega) hd fun b=>?_
   simp only[go_sem,Qtu]
   refine Qc rfl ?_ ?_
   ·intro hc2
    refine Qa ?_
    simp only[go_sem]
    refine Qi ?_
    simp only[go_sem,X.next]
    exact retf false _ (by simp[lk])
   ·intro hc2
    refine Qe ?_
    simp only[go_sem]
    refine Qs ?_
    simp only[go_sem,X.next]
    exact⟨Qu (by omega) (by omega),l.length-(i+1),by omega,i+1,rfl,by omega,rfl⟩
  ·intro hc
   refine Q1 ?_
   simp only[go_sem,X.next]
   refine Qa ?_
   simp only[go_sem]
   refine Qi ?_
   exact retf true _ (by simp[lk])
theorem Qa6g {n:Nat}(hS:∀m,m<n→Qawz m):Qa6v n:=by
 intro x deep H K hn hb hd hK
 have hsz:=x.size_eq
 refine Qb Qah Qas1 ?_
 have retf:∀(b:Bool) (e:Env),lk 4 e=.c (.bool b)→Qy Qnd K .ret e H:=by
  intro b e h1
  simp only[go_sem,Qy,Q7,Qnd,List.mem_singleton,forall_eq,RS.op,h1]
  exact hK _
 refine Qa ?_
 simp only[go_sem,x.cells_eq]
 refine Q4 ?_
 refine Qaz ?_
 simp only[go_sem]
 have rest:∀b:Bool,(b=false→1≤deep∧x.args.length=if x.op=4 then 2 else 1)→Q8 prog (s_l3Stmt_2.seq Qyw) (Qy Qnd K)
   [(1,.c (.int .i64 deep)),(2,.c (.pp [.int .i64 x.op,.str x.name,.sl false 4 (Qv x.args),.sl false 5 (Qk x.body),.sl false 5 (Qk x.els)])),(23,.c (.bool b))] H:=by
  intro b hb
  refine Qf (Qc rfl ?_ ?_)
  ·intro hc
   refine Qa ?_
   simp only[go_sem]
   refine Qi ?_
   simp only[go_sem]
   exact retf false _ (by simp[lk])
  intro hc
  obtain⟨hdp,hal⟩:=hb hc
  have hap:0<x.args.length:=by rw[hal];split <;> omega
  refine Qe ?_
  simp only[go_sem]
  refine Qa ?_
  simp only[go_sem]
  refine Q4 ?_
  refine Qa ?_
  simp only[go_sem]
  refine Q7y fun b1=>?_
  simp only[go_sem,Qyx]
  refine Qf (Qc rfl ?_ ?_)
  ·intro hc
   refine Qa ?_
   simp only[go_sem]
   refine Qi ?_
   simp only[go_sem]
   exact retf false _ (by simp[lk])
  intro hc
  refine Qe ?_
  simp only[go_sem]
  refine Q4 ?_
  refine Qa ?_
  simp only[go_sem]
  refine Qf (Qd (Q0 (fun n e1 H1=>∃(i:Nat),n=x.args.length-i∧i≤x.args.length∧H1=H∧e1=[(1,.c (.int .i64 deep)),(2,.c (.pp [.int .i64 x.op,.str x.name,.sl false 4 (Qv x.args),.sl false 5 (Qk x.body),.sl false 5 (Qk x.els)])),(6,.c (.int .i64 i))]) x.args.length ?_ ?_))
  ·exact⟨0,by omega,by omega,rfl,rfl⟩
  ·rintro n e1 H1 ⟨i,hn1,hi,rfl,rfl⟩
   refine Q4 ?_
   refine Qa ?_
   simp only[go_sem,Qj]
   intro hl
   simp only[LIM]at hl
   refine Qf (Qc rfl ?_ ?_)
   ·intro hc
    have hlt:i<x.args.length:=by simpa using hc
    have hm:=Qaf (List.getElem_mem hlt)
    refine Qe ?_
    simp only[go_sem]
    refine Qf (Qd ?_)
    refine Qa ?_
    simp only[go_sem,hlt,Qj,Qac _ _ hlt,Ex.take4,Ex.allOw,Ex.cells_len]
    refine Qanw (by omega) fun b=>?_
    simp only[go_sem,Qyy]
    refine Qc rfl ?_ ?_
    ·intro hc2
     refine Qa ?_
     simp only[go_sem]
     refine Qi ?_
     simp only[go_sem,X.next]
     exact retf false _ (by simp[lk])
    ·intro hc2
     refine Qe ?_
     simp only[go_sem]
     refine Qs ?_
     simp only[go_sem,X.next]
     exact⟨Qu (by omega) (by omega),x.args.length-(i+1),by omega,i+1,rfl,by omega,rfl⟩
   ·intro hc
    refine Q1 ?_
    simp only[go_sem,X.next]
    refine Q4 ?_
    refine Qa ?_
    simp only[go_sem,hap,Qj,Qac _ _ hap,Ex.cells_eq]
    refine⟨fun _=>Int.le_refl _,?_⟩
    refine Qf (Qc rfl ?_ ?_)
    ·intro hc
     refine Qa ?_
     simp only[go_sem]
     refine Qi ?_
     simp only[go_sem]
     exact retf false _ (by simp[lk])
    intro hc
    refine Qe ?_
    simp only[go_sem]
    refine Q4 ?_
    refine Qa ?_
    simp only[go_sem,Qn]
    intros
    refine Qf (Qc rfl ?_ ?_)
    ·intro hc
     refine Qa ?_
     simp only[go_sem]
     refine Qi ?_
     simp only[go_sem]
     exact retf false _ (by simp[lk])
    intro hc
    refine Qe ?_
    simp only[go_sem]
    refine Qa ?_
    simp only[go_sem]
    refine⟨Qu (by omega) (by omega),?_⟩
    refine hS (Qh x.body) (by omega) _ _ _ _ _ (Nat.le_refl _) (by omega) (by omega) fun b1=>?_
    simp only[go_sem,Qtt]
    refine⟨fun _=>Qu (by omega) (by omega),?_⟩
    refine⟨fun hb1=>?_,fun hb1=>?_⟩
    ·refine hS (Qh x.els) (by omega) _ _ _ _ _ (Nat.le_refl _) (by omega) (by omega) fun b2=>?_
     simp only[go_sem,Qhk]
     refine Qi ?_
     exact retf _ _ (by simp[lk];rfl)
    ·simp only[go_sem,Qhk,hb1]
     refine Qi ?_
     exact retf false _ (by simp[lk])
 refine⟨fun hb1=>?_,fun hb1=>?_⟩
 ·replace hb1:=Qvs hb1
  have hdp:1≤deep:=by simp at hb1;omega
  refine Qw9 ?_
  simp only[go_sem,Qkb,hb1,Qj,cond_false]
  refine⟨fun hb2=>?_,fun hb2=>?_⟩
  ·refine Qasr ?_
   simp only[go_sem,Qd5,Qj]
   refine rest _ (fun h=>⟨hdp,?_⟩)
   have h1:(x.args.length:Int)=if x.op=4 then 2 else 1:=by
    cases h2:decide (1≤x.op∧x.op≤8) <;> rw[h2]at h <;> simp_all
   by_cases h4:x.op=4
   ·rw[if_pos h4]at h1⊢;omega
   ·rw[if_neg h4]at h1⊢;omega
  ·replace hb2:=Qkj hb2
   simp only[go_sem,Qd5,hb2,Qj]
   exact rest _ (fun h=>by simp at h)
 ·replace hb1:=Qkj hb1
  simp only[go_sem,Qkb,Qd5,hb1,Qj,cond_true]
  exact rest _ (fun h=>by simp at h)
theorem Qa6h (n:Nat):Qawz n:=by
 induction n using Nat.strongRecOn with
 |ind n ih=>exact Qa3o (Qa6g ih)
theorem Qa7h {f:Fn}(hf:Qh f.body≤2^40)(hK:∀b:Bool,K (.c (.bool b)) H):Qp prog Qahv [.ag f.cells] H K:=by
 refine Qb Qah Qa39 ?_
 have retf:∀(b:Bool) (e:Env),lk 2 e=.c (.bool b)→Qy Qalh K .ret e H:=by
  intro b e h1
  simp only[go_sem,Qy,Q7,Qalh,List.mem_singleton,forall_eq,RS.op,h1]
  exact hK _
 refine Qa ?_
 simp only[go_sem,Fn.cells]
 refine Q4 ?_
 refine Qa ?_
 simp only[go_sem]
 refine Qf (Qd (Q0 (fun n e1 H1=>∃(i:Nat),n=f.params.length-i∧i≤f.params.length∧H1=H∧e1=[(1,.c (.pp [.str f.name,.sl false 1 (Q2 f.params),.sl false 5 (Qk f.body)])),(3,.c (.int .i64 i))]) f.params.length ?_ ?_))
 ·exact⟨0,by omega,by omega,rfl,rfl⟩
 ·rintro n e1 H1 ⟨i,hn1,hi,rfl,rfl⟩
  refine Q4 ?_
  refine Qa ?_
  simp only[go_sem,Qq]
  intro hl
  simp only[LIM]at hl
  refine Qf (Qc rfl ?_ ?_)
  ·intro hc
   have hlt:i<f.params.length:=by simpa using hc
   refine Qe ?_
   simp only[go_sem]
   refine Qf (Qd ?_)
   refine Qa ?_
   simp only[go_sem,hlt,Qq,Qaw _ _ hlt]
   refine Q7y fun b=>?_
   simp only[go_sem,Qaa9]
   refine Qc rfl ?_ ?_
   ·intro hc2
    refine Qa ?_
    simp only[go_sem]
    refine Qi ?_
    simp only[go_sem,X.next]
    exact retf false _ (by simp[lk])
   ·intro hc2
    refine Qe ?_
    simp only[go_sem]
    refine Qs ?_
    simp only[go_sem,X.next]
    exact⟨Qu (by omega) (by omega),f.params.length-(i+1),by omega,i+1,rfl,by omega,rfl⟩
  ·intro hc
   refine Q1 ?_
   simp only[go_sem,X.next]
   refine Qa ?_
   simp only[go_sem]
   refine Q7y fun b=>?_
   simp only[go_sem,Qaba,Qq]
   intros
   refine⟨fun hb1=>?_,fun hb1=>?_⟩
   ·refine Qa6h _ _ _ _ _ _ (Nat.le_refl _) hf (by omega) fun b2=>?_
    simp only[go_sem,Qsv]
    refine Qi ?_
    exact retf _ _ (by simp[lk];rfl)
   ·simp only[go_sem,Qsv,hb1]
    refine Qi ?_
    exact retf false _ (by simp[lk])
def Qo:List Fn→Nat
 |[]=>0
 |f::r=>Qh f.body+Qo r
theorem Qaq {l:List Fn}{f:Fn}(h:f∈l):Qh f.body≤Qo l:=by
 induction l with
 |nil=>simp at h
 |cons g r ih=>
  simp only[Qo]
  rcases List.mem_cons.1 h with rfl|h
  ·omega
  ·have:=ih h;omega
theorem Qkq (a b:List Fn):Qo (a++b)=Qo a+Qo b:=by
 induction a with
 |nil=>simp[Qo]
 |cons x r ih=>simp only[List.cons_append,Qo,ih];omega
theorem Q07 {l:List Fn}{i:Nat}(h:i<l.length):Qo (l.take (i+1))=Qo (l.take i)+Qh (l[i]'h).body:=by
 rw[List.take_succ_eq_append_getElem h,Qkq];simp[Qo]
theorem Qhp (l:List Fn)(i:Nat):Qo (l.take i)≤Qo l:=by
 conv=>rhs;rw[←List.take_append_drop i l,Qkq]
 omega
theorem Qa5s {l:List Fn}{fl:Bool}(hf:Qo l≤2^40)(hK:∀n:Int,K (.c (.int .i64 n)) H):Qp prog Q72 [.ag [.sl fl 3 (Qr l)]] H K:=by
 refine Qb Qah Qaym ?_
 refine Qa ?_
 simp only[go_sem]
 refine Qa ?_
 simp only[go_sem]
 refine Q4 ?_
 refine Qa ?_
 simp only[go_sem]
 refine Qf (Qd (Q0 (fun n e1 H1=>∃(i v:Nat),n=l.length-i∧i≤l.length∧v≤Qo (l.take i)∧H1=H∧e1=[(1,.c (.pp [.sl fl 3 (Qr l)])),(3,.c (.int .i64 v)),(4,.c (.int .i64 i))]) l.length ?_ ?_))
 ·exact⟨0,0,by omega,by omega,by omega,rfl,rfl⟩
 ·rintro n e1 H1 ⟨i,v,hn1,hi,hv,rfl,rfl⟩
  refine Q4 ?_
  refine Qa ?_
  simp only[go_sem,Qm]
  intro hl
  simp only[LIM]at hl
  refine Qf (Qc rfl ?_ ?_)
  ·intro hc
   have hlt:i<l.length:=by simpa using hc
   have hm:=Qaq (List.getElem_mem hlt)
   have htk:=Q07 hlt
   have htl:=Qhp l (i+1)
   refine Qe ?_
   simp only[go_sem]
   refine Qf (Qd (Qs ?_))
   simp only[go_sem,hlt,Qm,Q6 _ _ hlt,Fn.cells]
   refine Qax9 _ _ (Nat.le_refl _) (by omega) fun c hc=>?_
   simp only[go_sem,Q3w]
   refine⟨Qu (by omega) (by omega),?_⟩
   refine Qs ?_
   simp only[go_sem,X.next]
   exact⟨Qu (by omega) (by omega),l.length-(i+1),by omega,i+1,v+c,rfl,by omega,by omega,rfl⟩
  ·intro hc
   refine Q1 ?_
   simp only[go_sem,X.next]
   refine Qa ?_
   simp only[go_sem]
   refine Qi ?_
   simp only[go_sem,Qy,Q7,Qaou,List.mem_singleton,forall_eq,RS.op]
   exact hK _
theorem Qadz {l:List Fn}{fl:Bool}(hf:Qo l≤2^40)(hK:∀b:Bool,K (.c (.bool b)) H):Qp prog Qbs [.ag [.sl fl 3 (Qr l)]] H K:=by
 refine Qb Qah Qlx ?_
 have retf:∀(b:Bool) (e:Env),lk 2 e=.c (.bool b)→Qy Qb6 K .ret e H:=by
  intro b e h1
  simp only[go_sem,Qy,Q7,Qb6,List.mem_singleton,forall_eq,RS.op,h1]
  exact hK _
 refine Qa ?_
 simp only[go_sem]
 refine Q4 ?_
 refine Qa ?_
 simp only[go_sem,Qm]
 intro hl
 simp only[LIM]at hl
 refine Qw9 ?_
 simp only[go_sem,Qdi]
 refine Qf (Qc rfl ?_ ?_)
 ·intro hc
  refine Qa ?_
  simp only[go_sem]
  refine Qi ?_
  simp only[go_sem]
  exact retf false _ (by simp[lk])
 intro hc
 refine Qe ?_
 simp only[go_sem]
 refine Q4 ?_
 refine Qa ?_
 simp only[go_sem]
 refine Qf (Qd (Q0 (fun n e1 H1=>∃(i:Nat),n=l.length-i∧i≤l.length∧H1=H∧e1=[(1,.c (.pp [.sl fl 3 (Qr l)])),(3,.c (.int .i64 i))]) l.length ?_ ?_))
 ·exact⟨0,by omega,by omega,rfl,rfl⟩
 ·rintro n e1 H1 ⟨i,hn1,hi,rfl,rfl⟩
  refine Q4 ?_
  refine Qa ?_
  simp only[go_sem,Qm]
  refine fun _=>?_
  refine Qf (Qc rfl ?_ ?_)
  ·intro hc
   have hlt:i<l.length:=by simpa using hc
   have hm:=Qaq (List.getElem_mem hlt)
   refine Qe ?_
   simp only[go_sem]
   refine Qf (Qd ?_)
   refine Qa ?_
   simp only[go_sem,hlt,Qm,Q6 _ _ hlt,Fn.take3,Fn.allOw,Fn.cells_len]
   refine Qa7h (by omega) fun b=>?_
   simp only[go_sem,Qdj]
   refine Qc rfl ?_ ?_
   ·intro hc2
    refine Qa ?_
    simp only[go_sem]
    refine Qi ?_
    simp only[go_sem,X.next]
    exact retf false _ (by simp[lk])
   ·intro hc2
    refine Qe ?_
    simp only[go_sem]
    refine Qs ?_
    simp only[go_sem,X.next]
    exact⟨Qu (by omega) (by omega),l.length-(i+1),by omega,i+1,rfl,by omega,rfl⟩
  ·intro hc
   refine Q1 ?_
   simp only[go_sem,X.next]
   refine Qa ?_
   simp only[go_sem]
   refine Qa5s hf fun n=>?_
   simp only[go_sem,Qdk]
   refine Qi ?_
   exact retf _ _ (by simp[lk];rfl)
end Go.AE.Y

namespace Go.AE.Y
open Go.Proofs.Tryz
variable {H:Heap}{K:V→Heap→Prop}
mutual
theorem St.cnt_le:∀(x:St),x.cnt≤x.size
 |.mk op name args body els=>by
  have h1:=Qu3 body
  have h2:=Qu3 els
  simp only[St.cnt,St.size];omega
theorem Qu3:∀(l:List St),Qcs l≤Qh l
 |[]=>by simp[Qcs]
 |x::r=>by
  have h1:=St.cnt_le x
  have h2:=Qu3 r
  simp only[Qcs,Qh];omega
end
theorem Qawn (l:List St):Qcs l=l.length+(l.map fun x=>Qcs x.body+Qcs x.els).sum:=by
 induction l with
 |nil=>simp[Qcs]
 |cons x r ih=>simp only[Qcs,List.length_cons,List.map_cons,List.sum_cons,ih,x.cnt_eq];omega
def inC (l:List St):Nat:=(l.map fun x=>Qcs x.body+Qcs x.els).sum
theorem Qa1x {l:List St}{i:Nat}(h:i<l.length):inC (l.take (i+1))=inC (l.take i)+(Qcs (l[i]'h).body+Qcs (l[i]'h).els):=by
 rw[inC,inC,List.take_succ_eq_append_getElem h,List.map_append,List.sum_append];simp
theorem Qa7d (l:List St)(i:Nat):inC (l.take i)≤inC l:=by
 have:inC l=inC (l.take i)+inC (l.drop i):=by rw[inC,inC,inC,←List.sum_append,←List.map_append,List.take_append_drop]
 omega
theorem Qat9:∀(n:Nat) (l:List St) {fl:Bool} {H:Heap} {K:V→Heap→Prop},Qh l≤n→Qh l≤2^40→K (.c (.int .i64 (Qcs l))) H→Qp prog Qje [.c (.sl fl 5 (Qk l))] H K:=by
 intro n
 induction n using Nat.strongRecOn with
 |ind n ih=>
 intro l fl H K hn hb hK
 have hlen:=Qby l
 have htot:=Qawn l
 have hcl:=Qu3 l
 change Qcs l=l.length+inC l at htot
 refine Qb Qah Qakv ?_
 refine Qa ?_
 simp only[go_sem]
 refine Qa ?_
 simp only[go_sem,Qn]
 intro hl
 refine Q4 ?_
 refine Qa ?_
 simp only[go_sem]
 refine Qf (Qd (Q0 (fun n e1 H1=>∃(i:Nat),n=l.length-i∧i≤l.length∧H1=H∧e1=[(0,.c (.sl fl 5 (Qk l))),(3,.c (.int .i64 ((l.length+inC (l.take i):Nat):Int))),(4,.c (.int .i64 i))]) l.length ?_ ?_))
 ·exact⟨0,by omega,by omega,rfl,rfl⟩
 ·rintro n e1 H1 ⟨i,hn1,hi,rfl,rfl⟩
  refine Q4 ?_
  refine Qa ?_
  simp only[go_sem,Qn]
  simp only[LIM]at hl
  refine fun _=>?_
  refine Qf (Qc rfl ?_ ?_)
  ·intro hc
   have hlt:i<l.length:=by simpa using hc
   have hm:=Qak (List.getElem_mem hlt)
   have hse:=(l[i]'hlt).size_eq
   have hit:=Qa1x hlt
   have hil:=Qa7d l (i+1)
   refine Qe ?_
   simp only[go_sem]
   refine Qf (Qd (Qeo ?_))
   simp only[go_sem,hlt,Qn,Qae _ _ hlt,St.cells_eq]
   refine ih (Qh l[i].body) (by omega) l[i].body (Nat.le_refl _) (by omega) ?_
   simp only[go_sem,Qsu,hlt,Qn,Qae _ _ hlt,St.cells_eq]
   refine⟨Qu (by omega) (by omega),?_⟩
   refine ih (Qh l[i].els) (by omega) l[i].els (Nat.le_refl _) (by omega) ?_
   simp only[go_sem,Qst]
   refine⟨Qu (by omega) (by omega),?_⟩
   refine Qs ?_
   simp only[go_sem,X.next]
   refine⟨Qu (by omega) (by omega),l.length-(i+1),by omega,i+1,rfl,by omega,?_⟩
   rw[hit]
   simp;omega
  ·intro hc
   have hge:l.length≤i:=by simpa using hc
   refine Q1 ?_
   simp only[go_sem,X.next]
   refine Qa ?_
   simp only[go_sem]
   refine Qi ?_
   simp only[go_sem,Qy,Q7,Q9l,List.mem_singleton,forall_eq,RS.op]
   rw[List.take_of_length_le hge,←htot]
   exact hK
def stA (op:Int)(k:Nat)(d:Int):Bool:=decide (1≤d)&&decide (1≤op∧op≤8)&&decide (k=argN op)
def stB (op:Int)(name:List UInt8):Bool:=(decide (op=1∨op=2) == Qct name)&&(decide (op=1∨op=2) || decide (name=[]))
def stD (op:Int)(nb ne:Nat):Bool:=(decide (op=5) || decide (ne=0))&&(decide (op=5∨op=6) || decide (nb=0))
theorem Qa9l (x:St)(d:Int):x.form d=(stA x.op x.args.length d&&(stB x.op x.name&&(x.args.all Ex.valid&&((!decide (x.op=8) || decide ((x.args.map Ex.op).getD 0 0=13))&&(stD x.op x.body.length x.els.length&&(Qa5 x.body (d-1)&&Qa5 x.els (d-1))))))):=by
 rw[x.form_eq,Qahj,stA,stB,stD]
 simp only[Bool.and_assoc]
def Qa6w (n:Nat):Prop:=∀(x:St) (deep:Int) (H:Heap) (K:V→Heap→Prop),x.size≤n→x.size≤2^40→deep≤100→K (.c (.bool (x.form deep))) H→Qp prog Q0u [.ag x.cells,.c (.int .i64 deep)] H K
def Qaw0 (n:Nat):Prop:=∀(l:List St) (deep:Int) (fl:Bool) (H:Heap) (K:V→Heap→Prop),Qh l≤n→Qh l≤2^40→deep≤100→K (.c (.bool (Qa5 l deep))) H→Qp prog Qjf [.c (.sl fl 5 (Qk l)),.c (.int .i64 deep)] H K
theorem Qa0t {n:Nat}(hS:Qa6w n):Qaw0 n:=by
 intro l deep fl H K hn hb hd hK
 rw[Q0m]at hK
 refine Qb Qah Qak1 ?_
 have retf:∀(b:Bool) (e:Env),(l.all fun x=>x.form deep)=b→lk 4 e=.c (.bool b)→Qy Qrv K .ret e H:=by
  intro b e h0 h1
  simp only[go_sem,Qy,Q7,Qrv,List.mem_singleton,forall_eq,RS.op,h1]
  rw[←h0];exact hK
 refine Qa ?_
 simp only[go_sem]
 refine Q4 ?_
 refine Qa ?_
 simp only[go_sem]
 refine Qf (Qd (Q0 (fun n e1 H1=>∃(i:Nat),n=l.length-i∧i≤l.length∧H1=H∧((l.take i).all fun x=>x.form deep)=true∧e1=[(0,.c (.sl fl 5 (Qk l))),(1,.c (.int .i64 deep)),(5,.c (.int .i64 i))]) l.length ?_ ?_))
 ·exact⟨0,by omega,by omega,rfl,rfl,rfl⟩
 ·rintro n e1 H1 ⟨i,hn1,hi,rfl,hall,rfl⟩
  refine Q4 ?_
  refine Qa ?_
  simp only[go_sem,Qn]
  intro hl
  simp only[LIM]at hl
  refine Qf (Qc rfl ?_ ?_)
  ·intro hc
   have hlt:i<l.length:=by simpa using hc
   have hm:=Qak (List.getElem_mem hlt)
   refine Qe ?_
   simp only[go_sem]
   refine Qf (Qd ?_)
   refine Qa ?_
   simp only[go_sem,hlt,Qn,Qae _ _ hlt,St.take5,St.allOw,St.cells_len]
   refine hS _ deep _ _ (by omega) (by omega) hd ?_
   simp only[go_sem,Qtu]
   refine Qc rfl ?_ ?_
   ·intro hc2
    refine Qa ?_
    simp only[go_sem]
    refine Qi ?_
    simp only[go_sem,X.next]
    exact retf false _ (Qk4 hlt (Qvs hc2)) (by simp[lk])
   ·intro hc2
    refine Qe ?_
    simp only[go_sem]
    refine Qs ?_
    simp only[go_sem,X.next]
    exact⟨Qu (by omega) (by omega),l.length-(i+1),by omega,i+1,rfl,by omega,by rw[Qgu hlt,hall,Qkj hc2];rfl,rfl⟩
  ·intro hc
   have hge:l.length≤i:=by simpa using hc
   rw[List.take_of_length_le hge]at hall
   refine Q1 ?_
   simp only[go_sem,X.next]
   refine Qa ?_
   simp only[go_sem]
   refine Qi ?_
   exact retf true _ hall (by simp[lk])
theorem Qa3m {n:Nat}(hS:∀m,m<n→Qaw0 m):Qa6w n:=by
 intro x deep H K hn hb hd hK
 rw[Qa9l]at hK
 have hsz:=x.size_eq
 refine Qb Qah Qas1 ?_
 have retf:∀(b:Bool) (e:Env),(stA x.op x.args.length deep&&(stB x.op x.name&&(x.args.all Ex.valid&&((!decide (x.op=8) || decide ((x.args.map Ex.op).getD 0 0=13))&&(stD x.op x.body.length x.els.length&&(Qa5 x.body (deep-1)&&Qa5 x.els (deep-1)))))))=b→
   lk 4 e=.c (.bool b)→Qy Qnd K .ret e H:=by
  intro b e h0 h1
  simp only[go_sem,Qy,Q7,Qnd,List.mem_singleton,forall_eq,RS.op,h1]
  rw[←h0];exact hK
 refine Qa ?_
 simp only[go_sem,x.cells_eq]
 refine Q4 ?_
 refine Qaz ?_
 simp only[go_sem]
 have rest:∀b:Bool,b = !stA x.op x.args.length deep→Q8 prog (s_l3Stmt_2.seq Qyw) (Qy Qnd K)
   [(1,.c (.int .i64 deep)),(2,.c (.pp [.int .i64 x.op,.str x.name,.sl false 4 (Qv x.args),.sl false 5 (Qk x.body),.sl false 5 (Qk x.els)])),(23,.c (.bool b))] H:=by
  intro b hb
  refine Qf (Qc rfl ?_ ?_)
  ·intro hc
   have hA:stA x.op x.args.length deep=false:=by rw[hc]at hb;simpa using hb.symm
   refine Qa ?_
   simp only[go_sem]
   refine Qi ?_
   simp only[go_sem]
   exact retf false _ (by rw[hA];rfl) (by simp[lk])
  intro hc
  have hA:stA x.op x.args.length deep=true:=by rw[hc]at hb;simpa using hb.symm
  rw[hA,Bool.true_and]at retf
  simp only[stA,Bool.and_eq_true,decide_eq_true_eq]at hA
  obtain⟨⟨hdp,_⟩,hal⟩:=hA
  have hap:0<x.args.length:=by rw[hal,argN];split <;> omega
  refine Qe ?_
  simp only[go_sem]
  refine Qa ?_
  simp only[go_sem]
  refine Q4 ?_
  refine Qa ?_
  simp only[go_sem]
  refine Q0o ?_
  simp only[go_sem,Qyx]
  refine Qf (Qc rfl ?_ ?_)
  ·intro hc
   have hB:stB x.op x.name=false:=by
    simp only[Qhu,Qdd]at hc
    simp only[stB]
    revert hc
    by_cases h1:x.op=1 <;> by_cases h2:x.op=2 <;> cases Qct x.name <;> by_cases h4:x.name=[] <;> simp[h1,h2,h4]
   refine Qa ?_
   simp only[go_sem]
   refine Qi ?_
   simp only[go_sem]
   exact retf false _ (by rw[hB];rfl) (by simp[lk])
  intro hc
  have hB:stB x.op x.name=true:=by
   simp only[Qhu,Qdd]at hc
   simp only[stB]
   revert hc
   by_cases h1:x.op=1 <;> by_cases h2:x.op=2 <;> cases Qct x.name <;> by_cases h4:x.name=[] <;> simp[h1,h2,h4]
  rw[hB,Bool.true_and]at retf
  refine Qe ?_
  simp only[go_sem]
  refine Q4 ?_
  refine Qa ?_
  simp only[go_sem]
  refine Qf (Qd (Q0 (fun n e1 H1=>∃(i:Nat),n=x.args.length-i∧i≤x.args.length∧H1=H∧(x.args.take i).all Ex.valid=true∧e1=[(1,.c (.int .i64 deep)),(2,.c (.pp [.int .i64 x.op,.str x.name,.sl false 4 (Qv x.args),.sl false 5 (Qk x.body),.sl false 5 (Qk x.els)])),(6,.c (.int .i64 i))]) x.args.length ?_ ?_))
  ·exact⟨0,by omega,by omega,rfl,rfl,rfl⟩
  ·rintro n e1 H1 ⟨i,hn1,hi,rfl,hall,rfl⟩
   refine Q4 ?_
   refine Qa ?_
   simp only[go_sem,Qj]
   intro hl
   simp only[LIM]at hl
   refine Qf (Qc rfl ?_ ?_)
   ·intro hc
    have hlt:i<x.args.length:=by simpa using hc
    have hm:=Qaf (List.getElem_mem hlt)
    refine Qe ?_
    simp only[go_sem]
    refine Qf (Qd ?_)
    refine Qa ?_
    simp only[go_sem,hlt,Qj,Qac _ _ hlt,Ex.take4,Ex.allOw,Ex.cells_len]
    refine Qajt (by omega) ?_
    simp only[go_sem,Qyy]
    refine Qc rfl ?_ ?_
    ·intro hc2
     refine Qa ?_
     simp only[go_sem]
     refine Qi ?_
     simp only[go_sem,X.next]
     exact retf false _ (by rw[Qk4 hlt (Qvs hc2)];rfl) (by simp[lk])
    ·intro hc2
     refine Qe ?_
     simp only[go_sem]
     refine Qs ?_
     simp only[go_sem,X.next]
     exact⟨Qu (by omega) (by omega),x.args.length-(i+1),by omega,i+1,rfl,by omega,by rw[Qgu hlt,hall,Qkj hc2];rfl,rfl⟩
   ·intro hc
    have hge:x.args.length≤i:=by simpa using hc
    rw[List.take_of_length_le hge]at hall
    rw[hall,Bool.true_and]at retf
    have hg0:(x.args.map Ex.op).getD 0 0=x.args[0].op:=by simp[List.getD_eq_getElem?_getD,hap]
    refine Q1 ?_
    simp only[go_sem,X.next]
    refine Q4 ?_
    refine Qa ?_
    simp only[go_sem,hap,Qj,Qac _ _ hap,Ex.cells_eq]
    refine⟨fun _=>Int.le_refl _,?_⟩
    refine Qf (Qc rfl ?_ ?_)
    ·intro hc
     have hC:(!decide (x.op=8) || decide ((x.args.map Ex.op).getD 0 0=13))=false:=by
      rw[hg0]
      simp only[Qdd]at hc
      revert hc
      by_cases h1:x.op=8 <;> by_cases h2:x.args[0].op=13 <;> simp[h1,h2]
     refine Qa ?_
     simp only[go_sem]
     refine Qi ?_
     simp only[go_sem]
     exact retf false _ (by rw[hC];rfl) (by simp[lk])
    intro hc
    have hC:(!decide (x.op=8) || decide ((x.args.map Ex.op).getD 0 0=13))=true:=by
     rw[hg0]
     simp only[Qdd]at hc
     revert hc
     by_cases h1:x.op=8 <;> by_cases h2:x.args[0].op=13 <;> simp[h1,h2]
    rw[hC,Bool.true_and]at retf
    refine Qe ?_
    simp only[go_sem]
    refine Q4 ?_
    refine Qa ?_
    simp only[go_sem,Qn]
    intros
    have eb:decide ((0:Int)<(x.body.length:Int)) = !decide (x.body.length=0):=by
     rw[Bool.eq_iff_iff];simp only[decide_eq_true_eq,Bool.not_eq_true',decide_eq_false_iff_not];omega
    have ee:decide ((0:Int)<(x.els.length:Int)) = !decide (x.els.length=0):=by
     rw[Bool.eq_iff_iff];simp only[decide_eq_true_eq,Bool.not_eq_true',decide_eq_false_iff_not];omega
    refine Qf (Qc rfl ?_ ?_)
    ·intro hc
     have hD:stD x.op x.body.length x.els.length=false:=by
      simp only[Qdd,Qhu,eb,ee]at hc
      simp only[stD]
      revert hc
      by_cases h1:x.op=5 <;> by_cases h2:x.op=6 <;> cases decide (x.body.length=0) <;> cases decide (x.els.length=0) <;> simp[h1,h2]
     refine Qa ?_
     simp only[go_sem]
     refine Qi ?_
     simp only[go_sem]
     exact retf false _ (by rw[hD];rfl) (by simp[lk])
    intro hc
    have hD:stD x.op x.body.length x.els.length=true:=by
     simp only[Qdd,Qhu,eb,ee]at hc
     simp only[stD]
     revert hc
     by_cases h1:x.op=5 <;> by_cases h2:x.op=6 <;> cases decide (x.body.length=0) <;> cases decide (x.els.length=0) <;> simp[h1,h2]
    rw[hD,Bool.true_and]at retf
    refine Qe ?_
    simp only[go_sem]
    refine Qa ?_
    simp only[go_sem]
    refine⟨Qu (by omega) (by omega),?_⟩
    refine hS (Qh x.body) (by omega) _ _ _ _ _ (Nat.le_refl _) (by omega) (by omega) ?_
    simp only[go_sem,Qtt]
    refine⟨fun _=>Qu (by omega) (by omega),?_⟩
    refine⟨fun hb1=>?_,fun hb1=>?_⟩
    ·refine hS (Qh x.els) (by omega) _ _ _ _ _ (Nat.le_refl _) (by omega) (by omega) ?_
     simp only[go_sem,Qhk,hb1]
     refine Qi ?_
     exact retf _ _ (by rw[hb1,Bool.true_and]) (by simp[lk])
    ·simp only[go_sem,Qhk,hb1]
     refine Qi ?_
     exact retf false _ (by rw[hb1];rfl) (by simp[lk])
 refine⟨fun hb1=>?_,fun hb1=>?_⟩
 ·replace hb1:=Qvs hb1
  have hdp:1≤deep:=by simp at hb1;omega
  have hd1:decide (1≤deep)=true:=decide_eq_true hdp
  refine Qw9 ?_
  simp only[go_sem,Qkb,hb1,Qj,cond_false]
  refine⟨fun hb2=>?_,fun hb2=>?_⟩
  ·refine Qasr ?_
   simp only[go_sem,Qd5,Qj]
   refine rest _ ?_
   have hln:decide ((x.args.length:Int)=if x.op=4 then 2 else 1)=decide (x.args.length=argN x.op):=by
    rw[decide_eq_decide,argN];split <;> omega
   simp only[stA,hd1,hln,Qhu]
   cases decide (1≤x.op∧x.op≤8) <;> cases decide (x.args.length=argN x.op) <;> rfl
  ·replace hb2:=Qkj hb2
   simp only[go_sem,Qd5,hb2,Qj]
   refine rest _ ?_
   have hop:decide (1≤x.op∧x.op≤8)=false:=by
    cases h:decide (1≤x.op∧x.op≤8)with
    |false=>rfl
    |true=>rw[h]at hb2;simp at hb2
   simp only[stA,hop,Bool.and_false,Bool.false_and,Bool.not_false]
 ·replace hb1:=Qkj hb1
  simp only[go_sem,Qkb,Qd5,hb1,Qj,cond_true]
  refine rest _ ?_
  have hdp:decide (1≤deep)=false:=by
   rw[decide_eq_false_iff_not];simp at hb1;omega
  simp only[stA,hdp,Bool.false_and,Bool.not_false]
theorem Qa3n (n:Nat):Qaw0 n:=by
 induction n using Nat.strongRecOn with
 |ind n ih=>exact Qa0t (Qa3m ih)
theorem Qa5t {f:Fn}(hf:Qh f.body≤2^40)(hK:K (.c (.bool f.form)) H):Qp prog Qahv [.ag f.cells] H K:=by
 refine Qb Qah Qa39 ?_
 have e0:f.form=(f.params.all Qct&&(Qct f.name&&(decide (f.params.length≤3)&&Qa5 f.body 4))):=by simp only[Fn.form,Bool.and_assoc]
 rw[e0]at hK
 have retf:∀(b:Bool) (e:Env),(f.params.all Qct&&(Qct f.name&&(decide (f.params.length≤3)&&Qa5 f.body 4)))=b→lk 2 e=.c (.bool b)→Qy Qalh K .ret e H:=by
  intro b e h0 h1
  simp only[go_sem,Qy,Q7,Qalh,List.mem_singleton,forall_eq,RS.op,h1]
  rw[←h0];exact hK
 refine Qa ?_
 simp only[go_sem,Fn.cells]
 refine Q4 ?_
 refine Qa ?_
 simp only[go_sem]
 refine Qf (Qd (Q0 (fun n e1 H1=>∃(i:Nat),n=f.params.length-i∧i≤f.params.length∧H1=H∧(f.params.take i).all Qct=true∧e1=[(1,.c (.pp [.str f.name,.sl false 1 (Q2 f.params),.sl false 5 (Qk f.body)])),(3,.c (.int .i64 i))]) f.params.length ?_ ?_))
 ·exact⟨0,by omega,by omega,rfl,rfl,rfl⟩
 ·rintro n e1 H1 ⟨i,hn1,hi,rfl,hall,rfl⟩
  refine Q4 ?_
  refine Qa ?_
  simp only[go_sem,Qq]
  intro hl
  simp only[LIM]at hl
  refine Qf (Qc rfl ?_ ?_)
  ·intro hc
   have hlt:i<f.params.length:=by simpa using hc
   have hg:f.params.getD i []=f.params[i]:=by simp[List.getD_eq_getElem?_getD,hlt]
   refine Qe ?_
   simp only[go_sem]
   refine Qf (Qd ?_)
   refine Qa ?_
   simp only[go_sem,hlt,Qq,Qaw _ _ hlt,hg]
   refine Q0o ?_
   simp only[go_sem,Qaa9]
   refine Qc rfl ?_ ?_
   ·intro hc2
    refine Qa ?_
    simp only[go_sem]
    refine Qi ?_
    simp only[go_sem,X.next]
    exact retf false _ (by rw[Qk4 hlt (Qvs hc2)];rfl) (by simp[lk])
   ·intro hc2
    refine Qe ?_
    simp only[go_sem]
    refine Qs ?_
    simp only[go_sem,X.next]
    exact⟨Qu (by omega) (by omega),f.params.length-(i+1),by omega,i+1,rfl,by omega,by rw[Qgu hlt,hall,Qkj hc2];rfl,rfl⟩
  ·intro hc
   have hge:f.params.length≤i:=by simpa using hc
   rw[List.take_of_length_le hge]at hall
   rw[hall,Bool.true_and]at retf
   refine Q1 ?_
   simp only[go_sem,X.next]
   refine Qa ?_
   simp only[go_sem]
   refine Q0o ?_
   simp only[go_sem,Qaba,Qq]
   intros
   have e3:decide ((f.params.length:Int)≤3)=decide (f.params.length≤3):=by rw[decide_eq_decide];omega
   refine⟨fun hb1=>?_,fun hb1=>?_⟩
   ·refine Qa3n _ _ _ _ _ _ (Nat.le_refl _) hf (by omega) ?_
    simp only[go_sem,Qsv,hb1]
    rw[Qdd,e3,Bool.and_eq_true]at hb1
    refine Qi ?_
    exact retf _ _ (by rw[hb1.1,hb1.2,Bool.true_and,Bool.true_and]) (by simp[lk])
   ·simp only[go_sem,Qsv,hb1]
    rw[Qdd,e3]at hb1
    refine Qi ?_
    exact retf false _ (by rw[←Bool.and_assoc,hb1];rfl) (by simp[lk])
theorem Qasf (l:List Fn):Qc9 l≤Qo l:=by
 induction l with
 |nil=>simp[Qc9]
 |cons f r ih=>have:=Qu3 f.body;simp only[Qc9,Qo];omega
theorem Qa2e {l:List Fn}{fl:Bool}(hf:Qo l≤2^40)(hK:K (.c (.int .i64 (Qc9 l))) H):Qp prog Q72 [.ag [.sl fl 3 (Qr l)]] H K:=by
 refine Qb Qah Qaym ?_
 refine Qa ?_
 simp only[go_sem]
 refine Qa ?_
 simp only[go_sem]
 refine Q4 ?_
 refine Qa ?_
 simp only[go_sem]
 refine Qf (Qd (Q0 (fun n e1 H1=>∃(i:Nat),n=l.length-i∧i≤l.length∧H1=H∧e1=[(1,.c (.pp [.sl fl 3 (Qr l)])),(3,.c (.int .i64 (Qc9 (l.take i):Nat))),(4,.c (.int .i64 i))]) l.length ?_ ?_))
 ·exact⟨0,by omega,by omega,rfl,rfl⟩
 ·rintro n e1 H1 ⟨i,hn1,hi,rfl,rfl⟩
  refine Q4 ?_
  refine Qa ?_
  simp only[go_sem,Qm]
  intro hl
  simp only[LIM]at hl
  refine Qf (Qc rfl ?_ ?_)
  ·intro hc
   have hlt:i<l.length:=by simpa using hc
   have hm:=Qaq (List.getElem_mem hlt)
   have htk:=Qage hlt
   have htl:=Qhp l (i+1)
   have hct:=Qasf (l.take (i+1))
   refine Qe ?_
   simp only[go_sem]
   refine Qf (Qd (Qs ?_))
   simp only[go_sem,hlt,Qm,Q6 _ _ hlt,Fn.cells]
   refine Qat9 _ _ (Nat.le_refl _) (by omega) ?_
   simp only[go_sem,Q3w]
   refine⟨Qu (by omega) (by omega),?_⟩
   refine Qs ?_
   simp only[go_sem,X.next]
   refine⟨Qu (by omega) (by omega),l.length-(i+1),by omega,i+1,rfl,by omega,?_⟩
   rw[htk];simp
  ·intro hc
   have hge:l.length≤i:=by simpa using hc
   refine Q1 ?_
   simp only[go_sem,X.next]
   refine Qa ?_
   simp only[go_sem]
   refine Qi ?_
   simp only[go_sem,Qy,Q7,Qaou,List.mem_singleton,forall_eq,RS.op]
   rw[List.take_of_length_le hge]
   exact hK
theorem Q8a {l:List Fn}{fl:Bool}(hf:Qo l≤2^40)(hK:K (.c (.bool (Qle l))) H):Qp prog Qbs [.ag [.sl fl 3 (Qr l)]] H K:=by
 refine Qb Qah Qlx ?_
 have e0:Qle l=(decide (1≤l.length∧l.length≤4)&&(l.all Fn.form&&decide (Qc9 l≤40))):=by simp only[Qle,Bool.and_assoc]
 rw[e0]at hK
 have retf:∀(b:Bool) (e:Env),(decide (1≤l.length∧l.length≤4)&&(l.all Fn.form&&decide (Qc9 l≤40)))=b→lk 2 e=.c (.bool b)→Qy Qb6 K .ret e H:=by
  intro b e h0 h1
  simp only[go_sem,Qy,Q7,Qb6,List.mem_singleton,forall_eq,RS.op,h1]
  rw[←h0];exact hK
 refine Qa ?_
 simp only[go_sem]
 refine Q4 ?_
 refine Qa ?_
 simp only[go_sem,Qm]
 intro hl
 simp only[LIM]at hl
 refine Qw9 ?_
 simp only[go_sem,Qdi]
 have e1:decide ((1:Int)≤(l.length:Int)∧(l.length:Int)≤4)=decide (1≤l.length∧l.length≤4):=by rw[decide_eq_decide];omega
 refine Qf (Qc rfl ?_ ?_)
 ·intro hc
  have hA:=Qvs hc
  rw[e1]at hA
  refine Qa ?_
  simp only[go_sem]
  refine Qi ?_
  simp only[go_sem]
  exact retf false _ (by rw[hA];rfl) (by simp[lk])
 intro hc
 have hA:=Qkj hc
 rw[e1]at hA
 rw[hA,Bool.true_and]at retf
 refine Qe ?_
 simp only[go_sem]
 refine Q4 ?_
 refine Qa ?_
 simp only[go_sem]
 refine Qf (Qd (Q0 (fun n e1 H1=>∃(i:Nat),n=l.length-i∧i≤l.length∧H1=H∧(l.take i).all Fn.form=true∧e1=[(1,.c (.pp [.sl fl 3 (Qr l)])),(3,.c (.int .i64 i))]) l.length ?_ ?_))
 ·exact⟨0,by omega,by omega,rfl,rfl,rfl⟩
 ·rintro n e1 H1 ⟨i,hn1,hi,rfl,hall,rfl⟩
  refine Q4 ?_
  refine Qa ?_
  simp only[go_sem,Qm]
  refine fun _=>?_
  refine Qf (Qc rfl ?_ ?_)
  ·intro hc
   have hlt:i<l.length:=by simpa using hc
   have hm:=Qaq (List.getElem_mem hlt)
   refine Qe ?_
   simp only[go_sem]
   refine Qf (Qd ?_)
   refine Qa ?_
   simp only[go_sem,hlt,Qm,Q6 _ _ hlt,Fn.take3,Fn.allOw,Fn.cells_len]
   refine Qa5t (by omega) ?_
   simp only[go_sem,Qdj]
   refine Qc rfl ?_ ?_
   ·intro hc2
    refine Qa ?_
    simp only[go_sem]
    refine Qi ?_
    simp only[go_sem,X.next]
    exact retf false _ (by rw[Qk4 hlt (Qvs hc2)];rfl) (by simp[lk])
   ·intro hc2
    refine Qe ?_
    simp only[go_sem]
    refine Qs ?_
    simp only[go_sem,X.next]
    exact⟨Qu (by omega) (by omega),l.length-(i+1),by omega,i+1,rfl,by omega,by rw[Qgu hlt,hall,Qkj hc2];rfl,rfl⟩
  ·intro hc
   have hge:l.length≤i:=by simpa using hc
   rw[List.take_of_length_le hge]at hall
   rw[hall,Bool.true_and]at retf
   refine Q1 ?_
   simp only[go_sem,X.next]
   refine Qa ?_
   simp only[go_sem]
   refine Qa2e hf ?_
   simp only[go_sem,Qdk]
   refine Qi ?_
   exact retf (decide ((Qc9 l:Int)≤40)) _ (by rw[decide_eq_decide];omega) (by simp[lk])
end Go.AE.Y

namespace Go.AE.Y
open Go.Proofs.Tryz
def Qh6:List Item:=[oJ 13 12]
def Qx4:SC:=cT 13 (sR [zJ 2 1] [2] .ret) .skip
def Qh7:List Item:=[mJ 3 16]
def Qh8:List Item:=[mJ 4 22,sJ 3 5 24]
def Qh9:List Item:=[mJ 33 4,bJ 34 .lss 32 33]
def Qx5:SC:=cT 34 (.reg [mJ 35 3,aJ 36 Qai [.t 35,kI 2]] [1,3,5,18,19,20]) .skip
def Qia:List Item:=[mJ 6 37]
def Qx6:SC:=cT 54 (.reg [mJ 55 3,aJ 56 Qai [.t 55,kI 2]] [1,3,5,6,8,18,19,20,39,40,41]) .skip
def Qx7:SC:=sR [mJ 54 10] [1,3,5,6,8,18,19,20,39,40,41,54] Qx6
def Qjy:SC:=.reg [mJ 57 6,kJ 58 57,fJ 59 0 58,lJ 60 59,mJ 61 8,.e none none (.upd 1 (.t 60) (.t 61) (kI 0))] [1,3,5,6,18,19,20,39,40,41]
def Qvt:SC:=.seq (sR [mJ 46 6,kJ 47 46,fJ 48 0 47,lJ 49 48,mJ 50 8,fI 51 (.lup2 1 (.c (.int .i64 0)) (.t 49) (.t 50)),mJ 45 51,fI 52 (.ext (.t 45) 0),fI 53 (.ext (.t 45) 1),mJ 9 52,mJ 10 53] [1,3,5,6,8,10,18,19,20,39,40,41] Qx7) Qjy
def Qh2:SC:=.reg [cJ 62 .add 41 1,mJ 41 62] [1,3,5,6,18,19,20,39,40,41]
def Qvu:SC:=.seq (.block 3 (sR [iJ 43 1 39 41,lJ 44 43,mJ 8 44] [1,3,5,6,8,18,19,20,39,40,41] Qvt)) Qh2
def Qry:SC:=sR [bJ 42 .lss 41 40] [1,3,5,6,18,19,20,39,40,41,42] (cX 42 2 Qvu)
def Qh3:SC:=.reg [mJ 63 3,fJ 64 2 5,lJ 65 64,mJ 66 6,aJ 67 Qbh [.t 63,.t 65,.t 66]] [1,3,18,19,20]
def Qvv:SC:=.seq (sR [fJ 38 1 5,lJ 39 38,nJ 40 39,zJ 41 0] [1,3,5,6,18,19,20,39,40,41] (bL 2 Qry)) Qh3
def Qh4:SC:=sR (aJ 37 Qch [.k (.c .pnil)]::Qia) [1,3,5,6,18,19,20] Qvv
def Qh5:SC:=.seq (sR (tJ 29 1 1::fJ 30 0 5::lJ 31 30::aJ 32 Qln [.t 29,.t 31]::Qh9) [1,3,5,18,19,20,34] Qx5) Qh4
def Qvw:SC:=sR [mJ 25 3,mJ 26 4,kJ 27 25,fJ 28 1 27,sJ 1 28 26] [1,3,4,5,18,19,20] Qh5
def Qvx:SC:=.reg [cJ 68 .add 20 1,mJ 20 68] [1,3,18,19,20]
def Qvy:SC:=.seq (.block 1 (sR (mJ 22 20::iJ 23 3 18 20::tJ 24 3 23::eI 5 (.alloc [.str [],.sl true 1 [],.sl true 5 []])::Qh8) [1,3,4,5,18,19,20] Qvw)) Qvx
def Qrz:SC:=sR [bJ 21 .lss 20 19] [1,3,18,19,20,21] (cX 21 0 Qvy)
def Qvz:SC:=sR [mJ 69 3,kJ 70 69,fJ 71 2 70,lJ 72 71,mJ 2 72] [2] .ret
def Qv0:SC:=.seq (sR [fJ 17 0 1,lJ 18 17,nJ 19 18,zJ 20 0] [1,3,18,19,20] (bL 0 Qrz)) Qvz
def Qv1:SC:=sR (tJ 14 1 1::fI 15 (.bld [.sl true 3 [],.int .i64 0,.int .i64 0] [(0,1,.t 14)])::eI 16 (.boxm (.t 15))::Qh7) [1,3] Qv0
def Qv2:SC:=.seq (sR (tJ 11 1 1::aJ 12 Qer [.t 11]::Qh6) [1,13] Qx4) Qv1
def Q22:SC:=sR [vJ 1 0,zJ 2 0] [1] Qv2
def Qgi:List RS:=[.tmp 2]
theorem Q2g:mFn prog Qco 1 73 Q22 Qgi=true:=by kernel_rfl
def Qib:List Item:=[fB 3 false]
def Qic:List Item:=[oJ 6 5]
def Qid:List Item:=[fB 3 false]
def Qx8:SC:=cT 6 (sR (fI 7 (.bld [.sl true 3 []] [])::sJ 1 2 7::Qid) [2,3] .ret) .skip
def Qie:List Item:=[fB 3 true]
def Qif:List Item:=fI 12 (.bld [.sl true 3 []] [(0,1,.t 11)])::sJ 1 2 12::Qie
def Qig:List Item:=fI 10 (.mkf Qa1 [.t 1])::aJ 11 Qdy [.t 9,.t 10]::Qif
def Qx9:SC:=sR (tJ 8 1 1::aJ 9 Qdn [.t 8]::Qig) [2,3] .ret
def Qya:SC:=.seq (sR (tJ 4 1 1::aJ 5 Qu8 [.t 4]::Qic) [1,2,6] Qx8) Qx9
def Q23:SC:=sR (vJ 1 0::eI 2 (.alloc [.sl true 3 []])::Qib) [1,2] Qya
def Qgj:List RS:=[.cell 2 1 true,.tmp 3]
theorem Q2h:mFn prog Qcp 1 13 Q23 Qgj=true:=by kernel_rfl
def Qfd:List Item:=[sJ 3 3 9]
def Qpk:SC:=sR (fJ 4 0 1::lJ 5 4::mJ 6 0::iJ 7 3 5 6::tJ 8 3 7::aJ 9 Qm0 [.t 8]::Qfd) [3] .ret
def Qv3:SC:=sR [eI 3 (.alloc [.str [],.sl true 1 [],.sl true 5 []])] [0,1,3] Qpk
def Qhx:List RS:=[.cell 3 3 true]
theorem Qvm:mFn prog Qa1 2 10 Qv3 Qhx=true:=by kernel_rfl
def Ql5:List Item:=[mJ 6 8,fI 9 (.ext (.t 6) 0),fI 10 (.ext (.t 6) 1),fI 11 (.ext (.t 6) 2),mJ 3 9,mJ 4 10,mJ 5 11]
def Q6h:SC:=sR [mJ 12 5,mJ 2 12] [2] .ret
def Q6i:SC:=sR (tJ 7 4 1::aJ 8 Qgw [.t 7,kI 6]::Ql5) [5] Q6h
def Qad7:SC:=sR [vJ 1 0,fB 2 false] [1] Q6i
def Qxb:List RS:=[.tmp 2]
theorem Qad2:mFn prog Qjl 1 13 Qad7 Qxb=true:=by kernel_rfl
def Q48:List Item:=[mJ 4 8]
def Qaow:SC:=sR (fJ 5 0 2::lJ 6 5::fI 7 (.mkf Qeq [.t 3])::aJ 8 Qe0 [.t 6,.t 7]::Q48) [4] .ret
def Qaza:SC:=sR [vJ 2 0,vJ 3 1,zJ 4 0] [2,3] Qaow
def Qale:List RS:=[.tmp 4]
theorem Qaye:mFn prog Qln 2 9 Qaza Qale=true:=by kernel_rfl
def Qad8:SC:=sR [fJ 4 0 2,lJ 5 4,lJ 6 1,bJ 7 .eql 5 6,mJ 3 7] [3] .ret
def Qaln:SC:=sR [vJ 2 0,fB 3 false] [1,2] Qad8
def Q4y:List RS:=[.tmp 3]
theorem Qakm:mFn prog Qeq 2 8 Qaln Q4y=true:=by kernel_rfl
def Qg1:List Item:=[gT 15 11 (.not (.t 14)),pF 16 11 15,mJ 2 16]
def Qg2:List Item:=gT 9 6 (.bin 0 .lss (.t 8) (kI 0))::pF 10 6 9::mJ 11 10::gT 12 11 (.aslg 9 Qe6 Qe6)::gTm 13 11 0::.e (some 14) (some (11,true)) (.call Qc2 [.t 12,.t 13])::Qg1
def Qlg:List Item:=mJ 6 5::gTm 7 6 0::.e (some 8) (some (6,true)) (.call Qdf [.t 7,.k (.c (.fn Qb4 []))])::Qg2
def Qaip:SC:=sR (mJ 3 0::fI 4 (.lens (.t 3))::aJ 5 Qd9 [.t 4,kI 1,kI 4]::Qlg) [2] .ret
def Qaox:SC:=sR [fB 2 false] [0] Qaip
def Qx1:List RS:=[.tmp 2]
theorem Qaoi:mFn prog Qcw 1 17 Qaox Qx1=true:=by kernel_rfl
def Q6j:SC:=sR [mJ 3 0,fI 4 (.bin 0 .lss (.t 3) (.k (.c (.int .i32 97)))),mJ 5 4,gFm 6 5 0,gF 7 5 (.bin 0 .gtr (.t 6) (.k (.c (.int .i32 122)))),pT 8 5 7,mJ 2 8] [2] .ret
def Qad9:SC:=sR [fB 2 false] [0] Q6j
def Qxc:List RS:=[.tmp 2]
theorem Qad3:mFn prog Qb4 1 9 Qad9 Qxc=true:=by kernel_rfl
def Qoh:List Item:=[oJ 5 4]
def Q9p:SC:=cT 5 (sR [fI 2 (.mv (.k (.c (.sl true 1 []))))] [2] .ret) .skip
def Qoi:List Item:=[mJ 2 12]
def Q9q:SC:=sR (fJ 6 0 1::lJ 7 6::nJ 8 7::cJ 9 .sub 8 1::fI 10 (.bsl 1 [.t 9])::fI 11 (.mkf Qb5 [.t 1])::aJ 12 Qm1 [.t 10,.t 11]::Qoi) [2] .ret
def Q9r:SC:=.seq (sR (tJ 3 1 1::aJ 4 Qu8 [.t 3]::Qoh) [1,5] Q9p) Q9q
def Qaiq:SC:=sR [vJ 1 0,fI 2 (.mv (.k (.c (.sl true 1 []))))] [1] Q9r
def Qm9:List RS:=[.tmp 2]
theorem Qah6:mFn prog Qdn 1 13 Qaiq Qm9=true:=by kernel_rfl
def Qjz:List Item:=[mJ 3 6]
def Q1e:SC:=sR (tJ 4 1 1::mJ 5 0::aJ 6 Qmz [.t 4,.t 5]::Qjz) [3] .ret
def Q6k:SC:=sR [fI 3 (.mv (.k (.c (.sl true 1 []))))] [0,1] Q1e
def Qog:List RS:=[.tmp 3]
theorem Q6f:mFn prog Qb5 2 7 Q6k Qog=true:=by kernel_rfl
def Qii:List Item:=[oJ 11 10]
def Qyb:SC:=cT 11 (sR [fB 2 false] [2] .ret) .skip
def Qij:List Item:=[sJ 3 4 18]
def Qba:List Item:=[gF 38 34 (.not (.t 37)),pT 39 34 38]
def Qbb:List Item:=pT 33 29 32::mJ 34 33::gFf 35 34 2 4::gFl 36 34 35::.e (some 37) (some (34,false)) (.call Qet [.t 36,kI 1])::Qba
def Qb2:List Item:=oJ 22 21::mJ 23 22::gFf 24 23 1 4::gFl 25 23 24::gF 26 23 (.len (.t 25))::gF 27 23 (.bin 0 .gtr (.t 26) (kI 3))::pT 28 23 27::mJ 29 28::gFf 30 29 1 4::gFl 31 29 30::.e (some 32) (some (29,false)) (.call Qbx [.t 31,.k (.c (.fn Qcx []))])::Qbb
def Qj0:SC:=cT 39 (sR [fB 2 false] [2] .ret) .skip
def Qyc:SC:=sR (fJ 19 0 4::lJ 20 19::aJ 21 Qcw [.t 20]::Qb2) [1,13,14,15,39] Qj0
def Qj1:SC:=.reg [cJ 40 .add 15 1,mJ 15 40] [1,13,14,15]
def Qyd:SC:=.seq (.block 1 (sR (iJ 17 3 13 15::tJ 18 3 17::eI 4 (.alloc [.str [],.sl true 1 [],.sl true 5 []])::Qij) [1,4,13,14,15] Qyc)) Qj1
def Qr0:SC:=sR [bJ 16 .lss 15 14] [1,13,14,15,16] (cX 16 0 Qyd)
def Qha:List Item:=[mJ 41 43,fI 44 (.ext (.t 41) 0),fI 45 (.ext (.t 41) 1),mJ 5 44,mJ 6 45]
def Qv4:SC:=sR [mJ 46 5,cJ 47 .leq 46 40,mJ 2 47] [2] .ret
def Qih:SC:=sR (tJ 42 1 1::aJ 43 Qm3 [.t 42]::Qha) [5] Qv4
def Qv5:SC:=.seq (sR [fJ 12 0 1,lJ 13 12,nJ 14 13,zJ 15 0] [1,13,14,15] (bL 0 Qr0)) Qih
def Qv6:SC:=.seq (sR (fJ 7 0 1::lJ 8 7::nJ 9 8::aJ 10 Qd9 [.t 9,kI 1,kI 4]::Qii) [1,11] Qyb) Qv5
def Q24:SC:=sR [vJ 1 0,fB 2 false] [1] Qv6
def Qdc:List RS:=[.tmp 2]
theorem Q2i:mFn prog Qer 1 48 Q24 Qdc=true:=by kernel_rfl
def Qfe:List Item:=[oJ 5 4,mJ 2 5]
def Qpl:SC:=sR (mJ 3 0::aJ 4 Qcw [.t 3]::Qfe) [2] .ret
def Qv7:SC:=sR [fB 2 false] [0] Qpl
def Qhy:List RS:=[.tmp 2]
theorem Qvn:mFn prog Qcx 1 6 Qv7 Qhy=true:=by kernel_rfl
def Qoj:List Item:=[pF 30 24 29,mJ 4 30]
def Q9s:SC:=sR (fJ 5 0 2::lJ 6 5::fJ 7 0 3::lJ 8 7::bJ 9 .eql 6 8::mJ 10 9::gTf 11 10 1 2::gTl 12 10 11::gTf 13 10 1 3::gTl 14 10 13::gT 15 10 (.bin 0 .eql (.t 12) (.t 14))::pF 16 10 15::mJ 17 16::gTf 18 17 2 2::gTl 19 17 18::gTf 20 17 2 3::gTl 21 17 20::gT 22 17 (.bin 0 .eql (.t 19) (.t 21))::pF 23 17 22::mJ 24 23::gTf 25 24 3 2::gTl 26 24 25::gTf 27 24 3 3::gTl 28 24 27::.e (some 29) (some (24,true)) (.call Qb1 [.t 26,.t 28,.k (.c (.fn Qgv []))])::Qoj) [4] .ret
def Qair:SC:=sR [vJ 2 0,vJ 3 1,fB 4 false] [2,3] Q9s
def Q09:List RS:=[.tmp 4]
theorem Qah7:mFn prog Qgv 2 31 Qair Q09=true:=by kernel_rfl
def Qik:List Item:=[mJ 4 9]
def Qye:SC:=sR (fJ 5 0 2::lJ 6 5::fJ 7 0 3::lJ 8 7::eI 9 (.call Qey [.t 6,.t 8,.k (.c (.fn Qcy []))])::Qik) [4] .ret
def Q25:SC:=sR [vJ 2 0,vJ 3 1,fB 4 false] [2,3] Qye
def Qlz:List RS:=[.tmp 4]
theorem Q2j:mFn prog Qes 2 10 Q25 Qlz=true:=by kernel_rfl
def Qff:List Item:=[pF 23 17 22,mJ 4 23]
def Qfg:List Item:=pF 16 10 15::mJ 17 16::gTf 18 17 2 2::gTl 19 17 18::gTf 20 17 2 3::gTl 21 17 20::.e (some 22) (some (17,true)) (.call Qa7 [.t 19,.t 21,.k (.c (.fn Qdo []))])::Qff
def Qpm:SC:=sR (fJ 5 0 2::lJ 6 5::fJ 7 0 3::lJ 8 7::bJ 9 .eql 6 8::mJ 10 9::gTf 11 10 1 2::gTl 12 10 11::gTf 13 10 1 3::gTl 14 10 13::.e (some 15) (some (10,true)) (.call Qez [.t 12,.t 14])::Qfg) [4] .ret
def Qv8:SC:=sR [vJ 2 0,vJ 3 1,fB 4 false] [2,3] Qpm
def Qhz:List RS:=[.tmp 4]
theorem Qvo:mFn prog Qcy 2 24 Qv8 Qhz=true:=by kernel_rfl
def Q9t:SC:=cT 7 .skip (.reg [cJ 9 .eql 6 2,mJ 7 9] [6,7])
def Q9u:SC:=cT 10 .skip (.reg [cJ 13 .eql 6 8,mJ 10 13] [6,10])
def Q9v:SC:=cT 10 .skip (sR [cJ 12 .eql 6 7,mJ 10 12] [6,10] Q9u)
def Q9w:SC:=cT 18 (sR [zJ 2 1,fB 3 false,fB 4 true,fB 5 false] [2,3,4,5] .ret) .skip
def Q9x:SC:=cT 16 (sR [zJ 2 1,fB 3 false,fB 4 true,fB 5 true] [2,3,4,5] .ret) (sR [cJ 19 .eql 6 6,mJ 18 19] [18] Q9w)
def Q9y:SC:=cT 14 (sR [zJ 2 2,fB 3 false,fB 4 false,fB 5 false] [2,3,4,5] .ret) (sR [cJ 17 .eql 6 5,mJ 16 17] [6,16] Q9x)
def Qr1:SC:=cT 10 (sR [zJ 2 1,fB 3 false,fB 4 false,fB 5 false] [2,3,4,5] .ret) (sR [cJ 15 .eql 6 4,mJ 14 15] [6,14] Q9y)
def Qr2:SC:=cT 7 (sR [zJ 2 1,fB 3 true,fB 4 false,fB 5 false] [2,3,4,5] .ret) (.seq (sR [cJ 11 .eql 6 3,mJ 10 11] [6,10] Q9v) Qr1)
def Q9z:SC:=.block 0 (.seq (sR [cJ 8 .eql 6 1,mJ 7 8] [6,7] Q9t) Qr2)
def Qj2:SC:=sR [zJ 2 (-1),fB 3 false,fB 4 false,fB 5 false] [2,3,4,5] .ret
def Q6l:SC:=.seq (sR [mJ 6 0] [6] Q9z) Qj2
def Qais:SC:=sR [zJ 2 0,fB 3 false,fB 4 false,fB 5 false] [0] Q6l
def Qe8:List RS:=[.tmp 2,.tmp 3,.tmp 4,.tmp 5]
theorem Qah8:mFn prog Qk7 1 20 Qais Qe8=true:=by kernel_rfl
def Qr3:List Item:=[oJ 8 7,mJ 4 8]
def Qaea:SC:=sR (mJ 5 0::fI 6 (.mkf Qof [.t 3])::aJ 7 Qcd [.t 5,.t 6]::Qr3) [4] .ret
def Qalo:SC:=sR [vJ 3 1,fB 4 false] [0,3] Qaea
def Q4z:List RS:=[.tmp 4]
theorem Qakn:mFn prog Qet 2 9 Qalo Q4z=true:=by kernel_rfl
def Qkx:List Item:=[oJ 7 6,mJ 3 7]
def Q26:SC:=sR (tJ 4 5 2::lJ 5 1::aJ 6 Qra [.t 4,.t 5]::Qkx) [3] .ret
def Q90:SC:=sR [vJ 2 0,fB 3 false] [1,2] Q26
def Qrq:List RS:=[.tmp 3]
theorem Q8x:mFn prog Qof 2 8 Q90 Qrq=true:=by kernel_rfl
def Qr4:List Item:=[mJ 4 17]
def Qaeb:SC:=sR (lJ 16 5::aJ 17 Qm7 [.t 16]::Qr4) [4] .ret
def Qaec:SC:=sR [lJ 14 5,aJ 15 Qlp [.t 14]] [5] Qaeb
def Qaed:SC:=sR [fJ 6 0 2,lJ 7 6,mJ 8 1,iJ 9 3 7 8,fJ 10 2 9,lJ 11 10,fI 12 (.mkf Qcg [.t 5,.t 2]),aJ 13 Qdz [.t 11,kI 1,.t 12]] [5] Qaec
def Qaee:SC:=sR [eI 5 (.alloc [.sl true 1 []])] [1,2,5] Qaed
def Qalp:SC:=sR [vJ 2 0,fI 4 (.mv (.k (.c (.sl true 1 []))))] [1,2] Qaee
def Q40:List RS:=[.tmp 4]
theorem Qako:mFn prog Qmz 2 18 Qalp Q40=true:=by kernel_rfl
def Qky:List Item:=[sJ 4 7 14]
def Q27:SC:=.reg [tJ 15 4 7,fI 16 (.mkf Qbg [.t 2,.t 3]),aJ 17 Qgd [.t 15,.t 16]] [2,3,9,10,11]
def Q28:SC:=.reg [cJ 18 .add 11 1,mJ 11 18] [2,3,9,10,11]
def Q29:SC:=.seq (.block 1 (sR (iJ 13 4 9 11::tJ 14 4 13::eI 7 (.alloc [.int .i64 0,.int .i64 0,.str [],.sl true 4 []])::Qky) [2,3,7,9,10,11] Q27)) Q28
def Q1g:SC:=sR [bJ 12 .lss 11 10] [2,3,9,10,11,12] (cX 12 0 Q29)
def Q3a:SC:=sR [fJ 8 2 4,lJ 9 8,nJ 10 9,zJ 11 0] [2,3,9,10,11] (bL 0 Q1g)
def Q91:SC:=sR [vJ 4 0] [2,3,4] Q3a
def Qrr:List RS:=[]
theorem Q8y:mFn prog Qcg 4 19 Q91 Qrr=true:=by kernel_rfl
def Qhb:List Item:=[sJ 1 1 13]
def Qhc:List Item:=hJ 7 1::fI 12 (.bsl 1 [.t 11])::xJ 13 1 7 12::Qhb
def Qv9:SC:=cT 6 (.dreg 8 [0,1,2,3,4,0,5,6,7] ( lJ 7 1::tJ 8 1 2::fJ 9 2 3::lJ 10 9::aJ 11 Qln [.t 8,.t 10]::Qhc) []) .skip
def Qwa:SC:=sR [fJ 4 0 3,lJ 5 4,cJ 6 .eql 5 13] [1,2,3,6] Qv9
def Q1f:SC:=sR [vJ 3 0] [1,2,3] Qwa
def Qe9:List RS:=[]
theorem Q03:mFn prog Qbg 3 14 Q1f Qe9=true:=by kernel_rfl
def Qhf:List Item:=[sJ 5 7 19]
def Qhg:List Item:=[sJ 4 9 26]
def Qwb:SC:=.reg [mJ 27 0,tJ 28 4 9,mJ 29 2,aJ 30 Qeu [.t 27,.t 28,.t 29]] [0,2,7,14,15,16,21,22,23]
def Qwc:SC:=.reg [cJ 31 .add 23 1,mJ 23 31] [0,2,7,14,15,16,21,22,23]
def Qwd:SC:=.seq (.block 3 (sR (iJ 25 4 21 23::tJ 26 4 25::eI 9 (.alloc [.int .i64 0,.int .i64 0,.str [],.sl true 4 []])::Qhg) [0,2,7,9,14,15,16,21,22,23] Qwb)) Qwc
def Qsd:SC:=sR [bJ 24 .lss 23 22] [0,2,7,14,15,16,21,22,23,24] (cX 24 2 Qwd)
def Qwe:SC:=cT 46 (.reg [mJ 47 0,aJ 48 Qai [.t 47,kI 2]] [0,2,7,14,15,16]) .skip
def Qwf:SC:=sR [mJ 46 11] [0,2,7,14,15,16,46] Qwe
def Qil:SC:=.dreg 7 [0,1,2,3,4,5,6] ( mJ 49 2::kJ 50 49::fJ 51 0 50::lJ 52 51::fJ 53 1 7::lJ 54 53::.e none none (.upd 1 (.t 52) (.t 54) (kI 0))::[]) [0,2,7,14,15,16]
def Qhh:List Item:=[mJ 57 61,fI 62 (.ext (.t 57) 0),fI 63 (.ext (.t 57) 1),mJ 12 62,mJ 13 63]
def Qr5:SC:=cT 65 (.reg [mJ 66 0,aJ 67 Qai [.t 66,kI 3]] [0,2,7,14,15,16]) .skip
def Qr6:SC:=sR [mJ 64 13,oJ 65 64] [0,2,7,14,15,16,65] Qr5
def Qr7:SC:=cT 55 (sR (mJ 58 2::fJ 59 1 7::lJ 60 59::aJ 61 Qdw [.t 58,.t 60]::Qhh) [0,2,7,13,14,15,16] Qr6) .skip
def Qr8:SC:=cT 34 (.seq (.seq (.dreg 12 [0,1,2,3,4,5,6,7,8,9,10,11] ( mJ 37 2::kJ 38 37::fJ 39 0 38::lJ 40 39::fJ 41 1 7::lJ 42 41::fI 43 (.lup2 1 (.c (.int .i64 0)) (.t 40) (.t 42))::mJ 36 43::fI 44 (.ext (.t 36) 0)::fI 45 (.ext (.t 36) 1)::mJ 10 44::mJ 11 45::[]) [0,2,7,11,14,15,16]) Qwf) Qil) (sR [cJ 56 .eql 33 2,mJ 55 56] [0,2,7,14,15,16,55] Qr7)
def Qr9:SC:=.block 4 (sR [cJ 35 .eql 33 1,mJ 34 35] [0,2,7,14,15,16,33,34] Qr8)
def Qfv:List Item:=[hJ 78 77,aJ 81 Qbh [.t 76,.t 78,.t 80]]
def Qfw:List Item:=[hJ 84 83,aJ 87 Qbh [.t 82,.t 84,.t 86]]
def Qsa:SC:=.dreg 6 [0,1,2,3,4,2,5] ( mJ 82 0::fJ 83 4 7::lJ 84 83::mJ 85 2::aJ 86 Qch [.t 85]::Qfw) [0,2,14,15,16]
def Qsb:SC:=cT 75 (.seq (.dreg 6 [0,1,2,3,4,2,5] ( mJ 76 0::fJ 77 3 7::lJ 78 77::mJ 79 2::aJ 80 Qch [.t 79]::Qfv) [0,2,7,14,15,16]) Qsa) .skip
def Qc6:SC:=sR [fJ 68 0 7,lJ 69 68,cJ 70 .eql 69 5,mJ 71 70,gFf 72 71 0 7,gFl 73 71 72,gF 74 71 (.bin 0 .eql (.t 73) (kI 6)),pT 75 71 74] [0,2,7,14,15,16,75] Qsb
def Qc7:SC:=.seq (sR [fJ 32 0 7,lJ 33 32] [0,2,7,14,15,16,33] Qr9) Qc6
def Qhd:SC:=.seq (sR [fJ 20 2 7,lJ 21 20,nJ 22 21,zJ 23 0] [0,2,7,14,15,16,21,22,23] (bL 2 Qsd)) Qc7
def Qhe:SC:=.reg [cJ 88 .add 16 1,mJ 16 88] [0,2,14,15,16]
def Qsc:SC:=.seq (.block 1 (sR (iJ 18 5 14 16::tJ 19 5 18::eI 7 (.alloc [.int .i64 0,.str [],.sl true 4 [],.sl true 5 [],.sl true 5 []])::Qhf) [0,2,7,14,15,16] Qhd)) Qhe
def Qpn:SC:=sR [bJ 17 .lss 16 15] [0,2,14,15,16,17] (cX 17 0 Qsc)
def Q1h:SC:=sR [mJ 14 1,nJ 15 14,zJ 16 0] [0,2,14,15,16] (bL 0 Qpn)
def Qfa:List RS:=[]
theorem Q04:mFn prog Qbh 3 89 Q1h Qfa=true:=by kernel_rfl
def Qyf:SC:=.reg [tJ 6 4 4,fI 7 (.mkf Qbq [.t 5,.t 3]),aJ 8 Qgd [.t 6,.t 7]] []
def Q3b:SC:=sR [vJ 3 0,vJ 4 1,vJ 5 2] [3,4,5] Qyf
def Ql0:List RS:=[]
theorem Q2k:mFn prog Qeu 3 9 Q3b Ql0=true:=by kernel_rfl
def Qfh:List Item:=[mJ 11 15,fI 16 (.ext (.t 11) 0),fI 17 (.ext (.t 11) 1),mJ 4 16,mJ 5 17]
def Qpo:SC:=cT 19 (.reg [lJ 20 2,aJ 21 Qai [.t 20,kI 3]] []) .skip
def Qpp:SC:=sR [mJ 18 5,oJ 19 18] [2,19] Qpo
def Qfi:List Item:=[mJ 6 37]
def Qpq:SC:=cT 55 (.reg [lJ 56 2,aJ 57 Qai [.t 56,kI 5]] []) .skip
def Qpr:SC:=cT 39 (.reg [lJ 40 2,aJ 41 Qai [.t 40,kI 4]] []) (.seq (.dreg 14 [0,1,2,3,4,5,6,7,8,9,10,11,12,13] ( lJ 42 2::kJ 43 42::fJ 44 0 43::fJ 45 0 44::lJ 46 45::mJ 47 6::iJ 48 3 46 47::fJ 49 1 48::lJ 50 49::nJ 51 50::fJ 52 3 3::lJ 53 52::nJ 54 53::bJ 55 .neq 51 54::[]) [2,55]) Qpq)
def Qps:SC:=sR [mJ 38 6,cJ 39 .lss 38 0] [2,3,6,39] Qpr
def Qpt:SC:=cT 22 (.seq (.dreg 15 [0,1,2,3,4,5,6,7,8,9,10,11,12,13,14] ( lJ 24 2::kJ 25 24::fJ 26 0 25::fJ 27 0 26::lJ 28 27::lJ 29 2::kJ 30 29::fJ 31 1 30::lJ 32 31::fI 33 (.sli 3 (.t 28) none (some (.t 32)))::fI 34 (.bld [.sl true 3 []] [(0,1,.t 33)])::fJ 35 2 3::lJ 36 35::aJ 37 Qln [.t 34,.t 36]::Qfi) [2,3,6]) Qps) .skip
def Qpu:SC:=cT 9 (sR (lJ 12 1::fJ 13 2 3::lJ 14 13::aJ 15 Qdw [.t 12,.t 14]::Qfh) [2,5] Qpp) (sR [cJ 23 .eql 8 13,mJ 22 23] [2,3,22] Qpt)
def Qpv:SC:=.block 0 (sR [cJ 10 .eql 8 2,mJ 9 10] [1,2,3,8,9] Qpu)
def Qnk:SC:=sR [fJ 7 0 3,lJ 8 7] [1,2,3,8] Qpv
def Qwg:SC:=sR [vJ 3 0] [1,2,3] Qnk
def Qdh:List RS:=[]
theorem Qvp:mFn prog Qbq 3 58 Qwg Qdh=true:=by kernel_rfl
def Qyg:SC:=cT 8 (.reg [mJ 9 0,mJ 10 1,kJ 11 9,fJ 12 2 11,sJ 1 12 10] []) .skip
def Q3c:SC:=sR [mJ 4 0,kJ 5 4,fJ 6 2 5,lJ 7 6,cJ 8 .eql 7 0] [0,1,8] Qyg
def Qgk:List RS:=[]
theorem Q2l:mFn prog Qai 2 13 Q3c Qgk=true:=by kernel_rfl
def Ql6:List Item:=[eI 2 (.alloc [.int .i64 0,.int .i64 0,.str [],.sl true 4 []])]
def Ql7:List Item:=[fJ 6 3 1,sJ 1 6 5]
def Q6m:SC:=sR [tJ 7 4 1,sJ 4 2 7] [2] .ret
def Q6n:SC:=sR (fJ 3 3 1::lJ 4 3::eI 5 (.call Qbj [.t 4,.k (.c (.fn Qev []))])::Ql7) [1,2] Q6m
def Qaef:SC:=sR (eI 1 (.boxm (.t 0))::Ql6) [1,2] Q6n
def Qxd:List RS:=[.cell 2 4 true]
theorem Qad4:mFn prog Qev 1 8 Qaef Qxd=true:=by kernel_rfl
def Qse:List Item:=[eI 2 (.alloc [.str [],.sl true 1 [],.sl true 5 []])]
def Qsf:List Item:=[fJ 6 1 1,sJ 1 6 5]
def Qsg:List Item:=[fJ 10 2 1,sJ 1 10 9]
def Qaeg:SC:=sR [tJ 11 3 1,sJ 3 2 11] [2] .ret
def Qaeh:SC:=sR (fJ 7 2 1::lJ 8 7::eI 9 (.call Qat [.t 8,.k (.c (.fn Qcz []))])::Qsg) [1,2] Qaeg
def Qaei:SC:=sR (fJ 3 1 1::lJ 4 3::aJ 5 Qex [.t 4]::Qsf) [1,2] Qaeh
def Qalq:SC:=sR (eI 1 (.boxm (.t 0))::Qse) [1,2] Qaei
def Q41:List RS:=[.cell 2 3 true]
theorem Qakp:mFn prog Qm0 1 12 Qalq Q41=true:=by kernel_rfl
def Ql8:List Item:=[eI 2 (.alloc [.int .i64 0,.str [],.sl true 4 [],.sl true 5 [],.sl true 5 []])]
def Ql9:List Item:=[fJ 6 2 1,sJ 1 6 5]
def Qma:List Item:=[fJ 10 3 1,sJ 1 10 9]
def Qmb:List Item:=[fJ 14 4 1,sJ 1 14 13]
def Q6o:SC:=sR [tJ 15 5 1,sJ 5 2 15] [2] .ret
def Q6p:SC:=sR (fJ 11 4 1::lJ 12 11::eI 13 (.call Qat [.t 12,.k (.c (.fn Qcz []))])::Qmb) [1,2] Q6o
def Q6q:SC:=sR (fJ 7 3 1::lJ 8 7::eI 9 (.call Qat [.t 8,.k (.c (.fn Qcz []))])::Qma) [1,2] Q6p
def Q6r:SC:=sR (fJ 3 2 1::lJ 4 3::eI 5 (.call Qbj [.t 4,.k (.c (.fn Qev []))])::Ql9) [1,2] Q6q
def Qaej:SC:=sR (eI 1 (.boxm (.t 0))::Ql8) [1,2] Q6r
def Qxe:List RS:=[.cell 2 5 true]
theorem Qad5:mFn prog Qcz 1 16 Qaej Qxe=true:=by kernel_rfl
def Qom:List Item:=[oJ 23 22,mJ 24 23,gFf 25 24 2 2,gFl 26 24 25,gF 27 24 (.bin 0 .neq (.t 26) (.k (.c (.str [])))),pT 28 24 27]
def Q96:SC:=cT 28 (sR [zJ 4 0,zJ 5 0,fB 6 false] [4,5,6] .ret) .skip
def Qon:List Item:=[oJ 36 35,mJ 37 36,gFf 38 37 1 2,gFl 39 37 38,gF 40 37 (.bin 0 .neq (.t 39) (kI 0)),pT 41 37 40]
def Q97:SC:=cT 41 (sR [zJ 4 0,zJ 5 0,fB 6 false] [4,5,6] .ret) .skip
def Qoo:List Item:=[oJ 49 48,mJ 50 49,gFf 51 50 1 2,gFl 52 50 51,gF 53 50 (.bin 0 .neq (.t 52) (kI 0)),pT 54 50 53]
def Q98:SC:=cT 54 (sR [zJ 4 0,zJ 5 0,fB 6 false] [4,5,6] .ret) .skip
def Q99:SC:=sR (fJ 46 2 2::lJ 47 46::aJ 48 Qcw [.t 47]::Qoo) [1,2,7,8,54] Q98
def Qaaa:SC:=cT 62 (.reg [zJ 7 1,zJ 8 1] [1,2,7,8]) (sR [zJ 4 0,zJ 5 0,fB 6 false] [4,5,6] .ret)
def Qaab:SC:=cT 55 (.reg [zJ 7 2,zJ 8 2] [1,2,7,8]) (sR [fJ 63 0 2,lJ 64 63,cJ 65 .eql 64 11,mJ 66 65,gFf 67 66 0 2,gFl 68 66 67,gF 69 66 (.bin 0 .eql (.t 68) (kI 12)),pT 70 66 69,mJ 62 70] [1,2,62] Qaaa)
def Qaac:SC:=cT 42 (sR [zJ 8 3] [1,2,7,8] Q99) (sR [fI 56 (.ldo Qau Qau),fJ 57 0 2,lJ 58 57,fI 59 (.lup 0 (.ag [.str [],.int .i64 0]) (.t 56) (.t 58)),fI 60 (.fld 1 1 false (.t 59)),cJ 61 .gtr 60 0,mJ 55 61] [1,2,55] Qaab)
def Q6s:SC:=cT 29 (sR (fJ 33 2 2::lJ 34 33::aJ 35 Qcw [.t 34]::Qon) [1,2,7,8,41] Q97) (sR [fJ 43 0 2,lJ 44 43,cJ 45 .eql 44 13,mJ 42 45] [1,2,7,42] Qaac)
def Qok:SC:=cT 16 (sR (fJ 20 1 2::lJ 21 20::aJ 22 Qq9 [.t 21]::Qom) [1,2,7,8,28] Q96) (sR [fJ 30 0 2,lJ 31 30,cJ 32 .eql 31 2,mJ 29 32] [1,2,7,8,29] Q6s)
def Qgq:List Item:=[gF 92 85 (.not (.t 91)),pT 93 85 92,mJ 94 93,gFm 95 94 1,gF 96 94 (.bin 0 .lss (.t 95) (kI 1)),pT 97 94 96]
def Qmc:List Item:=cJ 74 .lss 73 6::mJ 75 74::gTf 76 75 1 2::gTl 77 75 76::gT 78 75 (.bin 0 .neq (.t 77) (kI 0))::gTm 79 75 78::gFf 80 79 2 2::gFl 81 79 80::gF 82 79 (.bin 0 .neq (.t 81) (.k (.c (.str []))))::gT 83 75 (.pick (.t 79) (.k (.c (.bool true))) (.t 82))::pF 84 75 83::mJ 85 84::gFf 86 85 3 2::gFl 87 85 86::gF 88 85 (.len (.t 87))::gFm 89 85 7::gFm 90 85 8::.e (some 91) (some (85,false)) (.call Qd9 [.t 88,.t 89,.t 90])::Qgq
def s_im_exprSize_14:SC:=cT 97 (sR [zJ 4 0,zJ 5 0,fB 6 false] [4,5,6] .ret) .skip
def Qmd:List Item:=[sJ 4 12 104]
def Qme:List Item:=[mJ 105 109,fI 110 (.ext (.t 105) 0),fI 111 (.ext (.t 105) 1),fI 112 (.ext (.t 105) 2),mJ 13 110,mJ 14 111,mJ 15 112]
def Q6t:SC:=cT 114 (sR [zJ 4 0,zJ 5 0,fB 6 false] [4,5,6] .ret) .skip
def Q6u:SC:=.reg [mJ 118 10,mJ 119 14,cJ 120 .add 119 1,fI 121 (.mx (.t 118) (.t 120)),mJ 10 121] [1,9,10,99,100,101]
def Q6v:SC:=sR [mJ 115 9,mJ 116 13,bJ 117 .add 115 116,mJ 9 117] [1,9,10,14,99,100,101] Q6u
def Q6w:SC:=.seq (sR [mJ 113 15,oJ 114 113] [1,9,10,13,14,99,100,101,114] Q6t) Q6v
def Q6x:SC:=sR (tJ 106 4 12::mJ 107 1::cJ 108 .sub 107 1::aJ 109 Qgw [.t 106,.t 108]::Qme) [1,9,10,13,14,15,99,100,101] Q6w
def Q6y:SC:=.reg [cJ 122 .add 101 1,mJ 101 122] [1,9,10,99,100,101]
def Q6z:SC:=.seq (.block 2 (sR (iJ 103 4 99 101::tJ 104 4 103::eI 12 (.alloc [.int .i64 0,.int .i64 0,.str [],.sl true 4 []])::Qmd) [1,9,10,12,99,100,101] Q6x)) Q6y
def Q3i:SC:=sR [bJ 102 .lss 101 100] [1,9,10,99,100,101,102] (cX 102 1 Q6z)
def Q60:SC:=sR [mJ 123 9,mJ 124 10,mJ 125 9,cJ 126 .leq 125 30,mJ 4 123,mJ 5 124,mJ 6 126] [4,5,6] .ret
def Q61:SC:=.seq (sR [fJ 98 3 2,lJ 99 98,nJ 100 99,zJ 101 0] [1,9,10,99,100,101] (bL 1 Q3i)) Q60
def Qol:SC:=sR [zJ 9 1,zJ 10 1] [1,2,9,10] Q61
def Q62:SC:=.seq (sR (fJ 71 0 2::lJ 72 71::aJ 73 Qm2 [.t 72]::Qmc) [1,2,97] s_im_exprSize_14) Qol
def Q63:SC:=.seq (.block 0 (sR [fJ 17 0 2,lJ 18 17,cJ 19 .eql 18 1,mJ 16 19] [1,2,7,8,16] Qok)) Q62
def Q64:SC:=sR [zJ 7 0,zJ 8 0] [1,2,7,8] Q63
def Qait:SC:=sR [vJ 2 0,zJ 4 0,zJ 5 0,fB 6 false] [1,2] Q64
def Qfb:List RS:=[.tmp 4,.tmp 5,.tmp 6]
theorem Qah9:mFn prog Qgw 2 127 Qait Qfb=true:=by kernel_rfl
def Q49:List Item:=[cJ 5 .eql 4 0,mJ 2 5]
def Qaoy:SC:=sR (tJ 3 1 1::aJ 4 Qco [.t 3]::Q49) [2] .ret
def Qazb:SC:=sR [vJ 1 0,fB 2 false] [1] Qaoy
def Qalf:List RS:=[.tmp 2]
theorem Qayf:mFn prog Qu8 1 6 Qazb Qalf=true:=by kernel_rfl
def Qaeq:SC:=cT 13 (sR [zJ 2 5] [2] .ret) .skip
def Qaer:SC:=cT 3 (sR [fI 9 (.ldo Qau Qau),mJ 10 0,fI 11 (.lup 0 (.ag [.str [],.int .i64 0]) (.t 9) (.t 10)),fI 12 (.fld 1 1 false (.t 11)),mJ 2 12] [2] .ret) (sR [mJ 14 0,cJ 15 .eql 14 11,mJ 16 15,gFm 17 16 0,gF 18 16 (.bin 0 .eql (.t 17) (kI 12)),pT 19 16 18,mJ 13 19] [13] Qaeq)
def Qaes:SC:=sR [zJ 2 6] [2] .ret
def Qaet:SC:=.seq (.block 0 (sR [fI 4 (.ldo Qau Qau),mJ 5 0,fI 6 (.lup 0 (.ag [.str [],.int .i64 0]) (.t 4) (.t 5)),fI 7 (.fld 1 1 false (.t 6)),cJ 8 .gtr 7 0,mJ 3 8] [0,3] Qaer)) Qaes
def Qals:SC:=sR [zJ 2 0] [0] Qaet
def Qrs:List RS:=[.tmp 2]
theorem Qakr:mFn prog Qm2 1 20 Qals Qrs=true:=by kernel_rfl
def Qee:List Item:=[sJ 4 7 13]
def Qef:List Item:=[mJ 5 19]
def Qeg:List Item:=fI 18 (.bsl 4 [.t 17])::xJ 19 4 14 18::Qef
def Qnl:SC:=.reg (mJ 14 5::mJ 15 1::tJ 16 4 7::eI 17 (.callv (.t 15) [.t 16])::Qeg) [1,5,8,9,10]
def Qnm:SC:=.reg [cJ 20 .add 10 1,mJ 10 20] [1,5,8,9,10]
def Qnn:SC:=.seq (.block 1 (sR (iJ 12 4 8 10::tJ 13 4 12::eI 7 (.alloc [.int .i64 0,.int .i64 0,.str [],.sl true 4 []])::Qee) [1,5,7,8,9,10] Qnl)) Qnm
def Qmf:SC:=sR [bJ 11 .lss 10 9] [1,5,8,9,10,11] (cX 11 0 Qnn)
def Qno:SC:=sR [mJ 21 5,mJ 4 21] [4] .ret
def Qnp:SC:=.seq (sR [mJ 8 0,nJ 9 8,zJ 10 0] [1,5,8,9,10] (bL 0 Qmf)) Qno
def Qnq:SC:=sR [fI 5 (.mv (.k (.c (.sl true 4 []))))] [0,1,5] Qnp
def Qsk:SC:=sR [fI 4 (.mv (.k (.c (.sl true 4 []))))] [0,1] Qnq
def Qg5:List RS:=[.tmp 4]
theorem Qrh:mFn prog Qbj 2 22 Qsk Qg5=true:=by kernel_rfl
def Qeh:List Item:=[sJ 5 7 13]
def Qei:List Item:=[mJ 5 19]
def Qej:List Item:=fI 18 (.bsl 5 [.t 17])::xJ 19 5 14 18::Qei
def Qnr:SC:=.reg (mJ 14 5::mJ 15 1::tJ 16 5 7::eI 17 (.callv (.t 15) [.t 16])::Qej) [1,5,8,9,10]
def Qns:SC:=.reg [cJ 20 .add 10 1,mJ 10 20] [1,5,8,9,10]
def Qnt:SC:=.seq (.block 1 (sR (iJ 12 5 8 10::tJ 13 5 12::eI 7 (.alloc [.int .i64 0,.str [],.sl true 4 [],.sl true 5 [],.sl true 5 []])::Qeh) [1,5,7,8,9,10] Qnr)) Qns
def Qmg:SC:=sR [bJ 11 .lss 10 9] [1,5,8,9,10,11] (cX 11 0 Qnt)
def Qnu:SC:=sR [mJ 21 5,mJ 4 21] [4] .ret
def Qnv:SC:=.seq (sR [mJ 8 0,nJ 9 8,zJ 10 0] [1,5,8,9,10] (bL 0 Qmg)) Qnu
def Qnw:SC:=sR [fI 5 (.mv (.k (.c (.sl true 5 []))))] [0,1,5] Qnv
def Qsl:SC:=sR [fI 4 (.mv (.k (.c (.sl true 5 []))))] [0,1] Qnw
def Qg6:List RS:=[.tmp 4]
theorem Qri:mFn prog Qat 2 22 Qsl Qg6=true:=by kernel_rfl
def Qhi:List Item:=[mJ 5 19]
def Qhj:List Item:=fI 18 (.bsl 3 [.t 17])::xJ 19 3 14 18::Qhi
def Qwh:SC:=.reg (mJ 14 5::mJ 15 1::mJ 16 7::eI 17 (.callv (.t 15) [.t 16])::Qhj) [1,5,8,9,10]
def Qwi:SC:=.reg [cJ 20 .add 10 1,mJ 10 20] [1,5,8,9,10]
def Qwj:SC:=.seq (.block 1 (sR [iJ 12 1 8 10,lJ 13 12,mJ 7 13] [1,5,7,8,9,10] Qwh)) Qwi
def Qsm:SC:=sR [bJ 11 .lss 10 9] [1,5,8,9,10,11] (cX 11 0 Qwj)
def Qwk:SC:=sR [mJ 21 5,mJ 4 21] [4] .ret
def Qwl:SC:=.seq (sR [mJ 8 0,nJ 9 8,zJ 10 0] [1,5,8,9,10] (bL 0 Qsm)) Qwk
def Qwm:SC:=sR [fI 5 (.mv (.k (.c (.sl true 3 []))))] [0,1,5] Qwl
def Q1j:SC:=sR [fI 4 (.mv (.k (.c (.sl true 3 []))))] [0,1] Qwm
def Qks:List RS:=[.tmp 4]
theorem Q05:mFn prog Qdy 2 22 Q1j Qks=true:=by kernel_rfl
def Qsn:List Item:=[eI 3 (.alloc [.int .i64 0])]
def Qso:List Item:=[sJ 3 5 12]
def Qaeu:SC:=.reg [fJ 13 2 5,lJ 14 13,fI 15 (.mkf Qho [.t 2,.t 3]),aJ 16 Qdz [.t 14,kI 1,.t 15]] [2,3,7,8,9]
def Qaev:SC:=.reg [cJ 17 .add 9 1,mJ 9 17] [2,3,7,8,9]
def Qaew:SC:=.seq (.block 1 (sR (iJ 11 3 7 9::tJ 12 3 11::eI 5 (.alloc [.str [],.sl true 1 [],.sl true 5 []])::Qso) [2,3,5,7,8,9] Qaeu)) Qaev
def Qaae:SC:=sR [bJ 10 .lss 9 8] [2,3,7,8,9,10] (cX 10 0 Qaew)
def Qsp:List Item:=[hJ 19 3,sJ 1 3 19]
def Qaex:SC:=.seq (.dreg 4 [0,1,2,1,3] ( lJ 18 2::lJ 19 3::sJ 1 2 18::Qsp) [2,3]) .ret
def Qaey:SC:=.seq (sR [fJ 6 0 1,lJ 7 6,nJ 8 7,zJ 9 0] [2,3,7,8,9] (bL 0 Qaae)) Qaex
def Qalt:SC:=sR (vJ 1 0::eI 2 (.alloc [.int .i64 0])::Qsn) [1,2,3] Qaey
def Q43:List RS:=[.cell 2 1 false,.cell 3 1 false]
theorem Qaks:mFn prog Qm3 1 20 Qalt Q43=true:=by kernel_rfl
def Q3j:SC:=.reg [lJ 8 3,mJ 9 1,fI 10 (.mx (.t 8) (.t 9)),sJ 1 3 10] []
def Q3k:SC:=sR [lJ 6 2,cJ 7 .add 6 1,sJ 1 2 7] [1,3] Q3j
def Qaad:SC:=sR [vJ 4 0] [1,2,3] Q3k
def Qrt:List RS:=[]
theorem Q80:mFn prog Qho 4 11 Qaad Qrt=true:=by kernel_rfl
def Qnx:List Item:=[sJ 4 5 15]
def Qalu:SC:=.reg [tJ 16 4 5,mJ 17 1,aJ 18 Qgd [.t 16,.t 17]] [1,10,11,12]
def Qalv:SC:=.reg [cJ 19 .add 12 1,mJ 12 19] [1,10,11,12]
def Qalw:SC:=.seq (.block 1 (sR (iJ 14 4 10 12::tJ 15 4 14::eI 5 (.alloc [.int .i64 0,.int .i64 0,.str [],.sl true 4 []])::Qnx) [1,5,10,11,12] Qalu)) Qalv
def Qaiv:SC:=sR [bJ 13 .lss 12 11] [1,10,11,12,13] (cX 13 0 Qalw)
def Qalx:SC:=sR [fJ 9 3 2,lJ 10 9,nJ 11 10,zJ 12 0] [1,10,11,12] (bL 0 Qaiv)
def Qaly:SC:=sR [mJ 6 1,tJ 7 4 2,eI 8 (.callv (.t 6) [.t 7])] [1,2] Qalx
def Qauo:SC:=sR [vJ 2 0] [1,2] Qaly
def Q2z:List RS:=[]
theorem Qags:mFn prog Qgd 2 20 Qauo Q2z=true:=by kernel_rfl
def Qop:List Item:=[pF 37 31 36,mJ 4 37]
def Qoq:List Item:=pF 30 24 29::mJ 31 30::gTf 32 31 4 2::gTl 33 31 32::gTf 34 31 4 3::gTl 35 31 34::.e (some 36) (some (31,true)) (.call Qa7 [.t 33,.t 35,.k (.c (.fn Qdo []))])::Qop
def Qor:List Item:=pF 23 17 22::mJ 24 23::gTf 25 24 3 2::gTl 26 24 25::gTf 27 24 3 3::gTl 28 24 27::.e (some 29) (some (24,true)) (.call Qa7 [.t 26,.t 28,.k (.c (.fn Qdo []))])::Qoq
def Qaaf:SC:=sR (fJ 5 0 2::lJ 6 5::fJ 7 0 3::lJ 8 7::bJ 9 .eql 6 8::mJ 10 9::gTf 11 10 1 2::gTl 12 10 11::gTf 13 10 1 3::gTl 14 10 13::gT 15 10 (.bin 0 .eql (.t 12) (.t 14))::pF 16 10 15::mJ 17 16::gTf 18 17 2 2::gTl 19 17 18::gTf 20 17 2 3::gTl 21 17 20::.e (some 22) (some (17,true)) (.call Qb1 [.t 19,.t 21,.k (.c (.fn Qgv []))])::Qor) [4] .ret
def Qaiw:SC:=sR [vJ 2 0,vJ 3 1,fB 4 false] [2,3] Qaaf
def Q1a:List RS:=[.tmp 4]
theorem Qaia:mFn prog Qdo 2 38 Qaiw Q1a=true:=by kernel_rfl
def Q3l:SC:=cT 23 (sR [mJ 24 6,mJ 4 24,fB 5 true] [4,5] .ret) .skip
def Q3m:SC:=sR [mJ 23 7] [0,1,6,23] Q3l
def Q3n:SC:=.reg [mJ 10 0,kJ 11 10,fJ 12 1 11,lJ 13 12,mJ 0 13] [0,1]
def Q3o:SC:=.seq (.block 1 (sR [mJ 15 0,kJ 16 15,fJ 17 0 16,lJ 18 17,mJ 19 1,fI 20 (.lup2 1 (.c (.int .i64 0)) (.t 18) (.t 19)),mJ 14 20,fI 21 (.ext (.t 14) 0),fI 22 (.ext (.t 14) 1),mJ 6 21,mJ 7 22] [0,1,6,7] Q3m)) Q3n
def Q1k:SC:=.seq (sR [mJ 8 0,fI 9 (.bin 2 .neq (.t 8) (.k (.c .pnil)))] [0,1,9] (cT 9 .skip (.exit 0))) Q3o
def Q3p:SC:=sR [zJ 4 0,fB 5 false] [4,5] .ret
def Qaag:SC:=sR [zJ 4 0,fB 5 false] [0,1] (.seq (bL 0 Q1k) Q3p)
def Qjs:List RS:=[.tmp 4,.tmp 5]
theorem Q81:mFn prog Qdw 2 25 Qaag Qjs=true:=by kernel_rfl
def Qk0:List Item:=[mJ 4 0,fI 5 (.bld [.mnil,.pnil] [(0,1,.t 3),(1,1,.t 4)]),vJ 6 5,mJ 2 6]
def Q3q:SC:=sR (eI 3 (.mkm)::Qk0) [2] .ret
def Qaah:SC:=sR [fI 2 (.mv (.k (.c .pnil)))] [0] Q3q
def Qru:List RS:=[.tmp 2]
theorem Q82:mFn prog Qch 1 7 Qaah Qru=true:=by kernel_rfl
def Qxg:List Item:=[mJ 11 14,fI 15 (.ext (.t 11) 0),fI 16 (.ext (.t 11) 1),fI 17 (.ext (.t 11) 2),fI 18 (.ext (.t 11) 3),mJ 5 15,mJ 6 16,mJ 7 17,mJ 8 18]
def Qlh:List Item:=[gT 32 28 (.not (.t 31)),pF 33 28 32,mJ 19 33]
def Qaix:SC:=cT 19 .skip (.reg [fJ 57 0 2,lJ 58 57,cJ 59 .eql 58 8,mJ 60 59,gTf 61 60 2 2,gTl 62 60 61,gT 63 60 (.iad 4 (.t 62) (kI 0)),gTf 64 60 0 63,gTl 65 60 64,gT 66 60 (.bin 0 .neq (.t 65) (kI 13)),pF 67 60 66,mJ 19 67] [1,2,19])
def Qaiy:SC:=cT 19 .skip (sR [mJ 49 8,oJ 50 49,mJ 51 50,gTf 52 51 4 2,gTl 53 51 52,gT 54 51 (.len (.t 53)),gT 55 51 (.bin 0 .gtr (.t 54) (kI 0)),pF 56 51 55,mJ 19 56] [1,2,19] Qaix)
def Qaiz:SC:=cT 19 .skip (sR [mJ 41 7,oJ 42 41,mJ 43 42,gTf 44 43 3 2,gTl 45 43 44,gT 46 43 (.len (.t 45)),gT 47 43 (.bin 0 .gtr (.t 46) (kI 0)),pF 48 43 47,mJ 19 48] [1,2,8,19] Qaiy)
def Q1l:SC:=cT 19 .skip (sR [mJ 34 6,oJ 35 34,mJ 36 35,gTf 37 36 1 2,gTl 38 36 37,gT 39 36 (.bin 0 .neq (.t 38) (.k (.c (.str [])))),pF 40 36 39,mJ 19 40] [1,2,7,8,19] Qaiz)
def Qai0:SC:=cT 19 .skip (sR (mJ 27 6::mJ 28 27::gTf 29 28 1 2::gTl 30 28 29::.e (some 31) (some (28,true)) (.call Qcw [.t 30])::Qlh) [1,2,6,7,8,19] Q1l)
def Q1m:SC:=cT 19 .skip (sR [fJ 22 2 2,lJ 23 22,nJ 24 23,mJ 25 5,bJ 26 .neq 24 25,mJ 19 26] [1,2,6,7,8,19] Qai0)
def Qai1:SC:=cT 19 (sR [fB 4 false] [4] .ret) .skip
def Qxh:List Item:=[sJ 4 10 74]
def Qsq:List Item:=[oJ 77 76]
def Qaez:SC:=cT 77 (sR [fB 4 false] [4] .ret) .skip
def Qae0:SC:=sR (tJ 75 4 10::aJ 76 Qjl [.t 75]::Qsq) [1,2,69,70,71,77] Qaez
def Qae1:SC:=.reg [cJ 78 .add 71 1,mJ 71 78] [1,2,69,70,71]
def Qae2:SC:=.seq (.block 2 (sR (iJ 73 4 69 71::tJ 74 4 73::eI 10 (.alloc [.int .i64 0,.int .i64 0,.str [],.sl true 4 []])::Qxh) [1,2,10,69,70,71] Qae0)) Qae1
def Qaai:SC:=sR [bJ 72 .lss 71 70] [1,2,69,70,71,72] (cX 72 1 Qae2)
def Qj3:List Item:=[pF 90 84 89,mJ 4 90]
def Qj4:List Item:=mJ 84 83::gTf 85 84 4 2::gTl 86 84 85::gTm 87 84 1::gT 88 84 (.bin 0 .add (.t 87) (kI 1))::.e (some 89) (some (84,true)) (.call Qet [.t 86,.t 88])::Qj3
def Qae3:SC:=sR (fJ 79 3 2::lJ 80 79::mJ 81 1::cJ 82 .add 81 1::aJ 83 Qet [.t 80,.t 82]::Qj4) [4] .ret
def Qae4:SC:=.seq (sR [fJ 68 2 2,lJ 69 68,nJ 70 69,zJ 71 0] [1,2,69,70,71] (bL 1 Qaai)) Qae3
def Qae5:SC:=.seq (.block 0 (.seq (sR [mJ 20 1,cJ 21 .gtr 20 4,mJ 19 21] [1,2,5,6,7,8,19] Q1m) Qai1)) Qae4
def Qae6:SC:=sR (fJ 12 0 2::lJ 13 12::aJ 14 Qk7 [.t 13]::Qxg) [1,2,5,6,7,8] Qae5
def Qao0:SC:=sR [vJ 2 0,fB 4 false] [1,2] Qae6
def Qx2:List RS:=[.tmp 4]
theorem Qaok:mFn prog Qra 2 91 Qao0 Qx2=true:=by kernel_rfl
def Qnz:List Item:=[sJ 5 7 13]
def Qalz:SC:=.reg [fJ 24 4 7,lJ 25 24,mJ 26 1,cJ 27 .add 26 1,mJ 28 2,aJ 29 Qdz [.t 25,.t 27,.t 28]] [1,2,8,9,10]
def Qal0:SC:=sR [fJ 18 3 7,lJ 19 18,mJ 20 1,cJ 21 .add 20 1,mJ 22 2,aJ 23 Qdz [.t 19,.t 21,.t 22]] [1,2,7,8,9,10] Qalz
def Qal1:SC:=sR [mJ 14 2,tJ 15 5 7,mJ 16 1,eI 17 (.callv (.t 14) [.t 15,.t 16])] [1,2,7,8,9,10] Qal0
def Qal2:SC:=.reg [cJ 30 .add 10 1,mJ 10 30] [1,2,8,9,10]
def Qal3:SC:=.seq (.block 1 (sR (iJ 12 5 8 10::tJ 13 5 12::eI 7 (.alloc [.int .i64 0,.str [],.sl true 4 [],.sl true 5 [],.sl true 5 []])::Qnz) [1,2,7,8,9,10] Qal1)) Qal2
def Qai2:SC:=sR [bJ 11 .lss 10 9] [1,2,8,9,10,11] (cX 11 0 Qal3)
def Qaup:SC:=sR [mJ 8 0,nJ 9 8,zJ 10 0] [1,2,8,9,10] (bL 0 Qai2)
def Q20:List RS:=[]
theorem Qagt:mFn prog Qdz 3 31 Qaup Q20=true:=by kernel_rfl
def Qagy:List Item:=[sJ 4 5 11]
def Qagz:List Item:=eI 5 (.alloc [.int .i64 0,.int .i64 0,.str [],.sl true 4 []])::Qagy
def Qag0:List Item:=[cJ 14 .gtr 13 0]
def Qazo:SC:=cT 14 (sR [tJ 15 4 5,sJ 4 4 15] [4] .ret) .skip
def Qag1:List Item:=[sJ 4 6 19]
def Qag2:List Item:=fI 19 (.bld [.int .i64 0,.int .i64 0,.str [],.sl true 4 []] [(0,1,kI 13),(2,1,.t 18)])::eI 6 (.alloc [.int .i64 0,.int .i64 0,.str [],.sl true 4 []])::Qag1
def Qag3:List Item:=[mJ 7 21]
def Qag4:List Item:=[fJ 33 3 6,sJ 1 33 32]
def Qag5:List Item:=hJ 27 26::fI 31 (.bsl 4 [.t 30])::xJ 32 4 27 31::Qag4
def Qazp:SC:=.reg [mJ 24 7,cJ 25 .sub 24 1,mJ 7 25] [0,4,5,6,7]
def Qaus:SC:=.seq (.block 1 (.dreg 9 [0,1,2,3,4,1,5,6,7,8] ( fJ 26 3 6::lJ 27 26::mJ 28 0::fI 29 (.bsl 1 [.k (.c (.str [97])),.k (.c (.str [98]))])::aJ 30 Qc0 [.t 28,.t 29,kI 2]::Qag5) [0,4,5,6,7])) Qazp
def Qao8:SC:=.seq (sR [mJ 22 7,cJ 23 .gtr 22 0] [0,4,5,6,7,23] (cT 23 .skip (.exit 0))) Qaus
def Qaaj:List Item:=[cJ 36 .eql 35 0]
def Qaut:SC:=cT 36 (sR [tJ 37 4 6,sJ 4 4 37] [4] .ret) .skip
def Qauu:SC:=.seq (.seq .gh (.reg [tJ 38 4 5,tJ 39 4 6,fI 40 (.bsl 4 [.t 38,.t 39]),fI 41 (.bld [.int .i64 0,.int .i64 0,.str [],.sl true 4 []] [(0,1,kI 3),(3,1,.t 40)]),sJ 4 4 41] [4])) .ret
def Qauv:SC:=.seq (sR (mJ 34 0::aJ 35 Qt [.t 34,kI 2]::Qaaj) [4,5,6,36] Qaut) Qauu
def Qauw:SC:=.seq (sR (mJ 20 0::aJ 21 Qt [.t 20,kI 4]::Qag3) [0,4,5,6,7] (bL 0 Qao8)) Qauv
def Qaux:SC:=sR (mJ 16 0::fI 17 (.bsl 1 [.k (.c (.str [102])),.k (.c (.str [103])),.k (.c (.str [97]))])::aJ 18 Qav [.t 16,.t 17]::Qag2) [0,4,5,6] Qauw
def Qauy:SC:=.seq (sR (mJ 12 0::aJ 13 Qt [.t 12,kI 3]::Qag0) [0,4,5,14] Qazo) Qaux
def Qauz:SC:=sR (mJ 8 0::fI 9 (.bsl 1 [.k (.c (.str [97])),.k (.c (.str [98])),.k (.c (.str [120])),.k (.c (.str [103,111]))])::mJ 10 1::aJ 11 Qc0 [.t 8,.t 9,.t 10]::Qagz) [0,4,5] Qauy
def Qa58:SC:=sR [eI 4 (.alloc [.int .i64 0,.int .i64 0,.str [],.sl true 4 []])] [0,1,4] Qauz
def Qaik:List RS:=[.cell 4 4 true]
theorem Qa5y:mFn prog Qva 2 42 Qa58 Qaik=true:=by kernel_rfl
def Qaal:List Item:=[sJ 4 3 5]
def Qaam:List Item:=eI 3 (.alloc [.int .i64 0,.int .i64 0,.str [],.sl true 4 []])::Qaal
def Qaan:List Item:=[fJ 13 1 3,sJ 1 13 12]
def Qaao:List Item:=[fJ 19 2 3,sJ 1 19 18]
def Qaap:List Item:=[fJ 25 0 3,sJ 1 25 24]
def Qaaq:List Item:=[fJ 34 3 3,sJ 1 34 33]
def Qaar:List Item:=hJ 29 28::fI 32 (.bsl 4 [.t 31])::xJ 33 4 29 32::Qaaq
def Qaas:List Item:=[sJ 4 3 38]
def Qau0:SC:=cT 35 (.reg (mJ 37 0::aJ 38 Qva [.t 37,kI 7]::Qaas) [2,3]) .skip
def Qau1:SC:=cT 26 (.dreg 8 [0,1,2,3,1,4,5,6,7] ( fJ 28 3 3::lJ 29 28::mJ 30 0::eI 31 (.call Qrc [.t 30,.k (.c (.sl true 1 []))])::Qaar) [2,3]) (sR [cJ 36 .eql 7 4,mJ 35 36] [0,2,3,35] Qau0)
def Qao9:SC:=cT 20 (.reg (mJ 22 0::fI 23 (.bsl 1 [kI 0,kI 14,kI (-1),kI 5,kI 11])::aJ 24 Qag [.t 22,.t 23]::Qaap) [2,3]) (sR [cJ 27 .eql 7 3,mJ 26 27] [0,2,3,7,26] Qau1)
def Qapa:SC:=cT 14 (.reg (mJ 16 0::fI 17 (.bsl 1 [.k (.c (.str [])),.k (.c (.str [100,111])),.k (.c (.str [65])),.k (.c (.str [97,98,99,100,101])),.k (.c (.str [113]))])::aJ 18 Qav [.t 16,.t 17]::Qaao) [2,3]) (sR [cJ 21 .eql 7 2,mJ 20 21] [0,2,3,7,20] Qao9)
def Qapb:SC:=cT 8 (.reg (mJ 10 0::fI 11 (.bsl 1 [kI (-1),kI 256,kI 3])::aJ 12 Qag [.t 10,.t 11]::Qaan) [2,3]) (sR [cJ 15 .eql 7 1,mJ 14 15] [0,2,3,7,14] Qapa)
def Qapc:SC:=.block 0 (sR [cJ 9 .eql 7 0,mJ 8 9] [0,2,3,7,8] Qapb)
def Qaak:SC:=sR [tJ 39 4 3,sJ 4 2 39] [2] .ret
def Qapd:SC:=.seq (sR [mJ 6 0,aJ 7 Qt [.t 6,kI 20]] [0,2,3,7] Qapc) Qaak
def Qape:SC:=sR (mJ 4 0::aJ 5 Qva [.t 4,kI 4]::Qaam) [0,2,3] Qapd
def Qa2v:SC:=sR [eI 2 (.alloc [.int .i64 0,.int .i64 0,.str [],.sl true 4 []])] [0,2] Qape
def Qail:List RS:=[.cell 2 4 true]
theorem Qa2j:mFn prog Q8n 1 40 Qa2v Qail=true:=by kernel_rfl
def Qaat:List Item:=[eI 2 (.alloc [.int .i64 0,.int .i64 0,.str [],.sl true 4 []])]
def Qaau:List Item:=[mJ 3 21]
def Qaav:List Item:=fI 20 (.bsl 4 [.t 19])::xJ 21 4 13 20::Qaau
def Qau2:SC:=.reg [mJ 11 4,cJ 12 .add 11 1,mJ 4 12] [1,2,3,4]
def Qau3:SC:=.seq (.block 1 (.reg (mJ 13 3::fJ 14 3 1::lJ 15 14::mJ 16 4::iJ 17 4 15 16::tJ 18 4 17::aJ 19 Q0r [.t 18]::Qaav) [1,2,3,4])) Qau2
def Qapf:SC:=.seq (sR [mJ 6 4,fJ 7 3 1,lJ 8 7,nJ 9 8,bJ 10 .lss 6 9] [1,2,3,4,10] (cT 10 .skip (.exit 0))) Qau3
def Qau4:SC:=sR [tJ 24 4 1,sJ 4 2 24] [2] .ret
def Qau5:SC:=sR [mJ 22 3,fJ 23 3 1,sJ 1 23 22] [1,2] Qau4
def Qau6:SC:=.seq (sR [zJ 4 0] [1,2,3,4] (bL 0 Qapf)) Qau5
def Qau7:SC:=sR [fI 5 (.bsl 4 []),mJ 3 5] [1,2,3] Qau6
def Qa2w:SC:=sR (eI 1 (.boxm (.t 0))::Qaat) [1,2] Qau7
def Qas9:List RS:=[.cell 2 4 true]
theorem Qa2k:mFn prog Q0r 1 25 Qa2w Qas9=true:=by kernel_rfl
def Qazq:SC:=cT 17 (sR [fB 4 true] [4] .ret) .skip
def Qazr:SC:=.reg [mJ 10 5,cJ 11 .add 10 1,mJ 5 11] [0,1,5]
def Qazs:SC:=.seq (.block 1 (sR [mJ 12 0,mJ 13 5,iJ 14 1 12 13,lJ 15 14,mJ 16 1,bJ 17 .eql 15 16] [0,1,5,17] Qazq)) Qazr
def Qavb:SC:=.seq (sR [mJ 6 5,mJ 7 0,nJ 8 7,bJ 9 .lss 6 8] [0,1,5,9] (cT 9 .skip (.exit 0))) Qazs
def Qazt:SC:=sR [fB 4 false] [4] .ret
def Qazu:SC:=.seq (sR [zJ 5 0] [0,1,5] (bL 0 Qavb)) Qazt
def Qa59:SC:=sR [fB 4 false] [0,1] Qazu
def Qaot:List RS:=[.tmp 4]
theorem Qa5z:mFn prog Q71 2 18 Qa59 Qaot=true:=by kernel_rfl
def Qss:List Item:=[gT 17 12 (.not (.t 16)),pF 18 12 17]
def Q5a:List Item:=[mJ 2 23]
def Qapo:SC:=cT 18 (.reg (mJ 19 2::fJ 20 2 3::lJ 21 20::fI 22 (.bsl 1 [.t 21])::xJ 23 1 19 22::Q5a) [1,2,3]) .skip
def Q5b:List Item:=[mJ 2 38]
def Qapp:SC:=.reg [mJ 29 7,cJ 30 .add 29 1,mJ 7 30] [1,2,3,7]
def Qapq:SC:=.seq (.block 1 (.reg (fJ 31 3 3::lJ 32 31::mJ 33 7::iJ 34 4 32 33::tJ 35 4 34::mJ 36 1::mJ 37 2::aJ 38 Qvb [.t 35,.t 36,.t 37]::Q5b) [1,2,3,7])) Qapp
def Qal5:SC:=.seq (sR [mJ 24 7,fJ 25 3 3,lJ 26 25,nJ 27 26,bJ 28 .lss 24 27] [1,2,3,7,28] (cT 28 .skip (.exit 0))) Qapq
def Qapr:SC:=sR [mJ 39 2,mJ 6 39] [6] .ret
def Qaaw:SC:=.seq (sR [zJ 7 0] [1,2,3,7] (bL 0 Qal5)) Qapr
def Qaps:SC:=.seq (sR (fJ 8 0 3::lJ 9 8::mJ 10 1::bJ 11 .eql 9 10::mJ 12 11::gTm 13 12 2::gTf 14 12 2 3::gTl 15 12 14::.e (some 16) (some (12,true)) (.call Q71 [.t 13,.t 15])::Qss) [1,2,3,18] Qapo) Qaaw
def Qazv:SC:=sR [vJ 3 0,fI 6 (.mv (.k (.c (.sl true 1 []))))] [1,2,3] Qaps
def Q9h:List RS:=[.tmp 6]
theorem Qayi:mFn prog Qvb 3 40 Qazv Q9h=true:=by kernel_rfl
def Qaaz:List Item:=[sJ 1 3 10]
def Qaa0:List Item:=eI 3 (.alloc [.sl true 3 []])::Qaaz
def Qaa1:List Item:=[sJ 3 4 18]
def Qaa2:List Item:=[fJ 26 0 4,sJ 1 26 25]
def Qaa3:List Item:=[fJ 38 1 4,sJ 1 38 37]
def Qaa4:List Item:=fI 36 (.bsl 1 [.t 35])::xJ 37 1 32 36::Qaa3
def Qaa5:List Item:=mJ 33 0::fI 34 (.bsl 1 [.k (.c (.str [97])),.k (.c (.str [120])),.k (.c (.str [105,102]))])::aJ 35 Qav [.t 33,.t 34]::Qaa4
def Qaa6:List Item:=[fJ 51 2 4,sJ 1 51 50]
def Qaa7:List Item:=fI 47 (.bsl 4 [.t 46])::fI 48 (.bld [.int .i64 0,.str [],.sl true 4 [],.sl true 5 [],.sl true 5 []] [(0,1,kI 3),(2,1,.t 47)])::fI 49 (.bsl 5 [.t 48])::xJ 50 5 44 49::Qaa6
def Qaa8:List Item:=mJ 45 0::aJ 46 Q8n [.t 45]::Qaa7
def Q5e:List Item:=[fJ 69 2 4,sJ 1 69 68]
def Q5f:List Item:=fI 65 (.bsl 4 [.t 64])::fI 66 (.bld [.int .i64 0,.str [],.sl true 4 [],.sl true 5 [],.sl true 5 []] [(0,1,.t 59),(1,1,.t 62),(2,1,.t 65)])::fI 67 (.bsl 5 [.t 66])::xJ 68 5 57 67::Q5e
def Q5g:List Item:=mJ 63 0::aJ 64 Qva [.t 63,kI 2]::Q5f
def Q5h:List Item:=mJ 60 0::fI 61 (.bsl 1 [.k (.c (.str [])),.k (.c (.str [97])),.k (.c (.str [122,122]))])::aJ 62 Qav [.t 60,.t 61]::Q5g
def Q5i:List Item:=mJ 58 0::aJ 59 Qt [.t 58,kI 10]::Q5h
def Q5j:List Item:=[sJ 5 5 74]
def Q5k:List Item:=[mJ 6 76]
def Q5l:List Item:=[hJ 85 84,.chk 86 none (.ld 5 true (.t 5)),fI 88 (.bld [.int .i64 0,.str [],.sl true 4 [],.sl true 5 [],.sl true 5 []] [(0,1,.t 83),(2,1,.t 85),(3,1,.t 87)]),sJ 5 5 88]
def Qap6:SC:=.reg [mJ 79 6,cJ 80 .sub 79 1,mJ 6 80] [0,2,3,4,5,6]
def Qap7:SC:=.seq (.block 2 (.dreg 9 [0,1,3,4,5,6,2,4,5,7,8] ( mJ 81 0::fI 82 (.bsl 1 [kI 5,kI 6])::fJ 84 2 5::lJ 85 84::tJ 86 5 5::fI 87 (.bsl 5 [.t 86])::aJ 83 Qag [.t 81,.t 82]::Q5l) [0,2,3,4,5,6])) Qap6
def Qama:SC:=.seq (sR [mJ 77 6,cJ 78 .gtr 77 0] [0,2,3,4,5,6,78] (cT 78 .skip (.exit 1))) Qap7
def Q5m:List Item:=[fJ 96 2 4,sJ 1 96 95]
def Q5n:List Item:=.chk 93 none (.ld 5 true (.t 5))::xJ 95 5 92 94::Q5m
def Qap8:SC:=.dreg 9 [0,1,2,4,5,3,4,6,7,8] ( fI 89 (.bsl 5 [])::fJ 90 2 4::lJ 91 90::tJ 93 5 5::fI 94 (.bsl 5 [.t 93])::xJ 92 5 89 91::Q5n) [2,3,4]
def Qap9:SC:=.seq (sR (mJ 75 0::aJ 76 Qt [.t 75,kI 5]::Q5k) [0,2,3,4,5,6] (bL 1 Qama)) Qap8
def Q5o:List Item:=[mJ 7 104]
def Q5p:List Item:=[fJ 119 2 4,sJ 1 119 118]
def Q5q:List Item:=mJ 113 7::fI 114 (.bld [.int .i64 0,.int .i64 0,.str [],.sl true 4 []] [(0,1,kI 1),(1,1,.t 113)])::fI 115 (.bsl 4 [.t 114])::fI 116 (.bld [.int .i64 0,.str [],.sl true 4 [],.sl true 5 [],.sl true 5 []] [(0,1,kI 3),(2,1,.t 115)])::fI 117 (.bsl 5 [.t 116])::xJ 118 5 112 117::Q5p
def Qaqa:SC:=.reg [mJ 107 7,cJ 108 .sub 107 1,mJ 7 108] [2,3,4,7]
def Qaqb:SC:=.seq (.block 4 (.reg (fI 109 (.bsl 5 [])::fJ 110 2 4::lJ 111 110::xJ 112 5 109 111::Q5q) [2,3,4,7])) Qaqa
def Qamb:SC:=.seq (sR [mJ 105 7,cJ 106 .gtr 105 0] [2,3,4,7,106] (cT 106 .skip (.exit 3))) Qaqb
def Q5r:List Item:=[fI 132 (.bld [.sl true 3 []] [(0,1,.t 131)]),sJ 1 2 132]
def Q5s:List Item:=hJ 127 126::.chk 128 none (.iad 3 (.t 127) (kI 0))::.chk 129 none (.ld 3 true (.t 128))::xJ 131 3 125 130::Q5r
def Qaqc:SC:=cT 120 (.seq (.dreg 12 [0,1,2,4,5,6,7,8,3,5,6,7,9,10,11] ( fI 122 (.bsl 3 [])::fJ 123 0 3::lJ 124 123::fJ 126 0 3::lJ 127 126::fI 128 (.iad 3 (.t 127) (kI 0))::tJ 129 3 128::fI 130 (.bsl 3 [.t 129])::xJ 125 3 122 124::Q5s) [2]) .ret) .skip
def Qaqd:SC:=cT 100 (sR (mJ 102 0::fI 103 (.bsl 1 [kI 20,kI 40,kI 41])::aJ 104 Qag [.t 102,.t 103]::Q5o) [2,3,4,7] (bL 3 Qamb)) (sR [cJ 121 .eql 20 7,mJ 120 121] [2,3,4,120] Qaqc)
def Qaqe:SC:=cT 97 (sR [fI 99 (.bld [.sl true 3 []] []),sJ 1 2 99] [2] .ret) (sR [cJ 101 .eql 20 6,mJ 100 101] [0,2,3,4,20,100] Qaqd)
def Qaqf:SC:=cT 70 (sR (fI 72 (.bld [.int .i64 0,.int .i64 0,.str [],.sl true 4 []] [(0,1,kI 1)])::fI 73 (.bsl 4 [.t 72])::fI 74 (.bld [.int .i64 0,.str [],.sl true 4 [],.sl true 5 [],.sl true 5 []] [(0,1,kI 6),(2,1,.t 73)])::eI 5 (.alloc [.int .i64 0,.str [],.sl true 4 [],.sl true 5 [],.sl true 5 []])::Q5j) [0,2,3,4,5] Qap9) (sR [cJ 98 .eql 20 5,mJ 97 98] [0,2,3,4,20,97] Qaqe)
def Qaqg:SC:=cT 52 (.reg (fI 54 (.bsl 5 [])::fJ 55 2 4::lJ 56 55::xJ 57 5 54 56::Q5i) [2,3,4]) (sR [cJ 71 .eql 20 4,mJ 70 71] [0,2,3,4,20,70] Qaqf)
def Qaqh:SC:=cT 39 (.reg (fI 41 (.bsl 5 [])::fJ 42 2 4::lJ 43 42::xJ 44 5 41 43::Qaa8) [2,3,4]) (sR [cJ 53 .eql 20 3,mJ 52 53] [0,2,3,4,20,52] Qaqg)
def Qaqi:SC:=cT 27 (.reg (fI 29 (.bsl 1 [])::fJ 30 1 4::lJ 31 30::xJ 32 1 29 31::Qaa5) [2,3,4]) (sR [cJ 40 .eql 20 2,mJ 39 40] [0,2,3,4,20,39] Qaqh)
def Qaqj:SC:=cT 21 (.reg (mJ 23 0::fI 24 (.bsl 1 [.k (.c (.str [102])),.k (.c (.str [100,111])),.k (.c (.str [])),.k (.c (.str [103]))])::aJ 25 Qav [.t 23,.t 24]::Qaa2) [2,3,4]) (sR [cJ 28 .eql 20 1,mJ 27 28] [0,2,3,4,20,27] Qaqi)
def Qaqk:SC:=.block 0 (sR [cJ 22 .eql 20 0,mJ 21 22] [0,2,3,4,20,21] Qaqj)
def Q5t:List Item:=[mJ 8 136]
def Qaql:SC:=sR [mJ 143 8,fI 144 (.bld [.sl true 3 []] [(0,1,.t 143)]),sJ 1 2 144] [2] .ret
def Qaqm:SC:=sR [mJ 137 8,mJ 138 8,nJ 139 138,cJ 140 .sub 139 1,tJ 141 3 4,iJ 142 3 137 140,sJ 3 142 141] [2,8] Qaql
def Qaay:SC:=sR (fI 133 (.bsl 3 [])::fJ 134 0 3::lJ 135 134::xJ 136 3 133 135::Q5t) [2,4,8] Qaqm
def Qaqn:SC:=.seq (sR [mJ 19 0,aJ 20 Qt [.t 19,kI 32]] [0,2,3,4,20] Qaqk) Qaay
def Qaqo:SC:=sR (fJ 11 0 3::lJ 12 11::fJ 13 0 3::lJ 14 13::nJ 15 14::cJ 16 .sub 15 1::iJ 17 3 12 16::tJ 18 3 17::eI 4 (.alloc [.str [],.sl true 1 [],.sl true 5 []])::Qaa1) [0,2,3,4] Qaqn
def Qaqp:SC:=sR (mJ 9 0::aJ 10 Q0t [.t 9]::Qaa0) [0,2,3] Qaqo
def Qa22:SC:=sR [eI 2 (.alloc [.sl true 3 []])] [0,2] Qaqp
def Q1b:List RS:=[.cell 2 1 true]
theorem Qa2m:mFn prog Q8p 1 145 Qa22 Q1b=true:=by kernel_rfl
def Qafl:SC:=cT 11 (sR [fB 4 false] [4] .ret) .skip
def Qafm:SC:=cT 56 (sR [fB 4 false] [4] .ret) .skip
def Qtq:List Item:=[oJ 84 83]
def Qafn:SC:=cT 84 (sR [fB 4 false] [4] .ret) .skip
def Qafo:SC:=.reg [mJ 65 6,cJ 66 .add 65 1,mJ 6 66] [0,1,5,6]
def Qafp:SC:=.seq (.block 3 (.seq (.dreg 18 [0,1,2,3,4,5,6,7,8,9,10,11,12,13,14,15,16,17] ( mJ 67 0::mJ 68 5::iJ 69 5 67 68::fJ 70 2 69::lJ 71 70::mJ 72 6::iJ 73 4 71 72::tJ 74 4 73::mJ 75 1::mJ 76 5::iJ 77 5 75 76::fJ 78 2 77::lJ 79 78::mJ 80 6::iJ 81 4 79 80::tJ 82 4 81::aJ 83 Qg0 [.t 74,.t 82]::Qtq) [0,1,5,6,84]) Qafn)) Qafo
def Qacl:SC:=.seq (sR [mJ 57 6,mJ 58 0,mJ 59 5,iJ 60 5 58 59,fJ 61 2 60,lJ 62 61,nJ 63 62,bJ 64 .lss 57 63] [0,1,5,6,64] (cT 64 .skip (.exit 2))) Qafp
def Qtr:List Item:=[gF 109 97 (.not (.t 108)),pT 110 97 109]
def Qts:List Item:=oJ 96 95::mJ 97 96::gFm 98 97 0::gFm 99 97 5::gF 100 97 (.iad 5 (.t 98) (.t 99))::gFf 101 97 4 100::gFl 102 97 101::gFm 103 97 1::gFm 104 97 5::gF 105 97 (.iad 5 (.t 103) (.t 104))::gFf 106 97 4 105::gFl 107 97 106::.e (some 108) (some (97,false)) (.call Qew [.t 102,.t 107])::Qtr
def Qafq:SC:=cT 110 (sR [fB 4 false] [4] .ret) .skip
def Qace:SC:=.seq (.dreg 26 [0,1,2,3,4,5,6,7,8,9,10,11,12,13,14,15,16,17,18,19,20,21,22,23,24,25] ( mJ 85 0::mJ 86 5::iJ 87 5 85 86::fJ 88 3 87::lJ 89 88::mJ 90 1::mJ 91 5::iJ 92 5 90 91::fJ 93 3 92::lJ 94 93::aJ 95 Qew [.t 89,.t 94]::Qts) [0,1,5,110]) Qafq
def Qacf:SC:=.seq (sR [zJ 6 0] [0,1,5,6] (bL 2 Qacl)) Qace
def Qacg:SC:=.reg [mJ 16 5,cJ 17 .add 16 1,mJ 5 17] [0,1,5]
def Qach:SC:=.seq (.block 1 (.seq (.seq (.dreg 39 [0,1,2,3,4,5,6,7,8,9,10,11,12,13,14,15,16,17,18,19,20,21,22,23,24,25,26,27,28,29,30,31,32,33,34,35,36,37,38] ( mJ 18 0::mJ 19 5::iJ 20 5 18 19::fJ 21 0 20::lJ 22 21::mJ 23 1::mJ 24 5::iJ 25 5 23 24::fJ 26 0 25::lJ 27 26::bJ 28 .neq 22 27::mJ 29 28::gFm 30 29 0::gFm 31 29 5::gF 32 29 (.iad 5 (.t 30) (.t 31))::gFf 33 29 1 32::gFl 34 29 33::gFm 35 29 1::gFm 36 29 5::gF 37 29 (.iad 5 (.t 35) (.t 36))::gFf 38 29 1 37::gFl 39 29 38::gF 40 29 (.bin 0 .neq (.t 34) (.t 39))::pT 41 29 40::mJ 42 41::gFm 43 42 0::gFm 44 42 5::gF 45 42 (.iad 5 (.t 43) (.t 44))::gFf 46 42 2 45::gFl 47 42 46::gF 48 42 (.len (.t 47))::gFm 49 42 1::gFm 50 42 5::gF 51 42 (.iad 5 (.t 49) (.t 50))::gFf 52 42 2 51::gFl 53 42 52::gF 54 42 (.len (.t 53))::gF 55 42 (.bin 0 .neq (.t 48) (.t 54))::pT 56 42 55::[]) [0,1,5,56]) Qafm) Qacf)) Qacg
def Q68:SC:=.seq (sR [mJ 12 5,mJ 13 0,nJ 14 13,bJ 15 .lss 12 14] [0,1,5,15] (cT 15 .skip (.exit 0))) Qach
def Qaci:SC:=sR [fB 4 true] [4] .ret
def Qacj:SC:=.seq (sR [zJ 5 0] [0,1,5] (bL 0 Q68)) Qaci
def Qack:SC:=.seq (sR [mJ 7 0,nJ 8 7,mJ 9 1,nJ 10 9,bJ 11 .neq 8 10] [0,1,11] Qafl) Qacj
def Qamk:SC:=sR [fB 4 false] [0,1] Qack
def Q46:List RS:=[.tmp 4]
theorem Qak0:mFn prog Qew 2 111 Qamk Q46=true:=by kernel_rfl
def Qarh:SC:=cT 10 (sR [fB 4 false] [4] .ret) .skip
def Qari:SC:=cT 25 (sR [fB 4 false] [4] .ret) .skip
def Qarj:SC:=.reg [mJ 15 5,cJ 16 .add 15 1,mJ 5 16] [0,1,5]
def Qark:SC:=.seq (.block 1 (.seq (.dreg 9 [0,1,2,3,4,5,6,7,8] ( mJ 17 0::mJ 18 5::iJ 19 1 17 18::lJ 20 19::mJ 21 1::mJ 22 5::iJ 23 1 21 22::lJ 24 23::bJ 25 .neq 20 24::[]) [0,1,5,25]) Qari)) Qarj
def Qamm:SC:=.seq (sR [mJ 11 5,mJ 12 0,nJ 13 12,bJ 14 .lss 11 13] [0,1,5,14] (cT 14 .skip (.exit 0))) Qark
def Qarl:SC:=sR [fB 4 true] [4] .ret
def Qarm:SC:=.seq (sR [zJ 5 0] [0,1,5] (bL 0 Qamm)) Qarl
def Qarn:SC:=.seq (sR [mJ 6 0,nJ 7 6,mJ 8 1,nJ 9 8,bJ 10 .neq 7 9] [0,1,10] Qarh) Qarm
def Qaz7:SC:=sR [fB 4 false] [0,1] Qarn
def Qali:List RS:=[.tmp 4]
theorem Qayn:mFn prog Q2d 2 26 Qaz7 Qali=true:=by kernel_rfl
def Q1t:List Item:=[mJ 5 15]
def Q1u:List Item:=[mJ 6 33]
def Qamn:SC:=cT 29 (.reg (mJ 30 6::mJ 31 7::fI 32 (.bsl 1 [.t 31])::xJ 33 1 30 32::Q1u) [1,2,5,6,7]) .skip
def Qamo:SC:=.reg [mJ 20 7,cJ 21 .add 20 1,mJ 7 21] [1,2,5,6,7]
def Qamp:SC:=.seq (.block 1 (sR [mJ 22 5,fJ 23 0 2,lJ 24 23,mJ 25 7,iJ 26 3 24 25,fJ 27 0 26,lJ 28 27,aJ 29 Q71 [.t 22,.t 28]] [1,2,5,6,7,29] Qamn)) Qamo
def Qaje:SC:=.seq (sR [mJ 17 7,mJ 18 1,bJ 19 .lss 17 18] [1,2,5,6,7,19] (cT 19 .skip (.exit 0))) Qamp
def Qamq:SC:=sR [mJ 34 6,mJ 4 34] [4] .ret
def Qamr:SC:=.seq (sR [zJ 7 0] [1,2,5,6,7] (bL 0 Qaje)) Qamq
def Qams:SC:=sR [fI 16 (.bsl 1 []),mJ 6 16] [1,2,5,6] Qamr
def Qamt:SC:=sR (fJ 8 0 2::lJ 9 8::mJ 10 1::iJ 11 3 9 10::fJ 12 2 11::lJ 13 12::fI 14 (.bsl 1 [])::aJ 15 Qlo [.t 13,.t 14]::Q1t) [1,2,5] Qams
def Qavv:SC:=sR [vJ 2 0,fI 4 (.mv (.k (.c (.sl true 1 []))))] [1,2] Qamt
def Qagx:List RS:=[.tmp 4]
theorem Qaue:mFn prog Qxr 2 35 Qavv Qagx=true:=by kernel_rfl
def Q51:List Item:=[mJ 1 32]
def Qaro:SC:=.reg [mJ 21 6,cJ 22 .add 21 1,mJ 6 22] [0,1,5,6]
def Qarp:SC:=.seq (.block 3 (.reg (mJ 23 0::mJ 24 5::iJ 25 5 23 24::fJ 26 2 25::lJ 27 26::mJ 28 6::iJ 29 4 27 28::tJ 30 4 29::mJ 31 1::aJ 32 Qvb [.t 30,kI 13,.t 31]::Q51) [0,1,5,6])) Qaro
def Qamw:SC:=.seq (sR [mJ 13 6,mJ 14 0,mJ 15 5,iJ 16 5 14 15,fJ 17 2 16,lJ 18 17,nJ 19 18,bJ 20 .lss 13 19] [0,1,5,6,20] (cT 20 .skip (.exit 2))) Qarp
def Q52:List Item:=[mJ 1 45]
def Q53:List Item:=.chk 35 none (.iad 5 (.t 33) (.t 34))::hJ 37 36::aJ 45 Qlo [.t 37,.t 44]::Q52
def Qarq:SC:=.dreg 14 [0,1,2,3,4,5,6,7,8,9,10,11,2,4,12,13] ( mJ 33 0::mJ 34 5::iJ 35 5 33 34::fJ 36 4 35::lJ 37 36::mJ 38 0::mJ 39 5::iJ 40 5 38 39::fJ 41 3 40::lJ 42 41::mJ 43 1::aJ 44 Qlo [.t 42,.t 43]::Q53) [0,1,5]
def Qarr:SC:=.reg [mJ 11 5,cJ 12 .add 11 1,mJ 5 12] [0,1,5]
def Qars:SC:=.seq (.block 1 (.seq (sR [zJ 6 0] [0,1,5,6] (bL 2 Qamw)) Qarq)) Qarr
def Qamx:SC:=.seq (sR [mJ 7 5,mJ 8 0,nJ 9 8,bJ 10 .lss 7 9] [0,1,5,10] (cT 10 .skip (.exit 0))) Qars
def Qamu:SC:=sR [mJ 46 1,mJ 4 46] [4] .ret
def Qamv:SC:=.seq (sR [zJ 5 0] [0,1,5] (bL 0 Qamx)) Qamu
def Qaz8:SC:=sR [fI 4 (.mv (.k (.c (.sl true 1 []))))] [0,1] Qamv
def Qalj:List RS:=[.tmp 4]
theorem Qayo:mFn prog Qlo 2 47 Qaz8 Qalj=true:=by kernel_rfl
def Qacm:List Item:=[sJ 1 3 6]
def Qacn:List Item:=[sJ 3 5 18]
def Qaco:List Item:=[fJ 33 0 3,sJ 1 33 32]
def Qacp:List Item:=hJ 20 19::hJ 22 21::fI 30 (.bld [.str [],.sl true 1 [],.sl true 5 []] [(0,1,.t 22),(1,1,.t 26),(2,1,.t 29)])::fI 31 (.bsl 3 [.t 30])::xJ 32 3 20 31::Qaco
def Qacq:List Item:=hJ 20 19::hJ 22 21::hJ 28 27::aJ 29 Qge [.t 28]::Qacp
def Qavw:SC:=.dreg 16 [0,1,2,3,4,5,6,8,9,7,1,3,9,10,1,3,11,12,13,14,15] ( fJ 19 0 3::lJ 20 19::fJ 21 0 5::lJ 22 21::fI 23 (.bsl 1 [])::fJ 24 1 5::lJ 25 24::fJ 27 2 5::lJ 28 27::xJ 26 1 23 25::Qacq) [1,2,3,4]
def Qavx:SC:=.reg [mJ 12 4,cJ 13 .add 12 1,mJ 4 13] [1,2,3,4]
def Qavy:SC:=.seq (.block 1 (sR (fJ 14 0 1::lJ 15 14::mJ 16 4::iJ 17 3 15 16::tJ 18 3 17::eI 5 (.alloc [.str [],.sl true 1 [],.sl true 5 []])::Qacn) [1,2,3,4,5] Qavw)) Qavx
def Qarv:SC:=.seq (sR [mJ 7 4,fJ 8 0 1,lJ 9 8,nJ 10 9,bJ 11 .lss 7 10] [1,2,3,4,11] (cT 11 .skip (.exit 0))) Qavy
def Qavz:SC:=sR [tJ 34 1 3,sJ 1 2 34] [2] .ret
def Qart:SC:=.seq (sR [zJ 4 0] [1,2,3,4] (bL 0 Qarv)) Qavz
def Qaru:SC:=sR (fI 6 (.bld [.sl true 3 []] [])::eI 3 (.alloc [.sl true 3 []])::Qacm) [1,2,3] Qart
def Qa3a:SC:=sR [vJ 1 0,eI 2 (.alloc [.sl true 3 []])] [1,2] Qaru
def Qata:List RS:=[.cell 2 1 true]
theorem Qa2o:mFn prog Qrd 1 35 Qa3a Qata=true:=by kernel_rfl
def Qacr:List Item:=[cJ 5 .eql 4 0,mJ 2 5]
def Qav0:SC:=sR (tJ 3 1 1::aJ 4 Qe3 [.t 3]::Qacr) [2] .ret
def Qa3b:SC:=sR [vJ 1 0,fB 2 false] [1] Qav0
def Qatb:List RS:=[.tmp 2]
theorem Qa2p:mFn prog Q0v 1 6 Qa3b Qatb=true:=by kernel_rfl
def Qamz:List Item:=[zJ 5 0,zJ 6 0]
def Qam0:List Item:=[mJ 7 14]
def Qam1:List Item:=[sJ 3 8 19]
def Qam2:List Item:=[mJ 24 1,bJ 25 .neq 23 24]
def Qa3c:SC:=cT 25 (.reg [mJ 26 7,aJ 27 Qbw [.t 26,kI 2]] [4,7,8]) .skip
def Qam3:List Item:=[mJ 9 45]
def Qam4:List Item:=fI 44 (.bsl 1 [.t 43])::xJ 45 1 36 44::Qam3
def Qa3d:SC:=.reg [mJ 34 10,cJ 35 .add 34 1,mJ 10 35] [4,7,8,9,10]
def Qa3e:SC:=.seq (.block 1 (.reg (mJ 36 9::mJ 37 7::fJ 38 1 8::lJ 39 38::mJ 40 10::iJ 41 1 39 40::lJ 42 41::aJ 43 Qi3 [.t 37,.t 42,kI 0]::Qam4) [4,7,8,9,10])) Qa3d
def Qa0g:SC:=.seq (sR [mJ 29 10,fJ 30 1 8,lJ 31 30,nJ 32 31,bJ 33 .lss 29 32] [4,7,8,9,10,33] (cT 33 .skip (.exit 0))) Qa3e
def Qag6:List Item:=[fJ 52 2 8,sJ 1 52 51]
def Qag7:List Item:=[hJ 57 56,hJ 61 60,mJ 5 57,mJ 6 61]
def Qaz9:SC:=.seq (.dreg 12 [0,1,2,3,4,5,6,7,8,9,4,8,10,11] ( tJ 53 3 8::mJ 54 7::kJ 55 54::fJ 56 4 55::lJ 57 56::mJ 58 7::kJ 59 58::fJ 60 3 59::lJ 61 60::sJ 3 4 53::Qag7) [4,5,6]) .ret
def Qa0a:SC:=sR (mJ 48 7::fJ 49 2 8::lJ 50 49::aJ 51 Qc1 [.t 48,.t 50,kI 0]::Qag6) [4,7,8] Qaz9
def Qa0b:SC:=sR [mJ 46 9,fJ 47 1 8,sJ 1 47 46] [4,7,8] Qa0a
def Qa0c:SC:=.seq (sR [zJ 10 0] [4,7,8,9,10] (bL 0 Qa0g)) Qa0b
def Qamy:SC:=sR [fI 28 (.bsl 1 []),mJ 9 28] [4,7,8,9] Qa0c
def Qa0d:SC:=.seq (sR (tJ 20 1 2::fJ 21 0 8::lJ 22 21::aJ 23 Qvd [.t 20,.t 22]::Qam2) [4,7,8,25] Qa3c) Qamy
def Qa0e:SC:=sR (fJ 15 0 2::lJ 16 15::mJ 17 1::iJ 18 3 16 17::tJ 19 3 18::eI 8 (.alloc [.str [],.sl true 1 [],.sl true 5 []])::Qam1) [1,2,4,7,8] Qa0d
def Qa0f:SC:=sR (tJ 11 1 2::mJ 12 1::fI 13 (.bld [.sl true 3 [],.int .i64 0,.sl true 3 [],.int .i64 0,.int .i64 0] [(0,1,.t 11),(1,1,.t 12)])::eI 14 (.boxm (.t 13))::Qam0) [1,2,4,7] Qa0e
def Qa7x:SC:=sR (vJ 2 0::eI 4 (.alloc [.str [],.sl true 1 [],.sl true 5 []])::Qamz) [1,2,4] Qa0f
def Qay7:List RS:=[.cell 4 3 true,.tmp 5,.tmp 6]
theorem Qa7n:mFn prog Qan9 2 62 Qa7x Qay7=true:=by kernel_rfl
def Qav1:SC:=sR [mJ 6 3,mJ 7 3,cJ 8 .add 7 1,fI 9 (.slis (.k (.c (.str [97,98,99,100,101,102,103,104,105,106,107,108,109,110,111,112,113,114,115,116,117,118,119,120,121,122]))) (some (.t 6)) (some (.t 8))),fI 10 (.bin 0 .add (.k (.c (.str [118]))) (.t 9)),mJ 2 10] [2] .ret
def Qav2:SC:=sR [mJ 4 0,cJ 5 .rem 4 26,mJ 3 5] [3] Qav1
def Qa3f:SC:=sR [fI 2 (.mv (.k (.c (.str []))))] [0] Qav2
def Qatc:List RS:=[.tmp 2]
theorem Qa2q:mFn prog Q0w 1 11 Qa3f Qatc=true:=by kernel_rfl
def Q54:List Item:=[sJ 5 5 18]
def Q55:List Item:=[mJ 6 35]
def Q56:List Item:=fI 34 (.bsl 4 [.t 33])::xJ 35 4 27 34::Q55
def Qarw:SC:=.reg [mJ 25 7,cJ 26 .add 25 1,mJ 7 26] [0,3,4,5,6,7]
def Qarx:SC:=.seq (.block 3 (.reg (mJ 27 6::fJ 28 2 5::lJ 29 28::mJ 30 7::iJ 31 4 29 30::tJ 32 4 31::aJ 33 Q0r [.t 32]::Q56) [0,3,4,5,6,7])) Qarw
def Qanc:SC:=.seq (sR [mJ 20 7,fJ 21 2 5,lJ 22 21,nJ 23 22,bJ 24 .lss 20 23] [0,3,4,5,6,7,24] (cT 24 .skip (.exit 2))) Qarx
def Q57:List Item:=[mJ 3 50]
def Q58:List Item:=hJ 38 37::hJ 40 39::fI 48 (.bld [.int .i64 0,.str [],.sl true 4 [],.sl true 5 [],.sl true 5 []] [(0,1,.t 38),(1,1,.t 40),(2,1,.t 41),(3,1,.t 44),(4,1,.t 47)])::fI 49 (.bsl 5 [.t 48])::xJ 50 5 36 49::Q57
def Q59:List Item:=hJ 38 37::hJ 40 39::hJ 46 45::aJ 47 Qge [.t 46]::Q58
def Qary:SC:=.dreg 16 [0,1,2,3,4,5,6,7,9,10,8,2,4,10,11,2,4,12,13,14,15] ( mJ 36 3::fJ 37 0 5::lJ 38 37::fJ 39 1 5::lJ 40 39::mJ 41 6::fJ 42 3 5::lJ 43 42::fJ 45 4 5::lJ 46 45::aJ 44 Qge [.t 43]::Q59) [0,3,4]
def Qam5:SC:=.seq (sR [zJ 7 0] [0,3,4,5,6,7] (bL 2 Qanc)) Qary
def Qam6:SC:=sR [fI 19 (.bsl 4 []),mJ 6 19] [0,3,4,5,6] Qam5
def Qam7:SC:=.reg [mJ 13 4,cJ 14 .add 13 1,mJ 4 14] [0,3,4]
def Qam8:SC:=.seq (.block 1 (sR (mJ 15 0::mJ 16 4::iJ 17 5 15 16::tJ 18 5 17::eI 5 (.alloc [.int .i64 0,.str [],.sl true 4 [],.sl true 5 [],.sl true 5 []])::Q54) [0,3,4,5] Qam6)) Qam7
def Qajf:SC:=.seq (sR [mJ 9 4,mJ 10 0,nJ 11 10,bJ 12 .lss 9 11] [0,3,4,12] (cT 12 .skip (.exit 0))) Qam8
def Qam9:SC:=sR [mJ 51 3,mJ 2 51] [2] .ret
def Qana:SC:=.seq (sR [zJ 4 0] [0,3,4] (bL 0 Qajf)) Qam9
def Qanb:SC:=sR [fI 8 (.bsl 5 []),mJ 3 8] [0,3] Qana
def Qa0k:SC:=sR [fI 2 (.mv (.k (.c (.sl true 5 []))))] [0] Qanb
def Qalk:List RS:=[.tmp 2]
theorem Qayp:mFn prog Qge 1 52 Qa0k Qalk=true:=by kernel_rfl
def Qo7:List Item:=[eI 4 (.alloc [.int .i64 0,.int .i64 0,.str [],.sl true 4 []])]
def Qo8:List Item:=[fJ 15 2 3,sJ 1 15 14]
def Qacz:SC:=cT 10 (.reg (mJ 11 0::fJ 12 2 3::lJ 13 12::aJ 14 Qi4 [.t 11,.t 13]::Qo8) [0,3,4]) .skip
def Qo9:List Item:=[mJ 5 25]
def Qac0:SC:=cT 51 (.reg [mJ 52 0,aJ 53 Qbw [.t 52,kI 5]] [0,3,4]) .skip
def Qtv:SC:=cT 35 (.reg [mJ 36 0,aJ 37 Qbw [.t 36,kI 4]] [0,3,4]) (.seq (.dreg 14 [0,1,2,3,4,5,6,7,8,9,10,11,12,13] ( mJ 38 0::kJ 39 38::fJ 40 0 39::fJ 41 0 40::lJ 42 41::mJ 43 5::iJ 44 3 42 43::fJ 45 1 44::lJ 46 45::nJ 47 46::fJ 48 3 3::lJ 49 48::nJ 50 49::bJ 51 .neq 47 50::[]) [0,3,4,51]) Qac0)
def Qac1:SC:=sR [mJ 26 5,cJ 27 .lss 26 0,mJ 28 27,gFm 29 28 5,gFm 30 28 0,gF 31 28 (.nck (.t 30)),gFf 32 28 1 31,gFl 33 28 32,gF 34 28 (.bin 0 .geq (.t 29) (.t 33)),pT 35 28 34] [0,3,4,5,35] Qtv
def Qac2:SC:=cT 18 (.seq (.dreg 8 [0,1,2,3,4,5,6,7] ( mJ 19 0::kJ 20 19::fJ 21 0 20::tJ 22 1 21::fJ 23 2 3::lJ 24 23::aJ 25 Qvd [.t 22,.t 24]::Qo9) [0,3,4,5]) Qac1) .skip
def Qpa:List Item:=[mJ 6 71]
def Qpb:List Item:=fI 70 (.bsl 4 [.t 69])::xJ 71 4 62 70::Qpa
def Q69:SC:=.reg [mJ 60 7,cJ 61 .add 60 1,mJ 7 61] [0,3,4,6,7]
def Q7a:SC:=.seq (.block 1 (.reg (mJ 62 6::mJ 63 0::fJ 64 3 3::lJ 65 64::mJ 66 7::iJ 67 4 65 66::tJ 68 4 67::aJ 69 Qgx [.t 63,.t 68]::Qpb) [0,3,4,6,7])) Q69
def Q3x:SC:=.seq (sR [mJ 55 7,fJ 56 3 3,lJ 57 56,nJ 58 57,bJ 59 .lss 55 58] [0,3,4,6,7,59] (cT 59 .skip (.exit 0))) Q7a
def Q7b:SC:=sR [tJ 74 4 3,sJ 4 4 74] [4] .ret
def Q7c:SC:=sR [mJ 72 6,fJ 73 3 3,sJ 1 73 72] [3,4] Q7b
def Q7d:SC:=.seq (sR [zJ 7 0] [0,3,4,6,7] (bL 0 Q3x)) Q7c
def Qhr:SC:=sR [fI 54 (.bsl 4 []),mJ 6 54] [0,3,4,6] Q7d
def Qo6:SC:=.seq (sR [fJ 16 0 3,lJ 17 16,cJ 18 .eql 17 13] [0,3,4,18] Qac2) Qhr
def Q7e:SC:=.seq (sR [fJ 8 0 3,lJ 9 8,cJ 10 .eql 9 2] [0,3,4,10] Qacz) Qo6
def Qajg:SC:=sR (eI 3 (.boxm (.t 1))::Qo7) [0,3,4] Q7e
def Qfc:List RS:=[.cell 4 4 true]
theorem Qaid:mFn prog Qgx 2 75 Qajg Qfc=true:=by kernel_rfl
def Qac3:SC:=cT 8 (.reg [mJ 9 0,mJ 10 1,kJ 11 9,fJ 12 4 11,sJ 1 12 10] []) .skip
def Qajh:SC:=sR [mJ 4 0,kJ 5 4,fJ 6 4 5,lJ 7 6,cJ 8 .eql 7 0] [0,1,8] Qac3
def Qne:List RS:=[]
theorem Qaie:mFn prog Qbw 2 13 Qajh Qne=true:=by kernel_rfl
def Qac4:SC:=cT 25 (sR [mJ 26 5,mJ 4 26] [4] .ret) .skip
def Qac5:SC:=.reg [mJ 14 5,cJ 15 .sub 14 1,mJ 5 15] [0,1,5]
def Qac6:SC:=.seq (.block 1 (sR [mJ 16 0,kJ 17 16,fJ 18 2 17,lJ 19 18,mJ 20 5,iJ 21 3 19 20,fJ 22 0 21,lJ 23 22,mJ 24 1,bJ 25 .eql 23 24] [0,1,5,25] Qac4)) Qac5
def Q7f:SC:=.seq (sR [mJ 12 5,cJ 13 .geq 12 0] [0,1,5,13] (cT 13 .skip (.exit 0))) Qac6
def Qac7:SC:=sR [zJ 4 (-1)] [4] .ret
def Qac8:SC:=.seq (sR [mJ 6 0,kJ 7 6,fJ 8 2 7,lJ 9 8,nJ 10 9,cJ 11 .sub 10 1,mJ 5 11] [0,1,5] (bL 0 Q7f)) Qac7
def Qaji:SC:=sR [zJ 4 0] [0,1] Qac8
def Qnf:List RS:=[.tmp 4]
theorem Qaif:mFn prog Qgy 2 27 Qaji Qnf=true:=by kernel_rfl
def Qtw:List Item:=[mJ 7 10]
def Qafr:SC:=cT 24 (.reg [mJ 25 0,aJ 26 Qbw [.t 25,kI 2]] [0,1,2]) .skip
def Qtx:List Item:=[kJ 41 27,fJ 42 2 41,sJ 1 42 40]
def Qty:List Item:=[mJ 6 56]
def Qafs:SC:=sR (mJ 51 0::kJ 52 51::fJ 53 3 52::lJ 54 53::cJ 55 .sub 54 1::aJ 56 Q0w [.t 55]::Qty) [6] .ret
def Qaft:SC:=sR [mJ 43 0,mJ 44 0,kJ 45 44,fJ 46 3 45,lJ 47 46,cJ 48 .add 47 1,kJ 49 43,fJ 50 3 49,sJ 1 50 48] [0] Qafs
def Qxm:SC:=.seq (.dreg 17 [0,1,2,3,4,5,6,7,8,9,10,11,12,13,14,15,16] ( mJ 27 0::mJ 28 0::kJ 29 28::fJ 30 2 29::lJ 31 30::mJ 32 1::mJ 33 0::kJ 34 33::fJ 35 3 34::lJ 36 35::mJ 37 2::fI 38 (.bld [.str [],.int .i64 0,.int .i64 0] [(0,1,.t 32),(1,1,.t 36),(2,1,.t 37)])::fI 39 (.bsl 3 [.t 38])::xJ 40 3 31 39::Qtx) [0]) Qaft
def Qafu:SC:=.seq (sR [mJ 11 7,cJ 12 .geq 11 0,mJ 13 12,gTm 14 13 0,gT 15 13 (.nck (.t 14)),gTf 16 13 2 15,gTl 17 13 16,gTm 18 13 7,gT 19 13 (.iad 3 (.t 17) (.t 18)),gTf 20 13 2 19,gTl 21 13 20,gTm 22 13 2,gT 23 13 (.bin 0 .eql (.t 21) (.t 22)),pF 24 13 23] [0,1,2,24] Qafr) Qxm
def Qafv:SC:=sR (mJ 8 0::mJ 9 1::aJ 10 Qgy [.t 8,.t 9]::Qtw) [0,1,2,7] Qafu
def Qand:SC:=sR [fI 6 (.mv (.k (.c (.str []))))] [0,1,2] Qafv
def Qrw:List RS:=[.tmp 6]
theorem Qak2:mFn prog Qi3 3 57 Qand Qrw=true:=by kernel_rfl
def Qmk:List Item:=[sJ 5 10 28]
def Qml:List Item:=[mJ 11 46]
def Qmm:List Item:=fI 45 (.bsl 4 [.t 44])::xJ 46 4 37 45::Qml
def Q7g:SC:=.reg [mJ 35 12,cJ 36 .add 35 1,mJ 12 36] [0,1,2,7,8,9,10,11,12]
def Q7h:SC:=.seq (.block 3 (.reg (mJ 37 11::mJ 38 0::fJ 39 2 10::lJ 40 39::mJ 41 12::iJ 42 4 40 41::tJ 43 4 42::aJ 44 Qgx [.t 38,.t 43]::Qmm) [0,1,2,7,8,9,10,11,12])) Q7g
def Q4b:SC:=.seq (sR [mJ 30 12,fJ 31 2 10,lJ 32 31,nJ 33 32,bJ 34 .lss 30 33] [0,1,2,7,8,9,10,11,12,34] (cT 34 .skip (.exit 2))) Q7h
def Qmn:List Item:=[fJ 57 1 10,sJ 1 57 56]
def Q7i:SC:=cT 51 (.reg (mJ 52 0::fJ 53 1 10::lJ 54 53::mJ 55 2::aJ 56 Qi3 [.t 52,.t 54,.t 55]::Qmn) [0,1,2,7,8,9,10]) .skip
def Qmo:List Item:=[fJ 65 1 10,sJ 1 65 64]
def Q7j:SC:=cT 60 (.reg (mJ 61 0::fJ 62 1 10::lJ 63 62::aJ 64 Qi4 [.t 61,.t 63]::Qmo) [0,1,2,7,8,9,10]) .skip
def Qk1:List Item:=[fJ 72 3 10,sJ 1 72 71]
def Qk2:List Item:=[fJ 79 4 10,sJ 1 79 78]
def Qk3:List Item:=[mJ 7 83]
def Q3y:SC:=.reg (mJ 80 7::tJ 81 5 10::fI 82 (.bsl 5 [.t 81])::xJ 83 5 80 82::Qk3) [0,1,2,7,8,9]
def Q3z:SC:=sR (mJ 73 0::fJ 74 4 10::lJ 75 74::mJ 76 2::cJ 77 .add 76 1::aJ 78 Qc1 [.t 73,.t 75,.t 77]::Qk2) [0,1,2,7,8,9,10] Q3y
def Qgr:SC:=sR (mJ 66 0::fJ 67 3 10::lJ 68 67::mJ 69 2::cJ 70 .add 69 1::aJ 71 Qc1 [.t 66,.t 68,.t 70]::Qk1) [0,1,2,7,8,9,10] Q3z
def Q30:SC:=.seq (sR [fJ 58 0 10,lJ 59 58,cJ 60 .eql 59 2] [0,1,2,7,8,9,10,60] Q7j) Qgr
def Qmi:SC:=.seq (sR [fJ 49 0 10,lJ 50 49,cJ 51 .eql 50 1] [0,1,2,7,8,9,10,51] Q7i) Q30
def Q31:SC:=.seq (.seq .gh (.reg [mJ 47 11,fJ 48 2 10,sJ 1 48 47] [0,1,2,7,8,9,10])) Qmi
def Q32:SC:=.seq (sR [zJ 12 0] [0,1,2,7,8,9,10,11,12] (bL 2 Q4b)) Q31
def Q33:SC:=sR [fI 29 (.bsl 4 []),mJ 11 29] [0,1,2,7,8,9,10,11] Q32
def Q34:SC:=.reg [mJ 23 9,cJ 24 .add 23 1,mJ 9 24] [0,1,2,7,8,9]
def Q35:SC:=.seq (.block 1 (sR (mJ 25 1::mJ 26 9::iJ 27 5 25 26::tJ 28 5 27::eI 10 (.alloc [.int .i64 0,.str [],.sl true 4 [],.sl true 5 [],.sl true 5 []])::Qmk) [0,1,2,7,8,9,10] Q33)) Q34
def Q1v:SC:=.seq (sR [mJ 19 9,mJ 20 1,nJ 21 20,bJ 22 .lss 19 21] [0,1,2,7,8,9,22] (cT 22 .skip (.exit 0))) Q35
def Q36:SC:=cT 85 (.reg [mJ 86 0,mJ 87 0,kJ 88 87,fJ 89 2 88,lJ 90 89,mJ 91 8,fI 92 (.sli 3 (.t 90) none (some (.t 91))),kJ 93 86,fJ 94 2 93,sJ 1 94 92] [7]) .skip
def Qmj:SC:=sR [mJ 95 7,mJ 6 95] [6] .ret
def Q37:SC:=.seq (sR [mJ 84 2,cJ 85 .gtr 84 0] [0,7,8,85] Q36) Qmj
def Q38:SC:=.seq (sR [zJ 9 0] [0,1,2,7,8,9] (bL 0 Q1v)) Q37
def Q39:SC:=sR [mJ 14 0,kJ 15 14,fJ 16 2 15,lJ 17 16,nJ 18 17,mJ 8 18] [0,1,2,7,8] Q38
def Q4a:SC:=sR [fI 13 (.bsl 5 []),mJ 7 13] [0,1,2,7] Q39
def Qafw:SC:=sR [fI 6 (.mv (.k (.c (.sl true 5 []))))] [0,1,2] Q4a
def Qlf:List RS:=[.tmp 6]
theorem Qad6:mFn prog Qc1 3 96 Qafw Qlf=true:=by kernel_rfl
def Qtz:List Item:=[mJ 5 8]
def Qafx:SC:=sR [mJ 13 1,mJ 4 13] [4] .ret
def Qafy:SC:=cT 10 (sR [mJ 11 0,aJ 12 Qbw [.t 11,kI 3]] [1] Qafx) .skip
def Qt0:List Item:=[mJ 4 22]
def Qafz:SC:=sR (mJ 14 0::kJ 15 14::fJ 16 2 15::lJ 17 16::mJ 18 5::iJ 19 3 17 18::fJ 20 1 19::lJ 21 20::aJ 22 Q0w [.t 21]::Qt0) [4] .ret
def Qaf0:SC:=.seq (sR [mJ 9 5,cJ 10 .lss 9 0] [0,1,5,10] Qafy) Qafz
def Qaf1:SC:=sR (mJ 6 0::mJ 7 1::aJ 8 Qgy [.t 6,.t 7]::Qtz) [0,1,5] Qaf0
def Qane:SC:=sR [fI 4 (.mv (.k (.c (.str []))))] [0,1] Qaf1
def Qrx:List RS:=[.tmp 4]
theorem Qak3:mFn prog Qi4 2 23 Qane Qrx=true:=by kernel_rfl
def Qt1:SC:=cT 12 (sR [fB 2 true] [2] .ret) .skip
def Qfx:List Item:=[sJ 1 3 14]
def Qfy:List Item:=eI 3 (.alloc [.sl true 3 []])::Qfx
def Qfz:List Item:=[mJ 5 19]
def Qf0:List Item:=sJ 1 4 18::Qfz
def Qf1:List Item:=mJ 15 17::fI 18 (.ext (.t 15) 0)::fI 19 (.ext (.t 15) 1)::eI 4 (.alloc [.sl true 3 []])::Qf0
def Qf2:List Item:=[mJ 7 24]
def Qf3:List Item:=sJ 1 6 23::Qf2
def Qf4:List Item:=mJ 20 22::fI 23 (.ext (.t 20) 0)::fI 24 (.ext (.t 20) 1)::eI 6 (.alloc [.sl true 3 []])::Qf3
def Qcm:List Item:=[gF 32 28 (.not (.t 31)),pT 33 28 32,mJ 34 33,gFm 35 34 5,gF 36 34 (.not (.t 35)),pT 37 34 36]
def Qfl:List Item:=[pF 45 41 44,mJ 2 45]
def Qp2:SC:=cT 37 (sR (mJ 38 5::mJ 39 7::fI 40 (.bin 1 .eql (.t 38) (.t 39))::mJ 41 40::gT 42 41 (.ld 1 true (.t 4))::gT 43 41 (.ld 1 true (.t 6))::.e (some 44) (some (41,true)) (.call Qcq [.t 42,.t 43])::Qfl) [2] .ret) .skip
def Qfm:List Item:=[mJ 9 50]
def Qfn:List Item:=sJ 1 8 49::Qfm
def Qfo:List Item:=mJ 46 48::fI 49 (.ext (.t 46) 0)::fI 50 (.ext (.t 46) 1)::eI 8 (.alloc [.sl true 3 []])::Qfn
def Qfp:List Item:=[.chk 76 (some (71,true)) (.ld 1 false (.t 75)),.chk 77 (some (71,true)) (.len (.t 76)),gT 74 71 (.len (.t 73)),gT 78 71 (.bin 0 .eql (.t 74) (.t 77)),pF 79 71 78,mJ 2 79]
def Qfq:List Item:=.chk 64 (some (62,true)) (.ld 1 false (.t 63))::.chk 65 (some (62,true)) (.len (.t 64))::gT 68 62 (.len (.t 67))::gT 69 62 (.bin 0 .eql (.t 65) (.t 68))::pF 70 62 69::mJ 71 70::gT 72 71 (.ld 1 true (.t 4))::gTf 75 71 0 4::gTl 76 71 75::gT 77 71 (.len (.t 76))::.e (some 73) (some (71,true)) (.call Qdn [.t 72])::Qfp
def Qfr:List Item:=gT 60 57 (.bin 0 .eql (.t 59) (kI 0))::pF 61 57 60::mJ 62 61::gTf 63 62 0 4::gTl 64 62 63::gT 65 62 (.len (.t 64))::gT 66 62 (.ld 1 true (.t 3))::.e (some 67) (some (62,true)) (.call Qdn [.t 66])::Qfq
def Qfs:List Item:=pF 56 52 55::mJ 57 56::gT 58 57 (.ld 1 true (.t 4))::.e (some 59) (some (57,true)) (.call Qco [.t 58])::Qfr
def Qp3:SC:=.seq (.dreg 30 [0,1,2,3,4,5,6,7,8,9,10,11,12,13,14,15,16,13,14,17,18,19,20,21,24,25,26,22,25,26,23,27,28,29] ( mJ 51 9::mJ 52 51::gT 53 52 (.ld 1 true (.t 8))::gT 54 52 (.ld 1 true (.t 4))::.e (some 55) (some (52,true)) (.call Qes [.t 53,.t 54])::Qfs) [2]) .ret
def Qp4:SC:=sR (tJ 47 1 4::aJ 48 Qcp [.t 47]::Qfo) [3,4,8,9] Qp3
def Qp5:SC:=.seq (sR (mJ 25 5::mJ 26 7::fI 27 (.bin 1 .neq (.t 25) (.t 26))::mJ 28 27::gF 29 28 (.ld 1 true (.t 4))::gF 30 28 (.ld 1 true (.t 6))::.e (some 31) (some (28,false)) (.call Qcq [.t 29,.t 30])::Qcm) [3,4,5,6,7,37] Qp2) Qp4
def Qp6:SC:=sR (tJ 21 1 3::aJ 22 Qe4 [.t 21]::Qf4) [3,4,5,6,7] Qp5
def Qp7:SC:=sR (tJ 16 1 3::aJ 17 Qcp [.t 16]::Qf1) [3,4,5] Qp6
def Qp8:SC:=sR (mJ 13 0::aJ 14 Qcl [.t 13]::Qfy) [3] Qp7
def Qp9:SC:=.seq (sR [mJ 10 0,nJ 11 10,cJ 12 .gtr 11 1048576] [0,12] Qt1) Qp8
def Qyz:SC:=sR [fB 2 false] [0] Qp9
def Qd1:List RS:=[.tmp 2]
theorem Qxs:mFn prog Qhv 1 80 Qyz Qd1=true:=by kernel_rfl
def Qy0:SC:=cT 4 (sR [fI 2 (.mv (.k (.c (.sl true 1 []))))] [2] .ret) .skip
def Qim:List Item:=[mJ 2 7]
def Qy1:SC:=sR (fI 5 (.bsl 1 [])::mJ 6 0::xJ 7 1 5 6::Qim) [2] .ret
def Qy2:SC:=.seq (sR [mJ 3 0,eI 4 (.nilq (.t 3))] [0,4] Qy0) Qy1
def Q4c:SC:=sR [fI 2 (.mv (.k (.c (.sl true 1 []))))] [0] Qy2
def Qgl:List RS:=[.tmp 2]
theorem Q2m:mFn prog Qex 1 8 Q4c Qgl=true:=by kernel_rfl
def Qds:List Item:=[cJ 8 .geq 7 0,mJ 4 8]
def Qmp:SC:=sR (mJ 5 0::mJ 6 1::aJ 7 Qde [.t 5,.t 6]::Qds) [4] .ret
def Qqa:SC:=sR [fB 4 false] [0,1] Qmp
def Qfu:List RS:=[.tmp 4]
theorem Qpj:mFn prog Qcd 2 9 Qqa Qfu=true:=by kernel_rfl
def Qc8:List Item:=[cJ 8 .geq 7 0,mJ 4 8]
def Qkk:SC:=sR (mJ 5 0::mJ 6 1::aJ 7 Qck [.t 5,.t 6]::Qc8) [4] .ret
def Qmq:SC:=sR [fB 4 false] [0,1] Qkk
def Qed:List RS:=[.tmp 4]
theorem Qlw:mFn prog Qbx 2 9 Qmq Qed=true:=by kernel_rfl
def Qft:List Item:=[cJ 8 .geq 7 0,mJ 4 8]
def Qqb:SC:=sR (mJ 5 0::mJ 6 1::aJ 7 Qe1 [.t 5,.t 6]::Qft) [4] .ret
def Qwo:SC:=sR [fB 4 false] [0,1] Qqb
def Qh1:List RS:=[.tmp 4]
theorem Qvr:mFn prog Qc2 2 9 Qwo Qh1=true:=by kernel_rfl
def Qt2:SC:=cT 14 (sR [fB 6 false] [6] .ret) .skip
def Qf5:List Item:=[mJ 7 19,sJ 4 8 21]
def Qf6:List Item:=[sJ 4 9 25]
def Qf7:List Item:=[oJ 30 29]
def Qt3:SC:=cT 30 (sR [fB 6 false] [6] .ret) .skip
def Qt4:SC:=sR (mJ 26 2::tJ 27 4 8::tJ 28 4 9::eI 29 (.callv (.t 26) [.t 27,.t 28])::Qf7) [1,2,15,16,17,30] Qt3
def Qt5:SC:=sR (mJ 22 1::mJ 23 7::iJ 24 4 22 23::tJ 25 4 24::eI 9 (.alloc [.int .i64 0,.int .i64 0,.str [],.sl true 4 []])::Qf6) [1,2,8,9,15,16,17] Qt4
def Qt6:SC:=.reg [cJ 31 .add 17 1,mJ 17 31] [1,2,15,16,17]
def Qt7:SC:=.seq (.block 1 (sR (mJ 19 17::iJ 20 4 15 17::tJ 21 4 20::eI 8 (.alloc [.int .i64 0,.int .i64 0,.str [],.sl true 4 []])::Qf5) [1,2,7,8,15,16,17] Qt5)) Qt6
def Qqf:SC:=sR [bJ 18 .lss 17 16] [1,2,15,16,17,18] (cX 18 0 Qt7)
def Qqc:SC:=sR [fB 6 true] [6] .ret
def Qqd:SC:=.seq (sR [mJ 15 0,nJ 16 15,zJ 17 0] [1,2,15,16,17] (bL 0 Qqf)) Qqc
def Qqe:SC:=.seq (sR [mJ 10 0,nJ 11 10,mJ 12 1,nJ 13 12,bJ 14 .neq 11 13] [0,1,2,14] Qt2) Qqd
def Qy3:SC:=sR [fB 6 false] [0,1,2] Qqe
def Qjt:List RS:=[.tmp 6]
theorem Qxt:mFn prog Qb1 3 32 Qy3 Qjt=true:=by kernel_rfl
def Qy4:SC:=cT 14 (sR [fB 6 false] [6] .ret) .skip
def Qin:List Item:=[mJ 7 19,sJ 3 8 21]
def Qio:List Item:=[sJ 3 9 25]
def Qip:List Item:=[oJ 30 29]
def Qy5:SC:=cT 30 (sR [fB 6 false] [6] .ret) .skip
def Qy6:SC:=sR (mJ 26 2::tJ 27 3 8::tJ 28 3 9::eI 29 (.callv (.t 26) [.t 27,.t 28])::Qip) [1,2,15,16,17,30] Qy5
def Qy7:SC:=sR (mJ 22 1::mJ 23 7::iJ 24 3 22 23::tJ 25 3 24::eI 9 (.alloc [.str [],.sl true 1 [],.sl true 5 []])::Qio) [1,2,8,9,15,16,17] Qy6
def Qy8:SC:=.reg [cJ 31 .add 17 1,mJ 17 31] [1,2,15,16,17]
def Qy9:SC:=.seq (.block 1 (sR (mJ 19 17::iJ 20 3 15 17::tJ 21 3 20::eI 8 (.alloc [.str [],.sl true 1 [],.sl true 5 []])::Qin) [1,2,7,8,15,16,17] Qy7)) Qy8
def Qws:SC:=sR [bJ 18 .lss 17 16] [1,2,15,16,17,18] (cX 18 0 Qy9)
def Qwp:SC:=sR [fB 6 true] [6] .ret
def Qwq:SC:=.seq (sR [mJ 15 0,nJ 16 15,zJ 17 0] [1,2,15,16,17] (bL 0 Qws)) Qwp
def Qwr:SC:=.seq (sR [mJ 10 0,nJ 11 10,mJ 12 1,nJ 13 12,bJ 14 .neq 11 13] [0,1,2,14] Qy4) Qwq
def Q4d:SC:=sR [fB 6 false] [0,1,2] Qwr
def Ql1:List RS:=[.tmp 6]
theorem Q2n:mFn prog Qey 3 32 Q4d Ql1=true:=by kernel_rfl
def Qt8:SC:=cT 14 (sR [fB 6 false] [6] .ret) .skip
def Qf8:List Item:=[mJ 7 19,sJ 5 8 21]
def Qf9:List Item:=[sJ 5 9 25]
def Qga:List Item:=[oJ 30 29]
def Qt9:SC:=cT 30 (sR [fB 6 false] [6] .ret) .skip
def Qua:SC:=sR (mJ 26 2::tJ 27 5 8::tJ 28 5 9::eI 29 (.callv (.t 26) [.t 27,.t 28])::Qga) [1,2,15,16,17,30] Qt9
def Qub:SC:=sR (mJ 22 1::mJ 23 7::iJ 24 5 22 23::tJ 25 5 24::eI 9 (.alloc [.int .i64 0,.str [],.sl true 4 [],.sl true 5 [],.sl true 5 []])::Qf9) [1,2,8,9,15,16,17] Qua
def Quc:SC:=.reg [cJ 31 .add 17 1,mJ 17 31] [1,2,15,16,17]
def Qud:SC:=.seq (.block 1 (sR (mJ 19 17::iJ 20 5 15 17::tJ 21 5 20::eI 8 (.alloc [.int .i64 0,.str [],.sl true 4 [],.sl true 5 [],.sl true 5 []])::Qf8) [1,2,7,8,15,16,17] Qub)) Quc
def Qqj:SC:=sR [bJ 18 .lss 17 16] [1,2,15,16,17,18] (cX 18 0 Qud)
def Qqg:SC:=sR [fB 6 true] [6] .ret
def Qqh:SC:=.seq (sR [mJ 15 0,nJ 16 15,zJ 17 0] [1,2,15,16,17] (bL 0 Qqj)) Qqg
def Qqi:SC:=.seq (sR [mJ 10 0,nJ 11 10,mJ 12 1,nJ 13 12,bJ 14 .neq 11 13] [0,1,2,14] Qt8) Qqh
def Qza:SC:=sR [fB 6 false] [0,1,2] Qqi
def Qju:List RS:=[.tmp 6]
theorem Qxu:mFn prog Qa7 3 32 Qza Qju=true:=by kernel_rfl
def Qzb:SC:=cT 10 (sR [fB 4 false] [4] .ret) .skip
def Qzc:SC:=cT 24 (sR [fB 4 false] [4] .ret) .skip
def Qzd:SC:=.seq (.dreg 9 [0,1,2,3,4,5,6,7,8] ( mJ 16 0::mJ 17 5::iJ 18 1 16 17::lJ 19 18::mJ 20 1::mJ 21 5::iJ 22 1 20 21::lJ 23 22::bJ 24 .neq 19 23::[]) [0,1,12,13,24]) Qzc
def Qze:SC:=.reg [cJ 25 .add 13 1,mJ 13 25] [0,1,12,13]
def Qzf:SC:=.seq (.block 1 (sR [mJ 15 13,mJ 5 15] [0,1,5,12,13] Qzd)) Qze
def Qwt:SC:=sR [bJ 14 .lss 13 12] [0,1,12,13,14] (cX 14 0 Qzf)
def Qzg:SC:=sR [fB 4 true] [4] .ret
def Qzh:SC:=.seq (sR [mJ 11 0,nJ 12 11,zJ 13 0] [0,1,12,13] (bL 0 Qwt)) Qzg
def Qzi:SC:=.seq (sR [mJ 6 0,nJ 7 6,mJ 8 1,nJ 9 8,bJ 10 .neq 7 9] [0,1,10] Qzb) Qzh
def Q4e:SC:=sR [fB 4 false] [0,1] Qzi
def Ql2:List RS:=[.tmp 4]
theorem Q2o:mFn prog Qez 2 26 Q4e Ql2=true:=by kernel_rfl
def Qzj:SC:=cT 16 (sR [mJ 17 5,mJ 4 17] [4] .ret) .skip
def Qzk:SC:=sR [mJ 11 1,mJ 12 0,mJ 13 5,iJ 14 3 12 13,tJ 15 3 14,eI 16 (.callv (.t 11) [.t 15])] [0,1,5,7,8,16] Qzj
def Qzl:SC:=.reg [cJ 18 .add 8 1,mJ 8 18] [0,1,7,8]
def Qzm:SC:=.seq (.block 1 (sR [mJ 10 8,mJ 5 10] [0,1,5,7,8] Qzk)) Qzl
def Qwu:SC:=sR [bJ 9 .lss 8 7] [0,1,7,8,9] (cX 9 0 Qzm)
def Qzn:SC:=sR [zJ 4 (-1)] [4] .ret
def Qzo:SC:=.seq (sR [mJ 6 0,nJ 7 6,zJ 8 0] [0,1,7,8] (bL 0 Qwu)) Qzn
def Q4f:SC:=sR [zJ 4 0] [0,1] Qzo
def Qgm:List RS:=[.tmp 4]
theorem Q2p:mFn prog Qe0 2 19 Q4f Qgm=true:=by kernel_rfl
def Que:SC:=cT 16 (sR [mJ 17 5,mJ 4 17] [4] .ret) .skip
def Quf:SC:=sR [mJ 11 1,mJ 12 0,mJ 13 5,iJ 14 5 12 13,tJ 15 5 14,eI 16 (.callv (.t 11) [.t 15])] [0,1,5,7,8,16] Que
def Qug:SC:=.reg [cJ 18 .add 8 1,mJ 8 18] [0,1,7,8]
def Quh:SC:=.seq (.block 1 (sR [mJ 10 8,mJ 5 10] [0,1,5,7,8] Quf)) Qug
def Qqk:SC:=sR [bJ 9 .lss 8 7] [0,1,7,8,9] (cX 9 0 Quh)
def Qui:SC:=sR [zJ 4 (-1)] [4] .ret
def Quj:SC:=.seq (sR [mJ 6 0,nJ 7 6,zJ 8 0] [0,1,7,8] (bL 0 Qqk)) Qui
def Qzp:SC:=sR [zJ 4 0] [0,1] Quj
def Qd2:List RS:=[.tmp 4]
theorem Qxv:mFn prog Qde 2 19 Qzp Qd2=true:=by kernel_rfl
def Qn1:SC:=cT 16 (sR [mJ 17 5,mJ 4 17] [4] .ret) .skip
def Qn2:SC:=sR [mJ 11 1,mJ 12 0,mJ 13 5,iJ 14 1 12 13,lJ 15 14,eI 16 (.callv (.t 11) [.t 15])] [0,1,5,7,8,16] Qn1
def Qn3:SC:=.reg [cJ 18 .add 8 1,mJ 8 18] [0,1,7,8]
def Qn4:SC:=.seq (.block 1 (sR [mJ 10 8,mJ 5 10] [0,1,5,7,8] Qn2)) Qn3
def Qmr:SC:=sR [bJ 9 .lss 8 7] [0,1,7,8,9] (cX 9 0 Qn4)
def Qn5:SC:=sR [zJ 4 (-1)] [4] .ret
def Qn6:SC:=.seq (sR [mJ 6 0,nJ 7 6,zJ 8 0] [0,1,7,8] (bL 0 Qmr)) Qn5
def Quk:SC:=sR [zJ 4 0] [0,1] Qn6
def Qc5:List RS:=[.tmp 4]
theorem Qrj:mFn prog Qck 2 19 Quk Qc5=true:=by kernel_rfl
def Qzq:SC:=cT 16 (sR [mJ 17 5,mJ 4 17] [4] .ret) .skip
def Qzr:SC:=sR [mJ 11 1,mJ 12 0,mJ 13 5,iJ 14 1 12 13,lJ 15 14,bJ 16 .eql 11 15] [0,1,5,7,8,16] Qzq
def Qzs:SC:=.reg [cJ 18 .add 8 1,mJ 8 18] [0,1,7,8]
def Qzt:SC:=.seq (.block 1 (sR [mJ 10 8,mJ 5 10] [0,1,5,7,8] Qzr)) Qzs
def Qwv:SC:=sR [bJ 9 .lss 8 7] [0,1,7,8,9] (cX 9 0 Qzt)
def Qzu:SC:=sR [zJ 4 (-1)] [4] .ret
def Qzv:SC:=.seq (sR [mJ 6 0,nJ 7 6,zJ 8 0] [0,1,7,8] (bL 0 Qwv)) Qzu
def Q4g:SC:=sR [zJ 4 0] [0,1] Qzv
def Qgn:List RS:=[.tmp 4]
theorem Q2q:mFn prog Qe1 2 19 Q4g Qgn=true:=by kernel_rfl
def Qiq:List Item:=[oJ 9 8]
def Qzx:SC:=cT 9 (sR [zJ 2 1] [2] .ret) .skip
def Qir:List Item:=[mJ 5 22,mJ 6 23]
def Qis:List Item:=sJ 3 4 21::Qir
def Qit:List Item:=mJ 17 20::fI 21 (.ext (.t 17) 0)::fI 22 (.ext (.t 17) 1)::fI 23 (.ext (.t 17) 2)::eI 4 (.alloc [.str [],.sl true 1 [],.sl true 5 []])::Qis
def Qzy:SC:=cT 25 (sR [mJ 26 5,mJ 2 26] [2] .ret) .skip
def Qzz:SC:=sR [mJ 24 5,cJ 25 .neq 24 0] [1,3,5,25] Qzy
def Qz0:SC:=.reg [mJ 15 3,cJ 16 .add 15 1,mJ 3 16] [1,3]
def Qz1:SC:=.seq (.block 1 (sR (tJ 18 1 1::mJ 19 3::aJ 20 Qan9 [.t 18,.t 19]::Qit) [1,3,5] Qzz)) Qz0
def Qwz:SC:=.seq (sR [mJ 10 3,fJ 11 0 1,lJ 12 11,nJ 13 12,bJ 14 .lss 10 13] [1,3,14] (cT 14 .skip (.exit 0))) Qz1
def Qww:SC:=sR [zJ 2 0] [2] .ret
def Qwx:SC:=.seq (sR [zJ 3 0] [1,3] (bL 0 Qwz)) Qww
def Qwy:SC:=.seq (sR (tJ 7 1 1::aJ 8 Qbs [.t 7]::Qiq) [1,9] Qzx) Qwx
def Q4h:SC:=sR [vJ 1 0,zJ 2 0] [1] Qwy
def Qgo:List RS:=[.tmp 2]
theorem Q2r:mFn prog Qe3 1 27 Q4h Qgo=true:=by kernel_rfl
def Qek:List Item:=[sJ 1 2 5]
def Qel:List Item:=aJ 5 Q8q [.t 4]::Qek
def Qoa:SC:=sR (mJ 3 0::aJ 4 Q2c [.t 3]::Qel) [2] .ret
def Qut:SC:=sR [eI 2 (.alloc [.sl true 3 []])] [0,2] Qoa
def Qg8:List RS:=[.cell 2 1 true]
theorem Qrk:mFn prog Qcl 1 6 Qut Qg8=true:=by kernel_rfl
def Qiu:List Item:=[fB 3 false]
def Qiv:List Item:=[oJ 9 8]
def Qiw:List Item:=[fB 3 false]
def Qz2:SC:=cT 9 (sR (fI 10 (.bld [.sl true 3 []] [])::sJ 1 2 10::Qiw) [2,3] .ret) .skip
def Qix:List Item:=[mJ 4 12]
def Qiy:List Item:=[sJ 1 5 13]
def Qiz:List Item:=[fJ 32 0 5,sJ 1 32 31]
def Qz3:SC:=.reg [mJ 18 6,cJ 19 .add 18 1,mJ 6 19] [1,2,4,5,6]
def Qz4:SC:=.seq (.block 1 (.dreg 14 [0,1,2,3,4,5,6,7,8,9,10,11,12,13] ( fJ 20 0 5::lJ 21 20::fJ 22 0 1::lJ 23 22::mJ 24 4::mJ 25 6::iJ 26 1 24 25::lJ 27 26::iJ 28 3 23 27::tJ 29 3 28::fI 30 (.bsl 3 [.t 29])::xJ 31 3 21 30::Qiz) [1,2,4,5,6])) Qz3
def Qw5:SC:=.seq (sR [mJ 14 6,mJ 15 4,nJ 16 15,bJ 17 .lss 14 16] [1,2,4,5,6,17] (cT 17 .skip (.exit 0))) Qz4
def Qhl:List Item:=[fB 3 true]
def Qhm:List Item:=sJ 1 2 34::Qhl
def Qw0:SC:=sR (tJ 33 1 5::aJ 34 Qrd [.t 33]::Qhm) [2,3] .ret
def Qw1:SC:=.seq (sR [zJ 6 0] [1,2,4,5,6] (bL 0 Qw5)) Qw0
def Qw2:SC:=sR (fI 13 (.bld [.sl true 3 []] [])::eI 5 (.alloc [.sl true 3 []])::Qiy) [1,2,4,5] Qw1
def Qw3:SC:=sR (tJ 11 1 1::aJ 12 Qla [.t 11]::Qix) [1,2,4] Qw2
def Qw4:SC:=.seq (sR (tJ 7 1 1::aJ 8 Q0v [.t 7]::Qiv) [1,2,9] Qz2) Qw3
def Q4i:SC:=sR (vJ 1 0::eI 2 (.alloc [.sl true 3 []])::Qiu) [1,2] Qw4
def Qgp:List RS:=[.cell 2 1 true,.tmp 3]
theorem Q2s:mFn prog Qe4 1 35 Q4i Qgp=true:=by kernel_rfl
def Qpd:List Item:=[oJ 12 11]
def Qadg:SC:=cT 12 (sR [mJ 13 3,mJ 2 13] [2] .ret) .skip
def Qpe:List Item:=[mJ 4 17]
def Qpf:List Item:=[mJ 6 34]
def Quu:SC:=.reg [mJ 39 7,cJ 40 .add 39 1,mJ 7 40] [1,3,4,5,6,7]
def Qadh:SC:=.seq (.block 3 (.dreg 20 [0,1,2,3,4,5,6,7,8,9,10,11,12,13,14,15,16,17,18,19] ( mJ 41 4::mJ 42 6::mJ 43 7::iJ 44 1 42 43::lJ 45 44::mJ 46 4::mJ 47 6::mJ 48 7::iJ 49 1 47 48::lJ 50 49::iJ 51 1 46 50::lJ 52 51::mJ 53 52::gFm 54 53 4::gFm 55 53 5::gF 56 53 (.iad 1 (.t 54) (.t 55))::gFl 57 53 56::pT 58 53 57::iJ 59 1 41 45::sJ 1 59 58::[]) [1,3,4,5,6,7])) Quu
def Q7v:SC:=.seq (sR [mJ 35 7,mJ 36 6,nJ 37 36,bJ 38 .lss 35 37] [1,3,4,5,6,7,38] (cT 38 .skip (.exit 2))) Qadh
def Qadi:SC:=sR [zJ 7 0] [1,3,4,5,6,7] (bL 2 Q7v)
def Quv:SC:=.reg [mJ 30 5,cJ 31 .sub 30 1,mJ 5 31] [1,3,4,5]
def Qadj:SC:=.seq (.block 1 (sR (tJ 32 1 1::mJ 33 5::aJ 34 Qxr [.t 32,.t 33]::Qpf) [1,3,4,5,6] Qadi)) Quv
def Q4j:SC:=.seq (sR [mJ 28 5,cJ 29 .geq 28 0] [1,3,4,5,29] (cT 29 .skip (.exit 0))) Qadj
def Qms:List Item:=[mJ 3 73]
def Q7m:SC:=cT 69 (.reg (mJ 70 3::mJ 71 8::fI 72 (.bsl 1 [.t 71])::xJ 73 1 70 72::Qms) [3,4,8]) .skip
def Q7n:SC:=.reg [mJ 64 8,cJ 65 .add 64 1,mJ 8 65] [3,4,8]
def Q7o:SC:=.seq (.block 5 (sR [mJ 66 4,mJ 67 8,iJ 68 1 66 67,lJ 69 68] [3,4,8,69] Q7m)) Q7n
def Q4k:SC:=.seq (sR [mJ 60 8,mJ 61 4,nJ 62 61,bJ 63 .lss 60 62] [3,4,8,63] (cT 63 .skip (.exit 4))) Q7o
def Q7p:SC:=sR [mJ 74 3,mJ 2 74] [2] .ret
def Qpc:SC:=.seq (sR [zJ 8 0] [3,4,8] (bL 4 Q4k)) Q7p
def Q7q:SC:=.seq (sR [fJ 24 0 1,lJ 25 24,nJ 26 25,cJ 27 .sub 26 1,mJ 5 27] [1,3,4,5] (bL 0 Q4j)) Qpc
def Q7r:SC:=sR [mJ 18 4,fJ 19 0 1,lJ 20 19,nJ 21 20,cJ 22 .sub 21 1,iJ 23 1 18 22,.e none none (.sto 1 (.t 23) (.k (.c (.bool true))))] [1,3,4] Q7q
def Q7s:SC:=sR (fJ 14 0 1::lJ 15 14::nJ 16 15::eI 17 (.mks 1 [.bool false] (.t 16))::Qpe) [1,3,4] Q7r
def Q7t:SC:=.seq (sR (tJ 10 1 1::aJ 11 Q0v [.t 10]::Qpd) [1,3,12] Qadg) Q7s
def Q7u:SC:=sR [fI 9 (.bsl 1 []),mJ 3 9] [1,3] Q7t
def Qajl:SC:=sR [vJ 1 0,fI 2 (.mv (.k (.c (.sl true 1 []))))] [1] Q7u
def Qi8:List RS:=[.tmp 2]
theorem Qaig:mFn prog Qla 1 75 Qajl Qi8=true:=by kernel_rfl
def Qadk:SC:=cT 33 (sR [fB 4 false] [4] .ret) .skip
def Qpg:List Item:=[oJ 52 51]
def Qadl:SC:=cT 52 (sR [fB 4 false] [4] .ret) .skip
def Qadm:SC:=.reg [mJ 39 5,cJ 40 .add 39 1,mJ 5 40] [2,3,5]
def Qadn:SC:=.seq (.block 1 (.seq (.dreg 12 [0,1,2,3,4,5,6,7,8,9,10,11] ( fJ 41 3 2::lJ 42 41::mJ 43 5::iJ 44 4 42 43::tJ 45 4 44::fJ 46 3 3::lJ 47 46::mJ 48 5::iJ 49 4 47 48::tJ 50 4 49::aJ 51 Qg0 [.t 45,.t 50]::Qpg) [2,3,5,52]) Qadl)) Qadm
def Q7w:SC:=.seq (sR [mJ 34 5,fJ 35 3 2,lJ 36 35,nJ 37 36,bJ 38 .lss 34 37] [2,3,5,38] (cT 38 .skip (.exit 0))) Qadn
def Qado:SC:=sR [fB 4 true] [4] .ret
def Qadp:SC:=.seq (sR [zJ 5 0] [2,3,5] (bL 0 Q7w)) Qado
def Qadq:SC:=.seq (sR [fJ 6 0 2,lJ 7 6,fJ 8 0 3,lJ 9 8,bJ 10 .neq 7 9,mJ 11 10,gFf 12 11 1 2,gFl 13 11 12,gFf 14 11 1 3,gFl 15 11 14,gF 16 11 (.bin 0 .neq (.t 13) (.t 15)),pT 17 11 16,mJ 18 17,gFf 19 18 2 2,gFl 20 18 19,gFf 21 18 2 3,gFl 22 18 21,gF 23 18 (.bin 0 .neq (.t 20) (.t 22)),pT 24 18 23,mJ 25 24,gFf 26 25 3 2,gFl 27 25 26,gF 28 25 (.len (.t 27)),gFf 29 25 3 3,gFl 30 25 29,gF 31 25 (.len (.t 30)),gF 32 25 (.bin 0 .neq (.t 28) (.t 31)),pT 33 25 32] [2,3,33] Qadk) Qadp
def Qajm:SC:=sR [vJ 2 0,vJ 3 1,fB 4 false] [2,3] Qadq
def Q1d:List RS:=[.tmp 4]
theorem Qaih:mFn prog Qg0 2 53 Qajm Q1d=true:=by kernel_rfl
def Q0b:SC:=cT 12 (sR [fB 4 false] [4] .ret) .skip
def Qi0:List Item:=[gF 63 49 (.not (.t 62)),pT 64 49 63]
def Qi1:List Item:=gF 47 33 (.not (.t 46))::pT 48 33 47::mJ 49 48::gFf 50 49 0 2::gFl 51 49 50::gFm 52 49 5::gF 53 49 (.iad 3 (.t 51) (.t 52))::gFf 54 49 2 53::gFl 55 49 54::gFf 56 49 0 3::gFl 57 49 56::gFm 58 49 5::gF 59 49 (.iad 3 (.t 57) (.t 58))::gFf 60 49 2 59::gFl 61 49 60::.e (some 62) (some (49,false)) (.call Qew [.t 55,.t 61])::Qi0
def Q0c:SC:=cT 64 (sR [fB 4 false] [4] .ret) .skip
def Q0d:SC:=.reg [mJ 18 5,cJ 19 .add 18 1,mJ 5 19] [2,3,5]
def Q0e:SC:=.seq (.block 1 (.seq (.dreg 45 [0,1,2,3,4,5,6,7,8,9,10,11,12,13,14,15,16,17,18,19,20,21,22,23,24,25,26,27,28,29,30,31,32,33,34,35,36,37,38,39,40,41,42,43,44] ( fJ 20 0 2::lJ 21 20::mJ 22 5::iJ 23 3 21 22::fJ 24 0 23::lJ 25 24::fJ 26 0 3::lJ 27 26::mJ 28 5::iJ 29 3 27 28::fJ 30 0 29::lJ 31 30::bJ 32 .neq 25 31::mJ 33 32::gFf 34 33 0 2::gFl 35 33 34::gFm 36 33 5::gF 37 33 (.iad 3 (.t 35) (.t 36))::gFf 38 33 1 37::gFl 39 33 38::gFf 40 33 0 3::gFl 41 33 40::gFm 42 33 5::gF 43 33 (.iad 3 (.t 41) (.t 42))::gFf 44 33 1 43::gFl 45 33 44::.e (some 46) (some (33,false)) (.call Q2d [.t 39,.t 45])::Qi1) [2,3,5,64]) Q0c)) Q0d
def Qw8:SC:=.seq (sR [mJ 13 5,fJ 14 0 2,lJ 15 14,nJ 16 15,bJ 17 .lss 13 16] [2,3,5,17] (cT 17 .skip (.exit 0))) Q0e
def Q0f:SC:=sR [fB 4 true] [4] .ret
def Q0g:SC:=.seq (sR [zJ 5 0] [2,3,5] (bL 0 Qw8)) Q0f
def Q0h:SC:=.seq (sR [fJ 6 0 2,lJ 7 6,nJ 8 7,fJ 9 0 3,lJ 10 9,nJ 11 10,bJ 12 .neq 8 11] [2,3,12] Q0b) Q0g
def Q4m:SC:=sR [vJ 2 0,vJ 3 1,fB 4 false] [2,3] Q0h
def Ql3:List RS:=[.tmp 4]
theorem Q2t:mFn prog Qcq 2 65 Q4m Ql3=true:=by kernel_rfl
def Qgb:List Item:=[mJ 4 7]
def Quw:SC:=sR (mJ 5 0::mJ 6 1::aJ 7 Qdg [.t 5,.t 6,.k (.c (.bool true))]::Qgb) [4] .ret
def Q0i:SC:=sR [zJ 4 0] [0,1] Quw
def Qjx:List RS:=[.tmp 4]
theorem Qxx:mFn prog Qdf 2 8 Q0i Qjx=true:=by kernel_rfl
def Qcn:List Item:=[fI 12 (.ext (.t 11) 0)]
def Qgc:List Item:=[mJ 18 2,fI 19 (.bin 1 .eql (.t 17) (.t 18))]
def Qux:SC:=cT 19 (sR [mJ 20 7,mJ 6 20] [6] .ret) .skip
def Quy:SC:=sR (mJ 15 1::mJ 16 8::eI 17 (.callv (.t 15) [.t 16])::Qgc) [1,2,7,10,19] Qux
def Quz:SC:=.block 1 (sR [fI 13 (.ext (.t 11) 1),fI 14 (.ext (.t 11) 2),mJ 7 13,mJ 8 14] [1,2,7,8,10] Quy)
def Qq7:SC:=sR (eI 11 (.nxts (.t 10))::Qcn) [1,2,10,11,12] (cX 12 0 Quz)
def Qu0:SC:=sR [zJ 6 (-1)] [6] .ret
def Qu1:SC:=.seq (sR [mJ 9 0,eI 10 (.rngs (.t 9))] [1,2,10] (bL 0 Qq7)) Qu0
def Q0j:SC:=sR [zJ 6 0] [0,1,2] Qu1
def Qd3:List RS:=[.tmp 6]
theorem Qxy:mFn prog Qdg 3 21 Q0j Qd3=true:=by kernel_rfl
end Go.AE.Y

namespace Go.AE.Y
attribute [local go_sem] cond_true cond_false Bool.not_true Bool.not_false
open Go.Proofs.Tryz
variable {H:Heap}{K:V→Heap→Prop}
def levN (op:Int):Int:=if op=10 then 1 else if op=8∨op=9 then 2 else if op=3∨op=4 then 3 else if op=5∨op=6∨op=7 then 4 else 0
structure GK (H:Heap):Prop where
 keys:H Qe6=.gl Qe6 (keysL.map C.str)
 sign:∃ks rows,H Qau=.gl Qau [.cm true ks rows]∧∀op:Int,Qjq 0 (.int .i64 op) ((ks.zip rows).map fun e=>(e.1,V.ag e.2))∧
  ∃sg,(Qdm (.int .i64 op) ((ks.zip rows).map fun e=>(e.1,V.ag e.2))).getD (.ag [.str [],.int .i64 0])=.ag [.str sg,.int .i64 (levN op)]
theorem GK.upd {H':Heap}{U:List (Nat×Obj)}(g:GK H)(hu:Upd H H' U)(h1:Qe6∉U.map Prod.fst)(h2:Qau∉U.map Prod.fst):GK H':=by
 obtain⟨ks,rows,h3,h4⟩:=g.sign
 exact⟨(hu.2 _ (by rw[g.keys];nofun) h1).trans g.keys,ks,rows,(hu.2 _ (by rw[h3];nofun) h2).trans h3,h4⟩
theorem GK.upd0 {H':Heap}(g:GK H)(hu:Upd H H' []):GK H':=g.upd hu (by simp) (by simp)
theorem GK.kn {H':Heap}{L:List (Nat×Obj)}(g:GK H)(kn:Kn H H' [] L):GK H':=by
 obtain⟨ks,rows,h3,h4⟩:=g.sign
 exact⟨(kn.chg _ (by rw[g.keys];nofun) (by simp)).trans g.keys,ks,rows,(kn.chg _ (by rw[h3];nofun) (by simp)).trans h3,h4⟩
theorem Qawx {r:Int}(hK:K (.c (.bool (decide (r<97) || decide (122<r)))) H):Qp prog Qb4 [.c (.int .i32 r)] H K:=by
 refine Qb Qah Qad3 ?_
 refine Qa ?_
 simp only[go_sem]
 refine Qa ?_
 simp only[go_sem]
 refine Qi ?_
 simp only[go_sem,Qy,Q7,Qxc,List.mem_singleton,forall_eq,RS.op]
 have:(bif decide (r<97)then true else decide (122<r))=(decide (r<97) || decide (122<r)):=by cases decide (r<97) <;> rfl
 first|exact hK|(rw[this];exact hK)|(simpa[this]using hK)
set_option maxHeartbeats 1000000 in
theorem Qakf {s:List UInt8}(hK:∀(r:Int) (H':Heap),Upd H H' []→decide (r<0)=s.all Qcb→K (.c (.int .i64 r)) H') :
  Qp prog Qdg [.c (.str s),.c (.fn Qb4 []),.c (.bool true)] H K:=by
 refine Qw ?_
 refine Qb Qah Qxy ?_
 have retf:∀(r:Int) (e:Env) (H':Heap) (L:List (Nat×Obj)),decide (r<0)=s.all Qcb→Kn H H' [] L→lk 6 e=.c (.int .i64 r)→Qy Qd3 (unK H K) .ret e H':=by
  intro r e H' L hr kn h3
  simp only[go_sem,Qy,Q7,Qd3,List.mem_singleton,forall_eq,RS.op,h3]
  exact⟨_,.c _ _ (Qg rfl),hK _ _ kn.fin hr⟩
 refine Qa ?_
 simp only[go_sem]
 refine Q4 ?_
 refine Qa ?_
 simp only[go_sem]
 intro i hi H1 h1
 have kn:=(Kn.start0 H).al hi h1
 refine Qf (Qd (Q0 (fun m e1 H1=>∃(q:Nat),m=s.length-q∧Kn H H1 [] [(i,.sit s q)]∧(∀x∈s.take q,Qcb x=true)∧
  lk 1 e1=.c (.fn Qb4 [])∧lk 2 e1=.c (.bool true)∧lk 10 e1=.c (.itr i)) s.length ?_ ?_))
 ·exact⟨0,by omega,kn,by simp,rfl,rfl,rfl⟩
 ·clear kn
  rintro m e1 H2 ⟨q,hm,kn,hall,l1,l2,l10⟩
  have hit:=kn.l 0 rfl
  refine Qa ?_
  simp only[go_sem,l1,l2,l10,hit]
  refine⟨fun hle=>?_,fun c wd hlt hw h1 h2 H3 h3=>?_⟩
  ·simp only[go_sem,Qcn,l1,l2,l10,List.getD_cons_zero]
   refine Qf (Qc rfl (fun h=>by cases h) (fun _=>?_))
   refine Q1 ?_
   simp only[go_sem,AE.X.next]
   refine Qa ?_
   simp only[go_sem]
   refine Qi ?_
   rw[List.take_of_length_le hle]at hall
   exact retf (-1) _ _ _ (by rw[List.all_eq_true.2 hall];rfl) kn (by simp[lk])
  ·have kn:=kn.stL 0 rfl h3
   have hbe:s.getD q 0=s[q]:=by simp[List.getD_eq_getElem?_getD,hlt]
   rw[hbe]at h1 h2
   simp only[go_sem,Qcn,l1,l2,l10,List.getD_cons_zero,List.getD_cons_succ]
   refine Qf (Qc rfl (fun _=>?_) (fun h=>by cases h))
   refine Qe ?_
   try simp only[go_sem]
   refine Qd ?_
   refine Qa ?_
   simp only[go_sem,List.getD_cons_zero,List.getD_cons_succ]
   refine Qa ?_
   simp only[go_sem]
   refine Qawx ?_
   have hs:(decide (c<97) || decide (122<c)) = !Qcb s[q]:=by
    rw[Bool.eq_iff_iff,Qcb]
    simp only[Bool.or_eq_true,decide_eq_true_eq,Bool.not_eq_true',decide_eq_false_iff_not]
    rcases Nat.lt_or_ge s[q].toNat 128 with h|h
    ·have:=(h1 h).1
     omega
    ·have:=h2 h
     omega
   rw[hs]
   simp only[go_sem,Qgc]
   refine Qc rfl ?_ ?_
   ·intro hc
    have hb:Qcb s[q]=false:=by simpa using hc
    refine Qa ?_
    simp only[go_sem]
    refine Qi ?_
    simp only[go_sem,AE.X.next]
    refine retf (q:Int) _ _ _ ?_ kn (by simp[lk])
    rw[decide_eq_false (by omega)]
    symm
    rw[List.all_eq_false]
    exact⟨_,List.getElem_mem hlt,by rw[hb];simp⟩
   ·intro hc
    have hb:Qcb s[q]=true:=by simpa using hc
    refine Qe ?_
    try simp only[go_sem]
    have hw1:wd=1:=by
     rcases Nat.lt_or_ge s[q].toNat 128 with h|h
     ·exact (h1 h).2
     ·exfalso
      rw[Qcb,decide_eq_true_eq]at hb
      omega
    subst hw1
    show ∃m,_
    refine⟨s.length-(q+1),by omega,q+1,rfl,kn,fun x hx=>?_,rfl,rfl,rfl⟩
    rw[List.take_succ_eq_append_getElem hlt]at hx
    rcases List.mem_append.1 hx with h|h
    ·exact hall x h
    ·rw[List.mem_singleton]at h;rw[h];exact hb
theorem Qaju {s:List UInt8}(hK:∀(r:Int) (H':Heap),Upd H H' []→decide (r<0)=s.all Qcb→K (.c (.int .i64 r)) H') :
  Qp prog Qdf [.c (.str s),.c (.fn Qb4 [])] H K:=by
 refine Qb Qah Qxx ?_
 refine Qa ?_
 simp only[go_sem]
 refine Qa ?_
 simp only[go_sem]
 refine Qakf fun r H' hu hr=>?_
 simp only[go_sem,Qgb]
 refine Qi ?_
 simp only[go_sem,Qy,Q7,Qjx,List.mem_singleton,forall_eq,RS.op]
 exact hK _ _ hu hr
theorem Qatn {f:Bool}{ss:List (List UInt8)}{v:List UInt8}(hK:∀r:Int,decide (0≤r)=ss.contains v→K (.c (.int .i64 r)) H) :
  Qp prog Qe1 [.c (.sl f 1 (Q2 ss)),.c (.str v)] H K:=by
 refine Qb Qah Q2q ?_
 refine Qa ?_
 simp only[go_sem]
 refine Q4 ?_
 refine Qa ?_
 simp only[go_sem,Qq]
 intro hl
 simp only[LIM]at hl
 refine Qf (Qd (Q0 (fun m e1 H1=>∃(i:Nat),m=ss.length-i∧i≤ss.length∧H1=H∧v∉ss.take i∧e1=[(0,.c (.sl f 1 (Q2 ss))),(1,.c (.str v)),(7,.c (.int .i64 ss.length)),(8,.c (.int .i64 i))]) ss.length ?_ ?_))
 ·exact⟨0,by omega,by omega,rfl,by simp,rfl⟩
 ·rintro m e1 H1 ⟨i,hm,hi,rfl,hno,rfl⟩
  refine Qa ?_
  simp only[go_sem]
  refine Qf (Qc rfl ?_ ?_)
  ·intro hc
   have hlt:i<ss.length:=by simpa using hc
   have hgd:ss.getD i []=ss[i]:=by simp[List.getD_eq_getElem?_getD,hlt]
   refine Qe ?_
   simp only[go_sem]
   refine Qf (Qd ?_)
   refine Qa ?_
   simp only[go_sem]
   refine Qa ?_
   simp only[go_sem,hlt,Qq,Qaw _ _ hlt]
   refine Qc rfl ?_ ?_
   ·intro hc2
    have hv:v=ss[i]:=by first|simpa using hc2|(rw[←hgd];simpa using hc2)
    refine Qa ?_
    simp only[go_sem]
    refine Qi ?_
    simp only[go_sem,AE.X.next,Qy,Q7,Qgn,List.mem_singleton,forall_eq,RS.op]
    refine hK _ ?_
    have:v∈ss:=by rw[hv];exact List.getElem_mem hlt
    rw[List.contains_iff_mem.2 this];simp
   ·intro hc2
    have hv:¬v=ss[i]:=by first|simpa using hc2|(rw[←hgd];simpa using hc2)
    refine Qe ?_
    simp only[go_sem]
    refine Qs ?_
    simp only[go_sem,AE.X.next]
    refine⟨Qu (by omega) (by omega),ss.length-(i+1),by omega,i+1,rfl,by omega,?_,rfl⟩
    rw[List.take_succ_eq_append_getElem hlt]
    simp only[List.mem_append,List.mem_singleton,not_or]
    exact⟨hno,hv⟩
  ·intro hc
   have hge:ss.length≤i:=by simpa using hc
   rw[List.take_of_length_le hge]at hno
   refine Q1 ?_
   simp only[go_sem,AE.X.next]
   refine Qa ?_
   simp only[go_sem]
   refine Qi ?_
   simp only[go_sem,Qy,Q7,Qgn,List.mem_singleton,forall_eq,RS.op]
   refine hK _ ?_
   have:ss.contains v=false:=by
    cases hc:ss.contains v with
    |false=>rfl
    |true=>exact absurd (List.contains_iff_mem.1 hc) hno
   rw[this];rfl
theorem Qaho {f:Bool}{ss:List (List UInt8)}{v:List UInt8}(hK:K (.c (.bool (ss.contains v))) H) :
  Qp prog Qc2 [.c (.sl f 1 (Q2 ss)),.c (.str v)] H K:=by
 refine Qb Qah Qvr ?_
 refine Qa ?_
 simp only[go_sem]
 refine Qa ?_
 simp only[go_sem]
 refine Qatn fun r hr=>?_
 simp only[go_sem,Qft]
 refine Qi ?_
 simp only[go_sem,Qy,Q7,Qh1,List.mem_singleton,forall_eq,RS.op]
 rw[hr];exact hK
theorem Qvh {n lo hi:Int}(hK:K (.c (.bool (decide (lo≤n)&&decide (n≤hi)))) H):Qp prog Qd9 [.c (.int .i64 n),.c (.int .i64 lo),.c (.int .i64 hi)] H K:=by
 refine Qb Qah Qaol ?_
 refine Qa ?_
 simp only[go_sem]
 refine Qa ?_
 simp only[go_sem]
 refine Qi ?_
 simp only[go_sem,Qy,Q7,Q9e,List.mem_singleton,forall_eq,RS.op]
 have:(bif decide (lo≤n)then decide (n≤hi)else false)=(decide (lo≤n)&&decide (n≤hi)):=by cases decide (lo≤n) <;> rfl
 first|exact hK|(rw[this];exact hK)|(simpa[this]using hK)
set_option maxHeartbeats 1000000 in
theorem Qlt {s:List UInt8}(g:GK H)(hK:∀H',Upd H H' []→K (.c (.bool (Qct s))) H'):Qp prog Qcw [.c (.str s)] H K:=by
 refine Qw ?_
 refine Qb Qah Qaoi ?_
 have retf:∀(b:Bool) (e:Env) (H':Heap) (L:List (Nat×Obj)),b=Qct s→Kn H H' [] L→lk 2 e=.c (.bool b)→Qy Qx1 (unK H K) .ret e H':=by
  rintro b e H' L rfl kn h3
  simp only[go_sem,Qy,Q7,Qx1,List.mem_singleton,forall_eq,RS.op,h3]
  exact⟨_,.c _ _ (Qg rfl),hK _ kn.fin⟩
 have kn:=Kn.start0 H
 refine Qa ?_
 simp only[go_sem]
 refine Qa ?_
 simp only[go_sem]
 try intro _
 refine Qvh ?_
 by_cases hl:1≤s.length∧s.length≤4
 ·have hd:(decide ((1:Int)≤(s.length:Int))&&decide ((s.length:Int)≤4))=true:=by simp;omega
  simp only[go_sem,Qlg,hd]
  refine Qaju fun r H1 hu hr=>?_
  have kn:=kn.call0 hu
  have g1:=g.upd0 hu
  cases hsm:s.all Qcb with
  |false=>
   rw[hsm]at hr
   simp only[go_sem,Qg2,Qg1,hr]
   refine Qi ?_
   exact retf false _ _ _ (by rw[Qct,hsm];simp) kn (by simp[lk])
  |true=>
   rw[hsm]at hr
   have hk:=g1.keys
   simp only[go_sem,Qg2,hr,hk]
   refine⟨⟨by decide,by simp only[LIM];omega⟩,?_⟩
   have e:List.map (fun c=>[c]) (List.take 9 (List.map C.str keysL))=Q2 keysL:=rfl
   rw[e]
   refine Qaho ?_
   simp only[go_sem,Qg1]
   refine Qi ?_
   exact retf _ _ _ _ (by rw[Qct,hsm,decide_eq_true hl];simp) kn rfl
 ·have hd:(decide ((1:Int)≤(s.length:Int))&&decide ((s.length:Int)≤4))=false:=by
   rw[Bool.and_eq_false_iff,decide_eq_false_iff_not,decide_eq_false_iff_not];omega
  simp only[go_sem,Qlg,Qg2,Qg1,hd]
  refine Qi ?_
  exact retf false _ _ _ (by rw[Qct,decide_eq_false hl];simp) kn (by simp[lk])
end Go.AE.Y

namespace Go.AE.Y
attribute [local go_sem] cond_true cond_false Bool.not_true Bool.not_false
open Go.Proofs.Tryz
variable {H:Heap}{K:V→Heap→Prop}
def levO (op:Int):Int:=if 0<levN op then levN op else if op=11∨op=12 then 5 else 6
theorem Qayc {op:Int}(g:GK H)(hK:K (.c (.int .i64 (levO op))) H):Qp prog Qm2 [.c (.int .i64 op)] H K:=by
 obtain⟨ks,rows,hs,hl⟩:=g.sign
 obtain⟨ho,sg,hf⟩:=hl op
 have ret:∀(n:Int) (e:Env),n=levO op→lk 2 e=.c (.int .i64 n)→Qy Qrs K .ret e H:=by
  rintro n e rfl h3
  simp only[go_sem,Qy,Q7,Qrs,List.mem_singleton,forall_eq,RS.op,h3]
  exact hK
 refine Qb Qah Qakr ?_
 refine Qa ?_
 simp only[go_sem]
 refine Qf (Qd ?_)
 refine Qa ?_
 simp only[go_sem,hs,Q5,Qrm,hf,eq_true ho,List.drop_succ_cons,List.drop_zero]
 refine Qc rfl ?_ ?_
 ·intro hc
  have h0:0<levN op:=of_decide_eq_true hc
  refine Qa ?_
  simp only[go_sem,hs,Q5,Qrm,hf,eq_true ho,List.drop_succ_cons,List.drop_zero]
  refine Qi ?_
  simp only[go_sem,AE.X.next]
  exact ret _ _ (by rw[levO,if_pos h0]) (by simp[lk])
 ·intro hc
  have h0:¬0<levN op:=of_decide_eq_false hc
  refine Qa ?_
  simp only[go_sem,Qhu]
  refine Qc rfl ?_ ?_
  ·intro hc2
   have h1:op=11∨op=12:=by simpa using hc2
   refine Qa ?_
   simp only[go_sem]
   refine Qi ?_
   simp only[go_sem,AE.X.next]
   exact ret _ _ (by rw[levO,if_neg h0,if_pos h1]) (by simp[lk])
  ·intro hc2
   have h1:¬(op=11∨op=12):=by simpa using hc2
   refine Qe ?_
   simp only[go_sem,AE.X.next]
   refine Qa ?_
   simp only[go_sem]
   refine Qi ?_
   exact ret _ _ (by rw[levO,if_neg h0,if_neg h1]) (by simp[lk])
theorem Qa7j {op:Int}:levO op<6↔3≤op∧op≤12:=by
 by_cases h:3≤op∧op≤12
 ·simp only[h,and_self,iff_true]
  rw[levO,levN]
  obtain⟨h1,h2⟩:=h
  rcases (by omega:op=3∨op=4∨op=5∨op=6∨op=7∨op=8∨op=9∨op=10∨op=11∨op=12)with rfl|rfl|rfl|rfl|rfl|rfl|rfl|rfl|rfl|rfl <;> decide
 ·simp only[h,iff_false]
  have h0:levN op=0:=by rw[levN,if_neg (by omega),if_neg (by omega),if_neg (by omega),if_neg (by omega)]
  rw[levO,h0,if_neg (by omega),if_neg (by omega)]
  omega
theorem lev_pos {op:Int}:0<levN op↔3≤op∧op≤10:=by
 by_cases h:3≤op∧op≤10
 ·simp only[h,and_self,iff_true]
  obtain⟨h1,h2⟩:=h
  rcases (by omega:op=3∨op=4∨op=5∨op=6∨op=7∨op=8∨op=9∨op=10)with rfl|rfl|rfl|rfl|rfl|rfl|rfl|rfl <;> decide
 ·simp only[h,iff_false]
  rw[levN,if_neg (by omega),if_neg (by omega),if_neg (by omega),if_neg (by omega)]
  omega
def hd1 (op n:Int)(name:List UInt8):Bool:=decide (1≤op∧op≤13)&&(!decide (op=1) || (decide (0≤n∧n≤255)&&decide (name=[])))&&(!decide (op=2∨op=13) || (Qct name&&decide (n=0)))
theorem Qak6:Qct []=false:=by decide
theorem Qa5f (op n:Int)(name:List UInt8)(k:Nat):Qaj6 op n name k =
  (hd1 op n name&&(!decide (levO op<6) || (decide (n=0)&&decide (name=[])))&&(decide (Qeb op≤(k:Int))&&decide ((k:Int)≤Qea op))):=by
 have hl:decide (levO op<6)=decide (3≤op∧op≤12):=by rw[decide_eq_decide];exact Qa7j
 rw[Qaj6,hd1,hl,Bool.eq_iff_iff]
 simp only[Bool.and_eq_true,Bool.or_eq_true,decide_eq_true_eq,beq_iff_eq,Bool.not_eq_true',decide_eq_false_iff_not]
 by_cases hn:name=[]
 ·subst hn
  simp only[Qak6,decide_eq_false_iff_not]
  constructor
  ·rintro⟨⟨⟨⟨⟨h1,h2⟩,h3⟩,h4⟩,h5⟩,h6⟩
   refine⟨⟨⟨⟨h1,?_⟩,?_⟩,?_⟩,h2⟩
   ·exact .inr ⟨h5,trivial⟩
   ·exact .inl h3
   ·rcases h6 with h6|h6
    ·exact .inl (by omega)
    ·exact .inr ⟨h6,trivial⟩
  ·rintro⟨⟨⟨⟨h1,h2⟩,h3⟩,h4⟩,h5⟩
   have h3:¬(op=2∨op=13):=by
    rcases h3 with h3|⟨h3,_⟩
    ·exact h3
    ·cases h3
   refine⟨⟨⟨⟨⟨h1,h5⟩,h3⟩,.inr trivial⟩,?_⟩,?_⟩
   ·rcases h2 with h2|⟨h2,_⟩
    ·rcases h4 with h4|⟨h4,_⟩ <;> omega
    ·exact h2
   ·rcases h4 with h4|⟨h4,_⟩
    ·exact .inl (by omega)
    ·exact .inr h4
 ·simp only[hn,and_false,or_false]
  constructor
  ·rintro⟨⟨⟨⟨⟨h1,h2⟩,h3⟩,h4⟩,h5⟩,h6⟩
   rw[decide_eq_true h4]at h3
   refine⟨⟨⟨⟨h1,by omega⟩,?_⟩,by omega⟩,h2⟩
   exact .inr ⟨h3.symm,by omega⟩
  ·rintro⟨⟨⟨⟨h1,h2⟩,h3⟩,h4⟩,h5⟩
   have h6:op=2∨op=13:=by omega
   rcases h3 with h3|⟨h3,h7⟩
   ·exact absurd h6 h3
   ·exact⟨⟨⟨⟨⟨h1,h5⟩,by rw[h3];simp[h6]⟩,h6⟩,by omega⟩,.inr h7⟩
end Go.AE.Y

namespace Go.AE
variable {H0 H H':Heap}{E L B A:List (Nat×Obj)}{P:Program}
theorem c_gh {b:SC}{Q:X→Env→Heap→Prop}{e e':Env}(h:Qa4g e H e' H')(hb:Q8 P b Q e' H'):Q8 P (.seq .gh b) Q e H:=⟨e',H',h,hb⟩
theorem Kn.drop (kn:Kn H0 H E (A++B)):Kn H0 H E A:=
 ⟨fun p hp=>kn.get p (by
   rcases List.mem_append.1 hp with h|h
   ·exact List.mem_append_left _ h
   ·exact List.mem_append_right _ (List.mem_append_left _ h)),kn.ext,fun p hp=>kn.loc p (List.mem_append_left _ hp),kn.dE,by
   have:=kn.dL;rw[List.map_append]at this;exact (List.nodup_append.1 this).1,kn.chg⟩
theorem Kn.freeze {z gl:Nat}{o og og':Obj}(kn:Kn H0 H E (B++[(z,o)]))(i:Nat)(hB:B[i]? = some (gl,og))(hO:FrzO H (fun m=>m == z) og og')(hn:og'≠.none) :
  FrzH H (fun m=>m == z) ((H.frz fun m=>m == z).set gl og')∧Kn H0 ((H.frz fun m=>m == z).set gl og') E (B.set i (gl,og')):=by
 have hzf:H0 z=.none:=kn.loc (z,o) (by simp)
 have hnd:=kn.dL
 rw[List.map_append]at hnd
 have hne:∀p∈B,p.1≠z:=fun p hp hh=>(List.nodup_append.1 hnd).2.2 _ (Qbi hp) z (by simp) hh
 have hneE:∀p∈E,p.1≠z:=fun p hp hh=>kn.ext p hp (hh▸hzf)
 have hgl:=hne _ (List.mem_of_getElem? hB)
 have hH:H gl=og:=(kn.get (gl,og) (List.mem_append_right _ (List.mem_append_left _ (List.mem_of_getElem? hB)))).1
 refine⟨(Qvf _ _).set (by simpa using hgl) (by rw[hH];exact hO),?_⟩
 have kn1:Kn H0 (H.frz fun m=>m == z) E B:=by
  refine⟨fun p hp=>?_,kn.ext,fun p hp=>kn.loc p (List.mem_append_left _ hp),kn.dE,(List.nodup_append.1 hnd).1,fun m hm hx=>?_⟩
  ·have:p.1≠z:=by
    rcases List.mem_append.1 hp with h|h
    ·exact hneE p h
    ·exact hne p h
   have h2:(H.frz fun m=>m == z) p.1=H p.1:=by simp[Heap.frz,this]
   rw[h2]
   refine kn.get p ?_
   rcases List.mem_append.1 hp with h|h
   ·exact List.mem_append_left _ h
   ·exact List.mem_append_right _ (List.mem_append_left _ h)
  ·have:m≠z:=fun h=>hm (h▸hzf)
   have h2:(H.frz fun m=>m == z) m=H m:=by simp[Heap.frz,this]
   rw[h2];exact kn.chg m hm hx
 exact kn1.setL i hB hn
theorem Kn.callEL (hk:Kn H0 H E L)(i j:Nat){l m:Nat}{o o' q q':Obj}(h:E[i]? = some (l,o))(h2:L[j]? = some (m,q))(hu:Upd H H' [(l,o'),(m,q')])(ho:o'≠.none)(hq:q'≠.none) :
  Kn H0 H' (E.set i (l,o')) (L.set j (m,q')):=by
 refine hk.callg hu (Qce h) (Qce h2) (fun p hp=>?_) (fun u hu=>?_)
 ·rcases List.mem_append.1 hp with hp|hp
  ·rcases Qbo hp with rfl|⟨b,hb,hp⟩
   ·exact⟨ho,.inl (by simp)⟩
   ·have hm:=List.mem_append_left L (List.mem_of_getElem? hp)
    refine⟨(hk.get p hm).2,.inr ⟨hm,?_⟩⟩
    simp only[List.map_cons,List.map_nil,List.mem_cons,List.not_mem_nil,or_false,not_or]
    exact⟨fun hh=>hb (Qe7 hk.dE hp h hh),fun hh=>hk.ext p (List.mem_of_getElem? hp) (hh▸hk.free j h2)⟩
  ·rcases Qbo hp with rfl|⟨b,hb,hp⟩
   ·exact⟨hq,.inl (by simp)⟩
   ·have hm:=List.mem_append_right E (List.mem_of_getElem? hp)
    refine⟨(hk.get p hm).2,.inr ⟨hm,?_⟩⟩
    simp only[List.map_cons,List.map_nil,List.mem_cons,List.not_mem_nil,or_false,not_or]
    exact⟨fun hh=>hk.usedE i h (hh▸hk.loc p (List.mem_of_getElem? hp)),fun hh=>hb (Qe7 hk.dL hp h2 hh)⟩
 ·simp at hu
  rcases hu with rfl|rfl
  ·exact .inl (Qbi (p:=(l,o)) (List.mem_of_getElem? h))
  ·exact .inr (Qbi (p:=(m,q)) (List.mem_of_getElem? h2))
end Go.AE

namespace Go.AE.Y
attribute [local go_sem] cond_true cond_false Bool.not_true Bool.not_false
open Go.Proofs.Tryz
variable {H H0:Heap}{K:V→Heap→Prop}
theorem Qa1v {n:Int}(hK:K (.c (.bool (decide (0≤n)&&decide (n≤255)))) H):Qp prog Qq9 [.c (.int .i64 n)] H K:=by
 refine Qb Qah Qaoj ?_
 refine Qa ?_
 simp only[go_sem]
 refine Qa ?_
 simp only[go_sem]
 refine Qvh ?_
 simp only[go_sem,Qxf]
 refine Qi ?_
 simp only[go_sem,Qy,Q7,Q9d,List.mem_singleton,forall_eq,RS.op]
 exact hK
def SzOk (x:Ex)(most:Int)(n d:Int)(ok:Bool):Prop:=ok=(x.form most&&decide (x.size≤30))∧(ok=true→n=x.size∧0≤d∧d≤1000+most)
def Qa6t (n:Nat):Prop:=∀(x:Ex) {H:Heap} {K:V→Heap→Prop} (most:Int),x.size≤n→x.size≤2^40→most≤100→GK H→
 (∀(n d:Int) (ok:Bool) H',Upd H H' []→SzOk x most n d ok→K (.tup [.c (.int .i64 n),.c (.int .i64 d),.c (.bool ok)]) H')→Qp prog Qgw [.ag x.cells,.c (.int .i64 most)] H K
set_option maxHeartbeats 4000000 in
theorem Qa3t {x:Ex}{most:Int}{Q:X→Env→Heap→Prop}(kn:Kn H0 H [] [])(g:GK H)
  (hf:∀e' H',hd1 x.op x.n x.name=false→Kn H0 H' [] []→lk 4 e'=.c (.int .i64 0)→lk 5 e'=.c (.int .i64 0)→lk 6 e'=.c (.bool false)→Q .ret e' H')
  (hn:∀e' H',hd1 x.op x.n x.name=true→Kn H0 H' [] []→lk 1 e'=.c (.int .i64 most)→lk 2 e'=.c (.pp [.int .i64 x.op,.int .i64 x.n,.str x.name,.sl false 4 (Qv x.kids)])→lk 7 e'=.c (.int .i64 (Qeb x.op))→lk 8 e'=.c (.int .i64 (Qea x.op))→Q .nrm e' H') :
  Q8 prog Qok Q [(1,.c (.int .i64 most)),(2,.c (.pp [.int .i64 x.op,.int .i64 x.n,.str x.name,.sl false 4 (Qv x.kids)])),(7,.c (.int .i64 0)),(8,.c (.int .i64 0)),(16,.c (.bool (decide (x.op=1))))] H:=by
 have ret:∀(e:Env) (H':Heap),hd1 x.op x.n x.name=false→Kn H0 H' [] []→Q8 prog (.seq (.reg (
   .f (some 4) none (.mv (.k (.c (.int .i64 0))))::
   .f (some 5) none (.mv (.k (.c (.int .i64 0))))::
   .f (some 6) none (.mv (.k (.c (.bool false))))::
   []) [4,5,6]) .ret) Q e H':=by
  intro e H' h kn
  refine Qa ?_
  simp only[go_sem]
  refine Qi ?_
  exact hf _ _ h kn (by simp[lk]) (by simp[lk]) (by simp[lk])
 obtain⟨ks,rows,hs,hl⟩:=g.sign
 obtain⟨ho,sg,hfd⟩:=hl x.op
 refine Qc rfl ?_ ?_
 ·intro hc
  have h1:x.op=1:=by simpa using hc
  refine Qa ?_
  simp only[go_sem]
  refine Qa1v ?_
  simp only[go_sem,Qom,Qhu]
  refine Qc rfl ?_ ?_
  ·intro hc2
   refine ret _ _ ?_ kn
   rw[hd1,h1]
   revert hc2
   by_cases ha:0≤x.n <;> by_cases hb:x.n≤255 <;> by_cases hn:x.name=[] <;> simp[ha,hb,hn]
  ·intro hc2
   refine Qe ?_
   have hk1:Qeb x.op=0:=by rw[h1];rfl
   have hk2:Qea x.op=0:=by rw[h1];rfl
   refine hn _ H ?_ kn (by simp[lk]) (by simp[lk]) (by rw[hk1];simp[lk]) (by rw[hk2];simp[lk])
   rw[hd1,h1]
   revert hc2
   by_cases ha:0≤x.n <;> by_cases hb:x.n≤255 <;> by_cases hn:x.name=[] <;> simp[ha,hb,hn]
 intro hc
 have h1:¬x.op=1:=by simpa using hc
 refine Qa ?_
 simp only[go_sem]
 refine Qc rfl ?_ ?_
 ·intro hc2
  have h2:x.op=2:=by simpa using hc2
  refine Qa ?_
  simp only[go_sem]
  refine Qlt g fun H1 hu=>?_
  have kn:=kn.call0 hu
  simp only[go_sem,Qon,Qhu]
  refine Qc rfl ?_ ?_
  ·intro hc3
   refine ret _ _ ?_ kn
   rw[hd1,h2]
   revert hc3
   cases Qct x.name <;> by_cases hb:x.n=0 <;> simp[hb]
  ·intro hc3
   refine Qe ?_
   have hk1:Qeb x.op=0:=by rw[h2];rfl
   have hk2:Qea x.op=0:=by rw[h2];rfl
   refine hn _ H1 ?_ kn (by simp[lk]) (by simp[lk]) (by rw[hk1];simp[lk]) (by rw[hk2];simp[lk])
   rw[hd1,h2]
   revert hc3
   cases Qct x.name <;> by_cases hb:x.n=0 <;> simp[hb]
 intro hc2
 have h2:¬x.op=2:=by simpa using hc2
 refine Qa ?_
 simp only[go_sem]
 refine Qc rfl ?_ ?_
 ·intro hc3
  have h3:x.op=13:=by simpa using hc3
  refine Qa ?_
  simp only[go_sem]
  refine Qa ?_
  simp only[go_sem]
  refine Qlt g fun H1 hu=>?_
  have kn:=kn.call0 hu
  simp only[go_sem,Qoo,Qhu]
  refine Qc rfl ?_ ?_
  ·intro hc4
   refine ret _ _ ?_ kn
   rw[hd1,h3]
   revert hc4
   cases Qct x.name <;> by_cases hb:x.n=0 <;> simp[hb]
  ·intro hc4
   refine Qe ?_
   have hk1:Qeb x.op=0:=by rw[h3];rfl
   have hk2:Qea x.op=3:=by rw[h3];rfl
   refine hn _ H1 ?_ kn (by simp[lk]) (by simp[lk]) (by rw[hk1];simp[lk]) (by rw[hk2];simp[lk])
   rw[hd1,h3]
   revert hc4
   cases Qct x.name <;> by_cases hb:x.n=0 <;> simp[hb]
 intro hc3
 have h3:¬x.op=13:=by simpa using hc3
 refine Qa ?_
 simp only[go_sem,hs,Q5,Qrm,hfd,eq_true ho,List.drop_succ_cons,List.drop_zero]
 have hh:∀(h:3≤x.op∧x.op≤12),hd1 x.op x.n x.name=true:=fun h=>by
  rw[hd1,decide_eq_true (by omega:1≤x.op∧x.op≤13),decide_eq_false (by omega:¬x.op=1),decide_eq_false (by omega:¬(x.op=2∨x.op=13))];rfl
 refine Qc rfl ?_ ?_
 ·intro hc4
  have h4:=lev_pos.1 (of_decide_eq_true hc4)
  refine Qs ?_
  simp only[go_sem]
  have hk1:Qeb x.op=2:=by rw[Qeb,if_neg (by omega),if_neg (by omega)]
  have hk2:Qea x.op=2:=by rw[Qea,if_neg (by omega),if_neg (by omega),if_neg (by omega)]
  exact hn _ H (hh (by omega)) kn (by simp[lk]) (by simp[lk]) (by rw[hk1];simp[lk]) (by rw[hk2];simp[lk])
 intro hc4
 have h4:¬(3≤x.op∧x.op≤10):=fun h=>absurd (lev_pos.2 h) (of_decide_eq_false hc4)
 refine Qa ?_
 simp only[go_sem,Qhu]
 refine Qc rfl ?_ ?_
 ·intro hc5
  have h5:x.op=11∨x.op=12:=by simpa using hc5
  refine Qs ?_
  simp only[go_sem]
  have hk1:Qeb x.op=1:=by rw[Qeb,if_neg (by omega),if_pos h5]
  have hk2:Qea x.op=1:=by rw[Qea,if_neg (by omega),if_pos h5]
  exact hn _ H (hh (by omega)) kn (by simp[lk]) (by simp[lk]) (by rw[hk1];simp[lk]) (by rw[hk2];simp[lk])
 ·intro hc5
  have h5:¬(x.op=11∨x.op=12):=by simpa using hc5
  refine ret _ _ ?_ kn
  rw[hd1,decide_eq_false (by omega:¬(1≤x.op∧x.op≤13))];rfl
theorem Qa6j {S:Nat→Bool}(n d:Int)(b:Bool):FrzV H S (.tup [.c (.int .i64 n),.c (.int .i64 d),.c (.bool b)]) (.tup [.c (.int .i64 n),.c (.int .i64 d),.c (.bool b)]):=by
 refine .tup _ _ rfl fun j x x' h1 h2=>?_
 match j with
 |0=>simp at h1 h2;subst h1;subst h2;exact .c _ _ (Qg rfl)
 |1=>simp at h1 h2;subst h1;subst h2;exact .c _ _ (Qg rfl)
 |2=>simp at h1 h2;subst h1;subst h2;exact .c _ _ (Qg rfl)
set_option maxHeartbeats 8000000 in
theorem Qat0:∀n,Qa6t n:=by
 intro n
 induction n with
 |zero=>intro x _ _ _ h;have:=x.size_pos;omega
 |succ n ih=>
 intro x H K most hn hs40 hmost g hK
 have g0:=g
 have hsz:=x.size_kids
 refine Qw ?_
 refine Qb Qah Qah9 ?_
 have ret:∀(n d:Int) (ok:Bool) (e:Env) (H':Heap) (L:List (Nat×Obj)),SzOk x most n d ok→Kn H H' [] L→lk 4 e=.c (.int .i64 n)→lk 5 e=.c (.int .i64 d)→lk 6 e=.c (.bool ok)→Qy Qfb (unK H K) .ret e H':=by
  intro n d ok e H' L hf kn h4 h5 h6
  simp only[go_sem,Qy,Q7,Qfb,List.forall_mem_cons,List.not_mem_nil,RS.op,h4,h5,h6]
  exact⟨fun _=>trivial,_,Qa6j n d ok,hK n d ok _ kn.fin hf⟩
 have retf:∀(e:Env) (H':Heap) (L:List (Nat×Obj)),(x.form most&&decide (x.size≤30))=false→Kn H H' [] L→lk 4 e=.c (.int .i64 0)→lk 5 e=.c (.int .i64 0)→lk 6 e=.c (.bool false)→Qy Qfb (unK H K) .ret e H':=by
  intro e H' L hf kn h4 h5 h6
  exact ret 0 0 false e H' L ⟨hf.symm,nofun⟩ kn h4 h5 h6
 have hfe:=x.form_eq most
 rw[Qa5f,Q8h]at hfe
 refine Qa ?_
 simp only[go_sem,x.cells_eq]
 refine Qa ?_
 simp only[go_sem]
 refine Qf (Qd ?_)
 refine Qa ?_
 simp only[go_sem]
 refine Qa3t (Kn.start0 H) g (fun e' H' hh kn h4 h5 h6=>?_) (fun e' H' hh kn l1 l2 l7 l8=>?_)
 ·simp only[go_sem,AE.X.next]
  exact retf _ _ _ (by rw[hfe,hh];simp) kn h4 h5 h6
 simp only[go_sem,AE.X.next]
 rw[hh]at hfe
 have g:=g.kn kn
 refine Q4 ?_
 refine Qa ?_
 simp only[go_sem,l1,l2,l7,l8]
 obtain⟨P,hP⟩:∃P,(decide (1≤most)&&((!decide (levO x.op<6) || (decide (x.n=0)&&decide (x.name=[])))&&(decide (Qeb x.op≤(x.kids.length:Int))&&decide ((x.kids.length:Int)≤Qea x.op))))=P:=⟨_,rfl⟩
 have hfe2:x.form most=(P&&x.kids.all fun y=>y.form (most-1)):=by rw[hfe,←hP];simp only[Bool.true_and,Bool.and_assoc]
 have rest:∀b:Bool,b = !P→Q8 prog (s_im_exprSize_14.seq Qol) (Qy Qfb (unK H K))
   [(1,.c (.int .i64 most)),(2,.c (.pp [.int .i64 x.op,.int .i64 x.n,.str x.name,.sl false 4 (Qv x.kids)])),(97,.c (.bool b))] H':=by
  intro b hb
  refine Qf (Qc rfl ?_ ?_)
  ·intro hc
   have hA:P=false:=by rw[hc]at hb;simpa using hb.symm
   refine Qa ?_
   simp only[go_sem]
   refine Qi ?_
   simp only[go_sem,AE.X.next]
   exact retf _ _ _ (by rw[hfe2,hA];rfl) kn (by simp[lk]) (by simp[lk]) (by simp[lk])
  intro hc
  have hA:P=true:=by rw[hc]at hb;simpa using hb.symm
  have hm1:1≤most:=by
   rw[hA,Bool.and_eq_true,decide_eq_true_eq]at hP;exact hP.1
  rw[hA,Bool.true_and]at hfe2
  refine Qe ?_
  try simp only[go_sem]
  refine Qa ?_
  simp only[go_sem]
  refine Q4 ?_
  refine Qa ?_
  simp only[go_sem,Qj]
  intro hl
  simp only[LIM]at hl
  refine Qf (Qd (Q0 (fun m e1 H1=>∃(i:Nat) (d:Int),m=x.kids.length-i∧i≤x.kids.length∧Kn H H1 [] []∧((x.kids.take i).all fun y=>y.form (most-1))=true∧1≤d∧d≤1000+most∧
   e1=[(1,.c (.int .i64 most)),(9,.c (.int .i64 (1+Ql (x.kids.take i):Nat))),(10,.c (.int .i64 d)),(99,.c (.sl false 4 (Qv x.kids))),(100,.c (.int .i64 x.kids.length)),(101,.c (.int .i64 i))]) x.kids.length ?_ ?_))
  ·exact⟨0,1,by omega,by omega,kn,rfl,by omega,by omega,by simp[Ql]⟩
  ·clear kn g
   rintro m e1 H2 ⟨i,d,hm,hi,kn,hall,hd0,hd1',rfl⟩
   have g:=(‹GK H› : GK H).kn kn
   refine Qa ?_
   simp only[go_sem]
   refine Qf (Qc rfl ?_ ?_)
   ·intro hc
    have hlt:i<x.kids.length:=by simpa using hc
    have hm:=Qaf (List.getElem_mem hlt)
    refine Qe ?_
    try simp only[go_sem]
    refine Qf (Qd ?_)
    refine Qa ?_
    simp only[go_sem,hlt,Qj,Qac _ _ hlt,x.kids[i].cells_eq]
    intro x12 hx12 H3 h3
    have kn:=kn.al hx12 h3
    have g12:=kn.l 0 rfl
    simp only[go_sem,Qmd,g12]
    intro H4 h4
    have kn:Kn H H4 [] [(x12,.st [.int .i64 x.kids[i].op,.int .i64 x.kids[i].n,.str x.kids[i].name,.sl false 4 (Qv x.kids[i].kids)])]:=kn.stL 0 rfl h4
    have g:=g0.kn kn
    clear g12
    have g12:=kn.l 0 rfl
    refine Qa ?_
    simp only[go_sem,g12]
    refine⟨Qu (by omega) (by omega),?_⟩
    have hih:=@ih x.kids[i]
    rw[x.kids[i].cells_eq]at hih
    refine hih (most-1) (by omega) (by omega) (by omega) g fun n' d' ok H5 hu hso=>?_
    have kn:=Kn.drop (A:=[]) (kn.call0 hu)
    obtain⟨hso1,hso2⟩:=hso
    simp only[go_sem,Qme,List.getD_cons_zero,List.getD_cons_succ]
    refine Q4 ?_
    refine Qa ?_
    simp only[go_sem]
    have hel:=Q4t hlt
    have hle:=Qjk x.kids (i+1)
    refine Qf (Qc rfl ?_ ?_)
    ·intro hc2
     have hok:ok=false:=by simpa using hc2
     refine Qa ?_
     simp only[go_sem]
     refine Qi ?_
     simp only[go_sem,AE.X.next]
     refine retf _ _ _ ?_ kn (by simp[lk]) (by simp[lk]) (by simp[lk])
     rw[hok]at hso1
     rcases Bool.and_eq_false_iff.1 hso1.symm with h|h
     ·rw[hfe2,Qk4 hlt h];rfl
     ·rw[decide_eq_false_iff_not]at h
      rw[decide_eq_false (by omega),Bool.and_false]
    ·intro hc2
     have hok:ok=true:=by simpa using hc2
     obtain⟨hn',hd2,hd3⟩:=hso2 hok
     rw[hok]at hso1
     have hso1:=hso1.symm
     rw[Bool.and_eq_true,decide_eq_true_eq]at hso1
     obtain⟨hs1,hs2⟩:=hso1
     have hin:Ql (x.kids.take i)≤Ql x.kids:=Qjk x.kids i
     refine Qe ?_
     try simp only[go_sem]
     refine Qa ?_
     simp only[go_sem]
     refine⟨Qu (by omega) (by omega),?_⟩
     refine Qs ?_
     simp only[go_sem,AE.X.next]
     refine⟨Qu (by omega) (by omega),?_⟩
     refine Qs ?_
     simp only[go_sem,AE.X.next]
     refine⟨Qu (by omega) (by omega),x.kids.length-(i+1),by omega,i+1,(if d'+1 > d then d'+1 else d),rfl,by omega,kn,by rw[Qgu hlt,hall,hs1];rfl,by split <;> omega,by split <;> omega,?_⟩
     rw[show (((1+Ql (x.kids.take i):Nat):Int)+n')=((1+Ql (x.kids.take (i+1)):Nat):Int)by omega]
     rfl
   ·intro hc
    have hge:x.kids.length≤i:=by simpa using hc
    rw[List.take_of_length_le hge]at hall
    rw[List.take_of_length_le hge]
    refine Q1 ?_
    simp only[go_sem,AE.X.next]
    refine Qa ?_
    simp only[go_sem]
    refine Qi ?_
    refine ret _ d _ _ _ _ ⟨?_,fun _=>⟨by rw[hsz],by omega,hd1'⟩⟩ kn (by simp[lk]) (by simp[lk]) rfl
    rw[hfe2,hall,hsz,Bool.true_and,decide_eq_decide]
    omega
 refine Qayc g ?_
 simp only[go_sem,Qmc,l1,l2,l7,l8,Qhu]
 intro hl
 refine⟨fun hb=>?_,fun hb=>?_⟩
 ·have hb:=Qvs hb
  refine Qvh ?_
  simp only[go_sem,Qgq,hb,l1,l2,l7,l8,Qhu,Qj]
  try intro _
  refine rest _ ?_
  rw[←hP,Qatw (a:=most)]
  revert hb
  simp only[Qdd]
  cases decide (levO x.op<6) <;> cases decide (x.n=0) <;> cases decide (x.name=[]) <;> cases decide (Qeb x.op≤(x.kids.length:Int)) <;> cases decide ((x.kids.length:Int)≤Qea x.op) <;> cases decide ((1:Int)≤most) <;> simp
 ·have hb:=Qkj hb
  simp only[go_sem,Qgq,hb,l1,l2,l7,l8,Qhu]
  try intro _
  refine rest _ ?_
  rw[←hP]
  revert hb
  simp only[Qdd]
  cases decide (levO x.op<6) <;> cases decide (x.n=0) <;> cases decide (x.name=[]) <;> simp
theorem Q0z {x:Ex}(hx:x.size≤2^40)(g:GK H)(hK:∀H',Upd H H' []→K (.c (.bool x.valid)) H'):Qp prog Qjl [.ag x.cells] H K:=by
 refine Qb Qah Qad2 ?_
 refine Qa ?_
 simp only[go_sem,x.cells_eq]
 refine Qa ?_
 simp only[go_sem]
 have h:=@Qat0 x.size x
 rw[x.cells_eq]at h
 refine h 6 (Nat.le_refl _) hx (by omega) g fun n d ok H' hu hso=>?_
 simp only[go_sem,Ql5,List.getD_cons_zero,List.getD_cons_succ]
 refine Qa ?_
 simp only[go_sem]
 refine Qi ?_
 simp only[go_sem,Qy,Q7,Qxb,List.mem_singleton,forall_eq,RS.op]
 rw[hso.1]
 exact hK _ hu
end Go.AE.Y

namespace Go.AE.Y
attribute [local go_sem] cond_true cond_false Bool.not_true Bool.not_false
open Go.Proofs.Tryz
variable {H H0:Heap}{K:V→Heap→Prop}
def acN (op:Int):Int:=if 1≤op∧op≤8 then (argN op:Int)else -1
set_option maxHeartbeats 2000000 in
theorem Qatr {op:Int}(hK:K (.tup [.c (.int .i64 (acN op)),.c (.bool (decide (op=1∨op=2))),.c (.bool (decide (op=5∨op=6))),.c (.bool (decide (op=5)))]) H):Qp prog Qk7 [.c (.int .i64 op)] H K:=by
 refine Qb Qah Qah8 ?_
 have ret:∀(n:Int) (a b c:Bool) (e:Env),n=acN op→a=decide (op=1∨op=2)→b=decide (op=5∨op=6)→c=decide (op=5)→lk 2 e=.c (.int .i64 n)→lk 3 e=.c (.bool a)→lk 4 e=.c (.bool b)→lk 5 e=.c (.bool c)→Qy Qe8 K .ret e H:=by
  intro n a b c e h1 h2 h3 h4 l2 l3 l4 l5
  subst h1;subst h2;subst h3;subst h4
  simp only[go_sem,Qy,Q7,Qe8,List.forall_mem_cons,List.not_mem_nil,RS.op,l2,l3,l4,l5]
  exact⟨fun _=>trivial,hK⟩
 have fin:∀(n:Int) (a b c:Bool) (e:Env) (Q:X→Env→Heap→Prop),(∀e,lk 2 e=.c (.int .i64 n)→lk 3 e=.c (.bool a)→lk 4 e=.c (.bool b)→lk 5 e=.c (.bool c)→Q .ret e H)→Q8 prog (.seq (.reg (
  .f (some 2) none (.mv (.k (.c (.int .i64 n))))::
  .f (some 3) none (.mv (.k (.c (.bool a))))::
  .f (some 4) none (.mv (.k (.c (.bool b))))::
  .f (some 5) none (.mv (.k (.c (.bool c))))::
  []) [2,3,4,5]) .ret) Q e H:=by
  intro n a b c e Q hq
  refine Qa ?_
  simp only[go_sem]
  refine Qi ?_
  exact hq _ (by simp[lk]) (by simp[lk]) (by simp[lk]) (by simp[lk])
 refine Qa ?_
 simp only[go_sem]
 refine Q4 ?_
 refine Qa ?_
 simp only[go_sem]
 refine Qf (Qd ?_)
 refine Q4 ?_
 refine Qa ?_
 simp only[go_sem]
 have one:∀(e:Env),(op=1∨op=2)→Q8 prog Qr2 (X.inBlock 0 (X.sq prog Qj2 (Qy Qe8 K))) ((6,.c (.int .i64 op))::(7,.c (.bool true))::e) H:=by
  intro e h
  refine Qc rfl (fun _=>?_) (fun h=>by cases h)
  refine fin 1 true false false _ _ fun e l2 l3 l4 l5=>?_
  simp only[go_sem,AE.X.next]
  exact ret _ _ _ _ e (by rw[acN,if_pos (by omega),argN,if_neg (by omega)];rfl) (by rw[decide_eq_true h]) (by symm;rw[decide_eq_false_iff_not];omega) (by symm;rw[decide_eq_false_iff_not];omega) l2 l3 l4 l5
 refine Qf (Qc rfl ?_ ?_)
 ·intro hc
  refine Qe ?_
  simp only[go_sem]
  have h1:op=1:=by simpa using hc
  rw[hc]
  exact one [] (.inl h1)
 intro hc
 have h1:¬op=1:=by simpa using hc
 refine Qs ?_
 simp only[go_sem]
 by_cases h2:op=2
 ·rw[decide_eq_true h2]
  exact one [] (.inr h2)
 rw[decide_eq_false h2]
 refine Qc rfl (fun h=>by cases h) (fun _=>?_)
 refine Q4 ?_
 refine Qa ?_
 simp only[go_sem]
 have two:∀(b:Bool),b=decide (op=3∨op=7∨op=8)→Q8 prog Qr1 (X.inBlock 0 (X.sq prog Qj2 (Qy Qe8 K))) [(6,.c (.int .i64 op)),(10,.c (.bool b))] H:=by
  intro b hb
  refine Qc rfl (fun hc=>?_) (fun hc=>?_)
  ·rw[hb,decide_eq_true_eq]at hc
   refine fin 1 false false false _ _ fun e l2 l3 l4 l5=>?_
   simp only[go_sem,AE.X.next]
   exact ret _ _ _ _ e (by rw[acN,if_pos (by omega),argN,if_neg (by omega)];rfl) (by symm;rw[decide_eq_false_iff_not];omega) (by symm;rw[decide_eq_false_iff_not];omega) (by symm;rw[decide_eq_false_iff_not];omega) l2 l3 l4 l5
  rw[hb,decide_eq_false_iff_not]at hc
  refine Qa ?_
  simp only[go_sem]
  refine Qc rfl (fun hc4=>?_) (fun hc4=>?_)
  ·have h4:op=4:=by simpa using hc4
   refine fin 2 false false false _ _ fun e l2 l3 l4 l5=>?_
   simp only[go_sem,AE.X.next]
   exact ret _ _ _ _ e (by rw[h4];rfl) (by rw[h4];rfl) (by rw[h4];rfl) (by rw[h4];rfl) l2 l3 l4 l5
  have h4:¬op=4:=by simpa using hc4
  refine Qa ?_
  simp only[go_sem]
  refine Qc rfl (fun hc5=>?_) (fun hc5=>?_)
  ·have h5:op=5:=by simpa using hc5
   refine fin 1 false true true _ _ fun e l2 l3 l4 l5=>?_
   simp only[go_sem,AE.X.next]
   exact ret _ _ _ _ e (by rw[h5];rfl) (by rw[h5];rfl) (by rw[h5];rfl) (by rw[h5];rfl) l2 l3 l4 l5
  have h5:¬op=5:=by simpa using hc5
  refine Qa ?_
  simp only[go_sem]
  refine Qc rfl (fun hc6=>?_) (fun hc6=>?_)
  ·have h6:op=6:=by simpa using hc6
   refine fin 1 false true false _ _ fun e l2 l3 l4 l5=>?_
   simp only[go_sem,AE.X.next]
   exact ret _ _ _ _ e (by rw[h6];rfl) (by rw[h6];rfl) (by rw[h6];rfl) (by rw[h6];rfl) l2 l3 l4 l5
  have h6:¬op=6:=by simpa using hc6
  refine Qe ?_
  simp only[go_sem,AE.X.next]
  refine fin (-1) false false false _ _ fun e l2 l3 l4 l5=>?_
  exact ret _ _ _ _ e (by rw[acN,if_neg (by omega)]) (by symm;rw[decide_eq_false_iff_not];omega) (by symm;rw[decide_eq_false_iff_not];omega) (by symm;rw[decide_eq_false_iff_not];omega) l2 l3 l4 l5
 refine Qf (Qc rfl ?_ ?_)
 ·intro hc3
  have h3:op=3:=by simpa using hc3
  refine Qe ?_
  simp only[go_sem]
  exact two _ (by rw[decide_eq_decide];omega)
 intro hc3
 have h3:¬op=3:=by simpa using hc3
 refine Qa ?_
 simp only[go_sem]
 refine Qc rfl ?_ ?_
 ·intro hc7
  have h7:op=7:=by simpa using hc7
  refine Qe ?_
  simp only[go_sem]
  exact two _ (by rw[decide_eq_decide];omega)
 intro hc7
 have h7:¬op=7:=by simpa using hc7
 refine Qs ?_
 simp only[go_sem]
 exact two _ (by rw[decide_eq_decide];omega)
def badS (op:Int)(name:List UInt8)(args:List Ex)(nb ne:Nat)(nest:Int):Bool:=
 decide (4<nest) || (!decide ((args.length:Int)=acN op) || ((decide (op=1∨op=2)&&!Qct name) || ((!decide (op=1∨op=2)&&!decide (name=[])) || ((!decide (op=5∨op=6)&&decide (0<nb)) || ((!decide (op=5)&&decide (0<ne)) ||
  (decide (op=8)&&!decide ((args.map Ex.op).getD 0 0=13)))))))
theorem acN_eq {op:Int}{k:Nat}:(k:Int)=acN op↔(1≤op∧op≤8)∧k=argN op:=by
 rw[acN]
 split <;> omega
theorem Qa4o (op:Int)(name:List UInt8)(args:List Ex)(nb ne:Nat)(nest:Int):(decide (1≤5-nest)&&Qahj op name args nb ne)=(!badS op name args nb ne nest&&args.all Ex.valid):=by
 have e1:decide (1≤5-nest) = !decide (4<nest):=by rw[Bool.eq_iff_iff];simp;omega
 have e2:decide ((args.length:Int)=acN op)=(decide (1≤op∧op≤8)&&decide (args.length=argN op)):=by rw[Bool.eq_iff_iff];simp only[Bool.and_eq_true,decide_eq_true_eq];exact acN_eq
 have e3:decide (ne=0) = !decide (0<ne):=by rw[Bool.eq_iff_iff];simp
 have e4:decide (nb=0) = !decide (0<nb):=by rw[Bool.eq_iff_iff];simp
 have e5:(decide (op=1∨op=2) == Qct name)=true→decide (op=1∨op=2)=false→name=[]→True:=fun _ _ _=>trivial
 rw[Qahj,badS,e1,e2,e3,e4]
 by_cases hn:name=[]
 ·subst hn
  rw[Qak6]
  cases decide (4<nest) <;> cases decide (1≤op∧op≤8) <;> cases decide (args.length=argN op) <;> cases decide (op=1∨op=2) <;> cases decide (0<ne) <;> cases decide (0<nb) <;> cases decide (op=5) <;> cases decide (op=5∨op=6) <;> cases decide (op=8) <;> cases decide ((args.map Ex.op).getD 0 0=13) <;> cases args.all Ex.valid <;> rfl
 ·rw[decide_eq_false hn]
  cases decide (4<nest) <;> cases decide (1≤op∧op≤8) <;> cases decide (args.length=argN op) <;> cases decide (op=1∨op=2) <;> cases Qct name <;> cases decide (0<ne) <;> cases decide (0<nb) <;> cases decide (op=5) <;> cases decide (op=5∨op=6) <;> cases decide (op=8) <;> cases decide ((args.map Ex.op).getD 0 0=13) <;> cases args.all Ex.valid <;> rfl
end Go.AE.Y

namespace Go.AE.Y
attribute [local go_sem] cond_true cond_false Bool.not_true Bool.not_false
open Go.Proofs.Tryz
variable {H H0:Heap}{K:V→Heap→Prop}
theorem dpos (n:Nat):decide ((0:Int)<(n:Int))=decide (0<n):=by rw[decide_eq_decide];omega
set_option maxHeartbeats 4000000 in
theorem Qa6f {x:St}{nest:Int}{Q:X→Env→Heap→Prop}(kn:Kn H0 H [] [])(g:GK H)
  (hn:∀e' H' b,b=badS x.op x.name x.args x.body.length x.els.length nest→Kn H0 H' [] []→lk 1 e'=.c (.int .i64 nest)→lk 2 e'=.c (.pp [.int .i64 x.op,.str x.name,.sl false 4 (Qv x.args),.sl false 5 (Qk x.body),.sl false 5 (Qk x.els)])→lk 19 e'=.c (.bool b)→Q .nrm e' H') :
  Q8 prog Q1m Q [(1,.c (.int .i64 nest)),(2,.c (.pp [.int .i64 x.op,.str x.name,.sl false 4 (Qv x.args),.sl false 5 (Qk x.body),.sl false 5 (Qk x.els)])),(5,.c (.int .i64 (acN x.op))),(6,.c (.bool (decide (x.op=1∨x.op=2)))),(7,.c (.bool (decide (x.op=5∨x.op=6)))),(8,.c (.bool (decide (x.op=5)))),(19,.c (.bool (decide (4<nest))))] H:=by
 refine Qc rfl (fun hc=>?_) (fun hc=>?_)
 ·rw[hc]
  refine Qe ?_
  exact hn _ _ true (by simp only[badS,hc,Bool.true_or]) kn (by simp[lk]) (by simp[lk]) (by simp[lk])
 refine Qa ?_
 simp only[go_sem,Qj]
 intro _
 refine Qc rfl (fun hc1=>?_) (fun hc1=>?_)
 ·rw[hc1]
  refine Qe ?_
  exact hn _ _ true (by simp only[badS,hc,hc1,Bool.true_or,Bool.false_or]) kn (by simp[lk]) (by simp[lk]) (by simp[lk])
 have hl:=acN_eq.1 (show (x.args.length:Int)=acN x.op by simpa using hc1)
 have rest:∀(b:Bool) (H1:Heap),b=(decide (x.op=1∨x.op=2)&&!Qct x.name)→Kn H0 H1 [] []→Q8 prog Q1l Q [(1,.c (.int .i64 nest)),(2,.c (.pp [.int .i64 x.op,.str x.name,.sl false 4 (Qv x.args),.sl false 5 (Qk x.body),.sl false 5 (Qk x.els)])),(6,.c (.bool (decide (x.op=1∨x.op=2)))),(7,.c (.bool (decide (x.op=5∨x.op=6)))),(8,.c (.bool (decide (x.op=5)))),(19,.c (.bool b))] H1:=by
  intro b H1 hb kn
  refine Qc rfl (fun hc2=>?_) (fun hc2=>?_)
  ·rw[hc2]at hb
   rw[hc2]
   refine Qe ?_
   exact hn _ _ true (by simp only[badS,hc,hc1,←hb,Bool.true_or,Bool.false_or]) kn (by simp[lk]) (by simp[lk]) (by simp[lk])
  rw[hc2]at hb
  refine Qa ?_
  simp only[go_sem,Qdd]
  refine Qc rfl (fun hc3=>?_) (fun hc3=>?_)
  ·rw[hc3]
   refine Qe ?_
   exact hn _ _ true (by simp only[badS,hc,hc1,←hb,hc3,Bool.true_or,Bool.false_or]) kn (by simp[lk]) (by simp[lk]) (by simp[lk])
  refine Qa ?_
  simp only[go_sem,Qdd,Qn]
  try intro _
  refine Qc rfl (fun hc4=>?_) (fun hc4=>?_)
  ·rw[hc4]
   rw[dpos]at hc4
   refine Qe ?_
   exact hn _ _ true (by simp only[badS,hc,hc1,←hb,hc3,hc4,Bool.true_or,Bool.false_or]) kn (by simp[lk]) (by simp[lk]) (by simp[lk])
  rw[dpos]at hc4
  refine Qa ?_
  simp only[go_sem,Qdd,Qn]
  try intro _
  refine Qc rfl (fun hc5=>?_) (fun hc5=>?_)
  ·rw[hc5]
   rw[dpos]at hc5
   refine Qe ?_
   exact hn _ _ true (by simp only[badS,hc,hc1,←hb,hc3,hc4,hc5,Bool.true_or,Bool.false_or]) kn (by simp[lk]) (by simp[lk]) (by simp[lk])
  rw[dpos]at hc5
  refine Qs ?_
  have h1:0<x.args.length:=by rw[hl.2,argN];split <;> omega
  have hg0:=Qac x.args 0 h1
  obtain⟨a,ea⟩:∃a,x.args[0]=a:=⟨_,rfl⟩
  rw[ea]at hg0
  have eo:(x.args.map Ex.op).getD 0 0=a.op:=by rw[←ea];simp[List.getD_eq_getElem?_getD,h1]
  simp only[go_sem,Qdd,Qj,h1,hg0,a.cells_eq]
  first
   |refine⟨fun _=>by omega,?_⟩
   |skip
  refine hn _ _ (decide (x.op=8)&&!decide (a.op=13)) ?_ kn (by simp[lk]) (by simp[lk]) (by simp[lk])
  simp only[badS,hc,hc1,←hb,hc3,hc4,hc5,eo,Bool.true_or,Bool.false_or,Bool.true_and]
 by_cases hnm:x.op=1∨x.op=2
 ·have hd:decide (x.op=1∨x.op=2)=true:=decide_eq_true hnm
  rw[hd]at rest
  refine Qa ?_
  simp only[go_sem,hd]
  refine Qlt g fun H1 hu=>?_
  simp only[go_sem,Qlh]
  exact rest _ _ rfl (kn.call0 hu)
 ·have hd:decide (x.op=1∨x.op=2)=false:=decide_eq_false hnm
  rw[hd]at rest
  refine Qa ?_
  simp only[go_sem,hd,Qlh]
  exact rest _ _ rfl kn
theorem Qahq {fl:Bool}{l:List St}{f:Nat}{caps:List C}{p:St→Bool}
  (hf:∀(x:St) (H1:Heap) (K':V→Heap→Prop),x∈l→Kn H H1 [] []→(∀H2,Upd H1 H2 []→K' (.c (.bool (p x))) H2)→Qp prog f ([.ag x.cells]++caps.map .c) H1 K')
  (hK:∀(r:Int) (H':Heap),Upd H H' []→decide (0≤r)=l.any p→K (.c (.int .i64 r)) H') :
  Qp prog Qde [.c (.sl fl 5 (Qk l)),.c (.fn f caps)] H K:=by
 refine Qw ?_
 refine Qb Qah Qxv ?_
 refine Qa ?_
 simp only[go_sem]
 refine Q4 ?_
 refine Qa ?_
 simp only[go_sem,Qn]
 intro hl
 simp only[LIM]at hl
 refine Qf (Qd (Q0 (fun m e1 H1=>∃(i:Nat),m=l.length-i∧i≤l.length∧Kn H H1 [] []∧(∀x∈l.take i,p x=false)∧e1=[(0,.c (.sl fl 5 (Qk l))),(1,.c (.fn f caps)),(7,.c (.int .i64 l.length)),(8,.c (.int .i64 i))]) l.length ?_ ?_))
 ·exact⟨0,by omega,by omega,Kn.start0 H,by simp,rfl⟩
 ·rintro m e1 H1 ⟨i,hm,hi,kn,hall,rfl⟩
  refine Qa ?_
  simp only[go_sem]
  refine Qf (Qc rfl ?_ ?_)
  ·intro hc
   have hlt:i<l.length:=by simpa using hc
   refine Qe ?_
   simp only[go_sem]
   refine Qf (Qd ?_)
   refine Qa ?_
   simp only[go_sem]
   refine Qa ?_
   simp only[go_sem,hlt,Qn,Qae _ _ hlt,St.take5,St.allOw,St.cells_len]
   refine hf _ _ _ (List.getElem_mem hlt) kn fun H2 hu=>?_
   have kn:=kn.call0 hu
   refine Qc rfl ?_ ?_
   ·intro hc2
    refine Qa ?_
    simp only[go_sem]
    refine Qi ?_
    simp only[go_sem,X.next,Qy,Q7,Qd2,List.mem_singleton,forall_eq,RS.op]
    refine⟨_,.c _ _ (Qg rfl),hK _ _ kn.fin ?_⟩
    have:l.any p=true:=List.any_eq_true.2 ⟨_,List.getElem_mem hlt,hc2⟩
    rw[this];simp
   ·intro hc2
    refine Qe ?_
    simp only[go_sem]
    refine Qs ?_
    simp only[go_sem,X.next]
    refine⟨Qu (by omega) (by omega),l.length-(i+1),by omega,i+1,rfl,by omega,kn,?_,rfl⟩
    rw[List.take_succ_eq_append_getElem hlt]
    intro x hx
    rcases List.mem_append.1 hx with hx|hx
    ·exact hall x hx
    ·simp only[List.mem_singleton]at hx;subst hx;exact hc2
  ·intro hc
   have hge:l.length≤i:=by simpa using hc
   rw[List.take_of_length_le hge]at hall
   refine Q1 ?_
   simp only[go_sem,X.next]
   refine Qa ?_
   simp only[go_sem]
   refine Qi ?_
   simp only[go_sem,Qy,Q7,Qd2,List.mem_singleton,forall_eq,RS.op]
   refine⟨_,.c _ _ (Qg rfl),hK _ _ kn.fin ?_⟩
   have:l.any p=false:=by
    cases hc:l.any p with
    |false=>rfl
    |true=>obtain⟨x,hx,hp⟩:=List.any_eq_true.1 hc;rw[hall x hx]at hp;exact absurd hp (by simp)
   rw[this];rfl
theorem Q6c {fl:Bool}{l:List St}{f:Nat}{caps:List C}{p:St→Bool}
  (hf:∀(x:St) (H1:Heap) (K':V→Heap→Prop),x∈l→Kn H H1 [] []→(∀H2,Upd H1 H2 []→K' (.c (.bool (p x))) H2)→Qp prog f ([.ag x.cells]++caps.map .c) H1 K')
  (hK:∀(H':Heap),Upd H H' []→K (.c (.bool (l.any p))) H') :
  Qp prog Qcd [.c (.sl fl 5 (Qk l)),.c (.fn f caps)] H K:=by
 refine Qb Qah Qpj ?_
 refine Qa ?_
 simp only[go_sem]
 refine Qa ?_
 simp only[go_sem]
 refine Qahq hf fun r H' hu hr=>?_
 simp only[go_sem,Qds]
 refine Qi ?_
 simp only[go_sem,Qy,Q7,Qfu,List.mem_singleton,forall_eq,RS.op]
 rw[hr];exact hK _ hu
def StOk (n:Nat):Prop:=∀(x:St) (nest:Int) (H:Heap) (K:V→Heap→Prop),x.size≤n→x.size≤2^40→0≤nest→nest≤100→GK H→(∀H',Upd H H' []→K (.c (.bool (x.form (5-nest)))) H')→Qp prog Qra [.ag x.cells,.c (.int .i64 nest)] H K
def BlOk (n:Nat):Prop:=∀(l:List St) (nest:Int) (fl:Bool) (H:Heap) (K:V→Heap→Prop),Qh l≤n→Qh l≤2^40→0≤nest→nest≤100→GK H→(∀H',Upd H H' []→K (.c (.bool (Qa5 l (5-nest)))) H')→
 Qp prog Qet [.c (.sl fl 5 (Qk l)),.c (.int .i64 nest)] H K
set_option maxHeartbeats 1000000 in
theorem Qaw5 {n:Nat}(hS:StOk n):BlOk n:=by
 intro l nest fl H K hn hb h0 hm g hK
 refine Qw ?_
 refine Qb Qah Qakn ?_
 refine Qa ?_
 simp only[go_sem]
 refine Qa ?_
 simp only[go_sem]
 have kn:=Kn.start0 H
 refine Q6c (p:=fun s=>!s.form (5-nest)) (fun x H1 K' hx kn hK'=>?_) fun H1 hu=>?_
 ·have hm2:=Qak hx
  refine Qb Qah Q8x ?_
  refine Qa ?_
  simp only[go_sem,x.cells_eq]
  refine Qa ?_
  simp only[go_sem]
  have h:=hS x nest
  rw[x.cells_eq]at h
  refine h _ _ (by omega) (by omega) h0 hm (g.kn kn) fun H2 hu=>?_
  simp only[go_sem,Qkx]
  refine Qi ?_
  simp only[go_sem,Qy,Q7,Qrq,List.mem_singleton,forall_eq,RS.op]
  exact hK' _ hu
 have kn:=kn.call0 hu
 simp only[go_sem,Qr3]
 refine Qi ?_
 simp only[go_sem,Qy,Q7,Q4z,List.mem_singleton,forall_eq,RS.op]
 refine⟨_,.c _ _ (Qg rfl),?_⟩
 have e:(!l.any fun s=>!s.form (5-nest))=Qa5 l (5-nest):=by rw[Q0m,List.all_eq_not_any_not]
 rw[e]
 exact hK _ kn.fin
set_option maxHeartbeats 4000000 in
theorem Qa79:∀n,StOk n:=by
 intro n
 induction n with
 |zero=>intro x nest H K hx;have:=x.size_eq;omega
 |succ n ih=>
 have hB:=Qaw5 ih
 intro x nest H K hn hb h0 hm g hK
 have hse:=x.size_eq
 have g0:=g
 refine Qw ?_
 refine Qb Qah Qaok ?_
 have hfe:x.form (5-nest)=(!badS x.op x.name x.args x.body.length x.els.length nest&&x.args.all Ex.valid&&(Qa5 x.body (5-(nest+1))&&Qa5 x.els (5-(nest+1)))):=by
  rw[x.form_eq,Qa4o,show 5-nest-1=5-(nest+1)by omega,Bool.and_assoc]
 have retf:∀(b:Bool) (e:Env) (H':Heap) (L:List (Nat×Obj)),x.form (5-nest)=b→Kn H H' [] L→lk 4 e=.c (.bool b)→Qy Qx2 (unK H K) .ret e H':=by
  intro b e H' L hf kn h4
  simp only[go_sem,Qy,Q7,Qx2,List.mem_singleton,forall_eq,RS.op,h4]
  refine⟨_,.c _ _ (Qg rfl),?_⟩
  rw[←hf];exact hK _ kn.fin
 have kn:=Kn.start0 H
 refine Qa ?_
 simp only[go_sem,x.cells_eq]
 refine Qa ?_
 simp only[go_sem]
 refine Qatr ?_
 simp only[go_sem,Qxg,List.getD_cons_zero,List.getD_cons_succ]
 refine Qf (Qd ?_)
 refine Q4 ?_
 refine Qa ?_
 simp only[go_sem]
 refine Qf (Qa6f kn g fun e' H1 b hbad kn l1 l2 l19=>?_)
 clear g
 have g:=g0.kn kn
 simp only[go_sem]
 rw[←hbad]at hfe
 refine Qc (by simp only[go_sem,l19];rfl) (fun hc=>?_) (fun hc=>?_)
 ·refine Qa ?_
  simp only[go_sem]
  refine Qi ?_
  simp only[go_sem,AE.X.next]
  exact retf false _ _ _ (by rw[hfe,hc];rfl) kn (by simp[lk])
 have hn4:nest≤4:=by
  rw[hc,badS]at hbad
  have:=(Bool.or_eq_false_iff.1 hbad.symm).1
  simpa using this
 rw[hc,Bool.not_false,Bool.true_and]at hfe
 refine Qe ?_
 simp only[go_sem,AE.X.next]
 refine Q4 ?_
 refine Qa ?_
 simp only[go_sem,l1,l2,Qj]
 intro hl
 simp only[LIM]at hl
 refine Qf (Qd (Q0 (fun m e1 H1=>∃(i:Nat),m=x.args.length-i∧i≤x.args.length∧Kn H H1 [] []∧((x.args.take i).all Ex.valid)=true∧
  e1=[(1,.c (.int .i64 nest)),(2,.c (.pp [.int .i64 x.op,.str x.name,.sl false 4 (Qv x.args),.sl false 5 (Qk x.body),.sl false 5 (Qk x.els)])),(69,.c (.sl false 4 (Qv x.args))),(70,.c (.int .i64 x.args.length)),(71,.c (.int .i64 i))]) x.args.length ?_ ?_))
 ·exact⟨0,by omega,by omega,kn,rfl,rfl⟩
 ·clear kn g
  rintro m e1 H2 ⟨i,hm,hi,kn,hall,rfl⟩
  have g:=g0.kn kn
  refine Qa ?_
  simp only[go_sem]
  refine Qf (Qc rfl ?_ ?_)
  ·intro hc
   have hlt:i<x.args.length:=by simpa using hc
   have hm:=Qaf (List.getElem_mem hlt)
   refine Qe ?_
   try simp only[go_sem]
   refine Qf (Qd ?_)
   refine Qa ?_
   simp only[go_sem,hlt,Qj,Qac _ _ hlt,x.args[i].cells_eq]
   intro x10 hx10 H3 h3
   have kn:=kn.al hx10 h3
   have g12:=kn.l 0 rfl
   simp only[go_sem,Qxh,g12]
   intro H4 h4
   have kn:Kn H H4 [] [(x10,.st [.int .i64 x.args[i].op,.int .i64 x.args[i].n,.str x.args[i].name,.sl false 4 (Qv x.args[i].kids)])]:=kn.stL 0 rfl h4
   clear g12
   have g:=g0.kn kn
   have g12:=kn.l 0 rfl
   refine Qa ?_
   simp only[go_sem,g12]
   have hev:=@Q0z H4
   have hev2:=fun K=>@Q0z H4 K x.args[i]
   simp only[x.args[i].cells_eq]at hev2
   refine hev2 _ (by omega) g fun H5 hu=>?_
   have kn:=Kn.drop (A:=[]) (kn.call0 hu)
   simp only[go_sem,Qsq]
   refine Qc rfl ?_ ?_
   ·intro hc2
    refine Qa ?_
    simp only[go_sem]
    refine Qi ?_
    simp only[go_sem,AE.X.next]
    exact retf false _ _ _ (by rw[hfe,Qk4 hlt (Qvs hc2)];rfl) kn (by simp[lk])
   ·intro hc2
    refine Qe ?_
    try simp only[go_sem]
    refine Qs ?_
    simp only[go_sem,AE.X.next]
    exact⟨Qu (by omega) (by omega),x.args.length-(i+1),by omega,i+1,rfl,by omega,kn,by rw[Qgu hlt,hall,Qkj hc2];rfl,rfl⟩
  ·intro hc
   have hge:x.args.length≤i:=by simpa using hc
   rw[List.take_of_length_le hge]at hall
   rw[hall,Bool.true_and]at hfe
   refine Q1 ?_
   simp only[go_sem,AE.X.next]
   refine Qa ?_
   simp only[go_sem]
   refine⟨Qu (by omega) (by omega),?_⟩
   refine hB x.body (nest+1) _ _ _ (by omega) (by omega) (by omega) (by omega) g fun H3 hu=>?_
   have kn:=kn.call0 hu
   have g:=g0.kn kn
   cases hb1:Qa5 x.body (5-(nest+1))with
   |false=>
    simp only[go_sem,Qj4,Qj3]
    refine Qi ?_
    exact retf false _ _ _ (by rw[hfe,hb1];rfl) kn (by simp[lk])
   |true=>
    simp only[go_sem,Qj4]
    refine⟨Qu (by omega) (by omega),?_⟩
    refine hB x.els (nest+1) _ _ _ (by omega) (by omega) (by omega) (by omega) g fun H4 hu=>?_
    have kn:=kn.call0 hu
    simp only[go_sem,Qj3]
    refine Qi ?_
    exact retf _ _ _ _ (by rw[hfe,hb1];rfl) kn rfl
theorem Qa6x (n:Nat):BlOk n:=Qaw5 (Qa79 n)
end Go.AE.Y

namespace Go.AE
variable {H0 F H:Heap}{E E0 E' L L1 L2 M:List (Nat×Obj)}
theorem Kn.startE (h:∀p∈E,H p.1=p.2∧p.2≠.none)(hd:(E.map Prod.fst).Nodup):Kn H H E []:=
 ⟨by simpa using h,fun p hp=>by rw[(h p hp).1];exact (h p hp).2,by simp,hd,by simp,fun _ _ _=>rfl⟩
theorem Kn.mid (k:Kn H0 F E0 (L1++L2)):Kn F F L1 []:=
 .startE (fun p hp=>k.get p (List.mem_append_right _ (List.mem_append_left _ hp))) (by
  have:=k.dL;rw[List.map_append]at this;exact (List.nodup_append.1 this).1)
theorem Kn.comp (k1:Kn H0 F E0 (L1++L2))(k2:Kn F H E' M)(hE:E'.map Prod.fst=L1.map Prod.fst):Kn H0 H E0 ((E'++L2)++M):=by
 have hd:=k1.dL
 rw[List.map_append]at hd
 obtain⟨d1,d2,d3⟩:=List.nodup_append.1 hd
 have hE0:∀p∈E0,F p.1=p.2∧p.2≠.none:=fun p hp=>k1.get p (List.mem_append_left _ hp)
 have hL2:∀p∈L2,F p.1=p.2∧p.2≠.none:=fun p hp=>k1.get p (List.mem_append_right _ (List.mem_append_right _ hp))
 have inL1:∀p∈E',∃q∈L1,q.1=p.1:=fun p hp=>by
  have:=Qbi hp;rw[hE]at this
  obtain⟨q,h1,h2⟩:=List.mem_map.1 this;exact⟨q,h1,h2⟩
 have keep:∀m,F m≠.none→m∉L1.map Prod.fst→H m=F m:=fun m h1 h2=>k2.chg m h1 (by rw[hE];exact h2)
 have hE0L:∀p∈E0,∀q∈L1,p.1≠q.1:=fun p hp q hq hh=>k1.ext p hp (hh▸k1.loc q (List.mem_append_left _ hq))
 refine⟨fun p hp=>?_,k1.ext,fun p hp=>?_,k1.dE,?_,fun m hm hn=>?_⟩
 ·rcases List.mem_append.1 hp with hp|hp
  ·obtain⟨h1,h2⟩:=hE0 p hp
   refine⟨?_,h2⟩
   rw[keep p.1 (by rw[h1];exact h2) (fun hh=>?_),h1]
   obtain⟨q,hq,hqq⟩:=List.mem_map.1 hh
   exact hE0L p hp q hq hqq.symm
  ·rcases List.mem_append.1 hp with hp|hp
   ·rcases List.mem_append.1 hp with hp|hp
    ·exact k2.get p (List.mem_append_left _ hp)
    ·obtain⟨h1,h2⟩:=hL2 p hp
     refine⟨?_,h2⟩
     rw[keep p.1 (by rw[h1];exact h2) (fun hh=>?_),h1]
     exact d3 _ hh _ (Qbi hp) rfl
   ·exact k2.get p (List.mem_append_right _ hp)
 ·rcases List.mem_append.1 hp with hp|hp
  ·rcases List.mem_append.1 hp with hp|hp
   ·obtain⟨q,hq,hh⟩:=inL1 p hp
    rw[←hh];exact k1.loc q (List.mem_append_left _ hq)
   ·exact k1.loc p (List.mem_append_right _ hp)
  ·have h1:=k2.loc p hp
   cases h0:H0 p.1 with
   |none=>rfl
   |_=>
    by_cases hx:p.1∈E0.map Prod.fst
    ·obtain⟨q,hq,hh⟩:=List.mem_map.1 hx
     obtain⟨a1,a2⟩:=hE0 q hq
     rw[hh,h1]at a1;exact absurd a1.symm a2
    ·have:=k1.chg p.1 (by rw[h0];simp) hx
     rw[h1,h0]at this;simp at this
 ·rw[List.map_append,List.map_append]
  refine List.nodup_append.2 ⟨List.nodup_append.2 ⟨k2.dE,d2,fun a ha b hb=>?_⟩,k2.dL,fun a ha b hb hab=>?_⟩
  ·rw[hE]at ha;exact d3 a ha b hb
  ·obtain⟨q,hq,rfl⟩:=List.mem_map.1 hb
   have hf:=k2.loc q hq
   rcases List.mem_append.1 ha with ha|ha
   ·obtain⟨r,hr,rfl⟩:=List.mem_map.1 ha
    exact k2.ext r hr (hab▸hf)
   ·obtain⟨r,hr,rfl⟩:=List.mem_map.1 ha
    obtain⟨a1,a2⟩:=hL2 r hr
    rw[hab,hf]at a1;exact a2 a1.symm
 ·rw[keep m (by rw[k1.chg m hm hn];exact hm) (fun hh=>?_),k1.chg m hm hn]
  obtain⟨q,hq,rfl⟩:=List.mem_map.1 hh
  exact hm (k1.loc q (List.mem_append_left _ hq))
theorem Kn.upd (k:Kn H0 H E L):Upd H0 H E:=⟨fun p hp=>(k.get p (List.mem_append_left _ hp)).1,fun m hm hn=>k.chg m hm hn⟩
theorem Y.FrzL.ptr {S:Nat→Bool}{l:Nat}{cells cells':List C}(hS:S l=true)(hH:H l=.st cells)(h:FrzL H S cells cells'):FrzC H S (.ptr l 0) (.pp cells'):=by
 obtain⟨h1,h2⟩:=h.spec
 exact .ptr l 0 cells cells cells' hS hH rfl h1 h2
theorem Kn.growR {B Lg:List (Nat×Obj)}{K:V→Heap→Prop}{sz:Nat}{rows new:List (List C)}{b c:C}(kn:Kn H0 H E (B++Lg))(hc:Gr Lg sz rows c)(hb:Slc H sz new b)
  (h1:∀r∈new,noOw r=true) (h2:rows.length+new.length≤LIM)
  (h:∀t Lg' H',Gr Lg' sz (rows++new) t→t.isOw=false→Kn H0 H' E (B++Lg')→K (.c t) H'):appQ H sz c b K:=
 kn.grow hc hb h1 h2 fun y' H' k=>h _ _ H' (.mk y' sz _ (by simp)) rfl k
end Go.AE

namespace Go.AE.Y
attribute [local go_sem] cond_true cond_false Bool.not_true Bool.not_false
open Go.Proofs.Tryz
variable {H H0:Heap}{K:V→Heap→Prop}{E E' L:List (Nat×Obj)}
end Go.AE.Y
namespace Go.AE
open Go.AE.Y
open Go.Proofs.Tryz
variable {H H0:Heap}{K:V→Heap→Prop}{E E' L:List (Nat×Obj)}
theorem Kn.callAll {H':Heap}(kn:Kn H0 H E L)(hu:Upd H H' E')(hn:E'.map Prod.fst=E.map Prod.fst)(hne:∀p∈E',p.2≠.none):Kn H0 H' E' L:=by
 refine kn.callg hu hn rfl (fun p hp=>?_) (fun m hm=>?_)
 ·rcases List.mem_append.1 hp with h|h
  ·exact⟨hne p h,.inl h⟩
  ·refine⟨(kn.get p (List.mem_append_right _ h)).2,.inr ⟨List.mem_append_right _ h,fun hm=>?_⟩⟩
   rw[hn]at hm
   obtain⟨q,hq,hqp⟩:=List.mem_map.1 hm
   exact kn.ext q hq (by rw[hqp];exact kn.loc p h)
 ·exact .inl (by rw[←hn];exact List.mem_map.2 ⟨m,hm,rfl⟩)
end Go.AE
namespace Go.AE.Y
open Go.Proofs.Tryz
variable {H H0:Heap}{K:V→Heap→Prop}{E E' L:List (Nat×Obj)}
mutual
def St.vis {α:Type}(step:α→St→Int→α):St→Int→α→α
 |.mk op name args body els,n,a=>Qbl step els (n+1) (Qbl step body (n+1) (step a (.mk op name args body els) n))
def Qbl {α:Type}(step:α→St→Int→α):List St→Int→α→α
 |[],_,a=>a
 |x::r,n,a=>Qbl step r n (x.vis step n a)
end
theorem St.vis_eq {α:Type}(step:α→St→Int→α)(x:St)(n:Int)(a:α):x.vis step n a=Qbl step x.els (n+1) (Qbl step x.body (n+1) (step a x n)):=by
 cases x;simp only[St.vis,St.body,St.els]
theorem Qawp {α:Type}(step:α→St→Int→α)(l r:List St)(n:Int)(a:α):Qbl step (l++r) n a=Qbl step r n (Qbl step l n a):=by
 induction l generalizing a with
 |nil=>simp[Qbl]
 |cons x l ih=>simp only[List.cons_append,Qbl,ih]
theorem Qar7 {α:Type}(step:α→St→Int→α){l:List St}{i:Nat}(h:i<l.length)(n:Int)(a:α):Qbl step (l.take (i+1)) n a=(l[i]).vis step n (Qbl step (l.take i) n a):=by
 rw[List.take_succ_eq_append_getElem h,Qawp];simp[Qbl]
structure VisOk {α:Type}(ob:α→List (Nat×Obj))(step:α→St→Int→α)(ok:α→Prop)(mu:α→Nat)(f:Nat)(caps:List C):Prop where
 nm:∀a b,(ob a).map Prod.fst=(ob b).map Prod.fst
 nd:∀a,((ob a).map Prod.fst).Nodup
 ne:∀a,∀p∈ob a,p.2≠.none
 st:∀a s n,ok a→ok (step a s n)
 ms:∀a s n,mu (step a s n)≤mu a+s.size-(Qh s.body+Qh s.els)
 c:∀(a:α) (s:St) (n:Int) (H:Heap) (K:V→Heap→Prop),ok a→mu a≤2^41→0≤n→(n≤2^41)→s.size≤2^40→(∀p∈ob a,H p.1=p.2)→(∀H',Upd H H' (ob (step a s n))→K (.tup []) H')→Qp prog f ([.ag s.cells,.c (.int .i64 n)]++caps.map .c) H K
mutual
theorem St.vis_ok {α:Type}{step:α→St→Int→α}{ok:α→Prop}(hs:∀a s n,ok a→ok (step a s n)):∀(x:St) (n:Int) (a:α),ok a→ok (x.vis step n a)
 |.mk op name args body els,n,a,h=>by
  simp only[St.vis]
  exact Qu5 hs els _ _ (Qu5 hs body _ _ (hs _ _ _ h))
theorem Qu5 {α:Type}{step:α→St→Int→α}{ok:α→Prop}(hs:∀a s n,ok a→ok (step a s n)):∀(l:List St) (n:Int) (a:α),ok a→ok (Qbl step l n a)
 |[],_,a,h=>by simpa[Qbl]using h
 |x::r,n,a,h=>by
  simp only[Qbl]
  exact Qu5 hs r _ _ (St.vis_ok hs x _ _ h)
end
mutual
theorem St.vis_mu {α:Type}{step:α→St→Int→α}{mu:α→Nat}(hs:∀a s n,mu (step a s n)≤mu a+s.size-(Qh s.body+Qh s.els)):∀(x:St) (n:Int) (a:α),mu (x.vis step n a)≤mu a+x.size
 |.mk op name args body els,n,a=>by
  simp only[St.vis]
  have h1:=hs a (.mk op name args body els) n
  have h2:=Qu4 hs body (n+1) (step a (.mk op name args body els) n)
  have h3:=Qu4 hs els (n+1) (Qbl step body (n+1) (step a (.mk op name args body els) n))
  have h4:=St.size_eq (.mk op name args body els)
  simp only[St.body,St.els,St.args]at h1 h4
  omega
theorem Qu4 {α:Type}{step:α→St→Int→α}{mu:α→Nat}(hs:∀a s n,mu (step a s n)≤mu a+s.size-(Qh s.body+Qh s.els)):∀(l:List St) (n:Int) (a:α),mu (Qbl step l n a)≤mu a+Qh l
 |[],_,a=>by simp[Qbl,Qh]
 |x::r,n,a=>by
  simp only[Qbl,Qh]
  have h1:=St.vis_mu hs x n a
  have h2:=Qu4 hs r n (x.vis step n a)
  omega
end
set_option maxHeartbeats 4000000 in
theorem Qaxt {α:Type}{ob:α→List (Nat×Obj)}{step:α→St→Int→α}{ok:α→Prop}{mu:α→Nat}{f:Nat}{caps:List C}(hv:VisOk ob step ok mu f caps) :
  ∀(n:Nat) (l:List St) (nest:Int) (fl:Bool) (a:α) (H:Heap) (K:V→Heap→Prop),Qh l≤n→Qh l≤2^40→0≤nest→nest+n≤2^41→ok a→mu a+n≤2^41→(∀p∈ob a,H p.1=p.2)→(∀H',Upd H H' (ob (Qbl step l nest a))→K (.tup []) H')→
   Qp prog Qdz [.c (.sl fl 5 (Qk l)),.c (.int .i64 nest),.c (.fn f caps)] H K:=by
 intro n
 induction n using Nat.strongRecOn with
 |_ n ih=>
 intro l nest fl a H K hn hb h0 hm ha hmu hh hK
 refine Qw ?_
 refine Qb Qah Qagt ?_
 refine Qa ?_
 simp only[go_sem,Qn]
 intro hl
 simp only[LIM]at hl
 have hne:=hv.ne a
 have kn:Kn H H (ob a) []:=.startE (fun p hp=>⟨hh p hp,hne p hp⟩) (hv.nd a)
 refine Qd (Q0 (fun m e1 H1=>∃(i:Nat),m=l.length-i∧i≤l.length∧Kn H H1 (ob (Qbl step (l.take i) nest a)) []∧
  e1=[(1,.c (.int .i64 nest)),(2,.c (.fn f caps)),(8,.c (.sl fl 5 (Qk l))),(9,.c (.int .i64 l.length)),(10,.c (.int .i64 i))]) l.length ?_ ?_)
 ·exact⟨0,by omega,by omega,by simpa[Qbl]using kn,rfl⟩
 ·clear kn
  rintro m e1 H1 ⟨i,hm1,hi,kn,rfl⟩
  obtain⟨a1,ha1⟩:∃a1,Qbl step (l.take i) nest a=a1:=⟨_,rfl⟩
  have hok1:ok a1:=by rw[←ha1];exact Qu5 hv.st _ _ _ ha
  have hmu1:=Qu4 hv.ms (l.take i) nest a
  have hsl:=Qa3 l i
  rw[ha1]at kn hmu1
  refine Qa ?_
  simp only[go_sem]
  refine Qf (Qc rfl ?_ ?_)
  ·intro hc
   have hlt:i<l.length:=by simpa using hc
   have hms:=Qak (List.getElem_mem hlt)
   have hst:=Qhn hlt
   have hsl2:=Qa3 l (i+1)
   obtain⟨x,hx⟩:∃x,l[i]=x:=⟨_,rfl⟩
   rw[hx]at hms hst
   have hse:=x.size_eq
   have htk:=Qar7 step hlt nest a
   rw[ha1,hx]at htk
   refine Qe ?_
   try simp only[go_sem]
   refine Qf (Qd ?_)
   refine Qa ?_
   simp only[go_sem,hlt,Qn,Qae _ _ hlt,hx,x.cells_eq]
   intro x7 hx7 H3 h3
   have kn:=kn.al hx7 h3
   have g7:=kn.l 0 rfl
   simp only[go_sem,Qnz,g7]
   intro H4 h4
   have kn:Kn H H4 (ob a1) [(x7,.st [.int .i64 x.op,.str x.name,.sl false 4 (Qv x.args),.sl false 5 (Qk x.body),.sl false 5 (Qk x.els)])]:=kn.stL 0 rfl h4
   clear g7
   have g7:=kn.l 0 rfl
   refine Qa ?_
   simp only[go_sem,g7]
   have hvc:=hv.c a1 x nest
   rw[x.cells_eq]at hvc
   refine hvc _ _ hok1 (by omega) h0 (by omega) (by omega) (fun p hp=>(kn.get p (List.mem_append_left _ hp)).1) fun H5 hu=>?_
   have kn:=kn.callAll hu (hv.nm _ _) (hv.ne _)
   have g7:=kn.l 0 rfl
   have hok2:=hv.st a1 x nest hok1
   have hmu2:=hv.ms a1 x nest
   have hmu3:=Qu4 hv.ms x.body (nest+1) (step a1 x nest)
   simp only[go_sem]
   refine Qa ?_
   simp only[go_sem,g7]
   refine⟨Qu (by omega) (by omega),?_⟩
   refine ih (Qh x.body) (by omega) x.body (nest+1) _ _ _ _ (Nat.le_refl _) (by omega) (by omega) (by omega) hok2 (by omega) (fun p hp=>(kn.get p (List.mem_append_left _ hp)).1) fun H6 hu=>?_
   have kn:=kn.callAll hu (hv.nm _ _) (hv.ne _)
   have g7:=kn.l 0 rfl
   have hok3:=Qu5 hv.st x.body (nest+1) _ hok2
   simp only[go_sem]
   refine Qs ?_
   simp only[go_sem,g7]
   refine⟨Qu (by omega) (by omega),?_⟩
   refine ih (Qh x.els) (by omega) x.els (nest+1) _ _ _ _ (Nat.le_refl _) (by omega) (by omega) (by omega) hok3 (by omega) (fun p hp=>(kn.get p (List.mem_append_left _ hp)).1) fun H7 hu=>?_
   have kn:=Kn.drop (A:=[]) (kn.callAll hu (hv.nm _ _) (hv.ne _))
   simp only[go_sem]
   refine Qs ?_
   simp only[go_sem,X.next]
   refine⟨Qu (by omega) (by omega),l.length-(i+1),by omega,i+1,rfl,by omega,?_,rfl⟩
   rw[htk,x.vis_eq]
   exact kn
  ·intro hc
   have hge:l.length≤i:=by simpa using hc
   rw[List.take_of_length_le hge]at ha1
   refine Q1 ?_
   simp only[go_sem,X.next,Qy,Q7,Q20]
   refine⟨.tup [],.tup _ _ rfl fun j x x' h=>by simp at h,hK _ ?_⟩
   rw[ha1]
   exact kn.fin
end Go.AE.Y

namespace Go.AE.Y
attribute [local go_sem] cond_true cond_false Bool.not_true Bool.not_false
open Go.Proofs.Tryz
variable {H H0:Heap}{K:V→Heap→Prop}{E E' L:List (Nat×Obj)}
def Q85 (p:Int×Int)(s:St)(n:Int):Int×Int:=(p.1+1,if n > p.2 then n else p.2)
mutual
theorem St.ms_fst:∀(x:St) (n:Int) (p:Int×Int),(x.vis Q85 n p).1=p.1+x.cnt
 |.mk op name args body els,n,p=>by
  simp only[St.vis,St.cnt]
  rw[Q1x els,Q1x body,Q85]
  simp only[]
  omega
theorem Q1x:∀(l:List St) (n:Int) (p:Int×Int),(Qbl Q85 l n p).1=p.1+Qcs l
 |[],_,p=>by simp[Qbl,Qcs]
 |x::r,n,p=>by
  simp only[Qbl,Qcs]
  rw[Q1x r,St.ms_fst x]
  omega
end
def msOb (x2 x3:Nat)(p:Int×Int):List (Nat×Obj):=[(x2,.st [.int .i64 p.1]),(x3,.st [.int .i64 p.2])]
set_option maxHeartbeats 1000000 in
theorem Qa7o {x2 x3:Nat}(hne:x2≠x3):VisOk (msOb x2 x3) Q85 (fun p=>0≤p.1) (fun p=>p.1.toNat) Qho [.ptr x2 0,.ptr x3 0]:=by
 refine⟨fun _ _=>rfl,fun _=>by simp[msOb,hne],fun a p hp=>?_,fun a s n h=>?_,fun a s n=>?_,fun a s n H K ha hmu h0 hn hs hh hK=>?_⟩
 ·simp only[msOb,List.mem_cons,List.not_mem_nil,or_false]at hp
  rcases hp with rfl|rfl <;> nofun
 ·show 0≤a.1+1
  omega
 ·show (a.1+1).toNat≤_
  have:=s.size_eq
  omega
 ·have h2:H x2=.st [.int .i64 a.1]:=hh (x2,_) (by simp[msOb])
  have h3:H x3=.st [.int .i64 a.2]:=hh (x3,_) (by simp[msOb])
  refine Qb Qah Q80 ?_
  have kn:=Kn.start2 h2 (by nofun) h3 (by nofun) hne
  refine Qa ?_
  simp only[go_sem,s.cells_eq]
  refine Qa ?_
  simp only[go_sem,h2]
  refine⟨Qu (by omega) (by omega),fun H1 h1=>?_⟩
  have kn:=kn.stE 0 rfl h1
  have g3:=kn.e 1 rfl
  refine Qs ?_
  simp only[go_sem,g3]
  intro H2 hh2
  have kn:=kn.stE 1 rfl hh2
  simp only[Qy,Q7,Qrt,go_sem]
  exact hK _ ⟨fun p hp=>(kn.get p (List.mem_append_left _ hp)).1,fun m h1 h2=>kn.chg m h1 h2⟩
end Go.AE.Y
namespace Go.AE
open Go.AE.Y
open Go.Proofs.Tryz
variable {H H0:Heap}{K:V→Heap→Prop}{E E' L:List (Nat×Obj)}
theorem Kn.callLs {H':Heap}{L' M:List (Nat×Obj)}(kn:Kn H0 H E (L++M))(hu:Upd H H' L')(hn:L'.map Prod.fst=L.map Prod.fst)(hne:∀p∈L',p.2≠.none):Kn H0 H' E (L'++M):=by
 have hloc:∀m,m∈L'.map Prod.fst→H0 m=.none:=fun m h=>by
  rw[hn]at h
  obtain⟨q,hq,rfl⟩:=List.mem_map.1 h
  exact kn.loc q (List.mem_append_left _ hq)
 refine kn.callg hu rfl (by rw[List.map_append,List.map_append,hn]) (fun p hp=>?_) (fun m hm=>.inr (by rw[List.map_append,←hn];exact List.mem_append_left _ (List.mem_map.2 ⟨m,hm,rfl⟩)))
 rcases List.mem_append.1 hp with h|h
 ·exact⟨(kn.get p (List.mem_append_left _ h)).2,.inr ⟨List.mem_append_left _ h,fun hm=>kn.ext p h (hloc _ hm)⟩⟩
 rcases List.mem_append.1 h with h|h
 ·exact⟨hne p h,.inl h⟩
 ·refine⟨(kn.get p (List.mem_append_right _ (List.mem_append_right _ h))).2,.inr ⟨List.mem_append_right _ (List.mem_append_right _ h),fun hm=>?_⟩⟩
  rw[hn]at hm
  have hd:=kn.dL
  rw[List.map_append,List.nodup_append]at hd
  exact hd.2.2 _ hm _ (List.mem_map.2 ⟨p,h,rfl⟩) rfl
end Go.AE
namespace Go.AE.Y
open Go.Proofs.Tryz
variable {H H0:Heap}{K:V→Heap→Prop}{E E' L:List (Nat×Obj)}
theorem Qa3u {S:Nat→Bool}(n d:Int):FrzV H S (.tup [.c (.int .i64 n),.c (.int .i64 d)]) (.tup [.c (.int .i64 n),.c (.int .i64 d)]):=by
 refine .tup _ _ rfl fun j x x' h1 h2=>?_
 match j with
 |0=>simp at h1 h2;subst h1;subst h2;exact .c _ _ (Qg rfl)
 |1=>simp at h1 h2;subst h1;subst h2;exact .c _ _ (Qg rfl)
end Go.AE.Y
namespace Go.AE
open Go.AE.Y
open Go.Proofs.Tryz
variable {H H0:Heap}{K:V→Heap→Prop}{E E' L:List (Nat×Obj)}
theorem Kn.lm2 {x:Nat×Obj}(kn:Kn H0 H E L)(h:x∈L):H x.1=x.2:=(kn.get x (List.mem_append_right _ h)).1
end Go.AE
namespace Go.AE.Y
open Go.Proofs.Tryz
variable {H H0:Heap}{K:V→Heap→Prop}{E E' L:List (Nat×Obj)}
set_option maxHeartbeats 4000000 in
theorem Qayu {l:List Fn}{fl:Bool}(hf:Qo l≤2^40)(hK:∀(d:Int) H',Upd H H' []→K (.tup [.c (.int .i64 (Qc9 l)),.c (.int .i64 d)]) H'):Qp prog Qm3 [.ag [.sl fl 3 (Qr l)]] H K:=by
 refine Qw ?_
 refine Qb Qah Qaks ?_
 refine Qa ?_
 simp only[go_sem]
 intro x2 hx2 H1 h1
 have kn:=(Kn.start0 H).al hx2 h1
 simp only[go_sem,Qsn]
 intro x3 hx3 H2 h2
 have kn:=kn.al hx3 h2
 have hne:x2≠x3:=kn.neL 0 1 rfl rfl (by omega)
 have kn:Kn H H2 [] (msOb x2 x3 (0,0)):=kn
 refine Q4 ?_
 refine Qa ?_
 simp only[go_sem,Qm]
 intro hl
 simp only[LIM]at hl
 refine Qf (Qd (Q0 (fun m e1 H1=>∃(i:Nat) (d:Int),m=l.length-i∧i≤l.length∧Kn H H1 [] (msOb x2 x3 ((Qc9 (l.take i):Int),d))∧
  e1=[(2,.c (.ptr x2 0)),(3,.c (.ptr x3 0)),(7,.c (.sl fl 3 (Qr l))),(8,.c (.int .i64 l.length)),(9,.c (.int .i64 i))]) l.length ?_ ?_))
 ·exact⟨0,0,by omega,by omega,kn,rfl⟩
 ·clear kn
  rintro m e1 H3 ⟨i,d,hm,hi,kn,rfl⟩
  refine Qa ?_
  simp only[go_sem]
  refine Qf (Qc rfl ?_ ?_)
  ·intro hc
   have hlt:i<l.length:=by simpa using hc
   have hm:=Qaq (List.getElem_mem hlt)
   have htk:=Qage hlt
   have hpt:=Q07 hlt
   have htl:=Qhp l (i+1)
   have hct:=Qasf (l.take i)
   refine Qe ?_
   try simp only[go_sem]
   refine Qf (Qd ?_)
   refine Qa ?_
   simp only[go_sem,hlt,Qm,Q6 _ _ hlt,Fn.cells]
   intro x5 hx5 H4 h4
   have kn:=kn.al hx5 h4
   have g5:=kn.l 2 rfl
   simp only[go_sem,Qso,g5]
   intro H5 h5
   have kn:Kn H H5 [] (msOb x2 x3 ((Qc9 (l.take i):Int),d)++[(x5,_)]):=kn.stL 2 rfl h5
   have g5:=kn.l 2 rfl
   refine Qs ?_
   simp only[go_sem,g5]
   refine Qaxt (Qa7o hne) (Qh l[i].body) l[i].body 1 _ ((Qc9 (l.take i):Int),d) _ _ (Nat.le_refl _) (by omega) (by omega) (by omega) (by show (0:Int)≤_;omega) (by show (Qc9 (l.take i):Int).toNat+_≤_;omega) (fun p hp=>kn.lm2 (List.mem_append_left _ hp)) fun H6 hu=>?_
   have kn:=Kn.drop (A:=msOb x2 x3 (Qbl Q85 l[i].body 1 ((Qc9 (l.take i):Int),d))) (kn.callLs hu rfl ((Qa7o hne).ne _))
   have hfs:=Q1x l[i].body 1 ((Qc9 (l.take i):Int),d)
   simp only[go_sem]
   refine Qs ?_
   simp only[go_sem,AE.X.next]
   refine⟨Qu (by omega) (by omega),l.length-(i+1),by omega,i+1,(Qbl Q85 l[i].body 1 ((Qc9 (l.take i):Int),d)).2,rfl,by omega,?_,rfl⟩
   have e:((Qc9 (l.take (i+1)):Int))=(Qbl Q85 l[i].body 1 ((Qc9 (l.take i):Int),d)).1:=by rw[hfs,htk];simp
   rw[e]
   exact kn
  ·intro hc
   have hge:l.length≤i:=by simpa using hc
   rw[List.take_of_length_le hge]at kn
   have g2:=kn.l 0 rfl
   have g3:=kn.l 1 rfl
   refine Q1 ?_
   simp only[go_sem,AE.X.next]
   refine Qaz ?_
   simp only[go_sem,g2,g3]
   intro H4 h4
   have kn:=kn.stL 0 rfl h4
   have g3:=kn.l 1 rfl
   simp only[go_sem,Qsp,g3]
   intro H5 h5
   have kn:=kn.stL 1 rfl h5
   have g2:=kn.l 0 rfl
   have g3:=kn.l 1 rfl
   refine Qi ?_
   simp only[go_sem,Qy,Q7,Q43,List.forall_mem_cons,List.not_mem_nil,RS.op,g2,g3]
   exact⟨fun _=>trivial,_,Qa3u _ _,hK d _ kn.fin⟩
end Go.AE.Y

namespace Go.AE.Y
attribute [local go_sem] cond_true cond_false Bool.not_true Bool.not_false
open Go.Proofs.Tryz
variable {H H0:Heap}{K:V→Heap→Prop}{E E' L:List (Nat×Obj)}
theorem Qady {fl:Bool}{l:List (List UInt8)}{f:Nat}{caps:List C}{p:List UInt8→Bool}
  (hf:∀(x:List UInt8) (H1:Heap) (K':V→Heap→Prop),x∈l→Kn H H1 [] []→(∀H2,Upd H1 H2 []→K' (.c (.bool (p x))) H2)→Qp prog f ([.c (.str x)]++caps.map .c) H1 K')
  (hK:∀(r:Int) (H':Heap),Upd H H' []→decide (0≤r)=l.any p→K (.c (.int .i64 r)) H') :
  Qp prog Qck [.c (.sl fl 1 (Q2 l)),.c (.fn f caps)] H K:=by
 refine Qw ?_
 refine Qb Qah Qrj ?_
 refine Qa ?_
 simp only[go_sem]
 refine Q4 ?_
 refine Qa ?_
 simp only[go_sem,Qq]
 intro hl
 simp only[LIM]at hl
 refine Qf (Qd (Q0 (fun m e1 H1=>∃(i:Nat),m=l.length-i∧i≤l.length∧Kn H H1 [] []∧(∀x∈l.take i,p x=false)∧e1=[(0,.c (.sl fl 1 (Q2 l))),(1,.c (.fn f caps)),(7,.c (.int .i64 l.length)),(8,.c (.int .i64 i))]) l.length ?_ ?_))
 ·exact⟨0,by omega,by omega,Kn.start0 H,by simp,rfl⟩
 ·rintro m e1 H1 ⟨i,hm,hi,kn,hall,rfl⟩
  refine Qa ?_
  simp only[go_sem]
  refine Qf (Qc rfl ?_ ?_)
  ·intro hc
   have hlt:i<l.length:=by simpa using hc
   have hgd:l.getD i []=l[i]:=by simp[List.getD_eq_getElem?_getD,hlt]
   refine Qe ?_
   simp only[go_sem]
   refine Qf (Qd ?_)
   refine Qa ?_
   simp only[go_sem]
   refine Qa ?_
   simp only[go_sem,hlt,Qq,Qaw _ _ hlt,hgd]
   refine hf _ _ _ (List.getElem_mem hlt) kn fun H2 hu=>?_
   have kn:=kn.call0 hu
   refine Qc rfl ?_ ?_
   ·intro hc2
    refine Qa ?_
    simp only[go_sem]
    refine Qi ?_
    simp only[go_sem,X.next,Qy,Q7,Qc5,List.mem_singleton,forall_eq,RS.op]
    refine⟨_,.c _ _ (Qg rfl),hK _ _ kn.fin ?_⟩
    have:l.any p=true:=List.any_eq_true.2 ⟨_,List.getElem_mem hlt,hc2⟩
    rw[this];simp
   ·intro hc2
    refine Qe ?_
    simp only[go_sem]
    refine Qs ?_
    simp only[go_sem,X.next]
    refine⟨Qu (by omega) (by omega),l.length-(i+1),by omega,i+1,rfl,by omega,kn,?_,rfl⟩
    rw[List.take_succ_eq_append_getElem hlt]
    intro x hx
    rcases List.mem_append.1 hx with hx|hx
    ·exact hall x hx
    ·simp only[List.mem_singleton]at hx;subst hx;exact hc2
  ·intro hc
   have hge:l.length≤i:=by simpa using hc
   rw[List.take_of_length_le hge]at hall
   refine Q1 ?_
   simp only[go_sem,X.next]
   refine Qa ?_
   simp only[go_sem]
   refine Qi ?_
   simp only[go_sem,Qy,Q7,Qc5,List.mem_singleton,forall_eq,RS.op]
   refine⟨_,.c _ _ (Qg rfl),hK _ _ kn.fin ?_⟩
   have:l.any p=false:=by
    cases hc:l.any p with
    |false=>rfl
    |true=>obtain⟨x,hx,hp⟩:=List.any_eq_true.1 hc;rw[hall x hx]at hp;exact absurd hp (by simp)
   rw[this];rfl
theorem Q10 {fl:Bool}{l:List (List UInt8)}{f:Nat}{caps:List C}{p:List UInt8→Bool}
  (hf:∀(x:List UInt8) (H1:Heap) (K':V→Heap→Prop),x∈l→Kn H H1 [] []→(∀H2,Upd H1 H2 []→K' (.c (.bool (p x))) H2)→Qp prog f ([.c (.str x)]++caps.map .c) H1 K')
  (hK:∀(H':Heap),Upd H H' []→K (.c (.bool (l.any p))) H') :
  Qp prog Qbx [.c (.sl fl 1 (Q2 l)),.c (.fn f caps)] H K:=by
 refine Qb Qah Qlw ?_
 refine Qa ?_
 simp only[go_sem]
 refine Qa ?_
 simp only[go_sem]
 refine Qady hf fun r H' hu hr=>?_
 simp only[go_sem,Qc8]
 refine Qi ?_
 simp only[go_sem,Qy,Q7,Qed,List.mem_singleton,forall_eq,RS.op]
 rw[hr];exact hK _ hu
theorem Qa8h {s:List UInt8}(g:GK H)(hK:∀H',Upd H H' []→K (.c (.bool (!Qct s))) H'):Qp prog Qcx [.c (.str s)] H K:=by
 refine Qb Qah Qvn ?_
 refine Qa ?_
 simp only[go_sem]
 refine Qa ?_
 simp only[go_sem]
 refine Qlt g fun H1 hu=>?_
 simp only[go_sem,Qfe]
 refine Qi ?_
 simp only[go_sem,Qy,Q7,Qhy,List.mem_singleton,forall_eq,RS.op]
 exact hK _ hu
set_option maxHeartbeats 4000000 in
theorem Q6d {l:List Fn}{fl:Bool}(hf:Qo l≤2^40)(g:GK H)(hK:∀H',Upd H H' []→K (.c (.bool (Qle l))) H'):Qp prog Qer [.ag [.sl fl 3 (Qr l)]] H K:=by
 refine Qw ?_
 have g0:=g
 refine Qb Qah Q2i ?_
 have retf:∀(b:Bool) (e:Env) (H':Heap) (L:List (Nat×Obj)),Qle l=b→Kn H H' [] L→lk 2 e=.c (.bool b)→Qy Qdc (unK H K) .ret e H':=by
  intro b e H' L hf kn h4
  simp only[go_sem,Qy,Q7,Qdc,List.mem_singleton,forall_eq,RS.op,h4]
  refine⟨_,.c _ _ (Qg rfl),?_⟩
  rw[←hf];exact hK _ kn.fin
 have kn:=Kn.start0 H
 refine Qa ?_
 simp only[go_sem]
 refine Q4 ?_
 refine Qa ?_
 simp only[go_sem,Qm]
 intro hl
 simp only[LIM]at hl
 refine Qvh ?_
 simp only[go_sem,Qii]
 have hw:(decide ((1:Int)≤(l.length:Int))&&decide ((l.length:Int)≤4))=decide (1≤l.length∧l.length≤4):=by rw[Bool.eq_iff_iff];simp;omega
 rw[hw]
 refine Qf (Qc rfl ?_ ?_)
 ·intro hc
  have hc:=Qvs hc
  refine Qa ?_
  simp only[go_sem]
  refine Qi ?_
  simp only[go_sem,AE.X.next]
  exact retf false _ _ _ (by rw[Qle,hc];rfl) kn (by simp[lk])
 intro hc
 have hlen:=Qkj hc
 refine Qe ?_
 try simp only[go_sem]
 refine Q4 ?_
 refine Qa ?_
 simp only[go_sem,Qm]
 intro _
 refine Qf (Qd (Q0 (fun m e1 H1=>∃(i:Nat),m=l.length-i∧i≤l.length∧Kn H H1 [] []∧((l.take i).all Fn.form)=true∧
  e1=[(1,.c (.pp [.sl fl 3 (Qr l)])),(13,.c (.sl fl 3 (Qr l))),(14,.c (.int .i64 l.length)),(15,.c (.int .i64 i))]) l.length ?_ ?_))
 ·exact⟨0,by omega,by omega,kn,rfl,rfl⟩
 ·clear kn g
  rintro m e1 H2 ⟨i,hm,hi,kn,hall,rfl⟩
  have g:=g0.kn kn
  refine Qa ?_
  simp only[go_sem]
  refine Qf (Qc rfl ?_ ?_)
  ·intro hc
   have hlt:i<l.length:=by simpa using hc
   have hms:=Qaq (List.getElem_mem hlt)
   obtain⟨f,hfe⟩:∃f,l[i]=f:=⟨_,rfl⟩
   rw[hfe]at hms
   refine Qe ?_
   try simp only[go_sem]
   refine Qf (Qd ?_)
   refine Qa ?_
   simp only[go_sem,hlt,Qm,Q6 _ _ hlt,hfe,Fn.cells]
   intro x4 hx4 H4 h4
   have kn:=kn.al hx4 h4
   have g4:=kn.l 0 rfl
   simp only[go_sem,Qij,g4]
   intro H5 h5
   have kn:=kn.stL 0 rfl h5
   have g:=g0.kn kn
   have g4:=kn.l 0 rfl
   have nx:∀(b:Bool) (H6:Heap) (L:List (Nat×Obj)),b = !f.form→Kn H H6 [] L→Q8 prog Qj0 (X.inBlock 1 (X.sq prog Qj1 (X.next (fun e2 H2=>∃m_1,m_1<m∧∃i,m_1=l.length-i∧i≤l.length∧Kn H H2 [] []∧((l.take i).all Fn.form)=true∧
     e2=[(1,.c (.pp [.sl fl 3 (Qr l)])),(13,.c (.sl fl 3 (Qr l))),(14,.c (.int .i64 l.length)),(15,.c (.int .i64 i))]) (X.inBlock 0 (X.sq prog Qih (Qy Qdc (unK H K)))))))
     [(1,.c (.pp [.sl fl 3 (Qr l)])),(13,.c (.sl fl 3 (Qr l))),(14,.c (.int .i64 l.length)),(15,.c (.int .i64 i)),(39,.c (.bool b))] H6:=by
    intro b H6 L hb kn
    refine Qc rfl (fun hc2=>?_) (fun hc2=>?_)
    ·rw[hc2]at hb
     refine Qa ?_
     simp only[go_sem]
     refine Qi ?_
     simp only[go_sem,AE.X.next]
     refine retf false _ _ _ ?_ kn (by simp[lk])
     rw[Qle,Qk4 hlt (by rw[hfe];exact Qvs hb.symm)];simp
    ·rw[hc2]at hb
     refine Qe ?_
     try simp only[go_sem]
     refine Qs ?_
     simp only[go_sem,AE.X.next]
     exact⟨Qu (by omega) (by omega),l.length-(i+1),by omega,i+1,rfl,by omega,Kn.drop (A:=[]) kn,by rw[Qgu hlt,hall,hfe,Qkj hb.symm];rfl,rfl⟩
   refine Qa ?_
   simp only[go_sem,g4]
   refine Qlt g fun H6 hu=>?_
   have kn:=kn.call0 hu
   have g:=g0.kn kn
   have g4:=kn.l 0 rfl
   cases h1:Qct f.name with
   |false=>
    simp only[go_sem,Qb2,Qbb,Qba,g4,Qq]
    exact nx true _ _ (by rw[Fn.form,h1];simp) kn
   |true=>
    by_cases h2:3<f.params.length
    ·have hd2:decide ((3:Int)<(f.params.length:Int))=true:=decide_eq_true (by omega)
     simp only[go_sem,Qb2,Qbb,Qba,g4,hd2,Qq]
     try intro _
     exact nx true _ _ (by rw[Fn.form,decide_eq_false (by omega:¬f.params.length≤3)];simp) kn
    ·have hd2:decide ((3:Int)<(f.params.length:Int))=false:=decide_eq_false (by omega)
     simp only[go_sem,Qb2,g4,hd2,Qq]
     try intro _
     refine Q10 (p:=fun s=>!Qct s) (fun s H7 K' hs kn2 hK'=>Qa8h (g.kn kn2) hK') fun H7 hu=>?_
     have kn:=kn.call0 hu
     have g:=g0.kn kn
     have g4:=kn.l 0 rfl
     have ea:(f.params.any fun s=>!Qct s) = !f.params.all Qct:=by rw[List.all_eq_not_any_not];simp
     rw[ea]
     cases h3:f.params.all Qct with
     |false=>
      simp only[go_sem,Qbb,Qba,g4]
      exact nx true _ _ (by rw[Fn.form,h3];rfl) kn
     |true=>
      simp only[go_sem,Qbb,g4]
      refine Qa6x (Qh f.body) f.body 1 _ _ _ (Nat.le_refl _) (by omega) (by omega) (by omega) g fun H8 hu=>?_
      have kn:=kn.call0 hu
      simp only[go_sem,Qba]
      refine nx _ _ _ ?_ kn
      rw[Fn.form,h1,h3,decide_eq_true (by omega:f.params.length≤3)];rfl
  ·intro hc
   have hge:l.length≤i:=by simpa using hc
   rw[List.take_of_length_le hge]at hall
   refine Q1 ?_
   simp only[go_sem,AE.X.next]
   refine Qa ?_
   simp only[go_sem]
   refine Qayu hf fun d H3 hu=>?_
   have kn:=kn.call0 hu
   simp only[go_sem,Qha,List.getD_cons_zero,List.getD_cons_succ]
   refine Qa ?_
   simp only[go_sem]
   refine Qi ?_
   refine retf _ _ _ _ ?_ kn rfl
   rw[Qle,hlen,hall,Bool.true_and,Bool.true_and,decide_eq_decide];omega
end Go.AE.Y

namespace Go.AE.Y
attribute [local go_sem] cond_true cond_false Bool.not_true Bool.not_false
open Go.Proofs.Tryz
variable {H H0:Heap}{K:V→Heap→Prop}{E E' L:List (Nat×Obj)}
structure ExVis {α:Type}(ob:α→List (Nat×Obj))(step:α→Ex→α)(ok:α→Prop)(f:Nat)(caps:List C):Prop where
 nm:∀a b,(ob a).map Prod.fst=(ob b).map Prod.fst
 nd:∀a,((ob a).map Prod.fst).Nodup
 ne:∀a,∀p∈ob a,p.2≠.none
 st:∀a s,ok a→ok (step a s)
 c:∀(a:α) (s:Ex) (H:Heap) (K:V→Heap→Prop),ok a→s.size≤2^40→(∀p∈ob a,H p.1=p.2)→(∀H',Upd H H' (ob (step a s))→K (.tup []) H')→Qp prog f ([.ag s.cells]++caps.map .c) H K
theorem Qask {α:Type}{step:α→Ex→α}{ok:α→Prop}(hs:∀a s,ok a→ok (step a s)):∀(l:List Ex) (a:α),ok a→ok (l.foldl step a)
 |[],_,h=>h
 |x::r,a,h=>Qask hs r _ (hs _ _ h)
theorem Qcv {l:List Ex}{i:Nat}(h:i<l.length):Qad (l.take (i+1))=Qad (l.take i)++(l[i]).pre:=by
 rw[List.take_succ_eq_append_getElem h,Qat1];simp[Qad]
set_option maxHeartbeats 4000000 in
theorem Qaxs {α:Type}{ob:α→List (Nat×Obj)}{step:α→Ex→α}{ok:α→Prop}{f:Nat}{caps:List C}(hv:ExVis ob step ok f caps) :
  ∀(n:Nat) (x:Ex) (a:α) (H:Heap) (K:V→Heap→Prop),x.size≤n→x.size≤2^40→ok a→(∀p∈ob a,H p.1=p.2)→(∀H',Upd H H' (ob (x.pre.foldl step a))→K (.tup []) H')→
   Qp prog Qgd [.ag x.cells,.c (.fn f caps)] H K:=by
 intro n
 induction n with
 |zero=>intro x a H K h;have:=x.size_pos;omega
 |succ n ih=>
 intro x a H K hn hb ha hh hK
 have hsz:=x.size_kids
 refine Qw ?_
 refine Qb Qah Qags ?_
 refine Qa ?_
 simp only[go_sem,x.cells_eq]
 refine Qa ?_
 simp only[go_sem]
 have kn:Kn H H (ob a) []:=.startE (fun p hp=>⟨hh p hp,hv.ne a p hp⟩) (hv.nd a)
 have hvc:=hv.c a x
 rw[x.cells_eq]at hvc
 refine hvc _ _ ha hb hh fun H1 hu=>?_
 have kn:=kn.callAll hu (hv.nm _ _) (hv.ne _)
 have hok1:=hv.st a x ha
 simp only[go_sem]
 refine Qa ?_
 simp only[go_sem,Qj]
 intro hl
 simp only[LIM]at hl
 refine Qd (Q0 (fun m e1 H1=>∃(i:Nat),m=x.kids.length-i∧i≤x.kids.length∧Kn H H1 (ob ((Qad (x.kids.take i)).foldl step (step a x))) []∧
  e1=[(1,.c (.fn f caps)),(10,.c (.sl false 4 (Qv x.kids))),(11,.c (.int .i64 x.kids.length)),(12,.c (.int .i64 i))]) x.kids.length ?_ ?_)
 ·exact⟨0,by omega,by omega,by simpa[Qad]using kn,rfl⟩
 ·clear kn
  rintro m e1 H2 ⟨i,hm1,hi,kn,rfl⟩
  obtain⟨a1,ha1⟩:∃a1,(Qad (x.kids.take i)).foldl step (step a x)=a1:=⟨_,rfl⟩
  have hok2:ok a1:=by rw[←ha1];exact Qask hv.st _ _ hok1
  rw[ha1]at kn
  refine Qa ?_
  simp only[go_sem]
  refine Qf (Qc rfl ?_ ?_)
  ·intro hc
   have hlt:i<x.kids.length:=by simpa using hc
   have hms:=Qaf (List.getElem_mem hlt)
   obtain⟨y,hy⟩:∃y,x.kids[i]=y:=⟨_,rfl⟩
   have htk:=Qcv hlt
   rw[hy]at hms htk
   refine Qe ?_
   try simp only[go_sem]
   refine Qf (Qd ?_)
   refine Qa ?_
   simp only[go_sem,hlt,Qj,Qac _ _ hlt,hy,y.cells_eq]
   intro x5 hx5 H3 h3
   have kn:=kn.al hx5 h3
   have g5:=kn.l 0 rfl
   simp only[go_sem,Qnx,g5]
   intro H4 h4
   have kn:=kn.stL 0 rfl h4
   have g5:=kn.l 0 rfl
   refine Qs ?_
   simp only[go_sem,g5]
   have hih:=fun K=>ih y a1 H4 K
   rw[y.cells_eq]at hih
   refine hih _ (by omega) (by omega) hok2 (fun p hp=>(kn.get p (List.mem_append_left _ hp)).1) fun H5 hu=>?_
   have kn:=Kn.drop (A:=[]) (kn.callAll hu (hv.nm _ _) (hv.ne _))
   simp only[go_sem]
   refine Qs ?_
   simp only[go_sem,AE.X.next]
   refine⟨Qu (by omega) (by omega),x.kids.length-(i+1),by omega,i+1,rfl,by omega,?_,rfl⟩
   rw[htk,List.foldl_append,ha1]
   exact kn
  ·intro hc
   have hge:x.kids.length≤i:=by simpa using hc
   rw[List.take_of_length_le hge]at ha1
   refine Q1 ?_
   simp only[go_sem,AE.X.next,Qy,Q7,Q2z]
   refine⟨.tup [],.tup _ _ rfl fun j x x' h=>by simp at h,hK _ ?_⟩
   rw[x.pre_eq,List.foldl_cons,ha1]
   exact kn.fin
end Go.AE.Y

namespace Go.AE.Y
theorem Qa3j (fns:List Fn)(k:Nat)(op:Int)(name:List UInt8)(args:List Ex)(s:Ck){b:List (List UInt8×Nat)}{r:Vars}(h:s.v=b::r):∃b',(stC fns k op name args s).v=b'::r:=by
 simp only[stC]
 split
 ·exact⟨(name,s.n)::b,by simp[Qrp,h]⟩
 ·split
  ·exact⟨b,h⟩
  ·exact⟨b,h⟩
theorem Qahk {l:List St}{i:Nat}(fns:List Fn)(k:Nat)(h:i<l.length)(s:Ck):Qam fns k (l.take (i+1)) s=(l[i]).ck fns k (Qam fns k (l.take i) s):=by
 rw[List.take_succ_eq_append_getElem h,Qa0w];simp[Qam]
end Go.AE.Y

namespace Go.AE.Y
variable {g:Nat→List Nat}{xs:List Nat}{S S' S1:List Bool}{o o' o1:List Nat}
def cnt (S:List Bool):Nat:=S.count true
end Go.AE.Y

namespace Go.AE.Y
attribute [local instance] Classical.propDecidable
variable {g:Nat→List Nat}{A B:Nat→Prop}{x y z:Nat}
variable {xs:List Nat}{S S' S1:List Bool}{o o' o1:List Nat}
theorem Qajv:∀{l k:List Nat},l.Pairwise (· < ·)→k.Pairwise (· < ·)→(∀x,x∈l↔x∈k)→l=k
 |[],[],_,_,_=>rfl
 |[],b::k,_,_,h=>by have:=(h b).2 List.mem_cons_self;simp at this
 |a::l,[],_,_,h=>by have:=(h a).1 List.mem_cons_self;simp at this
 |a::l,b::k,h1,h2,h=>by
  rw[List.pairwise_cons]at h1 h2
  have hab:a=b:=by
   rcases List.mem_cons.1 ((h a).1 List.mem_cons_self)with e|e
   ·exact e
   ·rcases List.mem_cons.1 ((h b).2 List.mem_cons_self)with e'|e'
    ·exact e'.symm
    ·have:=h1.1 b e';have:=h2.1 a e;omega
  subst hab
  congr 1
  refine Qajv h1.2 h2.2 fun x=>⟨fun hx=>?_,fun hx=>?_⟩
  ·rcases List.mem_cons.1 ((h x).1 (List.mem_cons_of_mem _ hx))with e|e
   ·subst e;have:=h1.1 x hx;omega
   ·exact e
  ·rcases List.mem_cons.1 ((h x).2 (List.mem_cons_of_mem _ hx))with e|e
   ·subst e;have:=h2.1 x hx;omega
   ·exact e
variable {n h:Nat}
end Go.AE.Y

namespace Go.AE.Y
attribute [local instance] Classical.propDecidable
structure Flo where
 n:Nat
 nx:Nat→List Nat
 on:Nat→List Nat
 ins:Nat→List (Option Nat×List Nat)
 ph:Nat→List Nat
 ea:Nat→Nat→List Nat
abbrev RS':=Nat→Prop
variable {F:Flo}
def Flo.fits (F:Flo):Prop:=∀b,b<F.n→∀m∈F.nx b,m<F.n
variable {I J:Nat→RS'}
noncomputable def ascL (R:Nat)(S:RS'):List Nat:=(List.range R).filter fun r=>decide (S r)
theorem ascL_mem {R:Nat}{S:RS'}{r:Nat}:r∈ascL R S↔r<R∧S r:=by simp[ascL]
theorem Qahr {R:Nat}{S:RS'}:(ascL R S).Pairwise (· < ·):=List.Pairwise.filter _ List.pairwise_lt_range
theorem Qaw3 {R:Nat}{S:RS'}:(ascL R S).length≤R:=by
 have:=List.length_filter_le (fun r=>decide (S r)) (List.range R)
 simpa[ascL]using this
theorem Qaii {a:List Nat}(ha:a.Nodup):∀{b:List Nat},(∀x∈a,x∈b)→a.length≤b.length:=by
 induction a with
 |nil=>intro b _;simp
 |cons x a ih=>
  intro b h
  have hx:=h x List.mem_cons_self
  have hn:=List.nodup_cons.1 ha
  have:=ih hn.2 (b:=b.erase x) fun y hy=>(List.mem_erase_of_ne (fun he=>by subst he;exact hn.1 hy)).2 (h y (List.mem_cons_of_mem _ hy))
  rw[List.length_erase_of_mem hx]at this
  have hp:=List.length_pos_of_mem hx
  simp only[List.length_cons];omega
theorem Qala {a:List Nat}{R:Nat}(ha:a.Nodup)(h:∀x∈a,x<R):a.length≤R:=by
 have:=Qaii ha (b:=List.range R) fun x hx=>List.mem_range.2 (h x hx)
 simpa using this
end Go.AE.Y

namespace Go.AE.Y
attribute [local instance] Classical.propDecidable
mutual
def St.pre:St→List Ex
 |.mk _ _ args body els=>Qad args++Qa4 body++Qa4 els
def Qa4:List St→List Ex
 |[]=>[]
 |x::r=>x.pre++Qa4 r
end
theorem St.pre_eq (x:St):x.pre=Qad x.args++Qa4 x.body++Qa4 x.els:=by cases x;simp only[St.pre,St.args,St.body,St.els]
theorem Qawo (a b:List St):Qa4 (a++b)=Qa4 a++Qa4 b:=by
 induction a with
 |nil=>simp[Qa4]
 |cons x r ih=>simp only[List.cons_append,Qa4,ih,List.append_assoc]
theorem fst0_zero {a b:Int}:Qb8 a b=0↔a=0∧b=0:=by
 unfold Qb8;split <;> omega
theorem Qasl (a b c:Int):Qb8 (Qb8 a b) c=Qb8 a (Qb8 b c):=by
 unfold Qb8
 by_cases h:a=0 <;> simp[h]
theorem Qagn (a:Int):Qb8 a 0=a:=by unfold Qb8;split <;> omega
theorem partsC_zero {fns:List Fn}{k:Nat}{v:Vars}{l:List Ex}{c:Int}:Qao fns k v l c=0↔c=0∧∀e∈l,Qda fns k v e=0:=by
 induction l generalizing c with
 |nil=>simp[Qao]
 |cons x r ih=>
  have:Qao fns k v (x::r) c=Qao fns k v r (Qb8 c (Qda fns k v x)):=rfl
  rw[this,ih,fst0_zero]
  simp only[List.mem_cons,forall_eq_or_imp,and_assoc]
theorem Qalc {fns gns:List Fn}{k m:Nat}{v:Vars}{l:List Ex}(h:∀e∈l,Qda fns k v e=Qda gns m v e)(c:Int):Qao fns k v l c=Qao gns m v l c:=by
 induction l generalizing c with
 |nil=>rfl
 |cons x r ih=>
  show Qao fns k v r (Qb8 c (Qda fns k v x))=Qao gns m v r (Qb8 c (Qda gns m v x))
  rw[h x List.mem_cons_self]
  exact ih (fun e he=>h e (List.mem_cons_of_mem _ he)) _
def calC (fns:List Fn)(k:Nat)(p:Ex):Int:=match Qkh (fns.take k) p.name with
 |none=>4
 |some j=>if ((fns[j]?.map fun f=>f.params.length).getD 0)=p.kids.length then 0 else 5
theorem Q2u {fns:List Fn}{k:Nat}{v:Vars}{p:Ex}(h:p.op=13):Qda fns k v p=calC fns k p:=by
 rw[Qda,if_neg (by omega),if_pos h];rfl
theorem Qaos {fns gns:List Fn}{k m:Nat}{v:Vars}{p:Ex}(h:¬p.op=13):Qda fns k v p=Qda gns m v p:=by
 unfold Qda
 simp only[h,if_false]
theorem Qa3k {fns:List Fn}{k:Nat}{op:Int}{name:List UInt8}{args:List Ex}{s:Ck}(h:(stC fns k op name args s).c=0):s.c=0∧∀e∈Qad args,e.op=13→calC fns k e=0:=by
 have h2:Qao fns k s.v (Qad args) s.c=0:=by
  unfold stC at h
  simp only at h
  split at h
  ·exact (fst0_zero.1 h).1
  ·split at h
   ·exact (fst0_zero.1 h).1
   ·exact h
 obtain⟨h3,h4⟩:=partsC_zero.1 h2
 exact⟨h3,fun e he ho=>by rw[←Q2u (v:=s.v) ho];exact h4 e he⟩
mutual
theorem St.ck_zero {fns:List Fn}{k:Nat}:∀(x:St) {s:Ck},(x.ck fns k s).c=0→s.c=0∧∀e∈x.pre,e.op=13→calC fns k e=0
 |.mk op name args body els,s,h=>by
  simp only[St.ck]at h
  obtain⟨h1,h2⟩:=Qji els h
  obtain⟨h3,h4⟩:=Qji body h1
  obtain⟨h5,h6⟩:=Qa3k h3
  refine⟨h5,fun e he ho=>?_⟩
  simp only[St.pre,List.mem_append]at he
  rcases he with (he|he)|he
  ·exact h6 e he ho
  ·exact h4 e he ho
  ·exact h2 e he ho
theorem Qji {fns:List Fn}{k:Nat}:∀(l:List St) {s:Ck},(Qam fns k l s).c=0→s.c=0∧∀e∈Qa4 l,e.op=13→calC fns k e=0
 |[],s,h=>⟨h,by simp[Qa4]⟩
 |x::r,s,h=>by
  simp only[Qam]at h
  obtain⟨h1,h2⟩:=Qji r h
  obtain⟨h3,h4⟩:=St.ck_zero x h1
  refine⟨h3,fun e he ho=>?_⟩
  simp only[Qa4,List.mem_append]at he
  rcases he with he|he
  ·exact h4 e he ho
  ·exact h2 e he ho
end
theorem Qa0s {fns gns:List Fn}{k m:Nat}{op:Int}{name:List UInt8}{args:List Ex}{s:Ck}(h:∀e∈Qad args,e.op=13→calC fns k e=calC gns m e):stC fns k op name args s=stC gns m op name args s:=by
 have:Qao fns k s.v (Qad args) s.c=Qao gns m s.v (Qad args) s.c:=Qalc (fun e he=>by
  by_cases ho:e.op=13
  ·rw[Q2u ho,Q2u ho];exact h e he ho
  ·exact Qaos ho) _
 unfold stC
 rw[this]
mutual
theorem St.ck_congr {fns gns:List Fn}{k m:Nat}:∀(x:St) {s:Ck},(∀e∈x.pre,e.op=13→calC fns k e=calC gns m e)→x.ck fns k s=x.ck gns m s
 |.mk op name args body els,s,h=>by
  simp only[St.pre,List.mem_append]at h
  simp only[St.ck]
  rw[Qa0s (fns:=fns) (gns:=gns) (m:=m) fun e he ho=>h e (.inl (.inl he)) ho]
  rw[Qoc body fun e he ho=>h e (.inl (.inr he)) ho]
  rw[Qoc els fun e he ho=>h e (.inr he) ho]
theorem Qoc {fns gns:List Fn}{k m:Nat}:∀(l:List St) {s:Ck},(∀e∈Qa4 l,e.op=13→calC fns k e=calC gns m e)→Qam fns k l s=Qam gns m l s
 |[],s,h=>rfl
 |x::r,s,h=>by
  simp only[Qa4,List.mem_append]at h
  simp only[Qam]
  rw[St.ck_congr x fun e he ho=>h e (.inl he) ho]
  exact Qoc r fun e he ho=>h e (.inr he) ho
end
theorem Qay2 {ps:List (List UInt8)}{s:Ck}(h:(Qxz ps s).c=0):s.c=0:=by
 induction ps generalizing s with
 |nil=>exact h
 |cons p r ih=>
  have:Qxz (p::r) s=Qxz r ⟨Qrp s.v p s.n,Qb8 s.c (if Qgf s.v p then 2 else 0),s.n+1⟩:=rfl
  rw[this]at h
  exact (fst0_zero.1 (ih h)).1
theorem Qagl {fns:List Fn}:∀(l:List Nat) (c:Int),l.foldl (fun c i=>Qb8 c (fnCk fns i).c) c=0↔c=0∧∀i∈l,(fnCk fns i).c=0
 |[],c=>by simp
 |x::r,c=>by
  rw[List.foldl_cons,Qagl r,fst0_zero]
  simp only[List.mem_cons,forall_eq_or_imp,and_assoc]
theorem Qase {fns:List Fn}{k:Nat}:ckK fns k=0↔∀i,i<k→(fnCk fns i).c=0:=by
 rw[ckK,Qagl];simp
structure FineP (fns:List Fn):Prop where
 v:Qle fns=true
 c:∀k (h:k<fns.length),(Qam fns k fns[k].body (Qxz fns[k].params ⟨[[]],0,0⟩)).c=0
 ix:∀k (h:k<fns.length),Qkh fns fns[k].name=some k
theorem fine_iff {fns:List Fn}:Qlm fns=true↔FineP fns:=by
 rw[Qlm,decide_eq_true_eq,Q2w]
 constructor
 ·intro h
  split at h
  ·rename_i hv
   rw[Qase]at h
   have h1:∀k (hk:k<fns.length),(if Qkh fns fns[k].name=some k then (0:Int)else 2)=0∧(Qam fns k fns[k].body (Qxz fns[k].params ⟨[[]],if Qkh fns fns[k].name=some k then 0 else 2,0⟩)).c=0:=fun k hk=>by
    have:=h k hk
    rw[fnCk,List.getElem?_eq_getElem hk]at this
    exact⟨Qay2 (Qji _ this).1,this⟩
   have h2:∀k (hk:k<fns.length),Qkh fns fns[k].name=some k:=fun k hk=>by
    have:=(h1 k hk).1
    split at this
    ·assumption
    ·simp at this
   refine⟨hv,fun k hk=>?_,h2⟩
   have:=(h1 k hk).2
   rw[if_pos (h2 k hk)]at this
   exact this
  ·simp at h
 ·intro h
  rw[if_pos h.v,Qase]
  intro k hk
  rw[fnCk,List.getElem?_eq_getElem hk]
  simp only[]
  rw[if_pos (h.ix k hk)]
  exact h.c k hk
theorem FineP.len {fns:List Fn}(h:FineP fns):0<fns.length∧fns.length≤4:=by
 have:=h.v
 simp only[Qle,Bool.and_eq_true,decide_eq_true_eq]at this
 omega
theorem Q0q {l:List Fn}{s:List UInt8}{j:Nat}(h:Qkh l s=some j):∃hj:j<l.length,l[j].name=s∧∀i (hi:i<j),l[i].name≠s:=by
 rw[Qkh,List.findIdx?_eq_some_iff_getElem]at h
 obtain⟨hj,h1,h2⟩:=h
 exact⟨hj,by simpa using h1,fun i hi=>by simpa using h2 i hi⟩
theorem Qan8 {l:List Fn}{s:List UInt8}{j:Nat}(hj:j<l.length)(h1:l[j].name=s)(h2:∀i (hi:i<j),l[i].name≠s):Qkh l s=some j:=by
 rw[Qkh,List.findIdx?_eq_some_iff_getElem]
 exact⟨hj,by simpa using h1,fun i hi=>by simpa using h2 i hi⟩
theorem FineP.inj {fns:List Fn}(h:FineP fns){i j:Nat}(hi:i<fns.length)(hj:j<fns.length)(he:fns[i].name=fns[j].name):i=j:=by
 have h1:=h.ix i hi
 rw[he,h.ix j hj]at h1
 exact (Option.some.inj h1).symm
theorem FineP.call {fns:List Fn}(h:FineP fns){k:Nat}(hk:k<fns.length){e:Ex}(he:e∈Qa4 fns[k].body)(ho:e.op=13) :
  ∃j,∃hj:j<k,∃hl:j<fns.length,fns[j].name=e.name∧fns[j].params.length=e.kids.length:=by
 have:=(Qji _ (h.c k hk)).2 e he ho
 unfold calC at this
 cases hx:Qkh (fns.take k) e.name with
 |none=>rw[hx]at this;simp at this
 |some j=>
  rw[hx]at this
  obtain⟨hj,h1,_⟩:=Q0q hx
  rw[List.length_take]at hj
  have hl:j<fns.length:=by omega
  refine⟨j,by omega,hl,by simpa using h1,?_⟩
  simp only[List.getElem?_eq_getElem hl,Option.map_some,Option.getD_some]at this
  split at this
  ·assumption
  ·simp at this
def Cls (fns:List Fn)(k j:Nat):Prop:=∃(hk:k<fns.length) (hj:j<fns.length),∃e∈Qa4 fns[k].body,e.op=13∧e.name=fns[j].name
inductive NdF (fns:List Fn):Nat→Prop
 |top:NdF fns (fns.length-1)
 |to {k j:Nat}:NdF fns k→Cls fns k j→NdF fns j
noncomputable def Qll (fns:List Fn)(k:Nat):List Nat:=ascL fns.length (Cls fns k)
noncomputable def Qb0 (fns:List Fn):List Nat:=ascL fns.length (NdF fns)
theorem FineP.cls_lt {fns:List Fn}(h:FineP fns){k j:Nat}(hc:Cls fns k j):j<k:=by
 obtain⟨hk,hj,e,he,ho,hn⟩:=hc
 obtain⟨j',h1,h2,h3,_⟩:=h.call hk he ho
 have:=h.inj h2 hj (h3.trans hn)
 omega
theorem FineP.nd_lt {fns:List Fn}(h:FineP fns){k:Nat}(hn:NdF fns k):k<fns.length:=by
 have:=h.len
 cases hn with
 |top=>omega
 |to _ hc=>obtain⟨_,hj,_⟩:=hc;exact hj
theorem FineP.need_mem {fns:List Fn}(h:FineP fns){k:Nat}:k∈Qb0 fns↔NdF fns k:=by
 rw[Qb0,ascL_mem]
 exact⟨fun x=>x.2,fun x=>⟨h.nd_lt x,x⟩⟩
def fnAt (fns:List Fn)(k:Nat):Fn:=(fns[k]?).getD ⟨[],[],[]⟩
theorem Qk6 {fns:List Fn}{k:Nat}(h:k<fns.length):fnAt fns k=fns[k]:=by simp[fnAt,h]
noncomputable def Qb3 (fns:List Fn):List Fn:=(Qb0 fns).map (fnAt fns)
theorem Qdl (fns:List Fn):(Qb3 fns).length=(Qb0 fns).length:=by simp[Qb3]
theorem Qkp (fns:List Fn):(Qb0 fns).Pairwise (· < ·):=Qahr
theorem Qmy {fns:List Fn}(h:FineP fns){i:Nat}(hi:i<(Qb3 fns).length):∃hn:i<(Qb0 fns).length,∃hk:(Qb0 fns)[i]<fns.length,(Qb3 fns)[i]=fns[(Qb0 fns)[i]]:=by
 have hn:i<(Qb0 fns).length:=by rw[←Qdl];exact hi
 have hk:(Qb0 fns)[i]<fns.length:=h.nd_lt (h.need_mem.1 (List.getElem_mem hn))
 refine⟨hn,hk,?_⟩
 simp only[Qb3,List.getElem_map]
 exact Qk6 hk
theorem Qak8 {fns:List Fn}(h:FineP fns):0<(Qb0 fns).length∧∀(hn:(Qb0 fns).length-1<(Qb0 fns).length),(Qb0 fns)[(Qb0 fns).length-1]=fns.length-1:=by
 have hm:fns.length-1∈Qb0 fns:=h.need_mem.2 .top
 obtain⟨i,hi,he⟩:=List.mem_iff_getElem.1 hm
 refine⟨by omega,fun hn=>?_⟩
 have hl:=h.nd_lt (h.need_mem.1 (List.getElem_mem hn))
 by_cases hii:i=(Qb0 fns).length-1
 ·subst hii;exact he
 ·have:=List.pairwise_iff_getElem.1 (Qkp fns) i ((Qb0 fns).length-1) hi hn (by omega)
  omega
theorem Qaj1 {fns:List Fn}:∀(l:List Nat) (n:Nat),l.Pairwise (· < ·)→(∀x∈l,n≤x∧x<fns.length)→Qc9 (l.map (fnAt fns))≤Qc9 (fns.drop n)
 |[],n,_,_=>by simp[Qc9]
 |x::r,n,hp,hx=>by
  obtain⟨h1,h2⟩:=hx x List.mem_cons_self
  have hp2:=List.pairwise_cons.1 hp
  have ih:=Qaj1 (fns:=fns) r (x+1) hp2.2 fun y hy=>⟨hp2.1 y hy,(hx y (List.mem_cons_of_mem _ hy)).2⟩
  have e1:fns.drop x=fns[x]::fns.drop (x+1):=(List.getElem_cons_drop h2).symm
  have e2:Qc9 (fns.drop x)≤Qc9 (fns.drop n):=by
   have:fns.drop n=(fns.drop n).take (x-n)++fns.drop x:=by
    conv=>lhs;rw[←List.take_append_drop (x-n) (fns.drop n)]
    rw[List.drop_drop];congr 2;omega
   rw[this,Qaj0];omega
  rw[e1]at e2
  simp only[List.map_cons,Qc9,Qk6 h2]at e2⊢
  omega
theorem Q18 {fns:List Fn}(h:FineP fns):FineP (Qb3 fns):=by
 obtain⟨hl0,hl4⟩:=h.len
 have hnl:=(Qak8 h).1
 have hle:(Qb0 fns).length≤fns.length:=Qaw3
 have hv:=h.v
 simp only[Qle,Bool.and_eq_true,decide_eq_true_eq,List.all_eq_true]at hv
 have hix:∀k (hk:k<(Qb3 fns).length),Qkh (Qb3 fns) (Qb3 fns)[k].name=some k:=by
  intro k hk
  refine Qan8 hk rfl fun i hi=>?_
  obtain⟨a1,a2,a3⟩:=Qmy h (show i<(Qb3 fns).length by omega)
  obtain⟨b1,b2,b3⟩:=Qmy h hk
  rw[a3,b3]
  intro he
  have:=h.inj a2 b2 he
  have h3:=List.pairwise_iff_getElem.1 (Qkp fns) i k a1 b1 hi
  omega
 refine⟨?_,fun k hk=>?_,hix⟩
 ·simp only[Qle,Bool.and_eq_true,decide_eq_true_eq,List.all_eq_true]
  refine⟨⟨by rw[Qdl];omega,fun f hf=>?_⟩,?_⟩
  ·obtain⟨i,hi,rfl⟩:=List.getElem_of_mem hf
   obtain⟨_,a2,a3⟩:=Qmy h hi
   rw[a3];exact hv.1.2 _ (List.getElem_mem a2)
  ·have:=Qaj1 (fns:=fns) (Qb0 fns) 0 (Qkp fns) fun x hx=>⟨Nat.zero_le _,h.nd_lt (h.need_mem.1 hx)⟩
   rw[List.drop_zero]at this
   exact Nat.le_trans this hv.2
 ·obtain⟨b1,b2,b3⟩:=Qmy h hk
  rw[b3]
  have hc:=h.c _ b2
  rw[Qoc (gns:=fns) (m:=(Qb0 fns)[k])]
  ·exact hc
  ·intro e he ho
   have h0:=(Qji _ hc).2 e he ho
   rw[h0]
   obtain⟨j,hj,hjl,hn,hp⟩:=h.call b2 he ho
   have hnd:NdF fns j:=.to (h.need_mem.1 (List.getElem_mem b1)) ⟨b2,hjl,e,he,ho,hn.symm⟩
   obtain⟨i,hi,hie⟩:=List.mem_iff_getElem.1 (h.need_mem.2 hnd)
   have hik:i<k:=by
    rcases Nat.lt_or_ge i k with h'|h'
    ·exact h'
    ·exfalso
     rcases Nat.lt_or_ge k i with h''|h''
     ·have:=List.pairwise_iff_getElem.1 (Qkp fns) k i b1 hi h''
      omega
     ·have:i=k:=by omega
      subst this;omega
   have hid:i<(Qb3 fns).length:=by rw[Qdl];exact hi
   obtain⟨_,c2,c3⟩:=Qmy h hid
   have hin:(Qb3 fns)[i]=fns[j]:=by rw[c3];congr 1
   have:Qkh ((Qb3 fns).take k) e.name=some i:=by
    refine Qan8 (by rw[List.length_take];omega) (by rw[List.getElem_take,hin,hn]) fun m hm=>?_
    rw[List.getElem_take]
    intro he2
    have h5:=hix i hid
    rw[hin,hn,←he2]at h5
    rw[hix m (by omega)]at h5
    have:=Option.some.inj h5
    omega
   rw[calC,this]
   simp only[List.getElem?_eq_getElem hid,Option.map_some,Option.getD_some,hin,hp,if_true]
theorem Qa1c {fns:List Fn}(h:FineP fns){i j:Nat}(hi:i<(Qb0 fns).length)(hj:j<(Qb0 fns).length)(hc:Cls fns (Qb0 fns)[i] (Qb0 fns)[j]):Cls (Qb3 fns) i j:=by
 obtain⟨hk,hl,e,he,ho,hn⟩:=hc
 have hi':i<(Qb3 fns).length:=by rw[Qdl];exact hi
 have hj':j<(Qb3 fns).length:=by rw[Qdl];exact hj
 obtain⟨_,a2,a3⟩:=Qmy h hi'
 obtain⟨_,b2,b3⟩:=Qmy h hj'
 exact⟨hi',hj',e,by rw[a3];exact he,ho,by rw[b3];exact hn⟩
theorem Qak7 {fns:List Fn}(h:FineP fns):Qb0 (Qb3 fns)=List.range (Qb0 fns).length:=by
 have h2:=Q18 h
 have hnd:∀k,NdF fns k→∀i (hi:i<(Qb0 fns).length),(Qb0 fns)[i]=k→NdF (Qb3 fns) i:=by
  intro k hk
  induction hk with
  |top=>
   intro i hi he
   obtain⟨h0,hl⟩:=Qak8 h
   have hl:=hl (by omega)
   have:i=(Qb0 fns).length-1:=by
    rcases Nat.lt_or_ge i ((Qb0 fns).length-1)with h'|h'
    ·have:=List.pairwise_iff_getElem.1 (Qkp fns) i ((Qb0 fns).length-1) hi (by omega) h'
     omega
    ·omega
   rw[this,←Qdl]
   exact .top
  |to hk hc ih=>
   rename_i k j
   intro i hi he
   obtain⟨m,hm,hme⟩:=List.mem_iff_getElem.1 (h.need_mem.2 hk)
   refine .to (ih m hm hme) (Qa1c h hm hi ?_)
   rw[hme,he];exact hc
 rw[Qb0,ascL,Qdl]
 rw[List.filter_eq_self]
 intro i hi
 have hi:i<(Qb0 fns).length:=by simpa using hi
 exact decide_eq_true (hnd _ (h.need_mem.1 (List.getElem_mem hi)) i hi rfl)
theorem Qan2 {fns:List Fn}(h:FineP fns):Qb3 (Qb3 fns)=Qb3 fns:=by
 rw[Qb3,Qak7 h,←Qdl]
 refine List.ext_getElem (by simp) fun i h1 h2=>?_
 simp only[List.getElem_map,List.getElem_range]
 exact Qk6 h2
end Go.AE.Y

namespace Go.AE.Y
theorem Qald (fns:List Fn)(k:Nat)(v:Vars)(a:Int):∀(l:List Ex) (c:Int),Qao fns k v l (Qb8 a c)=Qb8 a (Qao fns k v l c)
 |[],c=>rfl
 |x::r,c=>by
  show Qao fns k v r (Qb8 (Qb8 a c) (Qda fns k v x))=Qb8 a (Qao fns k v r (Qb8 c (Qda fns k v x)))
  rw[Qasl,Qald fns k v a r]
theorem Qa77 (fns:List Fn)(k:Nat)(op:Int)(name:List UInt8)(args:List Ex)(a:Int)(s:Ck) :
  stC fns k op name args ⟨s.v,Qb8 a s.c,s.n⟩=⟨(stC fns k op name args s).v,Qb8 a (stC fns k op name args s).c,(stC fns k op name args s).n⟩:=by
 simp only[stC,Qald]
 split
 ·simp only[Qasl]
 ·split
  ·simp only[Qasl]
  ·rfl
mutual
theorem St.ck_sh (fns:List Fn)(k:Nat)(a:Int):∀(x:St) (s:Ck),x.ck fns k ⟨s.v,Qb8 a s.c,s.n⟩=⟨(x.ck fns k s).v,Qb8 a (x.ck fns k s).c,(x.ck fns k s).n⟩
 |.mk op name args body els,s=>by
  simp only[St.ck,Qa77]
  have h1:=Q75 fns k a body ⟨[]::(stC fns k op name args s).v,(stC fns k op name args s).c,(stC fns k op name args s).n⟩
  simp only at h1
  rw[h1]
  have h2:=Q75 fns k a els ⟨[]::(stC fns k op name args s).v,(Qam fns k body ⟨[]::(stC fns k op name args s).v,(stC fns k op name args s).c,(stC fns k op name args s).n⟩).c,(Qam fns k body ⟨[]::(stC fns k op name args s).v,(stC fns k op name args s).c,(stC fns k op name args s).n⟩).n⟩
  simp only at h2
  rw[h2]
theorem Q75 (fns:List Fn)(k:Nat)(a:Int):∀(l:List St) (s:Ck),Qam fns k l ⟨s.v,Qb8 a s.c,s.n⟩=⟨(Qam fns k l s).v,Qb8 a (Qam fns k l s).c,(Qam fns k l s).n⟩
 |[],s=>by simp only[Qam]
 |x::r,s=>by
  simp only[Qam]
  rw[St.ck_sh fns k a x s]
  exact Q75 fns k a r (x.ck fns k s)
end
theorem Qay1 (a:Int):∀(ps:List (List UInt8)) (s:Ck),Qxz ps ⟨s.v,Qb8 a s.c,s.n⟩=⟨(Qxz ps s).v,Qb8 a (Qxz ps s).c,(Qxz ps s).n⟩
 |[],s=>rfl
 |p::r,s=>by
  show Qxz r ⟨Qrp s.v p s.n,Qb8 (Qb8 a s.c) (if Qgf s.v p then 2 else 0),s.n+1⟩=_
  rw[Qasl]
  exact Qay1 a r ⟨Qrp s.v p s.n,Qb8 s.c (if Qgf s.v p then 2 else 0),s.n+1⟩
theorem Qalb {ps:List (List UInt8)}{j:Nat}(h:j<ps.length)(s:Ck):Qxz (ps.take (j+1)) s =
  ⟨Qrp (Qxz (ps.take j) s).v ps[j] (Qxz (ps.take j) s).n,Qb8 (Qxz (ps.take j) s).c (if Qgf (Qxz (ps.take j) s).v ps[j]then 2 else 0),(Qxz (ps.take j) s).n+1⟩:=by
 rw[List.take_succ_eq_append_getElem h]
 simp only[Qxz,List.foldl_append,List.foldl_cons,List.foldl_nil]
 rfl
def ixC (fns:List Fn)(k:Nat)(name:List UInt8):Int:=if Qkh fns name=some k then 0 else 2
theorem Qa5b {fns:List Fn}{k:Nat}(h:k<fns.length)(a:Int) :
  (Qam fns k fns[k].body (Qxz fns[k].params ⟨[[]],Qb8 a (ixC fns k fns[k].name),0⟩)).c=Qb8 a (fnCk fns k).c:=by
 have h1:=Qay1 a fns[k].params ⟨[[]],ixC fns k fns[k].name,0⟩
 simp only at h1
 rw[h1]
 have h2:=Q75 fns k a fns[k].body (Qxz fns[k].params ⟨[[]],ixC fns k fns[k].name,0⟩)
 rw[h2,fnCk,List.getElem?_eq_getElem h]
 rfl
theorem Qahs (fns:List Fn)(k:Nat):ckK fns (k+1)=Qb8 (ckK fns k) (fnCk fns k).c:=by
 rw[ckK,ckK,List.range_succ,List.foldl_append];rfl
theorem Qa5c {l:List Fn}{i:Nat}(h:i<l.length):∃j,Qkh l l[i].name=some j∧j≤i:=by
 cases hx:Qkh l l[i].name with
 |none=>
  rw[Qkh,List.findIdx?_eq_none_iff]at hx
  have:=hx l[i] (List.getElem_mem h)
  simp at this
 |some j=>
  refine⟨j,rfl,?_⟩
  obtain⟨hj,h1,h2⟩:=Q0q hx
  rcases Nat.lt_or_ge i j with hlt|hge
  ·exact absurd rfl (h2 i hlt)
  ·exact hge
end Go.AE.Y

namespace Go.AE.Y
def vT:Vars→List (List UInt8×Nat×Nat)
 |[]=>[]
 |b::r=>b.map (fun p=>(p.1,p.2,r.length))++vT r
def row3 (x:List UInt8×Nat×Nat):List C:=[.str x.1,.int .i64 x.2.1,.int .i64 x.2.2]
def Qa6 (v:Vars):List (List C):=((vT v).map row3).reverse
theorem Qu6 (v:Vars):(Qa6 v).length=(vT v).length:=by simp[Qa6]
theorem Qmu (v:Vars):Qa6 ([]::v)=Qa6 v:=by simp[Qa6,vT]
theorem Qadx (s:List UInt8)(n:Nat)(b:List (List UInt8×Nat))(r:Vars):Qa6 (((s,n)::b)::r)=Qa6 (b::r)++[row3 (s,n,r.length)]:=by simp[Qa6,vT]
theorem Qawr (b:List (List UInt8×Nat))(r:Vars):(Qa6 (b::r)).take (Qa6 r).length=Qa6 r:=by
 simp[Qa6,vT]
theorem Qa3z (b:List (List UInt8×Nat))(r:Vars):(Qa6 r).length≤(Qa6 (b::r)).length:=by simp[Qa6,vT]
theorem Qahn (v:Vars){i:Nat}(h:i<(vT v).length):(Qa6 v).getD i []=row3 ((vT v)[(vT v).length-1-i]'(by omega)):=by
 have hi:i<(Qa6 v).length:=by rw[Qu6];exact h
 rw[List.getD_eq_getElem?_getD,List.getElem?_eq_getElem hi,Option.getD_some]
 simp[Qa6]
theorem Qa8e:∀(v:Vars),∀x∈vT v,x.2.2<v.length
 |[],x,h=>by simp[vT]at h
 |b::r,x,h=>by
  simp only[vT,List.mem_append,List.mem_map]at h
  rcases h with ⟨p,_,rfl⟩|h
  ·simp
  ·have:=Qa8e r x h;simp only[List.length_cons];omega
theorem Qa6p (v:Vars)(s:List UInt8):v.find s=((vT v).find? fun x=>decide (x.1=s)).map fun x=>x.2.1:=by
 induction v with
 |nil=>rfl
 |cons b r ih=>
  have h1:Vars.find (b::r) s=((b.find? fun p=>decide (p.1=s)).map Prod.snd).or (Vars.find r s):=by
   rw[Vars.find,Vars.find,List.flatten_cons,List.find?_append]
   cases b.find? fun p=>decide (p.1=s) <;> rfl
  rw[h1,ih,vT,List.find?_append,List.find?_map]
  have h2:((fun x:List UInt8×Nat×Nat=>decide (x.1=s)) ∘ fun p:List UInt8×Nat=>(p.1,p.2,r.length))=fun p=>decide (p.1=s):=rfl
  rw[h2]
  cases b.find? fun p=>decide (p.1=s) <;> rfl
theorem Qa8f (b:List (List UInt8×Nat))(r:Vars)(s:List UInt8):Qgf (b::r) s=(((vT (b::r)).find? fun x=>decide (x.1=s)).map fun x=>decide (x.2.2=r.length)).getD false:=by
 rw[vT,List.find?_append,List.find?_map]
 have h2:((fun x:List UInt8×Nat×Nat=>decide (x.1=s)) ∘ fun p:List UInt8×Nat=>(p.1,p.2,r.length))=fun p=>decide (p.1=s):=rfl
 rw[h2,Qgf,List.headD_cons]
 cases hb:b.find? fun p=>decide (p.1=s)with
 |some p=>
  have h1:=List.find?_some hb
  have h3:=List.mem_of_find?_eq_some hb
  have:(b.any fun p=>decide (p.1=s))=true:=List.any_eq_true.2 ⟨p,h3,h1⟩
  rw[this];simp
 |none=>
  have:(b.any fun p=>decide (p.1=s))=false:=by
   rw[List.find?_eq_none]at hb
   rw[List.any_eq_false]
   exact hb
  rw[this]
  cases hr:(vT r).find? fun x=>decide (x.1=s)with
  |none=>rfl
  |some x=>
   have:=Qa8e r x (List.mem_of_find?_eq_some hr)
   have hne:¬x.2.2=r.length:=by omega
   simp[hne]
theorem Qa49 {α:Type}{l:List α}{p:α→Bool}{k:Nat}(hk:k<l.length)(h:p l[k]=true)(hn:∀x∈l.take k,¬p x=true):l.find? p=some l[k]:=by
 rw[List.find?_eq_some_iff_getElem]
 refine⟨h,k,hk,rfl,fun j hj=>?_⟩
 have:=hn l[j] (by rw[List.mem_take_iff_getElem];exact⟨j,by omega,rfl⟩)
 simpa using this
end Go.AE.Y
namespace Go.AE.Y
theorem Qaxp (l:List Fn)(k:Nat)(s:List UInt8):Qkh (l.take k) s=match Qkh l s with
  |some j=>if j<k then some j else none
  |none=>none:=by
 cases h:Qkh l s with
 |none=>
  rw[Qkh,List.findIdx?_eq_none_iff]at h⊢
  exact fun f hf=>h f (List.mem_of_mem_take hf)
 |some j=>
  obtain⟨hj,h1,h2⟩:=Q0q h
  by_cases hk:j<k
  ·simp only[hk,if_true]
   exact Qan8 (by rw[List.length_take];omega) (by rw[List.getElem_take];exact h1) fun i hi=>by rw[List.getElem_take];exact h2 i hi
  ·simp only[hk,if_false]
   rw[Qkh,List.findIdx?_eq_none_iff]
   intro f hf
   obtain⟨i,hi,rfl⟩:=List.mem_take_iff_getElem.1 hf
   have:=h2 i (by omega)
   simpa using this
theorem Qas6 (fns:List Fn)(k:Nat)(v:Vars)(p:Ex):Qda fns k v p =
  if p.op=2 then (if (v.find p.name).isSome then 0 else 3)
  else if p.op=13 then (match Qkh fns p.name with
   |none=>4
   |some j=>if k≤j then 4 else if ((fns[j]?.map fun f=>f.params.length).getD 0)=p.kids.length then 0 else 5)
  else 0:=by
 rw[Qda]
 split
 ·rfl
 ·split
  ·rw[Qaxp]
   cases h:Qkh fns p.name with
   |none=>rfl
   |some j=>
    simp only[]
    by_cases hk:j<k
    ·have:¬k≤j:=by omega
     simp only[hk,if_true,this,if_false]
    ·have:k≤j:=by omega
     simp only[hk,if_false,this,if_true]
  ·rfl
end Go.AE.Y
namespace Go.AE.Y
theorem Qa76 (fns:List Fn)(k:Nat)(op:Int)(name:List UInt8)(args:List Ex)(s:Ck):s.n≤(stC fns k op name args s).n∧(stC fns k op name args s).n≤s.n+1:=by
 simp only[stC]
 split
 ·exact⟨by simp,by simp⟩
 ·split <;> exact⟨by simp,by simp⟩
mutual
theorem St.ck_n (fns:List Fn)(k:Nat):∀(x:St) (s:Ck),s.n≤(x.ck fns k s).n∧(x.ck fns k s).n≤s.n+x.size
 |.mk op name args body els,s=>by
  simp only[St.ck,St.size]
  have h1:=Qa76 fns k op name args s
  have h2:=Q0l fns k body ⟨[]::(stC fns k op name args s).v,(stC fns k op name args s).c,(stC fns k op name args s).n⟩
  have h3:=Q0l fns k els ⟨[]::(stC fns k op name args s).v,(Qam fns k body ⟨[]::(stC fns k op name args s).v,(stC fns k op name args s).c,(stC fns k op name args s).n⟩).c,(Qam fns k body ⟨[]::(stC fns k op name args s).v,(stC fns k op name args s).c,(stC fns k op name args s).n⟩).n⟩
  simp only at h2 h3
  omega
theorem Q0l (fns:List Fn)(k:Nat):∀(l:List St) (s:Ck),s.n≤(Qam fns k l s).n∧(Qam fns k l s).n≤s.n+Qh l
 |[],s=>by simp[Qam]
 |x::r,s=>by
  simp only[Qam,Qh]
  have h1:=St.ck_n fns k x s
  have h2:=Q0l fns k r (x.ck fns k s)
  omega
end
theorem Qa3i (fns:List Fn)(k:Nat)(op:Int)(name:List UInt8)(args:List Ex)(s:Ck){b:List (List UInt8×Nat)}{r:Vars}(hv:s.v=b::r)(h:(Qa6 (b::r)).length≤s.n):(Qa6 (stC fns k op name args s).v).length≤(stC fns k op name args s).n:=by
 simp only[stC]
 split
 ·simp only[Qrp,hv,List.headD_cons,List.tail_cons,Qadx,List.length_append,List.length_singleton];omega
 ·split
  ·simp only[hv];exact h
  ·simp only[hv];exact h
end Go.AE.Y
namespace Go.AE.Y
theorem Qa1b (fns:List Fn){i:Nat}{c:Int}(h:ckK fns i=c)(hc:c≠0):∀n,i≤n→ckK fns n=c:=by
 intro n hn
 induction n with
 |zero=>have:i=0:=by omega
        subst this;exact h
 |succ n ih=>
  rcases Nat.lt_or_ge i (n+1)with hlt|hge
  ·rw[Qahs,ih (by omega),Qb8,if_neg hc]
  ·have:i=n+1:=by omega
   subst this;exact h
end Go.AE.Y

namespace Go.AE.Y
attribute [local instance] Classical.propDecidable
variable {g:Nat→List Nat}{a:Int}{n:Nat}{S:List Bool}{T:List Nat}{b:Nat}
end Go.AE.Y

namespace Go.AE.Y
variable {ns:List Int}{n:Int}{at':Nat}
end Go.AE.Y

namespace Go.AE.Y
structure Cmp (ns R:List Int)(k j:Nat):Prop where
 len:R.length=ns.length
 kj:k<j
 jn:j≤ns.length
 asc:(R.take k).Pairwise (· < ·)
 mem:∀x,x∈R.take k↔x∈ns.take j
 same:∀i,j≤i+1→R.getD i 0=ns.getD i 0
variable {ns R:List Int}{k j:Nat}
theorem take_mem {l:List Int}{j:Nat}{x:Int}:x∈l.take j↔∃i,i<j∧i<l.length∧l.getD i 0=x:=by
 constructor
 ·intro h
  obtain⟨i,hi,rfl⟩:=List.mem_iff_getElem.1 h
  rw[List.length_take]at hi
  refine⟨i,by omega,by omega,?_⟩
  rw[List.getElem_take,List.getD_eq_getElem?_getD,List.getElem?_eq_getElem (by omega)];rfl
 ·rintro⟨i,h1,h2,rfl⟩
  rw[List.getD_eq_getElem?_getD,List.getElem?_eq_getElem h2]
  exact List.mem_iff_getElem.2 ⟨i,by rw[List.length_take];omega,by rw[List.getElem_take];rfl⟩
theorem Qgt {ns:List Int}(h:ns.Pairwise (·≤·)){a b:Nat}(hab:a≤b)(hb:b<ns.length):ns.getD a 0≤ns.getD b 0:=by
 rcases Nat.lt_or_ge a b with h1|h1
 ·have:=List.pairwise_iff_getElem.1 h a b (by omega) hb h1
  simpa[List.getD_eq_getElem?_getD,hb,show a<ns.length by omega]using this
 ·have:a=b:=by omega
  subst this;exact Int.le_refl _
theorem Cmp.start (hs:ns.Pairwise (·≤·))(hk0:0<k)(hk:k<ns.length)(hne:∀i,0<i→i<k→ns.getD i 0≠ns.getD (i-1) 0)(he:ns.getD k 0=ns.getD (k-1) 0):Cmp ns ns k (k+1):=by
 refine⟨rfl,by omega,by omega,?_,fun x=>?_,fun i _=>rfl⟩
 ·rw[List.pairwise_iff_getElem]
  intro a b ha hb hab
  rw[List.length_take]at ha hb
  rw[List.getElem_take,List.getElem_take]
  have h1:=Qgt hs (a:=a) (b:=b-1) (by omega) (by omega)
  have h2:=Qgt hs (a:=b-1) (b:=b) (by omega) (by omega)
  have h3:=hne b (by omega) (by omega)
  have e1:ns.getD a 0=ns[a]:=by simp[List.getD_eq_getElem?_getD,show a<ns.length by omega]
  have e2:ns.getD b 0=ns[b]:=by simp[List.getD_eq_getElem?_getD,show b<ns.length by omega]
  rw[e1]at h1;rw[e2]at h2 h3
  omega
 ·rw[take_mem,take_mem]
  constructor
  ·rintro⟨i,h1,h2,h3⟩;exact⟨i,by omega,h2,h3⟩
  ·rintro⟨i,h1,h2,h3⟩
   by_cases h:i<k
   ·exact⟨i,h,h2,h3⟩
   ·have:i=k:=by omega
    subst this
    exact⟨i-1,by omega,by omega,by rw[←he];exact h3⟩
theorem Cmp.eq (c:Cmp ns R k j)(hj:j<ns.length)(he:ns.getD j 0=ns.getD (j-1) 0):Cmp ns R k (j+1):=by
 have:=c.kj
 refine⟨c.len,by omega,by omega,c.asc,fun x=>?_,fun i hi=>c.same i (by omega)⟩
 rw[c.mem,take_mem,take_mem]
 constructor
 ·rintro⟨i,h1,h2,h3⟩;exact⟨i,by omega,h2,h3⟩
 ·rintro⟨i,h1,h2,h3⟩
  by_cases h:i<j
  ·exact⟨i,h,h2,h3⟩
  ·have:i=j:=by omega
   subst this
   exact⟨i-1,by omega,by omega,by rw[←he];exact h3⟩
theorem Cmp.ne (c:Cmp ns R k j)(hs:ns.Pairwise (·≤·))(hj:j<ns.length)(he:ns.getD j 0≠ns.getD (j-1) 0):Cmp ns (R.set k (ns.getD j 0)) (k+1) (j+1):=by
 have hkj:=c.kj
 have hkl:k<R.length:=by rw[c.len];omega
 have htk:(R.set k (ns.getD j 0)).take (k+1)=R.take k++[ns.getD j 0]:=by
  rw[List.take_succ_eq_append_getElem (by rw[List.length_set];exact hkl),List.getElem_set_self]
  congr 1
  rw[List.take_set_of_le (Nat.le_refl _)]
 refine⟨by rw[List.length_set];exact c.len,by omega,by omega,?_,fun x=>?_,fun i hi=>?_⟩
 ·rw[htk,List.pairwise_append]
  refine⟨c.asc,by simp,fun a ha b hb=>?_⟩
  simp at hb;subst hb
  obtain⟨i,h1,h2,rfl⟩:=take_mem.1 ((c.mem a).1 ha)
  have h3:=Qgt hs (a:=i) (b:=j-1) (by omega) (by omega)
  have h4:=Qgt hs (a:=j-1) (b:=j) (by omega) hj
  simp only[List.getD_eq_getElem?_getD]at *
  omega
 ·rw[htk,List.mem_append,c.mem,take_mem,take_mem]
  simp only[List.mem_singleton]
  constructor
  ·rintro (⟨i,h1,h2,h3⟩|rfl)
   ·exact⟨i,by omega,h2,h3⟩
   ·exact⟨j,by omega,hj,rfl⟩
  ·rintro⟨i,h1,h2,h3⟩
   by_cases h:i<j
   ·exact .inl ⟨i,h,h2,h3⟩
   ·have:i=j:=by omega
    subst this;exact .inr h3.symm
 ·have:k≠i:=by omega
  rw[←c.same i (by omega)]
  simp[List.getD_eq_getElem?_getD,this]
theorem Qajw (hs:ns.Pairwise (·≤·))(hne:∀i,0<i→i<ns.length→ns.getD i 0≠ns.getD (i-1) 0):ns.Pairwise (· < ·):=by
 rw[List.pairwise_iff_getElem]
 intro a b ha hb hab
 have h1:=Qgt hs (a:=a) (b:=b-1) (by omega) (by omega)
 have h2:=Qgt hs (a:=b-1) (b:=b) (by omega) (by omega)
 have h3:=hne b (by omega) (by omega)
 have e1:ns.getD a 0=ns[a]:=by simp[List.getD_eq_getElem?_getD,ha]
 have e2:ns.getD b 0=ns[b]:=by simp[List.getD_eq_getElem?_getD,hb]
 rw[e1]at h1;rw[e2]at h2 h3
 omega
def srt (ns:List Int):List Int:=ns.mergeSort fun x y=>decide (x≤y)
theorem Qa0q (ns:List Int):(srt ns).length=ns.length:=List.length_mergeSort _
theorem Qadr (ns:List Int)(x:Int):x∈srt ns↔x∈ns:=(List.mergeSort_perm ns _).mem_iff
theorem Qahi (ns:List Int):(srt ns).Pairwise (·≤·):=by
 have:=List.pairwise_mergeSort (le:=fun x y:Int=>decide (x≤y)) (by simp only[decide_eq_true_eq];omega) (by simp only[Bool.or_eq_true,decide_eq_true_eq];omega) ns
 exact this.imp (by simp)
theorem Qa0r {ns:List Int}(h:ns.Nodup):(srt ns).Pairwise (· < ·):=by
 have h1:=Qahi ns
 have h2:(srt ns).Nodup:=(List.mergeSort_perm ns _).nodup_iff.2 h
 exact h1.imp₂ (fun a b hab hne=>by omega) h2
end Go.AE.Y

namespace Go.AE.Y
attribute [local instance] Classical.propDecidable
mutual
theorem Ex.pre_len:∀(x:Ex),x.pre.length=x.size
 |.mk op n name kids=>by simp only[Ex.pre,Ex.size,List.length_cons,Qd8 kids];omega
theorem Qd8:∀(l:List Ex),(Qad l).length=Ql l
 |[]=>rfl
 |x::r=>by simp only[Qad,Ql,List.length_append,Ex.pre_len x,Qd8 r]
end
mutual
theorem St.pre_len:∀(x:St),x.pre.length≤x.size
 |.mk op name args body els=>by
  have h1:=Qem body
  have h2:=Qem els
  simp only[St.pre,St.size,List.length_append,Qd8];omega
theorem Qem:∀(l:List St),(Qa4 l).length≤Qh l
 |[]=>by simp[Qa4,Qh]
 |x::r=>by
  have h1:=St.pre_len x
  have h2:=Qem r
  simp only[Qa4,Qh,List.length_append];omega
end
theorem Qadv {l:List St}{i:Nat}(h:i<l.length):Qa4 (l.take (i+1))=Qa4 (l.take i)++(l[i]).pre:=by
 rw[List.take_succ_eq_append_getElem h,Qawo];simp[Qa4]
def ixI:Option Nat→Int
 |none=>-1
 |some j=>j
def clI (fns:List Fn)(e:Ex):List Int:=if e.op=13 then [ixI (Qkh fns e.name)]else []
def clL (fns:List Fn)(l:List Ex):List Int:=l.flatMap (clI fns)
theorem Q8f (fns:List Fn)(a b:List Ex):clL fns (a++b)=clL fns a++clL fns b:=by simp[clL]
theorem Q17 (fns:List Fn)(l:List Ex):(clL fns l).length≤l.length:=by
 induction l with
 |nil=>simp[clL]
 |cons x r ih=>
  have:(clI fns x).length≤1:=by rw[clI];split <;> simp
  simp only[clL,List.flatMap_cons,List.length_append,List.length_cons]at ih⊢
  omega
theorem Qaxa {fns:List Fn}(h:FineP fns){k:Nat}(hk:k<fns.length){ns:List Int}(hs:ns.Pairwise (· < ·))(hm:∀x,x∈ns↔x∈clL fns (Qa4 fns[k].body)):ns=(Qll fns k).map Int.ofNat:=by
 have hmem:∀x:Int,x∈ns↔∃j:Nat,x=j∧Cls fns k j:=by
  intro x
  rw[hm,clL,List.mem_flatMap]
  constructor
  ·rintro⟨e,he,hx⟩
   rw[clI]at hx
   split at hx
   ·rename_i ho
    obtain⟨j,hj,hl,hn,_⟩:=h.call hk he ho
    have hi:=h.ix j hl
    rw[hn]at hi
    rw[hi,List.mem_singleton]at hx
    exact⟨j,hx,hk,hl,e,he,ho,hn.symm⟩
   ·simp at hx
  ·rintro⟨j,rfl,hk',hl,e,he,ho,hn⟩
   refine⟨e,he,?_⟩
   rw[clI,if_pos ho,hn,h.ix j hl]
   simp[ixI]
 have hpos:∀x∈ns,0≤x:=fun x hx=>by
  obtain⟨j,rfl,_⟩:=(hmem x).1 hx
  omega
 have e1:ns=(ns.map Int.toNat).map Int.ofNat:=by
  rw[List.map_map]
  conv=>lhs;rw[←List.map_id ns]
  refine List.map_congr_left fun x hx=>?_
  exact (Int.toNat_of_nonneg (hpos x hx)).symm
 rw[e1]
 congr 1
 refine Qajv ?_ Qahr fun x=>?_
 ·rw[List.pairwise_map]
  exact hs.imp_of_mem fun {a b} ha hb hab=>by
   have:=hpos a ha
   omega
 ·rw[Qll,ascL_mem,List.mem_map]
  constructor
  ·rintro⟨y,hy,rfl⟩
   obtain⟨j,rfl,hc⟩:=(hmem y).1 hy
   obtain⟨_,hj,_⟩:=id hc
   exact⟨by simpa using hj,by simpa using hc⟩
  ·rintro⟨_,hc⟩
   exact⟨(x:Int),(hmem _).2 ⟨x,rfl,hc⟩,by simp⟩
end Go.AE.Y

namespace Go.AE.Y
attribute [local go_sem] cond_true cond_false Bool.not_true Bool.not_false
open Go.Proofs.Tryz
variable {H H0:Heap}{K:V→Heap→Prop}{E E' L:List (Nat×Obj)}
theorem Qaxo {l:List Fn}{s:List UInt8}(h:∀f∈l,¬f.name=s):Qkh l s=none:=by
 rw[Qkh,List.findIdx?_eq_none_iff]
 exact fun f hf=>by simpa using h f hf
theorem Qaxn {l:List Fn}{s:List UInt8}{i:Nat}(hi:i<l.length)(h:l[i].name=s)(hn:∀f∈l.take i,¬f.name=s):Qkh l s=some i:=by
 rw[Qkh,List.findIdx?_eq_some_iff_getElem]
 refine⟨hi,by simpa using h,fun j hj=>?_⟩
 have:=hn l[j] (by rw[List.mem_take_iff_getElem];exact⟨j,by omega,rfl⟩)
 simpa using this
theorem Qa4f {f:Fn}{s:List UInt8}(hK:K (.c (.bool (decide (f.name=s)))) H):Qp prog Qeq [.ag f.cells,.c (.pp [.str s])] H K:=by
 refine Qb Qah Qakm ?_
 refine Qa ?_
 simp only[go_sem,Fn.cells]
 refine Qa ?_
 simp only[go_sem]
 refine Qi ?_
 simp only[go_sem,Qy,Q7,Q4y,List.mem_singleton,forall_eq,RS.op]
 exact hK
theorem Qahp {fl:Bool}{l:List Fn}{s:List UInt8}(hK:K (.c (.int .i64 (ixI (Qkh l s)))) H) :
  Qp prog Qe0 [.c (.sl fl 3 (Qr l)),.c (.fn Qeq [.pp [.str s]])] H K:=by
 refine Qb Qah Q2p ?_
 refine Qa ?_
 simp only[go_sem]
 refine Q4 ?_
 refine Qa ?_
 simp only[go_sem,Qm]
 intro hl
 simp only[LIM]at hl
 refine Qf (Qd (Q0 (fun m e1 H1=>∃(i:Nat),m=l.length-i∧i≤l.length∧H1=H∧(∀f∈l.take i,¬f.name=s)∧e1=[(0,.c (.sl fl 3 (Qr l))),(1,.c (.fn Qeq [.pp [.str s]])),(7,.c (.int .i64 l.length)),(8,.c (.int .i64 i))]) l.length ?_ ?_))
 ·exact⟨0,by omega,by omega,rfl,by simp,rfl⟩
 ·rintro m e1 H1 ⟨i,hm,hi,rfl,hall,rfl⟩
  refine Qa ?_
  simp only[go_sem]
  refine Qf (Qc rfl ?_ ?_)
  ·intro hc
   have hlt:i<l.length:=by simpa using hc
   refine Qe ?_
   simp only[go_sem]
   refine Qf (Qd ?_)
   refine Qa ?_
   simp only[go_sem]
   refine Qa ?_
   simp only[go_sem,hlt,Qm,Q6 _ _ hlt,Fn.take3,Fn.allOw,Fn.cells_len]
   refine Qa4f ?_
   refine Qc rfl ?_ ?_
   ·intro hc2
    have hn:l[i].name=s:=by simpa using hc2
    refine Qa ?_
    simp only[go_sem]
    refine Qi ?_
    simp only[go_sem,X.next,Qy,Q7,Qgm,List.mem_singleton,forall_eq,RS.op]
    rw[Qaxn hlt hn hall]at hK
    exact hK
   ·intro hc2
    have hn:¬l[i].name=s:=by simpa using hc2
    refine Qe ?_
    simp only[go_sem]
    refine Qs ?_
    simp only[go_sem,X.next]
    refine⟨Qu (by omega) (by omega),l.length-(i+1),by omega,i+1,rfl,by omega,?_,rfl⟩
    rw[List.take_succ_eq_append_getElem hlt]
    intro x hx
    rcases List.mem_append.1 hx with hx|hx
    ·exact hall x hx
    ·simp only[List.mem_singleton]at hx;subst hx;exact hn
  ·intro hc
   have hge:l.length≤i:=by simpa using hc
   rw[List.take_of_length_le hge]at hall
   refine Q1 ?_
   simp only[go_sem,X.next]
   refine Qa ?_
   simp only[go_sem]
   refine Qi ?_
   simp only[go_sem,Qy,Q7,Qgm,List.mem_singleton,forall_eq,RS.op]
   rw[Qaxo hall]at hK
   exact hK
theorem Qah1 {fl:Bool}{l:List Fn}{s:List UInt8}(hK:K (.c (.int .i64 (ixI (Qkh l s)))) H):Qp prog Qln [.ag [.sl fl 3 (Qr l)],.c (.str s)] H K:=by
 refine Qb Qah Qaye ?_
 refine Qa ?_
 simp only[go_sem]
 refine Qa ?_
 simp only[go_sem]
 refine Qahp ?_
 simp only[go_sem,Q48]
 refine Qi ?_
 simp only[go_sem,Qy,Q7,Qale,List.mem_singleton,forall_eq,RS.op]
 exact hK
def scC:List Nat→C
 |[]=>.pnil
 |l::r=>.pp [.mp l,scC r]
structure MapOk (val:Nat→Int)(es:List (C×V))(b:List (List UInt8×Nat)):Prop where
 ky:∀e∈es,∃s,e.1=.str s
 fd:∀s,Qdm (.str s) es=(b.find? fun p=>decide (p.1=s)).map fun p=>V.c (.int .i64 (val p.2))
def ScOk (val:Nat→Int)(H:Heap):List Nat→Vars→Prop
 |[],[]=>True
 |l::ls,b::v=>(∃n es,H l=.map n es∧MapOk val es b)∧ScOk val H ls v
 |_,_=>False
theorem Qaws (b:List (List UInt8×Nat))(v:Vars)(s:List UInt8):Vars.find (b::v) s=((b.find? fun p=>decide (p.1=s)).map Prod.snd).or (Vars.find v s):=by
 rw[Vars.find,Vars.find,List.flatten_cons,List.find?_append]
 cases b.find? fun p=>decide (p.1=s) <;> rfl
def valO (val:Nat→Int):Option Nat→Int
 |none=>0
 |some n=>val n
theorem Qatd {val:Nat→Int}{ls:List Nat}{v:Vars}{s:List UInt8}(h:ScOk val H ls v)(hK:K (.tup [.c (.int .i64 (valO val (v.find s))),.c (.bool (v.find s).isSome)]) H) :
  Qp prog Qdw [.c (scC ls),.c (.str s)] H K:=by
 refine Qb Qah Q81 ?_
 have ret:∀(n:Int) (b:Bool) (e:Env),n=valO val (v.find s)→b=(v.find s).isSome→lk 4 e=.c (.int .i64 n)→lk 5 e=.c (.bool b)→Qy Qjs K .ret e H:=by
  rintro n b e rfl rfl h4 h5
  simp only[go_sem,Qy,Q7,Qjs,List.forall_mem_cons,List.not_mem_nil,RS.op,h4,h5]
  exact⟨fun _=>trivial,hK⟩
 refine Qa ?_
 simp only[go_sem]
 refine Qf (Qd (Q0 (fun m e1 H1=>∃(ls':List Nat) (v':Vars),m=ls'.length∧H1=H∧ScOk val H ls' v'∧v.find s=v'.find s∧e1=[(0,.c (scC ls')),(1,.c (.str s))]) ls.length ?_ ?_))
 ·exact⟨ls,v,rfl,rfl,h,rfl,rfl⟩
 ·rintro m e1 H1 ⟨ls',v',hm,rfl,hs,hf,rfl⟩
  refine Q4 ?_
  refine Qa ?_
  cases ls' with
  |nil=>
   cases v' with
   |cons b v'=>exact hs.elim
   |nil=>
    simp only[go_sem,scC,C.isPtr,or_true,true_or,true_and]
    refine Qf (Qc rfl (fun h=>by cases h) (fun _=>?_))
    refine Q1 ?_
    simp only[go_sem,X.next]
    refine Qa ?_
    simp only[go_sem]
    refine Qi ?_
    exact ret 0 false _ (by rw[hf];rfl) (by rw[hf];rfl) (by simp[lk]) (by simp[lk])
  |cons l r=>
   cases v' with
   |nil=>exact hs.elim
   |cons b v'=>
    obtain⟨⟨n,es,hl,hm2⟩,hs⟩:=hs
    have hfd:=hm2.fd s
    have hky:=eq_true hm2.ky
    rw[Qaws]at hf
    simp only[go_sem,scC,C.isPtr,or_true,true_or,true_and]
    refine Qf (Qc rfl (fun _=>?_) (fun h=>by cases h))
    refine Qe ?_
    simp only[go_sem]
    refine Qf (Qd ?_)
    refine Qa ?_
    simp only[go_sem,C.isPtr,Qrm,Qjq,Q5,hl,hfd,hky,List.getD_cons_zero,List.getD_cons_succ]
    cases hb:b.find? fun p=>decide (p.1=s)with
    |none=>
     rw[hb]at hf
     simp only[Option.map_none,Option.getD_none,Option.isSome_none,go_sem]
     refine Qa ?_
     simp only[go_sem]
     refine Qc rfl (fun h=>by cases h) (fun _=>?_)
     refine Qe ?_
     try simp only[go_sem]
     refine Qs ?_
     simp only[go_sem,X.next]
     have how:(scC r).isOw=false:=by cases r <;> rfl
     refine⟨by rw[how];rfl,r.length,by rw[List.length_cons]at hm;omega,r,v',rfl,hs,?_,rfl⟩
     rw[hf];rfl
    |some x=>
     rw[hb]at hf
     simp only[Option.map_some,Option.getD_some,Option.isSome_some,go_sem]
     refine Qa ?_
     simp only[go_sem]
     refine Qc rfl (fun _=>?_) (fun h=>by cases h)
     refine Qa ?_
     simp only[go_sem]
     refine Qi ?_
     simp only[go_sem,X.next]
     exact ret (val x.2) true _ (by rw[hf];rfl) (by rw[hf];rfl) (by simp[lk]) (by simp[lk])
theorem Q8j {c:Nat}{l at':C}{code n:Int}(hH:H c=.st [l,at',.int .i64 code])(hK:∀H',Upd H H' [(c,.st [l,at',.int .i64 (Qb8 code n)])]→K (.tup []) H') :
  Qp prog Qai [.c (.ptr c 0),.c (.int .i64 n)] H K:=by
 refine Qb Qah Q2l ?_
 have kn:=Kn.start1 hH (by nofun)
 refine Qa ?_
 simp only[go_sem,hH]
 refine Qc rfl (fun hc=>?_) (fun hc=>?_)
 ·have h0:code=0:=by simpa using hc
  refine Qs ?_
  simp only[go_sem,hH]
  intro H1 h1
  have kn:=kn.stE 0 rfl h1
  simp only[Qy,Q7,Qgk,go_sem]
  refine hK _ ⟨fun p hp=>?_,fun m h1 h2=>kn.chg m h1 h2⟩
  rw[Qb8,if_pos h0]at hp
  exact (kn.get p (List.mem_append_left _ hp)).1
 ·have h0:¬code=0:=by simpa using hc
  refine Qe ?_
  simp only[Qy,Q7,Qgk,go_sem]
  refine hK _ ⟨fun p hp=>?_,fun m h1 h2=>rfl⟩
  rw[Qb8,if_neg h0]at hp
  simp only[List.mem_singleton]at hp
  rw[hp];exact hH
end Go.AE.Y

namespace Go.AE.Y
attribute [local go_sem] cond_true cond_false Bool.not_true Bool.not_false
open Go.Proofs.Tryz
variable {H H0:Heap}{K:V→Heap→Prop}{E E' L:List (Nat×Obj)}
abbrev ScD:=List (Nat×Nat×List (C×V))
def ScD.ob (sc:ScD):List (Nat×Obj):=sc.map fun x=>(x.1,.map x.2.1 x.2.2)
def ScD.ls (sc:ScD):List Nat:=sc.map Prod.fst
def ScD.ok (val:Nat→Int):ScD→Vars→Prop
 |[],[]=>True
 |x::r,b::v=>MapOk val x.2.2 b∧ScD.ok val r v
 |_,_=>False
theorem ScD.scOk {val:Nat→Int}:∀{sc:ScD} {v:Vars},ScD.ok val sc v→(∀p∈sc.ob,H p.1=p.2)→ScOk val H sc.ls v
 |[],[],_,_=>trivial
 |[],_::_,h,_=>h.elim
 |_::_,[],h,_=>h.elim
 |x::r,b::v,h,hh=>⟨⟨x.2.1,x.2.2,hh (x.1,.map x.2.1 x.2.2) (by simp[ScD.ob]),h.1⟩,ScD.scOk h.2 fun p hp=>hh p (by simp only[ScD.ob,List.map_cons,List.mem_cons]at hp⊢;exact .inr hp)⟩
def Qoe (c:Nat)(fl:Bool)(l:List Fn)(k:Nat)(sc:ScD)(code:Int):List (Nat×Obj):=(c,.st [.sl fl 3 (Qr l),.int .i64 k,.int .i64 code])::sc.ob
set_option maxHeartbeats 2000000 in
theorem Qa1l {c:Nat}{fl:Bool}{l:List Fn}{k:Nat}{sc:ScD}{v:Vars}{val:Nat→Int}{code:Int}{p:Ex}(hk:k≤l.length)(hn:((c::sc.ls)).Nodup)(hs:ScD.ok val sc v)
  (hh:∀q∈Qoe c fl l k sc code,H q.1=q.2) (hK:∀H',Upd H H' (Qoe c fl l k sc (Qb8 code (Qda l k v p)))→K (.tup []) H') :
  Qp prog Qbq [.ag p.cells,.c (.pp [scC sc.ls]),.c (.pp [.ptr c 0])] H K:=by
 have hsc:=ScD.scOk hs fun q hq=>hh q (List.mem_cons_of_mem _ hq)
 have hc:H c=.st [.sl fl 3 (Qr l),.int .i64 k,.int .i64 code]:=hh (c,_) (by simp[Qoe])
 have how:(scC sc.ls).isOw=false:=by cases sc.ls <;> rfl
 have keep:∀H',Upd H H' [(c,.st [.sl fl 3 (Qr l),.int .i64 k,.int .i64 (Qb8 code (Qda l k v p))])]→K (.tup []) H':=by
  intro H' hu
  refine hK _ ⟨fun q hq=>?_,fun m h1 h2=>?_⟩
  ·rcases List.mem_cons.1 hq with rfl|hq
   ·exact hu.1 _ (by simp)
   ·have h1:=hh q (List.mem_cons_of_mem _ hq)
    rw[hu.2 q.1 (by rw[h1];obtain⟨x,_,rfl⟩:=List.mem_map.1 hq;nofun) ?_,h1]
    simp only[List.map_cons,List.map_nil,List.mem_singleton]
    intro e
    have hm:q.1∈sc.ls:=by
     obtain⟨x,hx,rfl⟩:=List.mem_map.1 hq
     exact List.mem_map.2 ⟨x,hx,rfl⟩
    rw[e]at hm
    exact (List.nodup_cons.1 hn).1 hm
  ·refine hu.2 m h1 ?_
   simp only[List.map_cons,List.map_nil,List.mem_singleton]
   intro e
   exact h2 (by rw[e];simp[Qoe])
 have same:Qda l k v p=0→K (.tup []) H:=by
  intro h0
  refine keep H ⟨fun q hq=>?_,fun m h1 h2=>rfl⟩
  simp only[List.mem_singleton]at hq
  rw[hq,h0,hc,Qb8]
  by_cases hz:code=0
  ·rw[if_pos hz,hz]
  ·rw[if_neg hz]
 refine Qb Qah Qvp ?_
 refine Qa ?_
 simp only[go_sem,p.cells_eq]
 refine Qa ?_
 simp only[go_sem,how]
 refine Qd ?_
 refine Qa ?_
 simp only[go_sem,how]
 have done:∀(H':Heap) (e:Env),K (.tup []) H'→Qy Qdh K .nrm e H':=by
  intro H' e h
  simp only[Qy,Q7,Qdh,go_sem]
  exact h
 refine Qc rfl ?_ ?_
 ·intro hc2
  have h2:p.op=2:=by simpa using hc2
  have hpc:Qda l k v p=if (v.find p.name).isSome then 0 else 3:=by rw[Qda,if_pos h2]
  refine Qa ?_
  simp only[go_sem,how]
  refine Qatd hsc ?_
  simp only[go_sem,Qfh,List.getD_cons_zero,List.getD_cons_succ]
  refine Qa ?_
  simp only[go_sem]
  refine Qc rfl ?_ ?_
  ·intro hc3
   have hf:(v.find p.name).isSome=false:=by simpa using hc3
   rw[hf]at hpc
   refine Qs ?_
   simp only[go_sem]
   refine Q8j hc fun H' hu=>?_
   simp only[go_sem,X.next]
   rw[hpc]at keep
   exact done _ _ (keep _ hu)
  ·intro hc3
   have hf:(v.find p.name).isSome=true:=by simpa using hc3
   rw[hf]at hpc
   refine Qe ?_
   simp only[go_sem,X.next]
   exact done _ _ (same (by rw[hpc];rfl))
 intro hc2
 have h2:¬p.op=2:=by simpa using hc2
 refine Qa ?_
 simp only[go_sem,how]
 refine Qc rfl ?_ ?_
 ·intro hc3
  have h3:p.op=13:=by simpa using hc3
  refine Qaz ?_
  simp only[go_sem,hc,Qm]
  refine⟨⟨by omega,by omega⟩,?_⟩
  have etk:List.take k (Qr l)=Qr (l.take k):=by simp only[Qr,List.map_take]
  rw[etk]
  refine Qah1 ?_
  simp only[go_sem,Qfi]
  refine Qa ?_
  simp only[go_sem]
  cases hx:Qkh (l.take k) p.name with
  |none=>
   have hpc:Qda l k v p=4:=by rw[Qda,if_neg h2,if_pos h3,hx]
   rw[hpc]at keep
   refine Qc rfl (fun _=>?_) (fun h=>by simp[ixI]at h)
   refine Qs ?_
   simp only[go_sem]
   refine Q8j hc fun H' hu=>?_
   simp only[go_sem,X.next]
   exact done _ _ (keep _ hu)
  |some j=>
   have hj:j<l.length:=by
    rw[Qkh,List.findIdx?_eq_some_iff_getElem]at hx
    obtain⟨h,_⟩:=hx
    rw[List.length_take]at h;omega
   have hpc:Qda l k v p=if (l[j]).params.length=p.kids.length then 0 else 5:=by rw[Qda,if_neg h2,if_pos h3,hx];simp[hj]
   refine Qc rfl (fun h=>by have:=of_decide_eq_true h;simp only[ixI]at this;omega) (fun _=>?_)
   refine Qaz ?_
   simp only[go_sem,hc,ixI,hj,Qm,Q6 _ _ hj,Fn.cells,Qq,Qj]
   refine Qc rfl ?_ ?_
   ·intro hc4
    have hne:¬l[j].params.length=p.kids.length:=by
     have h:=Qvs hc4
     rw[decide_eq_false_iff_not]at h;omega
    rw[if_neg hne]at hpc
    rw[hpc]at keep
    refine Qs ?_
    simp only[go_sem]
    refine Q8j hc fun H' hu=>?_
    simp only[go_sem,X.next]
    exact done _ _ (keep _ hu)
   ·intro hc4
    have he:l[j].params.length=p.kids.length:=by
     have h:=Qkj hc4
     rw[decide_eq_true_eq]at h;omega
    rw[if_pos he]at hpc
    refine Qe ?_
    simp only[go_sem,X.next]
    exact done _ _ (same hpc)
 ·intro hc3
  have h3:¬p.op=13:=by simpa using hc3
  refine Qe ?_
  simp only[go_sem,X.next]
  exact done _ _ (same (by rw[Qda,if_neg h2,if_neg h3]))
end Go.AE.Y

namespace Go.AE.Y
attribute [local go_sem] cond_true cond_false Bool.not_true Bool.not_false
open Go.Proofs.Tryz
variable {H H0:Heap}{K:V→Heap→Prop}{E E' L:List (Nat×Obj)}
theorem Qa8k {c:Nat}{fl:Bool}{l:List Fn}{k:Nat}{sc:ScD}{v:Vars}{val:Nat→Int}(hk:k≤l.length)(hn:((c::sc.ls)).Nodup)(hs:ScD.ok val sc v) :
  ExVis (Qoe c fl l k sc) (fun code p=>Qb8 code (Qda l k v p)) (fun _=>True) Qbq [.pp [scC sc.ls],.pp [.ptr c 0]]:=by
 refine⟨fun _ _=>rfl,fun a=>?_,fun a p hp=>?_,fun _ _ h=>h,fun a s H K _ _ hh hK=>Qa1l hk hn hs hh hK⟩
 ·have e:(Qoe c fl l k sc a).map Prod.fst=c::sc.ls:=by simp only[Qoe,ScD.ob,ScD.ls,List.map_cons,List.map_map];rfl
  rw[e];exact hn
 ·rcases List.mem_cons.1 hp with rfl|hp
  ·nofun
  ·obtain⟨x,_,rfl⟩:=List.mem_map.1 hp;nofun
theorem Qa1a {c:Nat}{fl:Bool}{l:List Fn}{k:Nat}{sc:ScD}{v:Vars}{val:Nat→Int}{code:Int}{x:Ex}(hk:k≤l.length)(hn:((c::sc.ls)).Nodup)(hs:ScD.ok val sc v)(hx:x.size≤2^40)
  (hh:∀q∈Qoe c fl l k sc code,H q.1=q.2) (hK:∀H',Upd H H' (Qoe c fl l k sc (Qao l k v x.pre code))→K (.tup []) H') :
  Qp prog Qeu [.c (.ptr c 0),.ag x.cells,.c (scC sc.ls)] H K:=by
 have how:(scC sc.ls).isOw=false:=by cases sc.ls <;> rfl
 refine Qb Qah Q2k ?_
 refine Qa ?_
 simp only[go_sem,x.cells_eq,how]
 refine Qs ?_
 simp only[go_sem,how]
 have h:=fun K=>Qaxs (Qa8k (fl:=fl) hk hn hs) x.size x code H K
 rw[x.cells_eq]at h
 refine h _ (Nat.le_refl _) hx trivial hh fun H' hu=>?_
 simp only[Qy,Q7,Ql0,go_sem]
 exact hK _ hu
end Go.AE.Y

namespace Go.AE.Y
theorem Qaj7 (s t:List UInt8)(v:V):∀(es:List (C×V)),(∀e∈es,∃s,e.1=.str s)→Qdm (.str t) (Q1z (.str s) v es)=if s=t then some v else Qdm (.str t) es
 |[],_=>by
  simp only[Q1z,Qdm,Qd0]
  by_cases h:s=t
  ·subst h;simp
  ·have h':¬t=s:=fun e=>h e.symm
   simp[h,h']
 |e::es,hk=>by
  obtain⟨k,hk1⟩:=hk e (by simp)
  obtain⟨e1,e2⟩:=e
  simp only at hk1
  subst hk1
  have ih:=Qaj7 s t v es fun x hx=>hk x (List.mem_cons_of_mem _ hx)
  simp only[Q1z,Qd0]
  by_cases h:s=k
  ·subst h
   simp only[decide_true,if_true,Qdm,Qd0]
   by_cases h2:s=t
   ·subst h2;simp
   ·have h':¬t=s:=fun e=>h2 e.symm
    simp[h2,h']
  ·simp only[h,decide_false,Bool.false_eq_true,if_false,Qdm,Qd0]
   rw[ih]
   by_cases h2:t=k
   ·subst h2
    simp[h]
   ·simp[h2]
theorem Qant (s:List UInt8)(v:V):∀(es:List (C×V)),(∀e∈es,∃s,e.1=.str s)→∀e∈Q1z (.str s) v es,∃s,e.1=.str s
 |[],_,e,he=>by simp only[Q1z,List.mem_singleton]at he;subst he;exact⟨s,rfl⟩
 |x::es,hk,e,he=>by
  simp only[Q1z]at he
  split at he
  ·rcases List.mem_cons.1 he with rfl|he
   ·exact⟨s,rfl⟩
   ·exact hk e (List.mem_cons_of_mem _ he)
  ·rcases List.mem_cons.1 he with rfl|he
   ·exact hk _ (by simp)
   ·exact Qant s v es (fun y hy=>hk y (List.mem_cons_of_mem _ hy)) e he
theorem MapOk.put {val:Nat→Int}{es:List (C×V)}{b:List (List UInt8×Nat)}(h:MapOk val es b)(s:List UInt8)(n:Nat):MapOk val (Q1z (.str s) (.c (.int .i64 (val n))) es) ((s,n)::b):=by
 refine⟨Qant s _ es h.ky,fun t=>?_⟩
 rw[Qaj7 s t _ es h.ky,List.find?_cons]
 by_cases e:s=t
 ·subst e;simp
 ·simp[e,h.fd t]
theorem MapOk.nil (val:Nat→Int):MapOk val [] []:=⟨by simp,fun s=>rfl⟩
end Go.AE.Y

namespace Go.AE.Y
attribute [local go_sem] cond_true cond_false Bool.not_true Bool.not_false
open Go.Proofs.Tryz
variable {H H0:Heap}{K:V→Heap→Prop}{E E' L:List (Nat×Obj)}
theorem Qajn {sc:C}(how:sc.isOw=false)(hK:∀lm n H',H lm=.none→H'=H.set lm (.map n [])→K (.c (.pp [.mp lm,sc])) H'):Qp prog Qch [.c sc] H K:=by
 refine Qb Qah Q82 ?_
 refine Qa ?_
 simp only[go_sem]
 refine Qa ?_
 simp only[go_sem]
 intro lm hlm H1 h1
 simp only[go_sem,Qk0,how]
 refine Qi ?_
 simp only[go_sem,Qy,Q7,Qru,List.mem_singleton,forall_eq,RS.op,how]
 exact hK lm _ H1 hlm h1
end Go.AE.Y

namespace Go.AE.Y
attribute [local go_sem] cond_true cond_false Bool.not_true Bool.not_false
open Go.Proofs.Tryz
variable {H H0:Heap}{K:V→Heap→Prop}{E E' L:List (Nat×Obj)}
theorem Q2v (fns:List Fn)(k:Nat)(v:Vars)(a b:List Ex)(c:Int):Qao fns k v (a++b) c=Qao fns k v b (Qao fns k v a c):=by rw[Qao,List.foldl_append];rfl
theorem Qaw9 (c:Nat)(fl:Bool)(l:List Fn)(k:Nat)(sc:ScD)(x y:Int):(Qoe c fl l k sc x).map Prod.fst=(Qoe c fl l k sc y).map Prod.fst:=rfl
theorem Qany (c:Nat)(fl:Bool)(l:List Fn)(k:Nat)(sc:ScD)(x:Int):∀p∈Qoe c fl l k sc x,p.2≠.none:=by
 intro p hp
 rcases List.mem_cons.1 hp with rfl|hp
 ·nofun
 ·obtain⟨x,_,rfl⟩:=List.mem_map.1 hp;nofun
set_option maxHeartbeats 2000000 in
theorem Qa09 {c x7 N i:Nat}{fl f5:Bool}{l:List Fn}{k:Nat}{sc:ScD}{v:Vars}{val:Nat→Int}{code:Int}{x:St}{sts:List St}{L:List (Nat×Obj)}{Q:X→Env→Heap→Prop}
  (hk:k≤l.length) (hn:((c::sc.ls)).Nodup) (hs:ScD.ok val sc v) (hx:x.size≤2^40)
  (kn:Kn H0 H (Qoe c fl l k sc code) [(x7,.st [.int .i64 x.op,.str x.name,.sl false 4 (Qv x.args),.sl false 5 (Qk x.body),.sl false 5 (Qk x.els)])])
  (hQ:∀H',Kn H0 H' (Qoe c fl l k sc (Qao l k v (Qad x.args) code)) [(x7,.st [.int .i64 x.op,.str x.name,.sl false 4 (Qv x.args),.sl false 5 (Qk x.body),.sl false 5 (Qk x.els)])]→
   ∀e',lk 0 e'=.c (.ptr c 0)→lk 2 e'=.c (scC sc.ls)→lk 7 e'=.c (.ptr x7 0)→lk 14 e'=.c (.sl f5 5 (Qk sts))→lk 15 e'=.c (.int .i64 N)→lk 16 e'=.c (.int .i64 i)→Q8 prog Qc7 Q e' H') :
  Q8 prog Qhd Q [(0,.c (.ptr c 0)),(2,.c (scC sc.ls)),(7,.c (.ptr x7 0)),(14,.c (.sl f5 5 (Qk sts))),(15,.c (.int .i64 N)),(16,.c (.int .i64 i))] H:=by
 have how:(scC sc.ls).isOw=false:=by cases sc.ls <;> rfl
 have hse:=x.size_eq
 have g7:=kn.l 0 rfl
 refine Q4 ?_
 refine Qa ?_
 simp only[go_sem,g7,how,Qj]
 intro hl
 simp only[LIM]at hl
 refine Qf (Qd (Q0 (fun m e1 H1=>∃(j:Nat),m=x.args.length-j∧j≤x.args.length∧Kn H0 H1 (Qoe c fl l k sc (Qao l k v (Qad (x.args.take j)) code)) [(x7,.st [.int .i64 x.op,.str x.name,.sl false 4 (Qv x.args),.sl false 5 (Qk x.body),.sl false 5 (Qk x.els)])]∧
  e1=[(0,.c (.ptr c 0)),(2,.c (scC sc.ls)),(7,.c (.ptr x7 0)),(14,.c (.sl f5 5 (Qk sts))),(15,.c (.int .i64 N)),(16,.c (.int .i64 i)),(21,.c (.sl false 4 (Qv x.args))),(22,.c (.int .i64 x.args.length)),(23,.c (.int .i64 j))]) x.args.length ?_ ?_))
 ·exact⟨0,by omega,by omega,by simpa[Qad,Qao]using kn,rfl⟩
 ·clear kn
  rintro m e1 H1 ⟨j,hm,hj,kn,rfl⟩
  refine Qa ?_
  simp only[go_sem,how]
  refine Qf (Qc rfl ?_ ?_)
  ·intro hc
   have hlt:j<x.args.length:=by simpa using hc
   have hms:=Qaf (List.getElem_mem hlt)
   obtain⟨y,hy⟩:∃y,x.args[j]=y:=⟨_,rfl⟩
   have htk:=Qcv hlt
   rw[hy]at hms htk
   refine Qe ?_
   try simp only[go_sem]
   refine Qf (Qd ?_)
   refine Qa ?_
   simp only[go_sem,how,hlt,Qj,Qac _ _ hlt,hy,y.cells_eq]
   intro x9 hx9 H3 h3
   have kn:=kn.al hx9 h3
   have g9:=kn.l 1 rfl
   simp only[go_sem,Qhg,g9,how]
   intro H4 h4
   have kn:=kn.stL 1 rfl h4
   have g9:=kn.l 1 rfl
   refine Qs ?_
   simp only[go_sem,g9,how]
   have h:=fun K=>Qa1a (H:=H4) (K:=K) (fl:=fl) (x:=y) (code:=Qao l k v (Qad (x.args.take j)) code) hk hn hs (by omega) (fun p hp=>(kn.get p (List.mem_append_left _ hp)).1)
   rw[y.cells_eq]at h
   refine h _ fun H5 hu=>?_
   have kn:=Kn.drop (A:=[(x7,_)]) (kn.callAll hu (Qaw9 _ _ _ _ _ _ _) (Qany _ _ _ _ _ _))
   simp only[go_sem,how]
   refine Qs ?_
   simp only[go_sem,AE.X.next,how]
   refine⟨Qu (by omega) (by omega),x.args.length-(j+1),by omega,j+1,rfl,by omega,?_,rfl⟩
   rw[htk,Q2v]
   exact kn
  ·intro hc
   have hge:x.args.length≤j:=by simpa using hc
   rw[List.take_of_length_le hge]at kn
   refine Q1 ?_
   simp only[go_sem,AE.X.next]
   exact hQ _ kn _ rfl rfl rfl rfl rfl rfl
end Go.AE.Y

namespace Go.AE.Y
attribute [local go_sem] cond_true cond_false Bool.not_true Bool.not_false
open Go.Proofs.Tryz
variable {H H0:Heap}{K:V→Heap→Prop}{E E' L:List (Nat×Obj)}
def Qadw (op:Int)(name:List UInt8)(x:Nat×Nat×List (C×V)):Nat×Nat×List (C×V):=if op=1 then (x.1,x.2.1+1,Q1z (.str name) (.c (.int .i64 0)) x.2.2)else x
def opC (v:Vars)(op:Int)(name:List UInt8)(c:Int):Int:=if op=1 then Qb8 c (if Qgf v name then 2 else 0)else if op=2 then Qb8 c (if (v.find name).isSome then 0 else 3)else c
theorem Qah0 (c:Int):Qb8 c 0=c:=by rw[Qb8];split <;> simp_all
theorem Qaso {val:Nat→Int}{es:List (C×V)}{b:List (List UInt8×Nat)}(h:MapOk val es b)(r:Vars)(s:List UInt8):(Qdm (.str s) es).isSome=Qgf (b::r) s:=by
 rw[h.fd s,Qgf,Option.isSome_map,List.headD_cons,Bool.eq_iff_iff,List.find?_isSome,List.any_eq_true]
theorem Qaht (c:Nat)(fl:Bool)(l:List Fn)(k:Nat)(sc:ScD)(x:Int):(Qoe c fl l k sc x).map Prod.fst=c::sc.ls:=by simp only[Qoe,ScD.ob,ScD.ls,List.map_cons,List.map_map];rfl
theorem Qa4b (l:List Fn)(k:Nat)(op:Int)(name:List UInt8)(args:List Ex)(s:Ck):(stC l k op name args s).c=opC s.v op name (Qao l k s.v (Qad args) s.c):=by
 simp only[stC,opC]
 split
 ·rfl
 ·split <;> rfl
theorem Qa3v {es:List (C×V)}{b:List (List UInt8×Nat)}{r:Vars}(h:MapOk (fun _=>0) es b)(l:List Fn)(k:Nat)(op:Int)(name:List UInt8)(args:List Ex)(s:Ck)(hv:s.v=b::r)(l0 n0:Nat) :
  ∃b',(stC l k op name args s).v=b'::r∧MapOk (fun _=>0) (Qadw op name (l0,n0,es)).2.2 b':=by
 simp only[stC,Qadw]
 split
 ·exact⟨(name,s.n)::b,by simp[Qrp,hv],h.put name s.n⟩
 ·split
  ·exact⟨b,hv,h⟩
  ·exact⟨b,hv,h⟩
theorem Qa0y (op:Int)(name:List UInt8)(l0 n0:Nat)(es:List (C×V)):(Qadw op name (l0,n0,es)).2.2.length≤es.length+1:=by
 have hu:∀(es:List (C×V)),(Q1z (.str name) (.c (.int .i64 0)) es).length≤es.length+1:=by
  intro es
  induction es with
  |nil=>simp[Q1z]
  |cons e es ih=>
   simp only[Q1z]
   split
   ·simp
   ·simp only[List.length_cons];omega
 simp only[Qadw]
 split
 ·exact hu es
 ·exact Nat.le_succ _
abbrev stO (x:St):Obj:=.st [.int .i64 x.op,.str x.name,.sl false 4 (Qv x.args),.sl false 5 (Qk x.body),.sl false 5 (Qk x.els)]
set_option maxHeartbeats 2000000 in
theorem Qa4s {c x7 N i l0 n0:Nat}{fl f5:Bool}{l:List Fn}{k:Nat}{es0:List (C×V)}{rest:ScD}{b:List (List UInt8×Nat)}{r:Vars}{code:Int}{x:St}{sts:List St}{Q:X→Env→Heap→Prop}{e:Env}
  (hn:(c::l0::rest.ls).Nodup) (hs:ScD.ok (fun _=>0) ((l0,n0,es0)::rest) (b::r)) (hlen:es0.length+1≤LIM)
  (kn:Kn H0 H (Qoe c fl l k ((l0,n0,es0)::rest) code) [(x7,stO x)])
  (f0:lk 0 e=.c (.ptr c 0)) (f2:lk 2 e=.c (scC (l0::rest.ls))) (f7:lk 7 e=.c (.ptr x7 0)) (f14:lk 14 e=.c (.sl f5 5 (Qk sts))) (f15:lk 15 e=.c (.int .i64 N)) (f16:lk 16 e=.c (.int .i64 i))
  (hQ:∀H',Kn H0 H' (Qoe c fl l k (Qadw x.op x.name (l0,n0,es0)::rest) (opC (b::r) x.op x.name code)) [(x7,stO x)]→
   ∀e',lk 0 e'=.c (.ptr c 0)→lk 2 e'=.c (scC (l0::rest.ls))→lk 7 e'=.c (.ptr x7 0)→lk 14 e'=.c (.sl f5 5 (Qk sts))→lk 15 e'=.c (.int .i64 N)→lk 16 e'=.c (.int .i64 i)→Q8 prog Qc6 Q e' H') :
  Q8 prog Qc7 Q e H:=by
 have how:(scC (l0::rest.ls)).isOw=false:=rfl
 have how2:(scC rest.ls).isOw=false:=by cases rest.ls <;> rfl
 have hm:=hs.1
 have hky:=eq_true hm.ky
 have hv:(Qdm (.str x.name) es0).getD (.c (.int .i64 0))=.c (.int .i64 0):=by
  rw[hm.fd]
  cases b.find? fun p=>decide (p.1=x.name) <;> rfl
 have hin:=Qaso hm r x.name
 have g7:=kn.l 0 rfl
 have gc:=kn.e 0 rfl
 have g1:=kn.e 1 rfl
 refine Q4 ?_
 refine Qa ?_
 simp only[go_sem,f0,f2,f7,f14,f15,f16,g7,how]
 refine Qf (Qd ?_)
 refine Qa ?_
 simp only[go_sem,how]
 refine Qc rfl ?_ ?_
 ·intro hc
  have h1:x.op=1:=by simpa using hc
  have eT:Qadw x.op x.name (l0,n0,es0)=(l0,n0+1,Q1z (.str x.name) (.c (.int .i64 0)) es0):=by simp only[Qadw,if_pos h1]
  have eC:opC (b::r) x.op x.name code=Qb8 code (if Qgf (b::r) x.name then 2 else 0):=by simp only[opC,if_pos h1]
  rw[eT,eC]at hQ
  have tail:∀(H1:Heap) (e1:Env),Kn H0 H1 (Qoe c fl l k ((l0,n0,es0)::rest) (Qb8 code (if Qgf (b::r) x.name then 2 else 0))) [(x7,stO x)]→
    lk 0 e1=.c (.ptr c 0)→lk 2 e1=.c (.pp [.mp l0,scC rest.ls])→lk 7 e1=.c (.ptr x7 0)→lk 14 e1=.c (.sl f5 5 (Qk sts))→lk 15 e1=.c (.int .i64 N)→lk 16 e1=.c (.int .i64 i)→
    Q8 prog Qil (X.inBlock 4 (X.sq prog Qc6 Q)) e1 H1:=by
   intro H1 e1 kn a0 a2 a7 a14 a15 a16
   have g7:=kn.l 0 rfl
   have g1:=kn.e 1 rfl
   refine Qeo ?_
   simp only[go_sem,a0,a2,a7,a14,a15,a16,g7,g1,Qjq,hky,how2]
   refine⟨by omega,?_⟩
   intro H2 h2
   have kn:Kn H0 H2 (Qoe c fl l k ((l0,n0+1,Q1z (.str x.name) (.c (.int .i64 0)) es0)::rest) (Qb8 code (if Qgf (b::r) x.name then 2 else 0))) [(x7,stO x)]:=kn.stE 1 rfl h2
   try simp only[go_sem,X.next,how2]
   exact hQ _ kn _ rfl rfl rfl rfl rfl rfl
  refine Q4 ?_
  refine Qaz ?_
  simp only[go_sem,scC,g7,g1,Qrm,Qjq,Q5,hky,hv,hin,how2,List.getD_cons_zero,List.getD_cons_succ]
  refine Qf ?_
  refine Qa ?_
  simp only[go_sem,how2]
  refine Qc rfl ?_ ?_
  ·intro hc2
   have hi:Qgf (b::r) x.name=true:=by simpa using hc2
   rw[hi]at tail
   refine Qs ?_
   simp only[go_sem,how2]
   refine Q8j gc fun H2 hu=>?_
   have kn:=kn.callE 0 rfl hu (by nofun)
   simp only[go_sem,X.next,how2]
   exact tail _ _ kn rfl rfl rfl rfl rfl rfl
  ·intro hc2
   have hi:Qgf (b::r) x.name=false:=by simpa using hc2
   rw[hi]at tail
   refine Qe ?_
   simp only[go_sem,X.next,how2]
   refine tail _ _ ?_ rfl rfl rfl rfl rfl rfl
   have:Qb8 code (if false=true then 2 else 0)=code:=Qah0 code
   rw[this];exact kn
 intro hc
 have h1:¬x.op=1:=by simpa using hc
 have eT:Qadw x.op x.name (l0,n0,es0)=(l0,n0,es0):=by simp only[Qadw,if_neg h1]
 rw[eT]at hQ
 refine Qa ?_
 simp only[go_sem,how]
 refine Qc rfl ?_ ?_
 ·intro hc2
  have h2:x.op=2:=by simpa using hc2
  have eC:opC (b::r) x.op x.name code=Qb8 code (if (Vars.find (b::r) x.name).isSome then 0 else 3):=by simp only[opC,if_neg h1,if_pos h2]
  rw[eC]at hQ
  refine Qa ?_
  simp only[go_sem,g7,how]
  refine Qatd (ScD.scOk hs fun q hq=>(kn.get q (List.mem_append_left _ (List.mem_cons_of_mem _ hq))).1) ?_
  simp only[go_sem,Qhh,List.getD_cons_zero,List.getD_cons_succ,how]
  refine Qa ?_
  simp only[go_sem,how]
  refine Qc rfl ?_ ?_
  ·intro hc3
   have hf:(Vars.find (b::r) x.name).isSome=false:=by simpa using hc3
   rw[hf]at hQ
   refine Qs ?_
   simp only[go_sem,how]
   refine Q8j gc fun H2 hu=>?_
   have kn:=kn.callE 0 rfl hu (by nofun)
   simp only[go_sem,X.next,how]
   exact hQ _ kn _ rfl rfl rfl rfl rfl rfl
  ·intro hc3
   have hf:(Vars.find (b::r) x.name).isSome=true:=by simpa using hc3
   rw[hf]at hQ
   refine Qe ?_
   simp only[go_sem,X.next,how]
   refine hQ _ ?_ _ rfl rfl rfl rfl rfl rfl
   have:Qb8 code (if true=true then 0 else 3)=code:=Qah0 code
   rw[this];exact kn
 ·intro hc2
  have h2:¬x.op=2:=by simpa using hc2
  have eC:opC (b::r) x.op x.name code=code:=by simp only[opC,if_neg h1,if_neg h2]
  rw[eC]at hQ
  refine Qe ?_
  simp only[go_sem,X.next,how]
  exact hQ _ kn _ rfl rfl rfl rfl rfl rfl
end Go.AE.Y

namespace Go.AE.Y
attribute [local go_sem] cond_true cond_false Bool.not_true Bool.not_false
open Go.Proofs.Tryz
variable {H H0:Heap}{K:V→Heap→Prop}{E E' L:List (Nat×Obj)}
theorem Qa37 {c lm n1 n2:Nat}{es1 es2:List (C×V)}{fl:Bool}{l:List Fn}{k:Nat}{sc:ScD}{x y:Int}{p:Nat×Obj}{H':Heap}
  (kn:Kn H0 H (Qoe c fl l k sc x) [p,(lm,.map n1 es1)]) (hu:Upd H H' (Qoe c fl l k ((lm,n2,es2)::sc) y)):Kn H0 H' (Qoe c fl l k sc y) [p]:=by
 refine Kn.drop (A:=[p]) (B:=[(lm,.map n2 es2)]) ?_
 have hlm:lm∉(Qoe c fl l k sc x).map Prod.fst:=fun h=>by
  obtain⟨q,hq,e⟩:=List.mem_map.1 h
  exact kn.ext q hq (by rw[e];exact kn.free 1 rfl)
 have hp:p.1≠lm:=kn.neL 0 1 (l:=p.1) (o:=p.2) rfl rfl (by omega)
 have hpE:p.1∉(Qoe c fl l k sc x).map Prod.fst:=fun h=>by
  obtain⟨q,hq,e⟩:=List.mem_map.1 h
  exact kn.ext q hq (by rw[e];exact kn.loc p (by simp))
 refine kn.callg (E2:=Qoe c fl l k sc y) (L2:=[p,(lm,.map n2 es2)]) hu (Qaw9 _ _ _ _ _ _ _) rfl (fun q hq=>?_) (fun u hu=>?_)
 ·rcases List.mem_append.1 hq with hq|hq
  ·refine⟨Qany _ _ _ _ _ _ q hq,.inl ?_⟩
   rcases List.mem_cons.1 hq with rfl|hq
   ·exact List.mem_cons_self
   ·exact List.mem_cons_of_mem _ (List.mem_cons_of_mem _ hq)
  ·rcases List.mem_cons.1 hq with rfl|hq
   ·refine⟨(kn.get q (by simp)).2,.inr ⟨by simp,?_⟩⟩
    rw[Qaht]at hpE⊢
    simp only[ScD.ls,List.map_cons,List.mem_cons,not_or]at hpE⊢
    exact⟨hpE.1,hp,hpE.2⟩
   ·simp only[List.mem_singleton]at hq
    subst hq
    exact⟨by nofun,.inl (List.mem_cons_of_mem _ List.mem_cons_self)⟩
 ·rcases List.mem_cons.1 hu with rfl|hu
  ·exact .inl List.mem_cons_self
  ·rcases List.mem_cons.1 hu with rfl|hu
   ·exact .inr (by simp)
   ·exact .inl (List.mem_cons_of_mem _ (List.mem_map_of_mem (f:=Prod.fst) hu))
theorem Qa33 {c lm n1:Nat}{fl:Bool}{l:List Fn}{k:Nat}{sc:ScD}{x:Int}{p:Nat×Obj}
  (kn:Kn H0 H (Qoe c fl l k sc x) [p,(lm,.map n1 [])]):∀q∈Qoe c fl l k ((lm,n1,[])::sc) x,H q.1=q.2:=by
 intro q hq
 rcases List.mem_cons.1 hq with rfl|hq
 ·exact kn.e 0 rfl
 ·rcases List.mem_cons.1 hq with rfl|hq
  ·exact kn.l 1 rfl
  ·exact (kn.get q (List.mem_append_left _ (List.mem_cons_of_mem _ hq))).1
theorem Qa34 {c lm n1:Nat}{fl:Bool}{l:List Fn}{k:Nat}{sc:ScD}{x:Int}{p:Nat×Obj}
  (kn:Kn H0 H (Qoe c fl l k sc x) [p,(lm,.map n1 [])]):(c::lm::sc.ls).Nodup:=by
 have hlm:lm∉(Qoe c fl l k sc x).map Prod.fst:=fun h=>by
  obtain⟨q,hq,e⟩:=List.mem_map.1 h
  exact kn.ext q hq (by rw[e];exact kn.free 1 rfl)
 have hd:=kn.dE
 rw[Qaht]at hd hlm
 simp only[List.nodup_cons,List.mem_cons,not_or]at hd hlm⊢
 exact⟨⟨fun e=>hlm.1 e.symm,hd.1⟩,hlm.2,hd.2⟩
theorem Qa3l {x:St}{d:Int}(h:x.form d=true):Qa5 x.body (d-1)=true∧Qa5 x.els (d-1)=true∧(¬(x.op=5∨x.op=6)→x.body=[]∧x.els=[]):=by
 rw[x.form_eq,Qahj]at h
 simp only[Bool.and_eq_true,Bool.or_eq_true,decide_eq_true_eq]at h
 obtain⟨⟨⟨_,⟨⟨_,h5⟩,h6⟩⟩,hb⟩,he⟩:=h
 refine⟨hb,he,fun hn=>⟨List.eq_nil_of_length_eq_zero ?_,List.eq_nil_of_length_eq_zero ?_⟩⟩
 ·rcases h6 with h6|h6
  ·exact (hn h6).elim
  ·exact h6
 ·rcases h5 with h5|h5
  ·exact (hn (.inl h5)).elim
  ·exact h5
set_option maxHeartbeats 4000000 in
theorem Qaw8 {c:Nat}{fl:Bool}{l:List Fn}{k:Nat}(hk:k≤l.length):∀(n:Nat) (sts:List St) (d:Int) (f5:Bool) (l0 n0:Nat) (es0:List (C×V)) (rest:ScD) (b:List (List UInt8×Nat)) (r:Vars) (s:Ck) (H:Heap) (K:V→Heap→Prop),
  Qh sts≤n→Qh sts≤2^38→Qa5 sts d=true→(c::l0::rest.ls).Nodup→s.v=b::r→ScD.ok (fun _=>0) ((l0,n0,es0)::rest) (b::r)→es0.length+sts.length≤LIM→
  (∀q∈Qoe c fl l k ((l0,n0,es0)::rest) s.c,H q.1=q.2)→
  (∀H' n' es' b',(Qam l k sts s).v=b'::r→MapOk (fun _=>0) es' b'→Upd H H' (Qoe c fl l k ((l0,n',es')::rest) (Qam l k sts s).c)→K (.tup []) H')→
  Qp prog Qbh [.c (.ptr c 0),.c (.sl f5 5 (Qk sts)),.c (scC (l0::rest.ls))] H K:=by
 intro n
 induction n using Nat.strongRecOn with
 |_ n ih=>
 intro sts d f5 l0 n0 es0 rest b r s H K hn hb hf hnd hsv hsc hle hh hK
 have how:(scC (l0::rest.ls)).isOw=false:=rfl
 rw[Q0m,List.all_eq_true]at hf
 refine Qw ?_
 refine Qb Qah Q04 ?_
 refine Qa ?_
 simp only[go_sem,how,Qn]
 intro hl
 simp only[LIM]at hl hle
 have kn:Kn H H (Qoe c fl l k ((l0,n0,es0)::rest) s.c) []:=.startE (fun p hp=>⟨hh p hp,Qany _ _ _ _ _ _ p hp⟩) (by rw[Qaht];exact hnd)
 refine Qd (Q0 (fun m e1 H1=>∃(i n':Nat) (es':List (C×V)) (bi:List (List UInt8×Nat)),m=sts.length-i∧i≤sts.length∧(Qam l k (sts.take i) s).v=bi::r∧MapOk (fun _=>0) es' bi∧es'.length≤es0.length+i∧
  Kn H H1 (Qoe c fl l k ((l0,n',es')::rest) (Qam l k (sts.take i) s).c) []∧
  e1=[(0,.c (.ptr c 0)),(2,.c (scC (l0::rest.ls))),(14,.c (.sl f5 5 (Qk sts))),(15,.c (.int .i64 sts.length)),(16,.c (.int .i64 i))]) sts.length ?_ ?_)
 ·exact⟨0,n0,es0,b,by omega,by omega,by simpa[Qam]using hsv,hsc.1,by omega,by simpa[Qam]using kn,rfl⟩
 ·clear kn
  rintro m e1 H1 ⟨i,n',es',bi,hm,hi,hvi,hmi,hei,kn,rfl⟩
  obtain⟨si,hsi⟩:∃si,Qam l k (sts.take i) s=si:=⟨_,rfl⟩
  rw[hsi]at hvi kn
  refine Qa ?_
  simp only[go_sem,how]
  refine Qf (Qc rfl ?_ ?_)
  ·intro hc
   have hlt:i<sts.length:=by simpa using hc
   have hms:=Qak (List.getElem_mem hlt)
   obtain⟨x,hx⟩:∃x,sts[i]=x:=⟨_,rfl⟩
   have htk:=Qahk l k hlt s
   have hfx:=hf sts[i] (List.getElem_mem hlt)
   rw[hx]at hms hfx
   rw[hsi,hx]at htk
   have hse:=x.size_eq
   have hbl:=Qby x.body
   have hel:=Qby x.els
   obtain⟨fb,fe,fn⟩:=Qa3l hfx
   have hsci:ScD.ok (fun _=>0) ((l0,n',es')::rest) (bi::r):=⟨hmi,hsc.2⟩
   refine Qe ?_
   try simp only[go_sem]
   refine Qf (Qd ?_)
   refine Qa ?_
   simp only[go_sem,how,hlt,Qn,Qae _ _ hlt,hx,x.cells_eq]
   intro x7 hx7 H3 h3
   have kn:=kn.al hx7 h3
   have g7:=kn.l 0 rfl
   simp only[go_sem,Qhf,g7,how]
   intro H4 h4
   have kn:Kn H H4 (Qoe c fl l k ((l0,n',es')::rest) si.c) [(x7,stO x)]:=kn.stL 0 rfl h4
   clear g7
   refine Qa09 (L:=[]) (sc:=(l0,n',es')::rest) (v:=bi::r) hk hnd hsci (by omega) kn (fun H5 kn e5 f0 f2 f7 f14 f15 f16=>?_)
   clear h4 h3
   refine Qa4s hnd hsci (by simp only[LIM];omega) kn f0 f2 f7 f14 f15 f16 (fun H6 kn e6 f0 f2 f7 f14 f15 f16=>?_)
   obtain⟨b1,hv1,hm1⟩:=Qa3v hmi l k x.op x.name x.args si hvi l0 n'
   have hl1:=Qa0y x.op x.name l0 n' es'
   have hc1:=Qa4b l k x.op x.name x.args si
   rw[hvi]at hc1
   rw[←hc1]at kn
   obtain⟨es1,n1,ht⟩:∃es1 n1,Qadw x.op x.name (l0,n',es')=(l0,n1,es1):=by
    simp only[Qadw];split <;> exact⟨_,_,rfl⟩
   rw[ht]at kn hm1 hl1
   simp only at hl1
   have hck:=x.ck_eq l k si
   obtain⟨s1,hs1⟩:∃s1,stC l k x.op x.name x.args si=s1:=⟨_,rfl⟩
   rw[hs1]at kn hv1 hck
   rw[hv1]at hck
   have hsc1:ScD.ok (fun _=>0) ((l0,n1,es1)::rest) (b1::r):=⟨hm1,hsc.2⟩
   have g7:=kn.l 0 rfl
   have fin:∀(H':Heap) (e':Env),Kn H H' (Qoe c fl l k ((l0,n1,es1)::rest) (x.ck l k si).c) []→lk 0 e'=.c (.ptr c 0)→lk 2 e'=.c (scC (l0::rest.ls))→lk 14 e'=.c (.sl f5 5 (Qk sts))→lk 15 e'=.c (.int .i64 sts.length)→lk 16 e'=.c (.int .i64 i)→
     Q8 prog Qhe (X.next (fun e2 H2=>∃m',m'<m∧∃(i n':Nat) (es':List (C×V)) (bi:List (List UInt8×Nat)),m'=sts.length-i∧i≤sts.length∧(Qam l k (sts.take i) s).v=bi::r∧MapOk (fun _=>0) es' bi∧es'.length≤es0.length+i∧
      Kn H H2 (Qoe c fl l k ((l0,n',es')::rest) (Qam l k (sts.take i) s).c) []∧
      e2=[(0,.c (.ptr c 0)),(2,.c (scC (l0::rest.ls))),(14,.c (.sl f5 5 (Qk sts))),(15,.c (.int .i64 sts.length)),(16,.c (.int .i64 i))]) (X.inBlock 0 (Qy Qfa (unK H K)))) e' H':=by
    intro H' e' kn f0 f2 f14 f15 f16
    refine Qs ?_
    simp only[go_sem,f0,f2,f14,f15,f16,how,AE.X.next]
    refine⟨Qu (by omega) (by omega),sts.length-(i+1),by omega,i+1,n1,es1,b1,rfl,by omega,?_,hm1,by omega,?_,rfl⟩
    ·rw[htk,hck]
    ·rw[htk];exact kn
   refine Qa ?_
   simp only[go_sem,f0,f2,f7,f14,f15,f16,g7,how]
   refine Qc rfl ?_ ?_
   ·intro hc2
    refine Qaz ?_
    simp only[go_sem,f0,f2,f7,f14,f15,f16,g7,how]
    refine Qajn how (fun lm nn H7 hlm h7=>?_)
    have kn:=kn.al hlm h7
    have g7:=kn.l 0 rfl
    simp only[go_sem,Qfv,g7,how]
    have hih:=ih (Qh x.body) (by omega) x.body (d-1) false lm nn [] ((l0,n1,es1)::rest) [] (b1::r) ⟨[]::b1::r,s1.c,s1.n⟩ H7
    refine hih _ (Nat.le_refl _) (by omega) fb (Qa34 kn) rfl ⟨.nil _,hsc1⟩ (by simp only[List.length_nil,LIM];omega) (Qa33 kn) (fun H8 n8 es8 b8 _ _ hu=>?_)
    have kn:=Qa37 kn hu
    have g7:=kn.l 0 rfl
    simp only[go_sem,how]
    refine Qeo ?_
    simp only[go_sem,g7,how]
    refine Qajn how (fun lm nn H9 hlm h9=>?_)
    have kn:=kn.al hlm h9
    have g7:=kn.l 0 rfl
    simp only[go_sem,Qfw,g7,how]
    obtain⟨s2,hs2⟩:∃s2,Qam l k x.body ⟨[]::b1::r,s1.c,s1.n⟩=s2:=⟨_,rfl⟩
    rw[hs2]at kn hck
    have hih:=ih (Qh x.els) (by omega) x.els (d-1) false lm nn [] ((l0,n1,es1)::rest) [] (b1::r) ⟨[]::b1::r,s2.c,s2.n⟩ H9
    refine hih _ (Nat.le_refl _) (by omega) fe (Qa34 kn) rfl ⟨.nil _,hsc1⟩ (by simp only[List.length_nil,LIM];omega) (Qa33 kn) (fun H10 n10 es10 b10 _ _ hu=>?_)
    have kn:=Kn.drop (A:=[]) (Qa37 kn hu)
    simp only[go_sem,AE.X.next,how]
    refine fin _ _ ?_ rfl rfl rfl rfl rfl
    rw[hck];exact kn
   ·intro hc2
    have hno:¬(x.op=5∨x.op=6):=by
     intro h
     rcases h with h|h <;> simp[h]at hc2
    obtain⟨eb,ee⟩:=fn hno
    rw[eb,ee]at hck
    simp only[Qam]at hck
    refine Qe ?_
    simp only[go_sem,AE.X.next,how]
    refine fin _ _ ?_ rfl rfl rfl rfl rfl
    rw[hck]
    exact Kn.drop (A:=[]) kn
  ·intro hc
   have hge:sts.length≤i:=by simpa using hc
   rw[List.take_of_length_le hge]at hsi
   refine Q1 ?_
   simp only[go_sem,AE.X.next,Qy,Q7,Qfa]
   refine⟨.tup [],.tup _ _ rfl fun j x x' h=>by simp at h,hK _ n' es' bi (by rw[hsi];exact hvi) hmi ?_⟩
   rw[hsi]
   exact kn.fin
end Go.AE.Y

namespace Go.AE.Y
attribute [local go_sem] cond_true cond_false Bool.not_true Bool.not_false
open Go.Proofs.Tryz
variable {H H0:Heap}{K:V→Heap→Prop}{E E' L:List (Nat×Obj)}
abbrev fnO (f:Fn):Obj:=.st [.str f.name,.sl false 1 (Q2 f.params),.sl false 5 (Qk f.body)]
abbrev ckO (fl:Bool)(l:List Fn)(k:Int)(code:Int):Obj:=.st [.sl fl 3 (Qr l),.int .i64 k,.int .i64 code]
theorem Qatj (s:List UInt8)(v:V):∀(es:List (C×V)),(Q1z (.str s) v es).length≤es.length+1
 |[]=>by simp[Q1z]
 |e::es=>by
  have:=Qatj s v es
  simp only[Q1z]
  split
  ·simp
  ·simp only[List.length_cons];omega
set_option maxHeartbeats 4000000 in
theorem Qa6z {c x5 N i:Nat}{fl:Bool}{l:List Fn}{a:Int}{e:Env}{Q:X→Env→Heap→Prop}(hi:i<l.length)(hf:l[i].form=true)(hs:Qh l[i].body≤2^38)
  (kn:Kn H0 H [] [(c,ckO fl l i a),(x5,fnO l[i])])
  (f1:lk 1 e=.c (.pp [.sl fl 3 (Qr l)])) (f3:lk 3 e=.c (.ptr c 0)) (f4:lk 4 e=.c (.int .i64 i)) (f5:lk 5 e=.c (.ptr x5 0)) (f18:lk 18 e=.c (.sl fl 3 (Qr l))) (f19:lk 19 e=.c (.int .i64 N)) (f20:lk 20 e=.c (.int .i64 i))
  (hQ:∀H',Kn H0 H' [] [(c,ckO fl l i (Qb8 a (fnCk l i).c))]→∀e',lk 1 e'=.c (.pp [.sl fl 3 (Qr l)])→lk 3 e'=.c (.ptr c 0)→lk 18 e'=.c (.sl fl 3 (Qr l))→lk 19 e'=.c (.int .i64 N)→lk 20 e'=.c (.int .i64 i)→Q .nrm e' H') :
  Q8 prog Qh5 Q e H:=by
 rw[←Qa5b hi a]at hQ
 obtain⟨f,hfe⟩:∃f,l[i]=f:=⟨_,rfl⟩
 obtain⟨j0,hj0,hji⟩:=Qa5c hi
 rw[hfe]at hf hs hQ kn hj0
 have g5:=kn.l 1 rfl
 have hfp:f.params.length≤3∧Qa5 f.body 4=true:=by
  rw[Fn.form]at hf
  simp only[Bool.and_eq_true,decide_eq_true_eq]at hf
  exact⟨hf.1.2,hf.2⟩
 have two:∀(H1:Heap) (e1:Env),Kn H0 H1 [] [(c,ckO fl l i (Qb8 a (ixC l i f.name))),(x5,fnO f)]→lk 1 e1=.c (.pp [.sl fl 3 (Qr l)])→lk 3 e1=.c (.ptr c 0)→lk 5 e1=.c (.ptr x5 0)→lk 18 e1=.c (.sl fl 3 (Qr l))→lk 19 e1=.c (.int .i64 N)→lk 20 e1=.c (.int .i64 i)→
   Q8 prog Qh4 Q e1 H1:=by
  intro H1 e1 kn f1 f3 f5 f18 f19 f20
  refine Qa ?_
  simp only[go_sem,f1,f3,f5,f18,f19,f20]
  refine Qajn (sc:=.pnil) rfl (fun lm nn H2 hlm h2=>?_)
  have kn:=kn.al hlm h2
  have g5:=kn.l 1 rfl
  simp only[go_sem,Qia,f1,f3,f5,f18,f19,f20]
  refine Q4 ?_
  refine Qa ?_
  simp only[go_sem,g5,Qq]
  intro hl
  simp only[LIM]at hl
  obtain⟨s0,hs0⟩:∃s0:Ck,(⟨[[]],Qb8 a (ixC l i f.name),0⟩:Ck)=s0:=⟨_,rfl⟩
  have hs0v:s0.v=[[]]:=by rw[←hs0]
  have hs0c:Qb8 a (ixC l i f.name)=s0.c:=by rw[←hs0]
  rw[hs0]at hQ
  rw[hs0c]at kn
  refine Qf (Qd (Q0 (fun m e2 H3=>∃(j n':Nat) (es':List (C×V)) (bj:List (List UInt8×Nat)),m=f.params.length-j∧j≤f.params.length∧(Qxz (f.params.take j) s0).v=[bj]∧MapOk (fun _=>0) es' bj∧es'.length≤j∧
   Kn H0 H3 [] [(c,ckO fl l i (Qxz (f.params.take j) s0).c),(x5,fnO f),(lm,.map n' es')]∧
   e2=[(1,.c (.pp [.sl fl 3 (Qr l)])),(3,.c (.ptr c 0)),(5,.c (.ptr x5 0)),(6,.c (.pp [.mp lm,.pnil])),(18,.c (.sl fl 3 (Qr l))),(19,.c (.int .i64 N)),(20,.c (.int .i64 i)),(39,.c (.sl false 1 (Q2 f.params))),(40,.c (.int .i64 f.params.length)),(41,.c (.int .i64 j))]) f.params.length ?_ ?_))
  ·exact⟨0,nn,[],[],by omega,by omega,hs0v,.nil _,by simp,kn,rfl⟩
  ·clear kn
   rintro m e2 H3 ⟨j,n',es',bj,hm,hj,hvj,hmj,hej,kn,rfl⟩
   obtain⟨sj,hsj⟩:∃sj,Qxz (f.params.take j) s0=sj:=⟨_,rfl⟩
   rw[hsj]at hvj kn
   refine Qa ?_
   simp only[go_sem]
   refine Qf (Qc rfl ?_ ?_)
   ·intro hc
    have hlt:j<f.params.length:=by simpa using hc
    obtain⟨p,hp⟩:∃p,f.params[j]=p:=⟨_,rfl⟩
    have hpd:f.params.getD j []=p:=by simp[List.getD_eq_getElem?_getD,hlt,hp]
    have htk:=Qalb hlt s0
    rw[hsj,hp]at htk
    have hky:=eq_true hmj.ky
    have hv:(Qdm (.str p) es').getD (.c (.int .i64 0))=.c (.int .i64 0):=by
     rw[hmj.fd]
     cases bj.find? fun q=>decide (q.1=p) <;> rfl
    have hin:=Qaso hmj [] p
    have gl:=kn.l 2 rfl
    have gc:=kn.l 0 rfl
    refine Qe ?_
    try simp only[go_sem]
    refine Qf (Qd ?_)
    refine Qa ?_
    simp only[go_sem,hlt,Qq,Qaw _ _ hlt,hpd]
    have tail:∀(H4:Heap) (e3:Env),Kn H0 H4 [] [(c,ckO fl l i (Qb8 sj.c (if Qgf [bj] p then 2 else 0))),(x5,fnO f),(lm,.map n' es')]→
      lk 1 e3=.c (.pp [.sl fl 3 (Qr l)])→lk 3 e3=.c (.ptr c 0)→lk 5 e3=.c (.ptr x5 0)→lk 6 e3=.c (.pp [.mp lm,.pnil])→lk 8 e3=.c (.str p)→lk 18 e3=.c (.sl fl 3 (Qr l))→lk 19 e3=.c (.int .i64 N)→lk 20 e3=.c (.int .i64 i)→
      lk 39 e3=.c (.sl false 1 (Q2 f.params))→lk 40 e3=.c (.int .i64 f.params.length)→lk 41 e3=.c (.int .i64 j)→
      Q8 prog Qjy (X.inBlock 3 (X.sq prog Qh2 (X.next (fun e2 H3=>∃m',m'<m∧∃(j n':Nat) (es':List (C×V)) (bj:List (List UInt8×Nat)),m'=f.params.length-j∧j≤f.params.length∧(Qxz (f.params.take j) s0).v=[bj]∧MapOk (fun _=>0) es' bj∧es'.length≤j∧
       Kn H0 H3 [] [(c,ckO fl l i (Qxz (f.params.take j) s0).c),(x5,fnO f),(lm,.map n' es')]∧
       e2=[(1,.c (.pp [.sl fl 3 (Qr l)])),(3,.c (.ptr c 0)),(5,.c (.ptr x5 0)),(6,.c (.pp [.mp lm,.pnil])),(18,.c (.sl fl 3 (Qr l))),(19,.c (.int .i64 N)),(20,.c (.int .i64 i)),(39,.c (.sl false 1 (Q2 f.params))),(40,.c (.int .i64 f.params.length)),(41,.c (.int .i64 j))]) (X.inBlock 2 (X.sq prog Qh3 Q))))) e3 H4:=by
     intro H4 e3 kn f1 f3 f5 f6 f8 f18 f19 f20 f39 f40 f41
     have gl:=kn.l 2 rfl
     refine Qs ?_
     simp only[go_sem,f1,f3,f5,f6,f8,f18,f19,f20,f39,f40,f41,gl,Qjq,hky]
     refine⟨by simp only[LIM];omega,?_⟩
     intro H5 h5
     have kn:=kn.stL 2 rfl h5
     try simp only[go_sem,AE.X.next]
     refine Qs ?_
     simp only[go_sem,AE.X.next]
     have hl2:=Qatj p (.c (.int .i64 0)) es'
     refine⟨Qu (by omega) (by omega),f.params.length-(j+1),by omega,j+1,n'+1,Q1z (.str p) (.c (.int .i64 0)) es',(p,sj.n)::bj,rfl,by omega,?_,hmj.put p sj.n,by omega,?_,rfl⟩
     ·rw[htk];simp[Qrp,hvj]
     ·rw[htk,hvj];exact kn
    refine Q4 ?_
    refine Qa ?_
    simp only[go_sem,gl,Qrm,Qjq,Q5,hky,hv,hin,List.getD_cons_zero,List.getD_cons_succ]
    refine Qf ?_
    refine Qa ?_
    simp only[go_sem]
    refine Qc rfl ?_ ?_
    ·intro hc2
     have hi2:Qgf [bj] p=true:=by simpa using hc2
     rw[hi2]at tail
     refine Qs ?_
     simp only[go_sem]
     refine Q8j gc fun H6 hu=>?_
     have kn:=kn.callL 0 rfl hu (by nofun)
     simp only[go_sem,AE.X.next]
     exact tail _ _ kn rfl rfl rfl rfl rfl rfl rfl rfl rfl rfl rfl
    ·intro hc2
     have hi2:Qgf [bj] p=false:=by simpa using hc2
     rw[hi2]at tail
     refine Qe ?_
     simp only[go_sem,AE.X.next]
     refine tail _ _ ?_ rfl rfl rfl rfl rfl rfl rfl rfl rfl rfl rfl
     have:Qb8 sj.c (if false=true then 2 else 0)=sj.c:=Qah0 sj.c
     rw[this];exact kn
   ·intro hc
    have hge:f.params.length≤j:=by simpa using hc
    rw[List.take_of_length_le hge]at hsj
    rw[hsj]at hQ
    have g5:=kn.l 1 rfl
    refine Q1 ?_
    simp only[go_sem,AE.X.next]
    refine Qs ?_
    simp only[go_sem,g5]
    have knp:Kn H0 H3 [] [(c,ckO fl l i sj.c),(lm,.map n' es'),(x5,fnO f)]:=kn.perm (.cons _ (.swap _ _ _))
    have hb:=Qaw8 (c:=c) (fl:=fl) (l:=l) (k:=i) (by omega) (Qh f.body) f.body 4 false lm n' es' [] bj [] sj H3
    refine hb _ (Nat.le_refl _) hs hfp.2 ?_ hvj ⟨hmj,trivial⟩ ?_ ?_ (fun H6 n6 es6 b6 hv6 hm6 hu=>?_)
    ·have:=knp.dL
     simp only[List.map_cons,List.map_nil,List.nodup_cons,List.mem_cons,List.not_mem_nil,or_false,not_or]at this⊢
     exact⟨⟨this.1.1,by simp[ScD.ls]⟩,by simp[ScD.ls],by simp[ScD.ls]⟩
    ·have:=Qby f.body
     simp only[LIM];omega
    ·intro q hq
     rcases List.mem_cons.1 hq with rfl|hq
     ·exact knp.l 0 rfl
     ·rcases List.mem_cons.1 hq with rfl|hq
      ·exact knp.l 1 rfl
      ·exact absurd hq (by simp[ScD.ob])
    ·have kn:=Kn.drop (A:=[(c,ckO fl l i (Qam l i f.body sj).c)]) (Kn.callLs (L:=[(c,ckO fl l i sj.c),(lm,.map n' es')]) (L':=[(c,ckO fl l i (Qam l i f.body sj).c),(lm,.map n6 es6)]) (M:=[(x5,fnO f)]) knp hu rfl (by
      intro p hp
      simp only[List.mem_cons,List.not_mem_nil,or_false]at hp
      rcases hp with rfl|rfl <;> nofun))
     simp only[go_sem]
     exact hQ _ kn _ rfl rfl rfl rfl rfl
 have hlt:decide (ixI (Qkh l f.name)<(i:Int)) = !decide (Qkh l f.name=some i):=by
  rw[hj0]
  simp only[ixI,Option.some.injEq]
  by_cases h:j0=i
  ·simp[h]
  ·have:(j0:Int)<i:=by omega
   simp[h,this]
 refine Q4 ?_
 refine Qa ?_
 simp only[go_sem,f1,f3,f4,f5,f18,f19,f20,g5]
 refine Qah1 ?_
 simp only[go_sem,Qh9,f1,f3,f4,f5,f18,f19,f20,hlt]
 refine Qf (Qc rfl ?_ ?_)
 ·intro hc
  have hne:¬Qkh l f.name=some i:=by simpa using hc
  rw[ixC,if_neg hne]at two
  refine Qs ?_
  simp only[go_sem]
  refine Q8j (kn.l 0 rfl) fun H6 hu=>?_
  have kn:=kn.callL 0 rfl hu (by nofun)
  simp only[go_sem,AE.X.next]
  exact two _ _ kn rfl rfl rfl rfl rfl rfl
 ·intro hc
  have heq:Qkh l f.name=some i:=by simpa using hc
  rw[ixC,if_pos heq,Qah0]at two
  refine Qe ?_
  simp only[go_sem,AE.X.next]
  exact two _ _ kn rfl rfl rfl rfl rfl rfl
set_option maxHeartbeats 4000000 in
theorem Qakc {l:List Fn}{fl:Bool}(hf:Qo l≤2^38)(g:GK H)(hK:∀H',Upd H H' []→K (.c (.int .i64 (Q2w l))) H'):Qp prog Qco [.ag [.sl fl 3 (Qr l)]] H K:=by
 refine Qw ?_
 refine Qb Qah Q2g ?_
 have retf:∀(b:Int) (e:Env) (H':Heap) (L:List (Nat×Obj)),Q2w l=b→Kn H H' [] L→lk 2 e=.c (.int .i64 b)→Qy Qgi (unK H K) .ret e H':=by
  intro b e H' L hf kn h4
  simp only[go_sem,Qy,Q7,Qgi,List.mem_singleton,forall_eq,RS.op,h4]
  refine⟨_,.c _ _ (Qg rfl),?_⟩
  rw[←hf];exact hK _ kn.fin
 have kn:=Kn.start0 H
 refine Qa ?_
 simp only[go_sem]
 refine Q4 ?_
 refine Qa ?_
 simp only[go_sem]
 refine Q6d (by omega) g fun H1 hu=>?_
 have kn:=kn.call0 hu
 simp only[go_sem,Qh6]
 refine Qf (Qc rfl ?_ ?_)
 ·intro hc
  have hb:Qle l=false:=by simpa using hc
  refine Qa ?_
  simp only[go_sem]
  refine Qi ?_
  simp only[go_sem,AE.X.next]
  exact retf 1 _ _ _ (by rw[Q2w,hb];rfl) kn rfl
 intro hc
 have hb:Qle l=true:=by simpa using hc
 have hpc:Q2w l=ckK l l.length:=by rw[Q2w,if_pos hb]
 have hv:=hb
 simp only[Qle,Bool.and_eq_true,decide_eq_true_eq,List.all_eq_true]at hv
 refine Qe ?_
 try simp only[go_sem]
 refine Qa ?_
 simp only[go_sem]
 intro c hc0 H2 h2
 have kn:=kn.al hc0 h2
 simp only[go_sem,Qh7]
 refine Q4 ?_
 refine Qa ?_
 simp only[go_sem,Qm]
 intro hl
 simp only[LIM]at hl
 refine Qf (Qd (Q0 (fun m e1 H1=>∃(i:Nat) (at_:Int),m=l.length-i∧i≤l.length∧Kn H H1 [] [(c,ckO fl l at_ (ckK l i))]∧
  e1=[(1,.c (.pp [.sl fl 3 (Qr l)])),(3,.c (.ptr c 0)),(18,.c (.sl fl 3 (Qr l))),(19,.c (.int .i64 l.length)),(20,.c (.int .i64 i))]) l.length ?_ ?_))
 ·exact⟨0,0,by omega,by omega,kn,rfl⟩
 ·clear kn
  rintro m e1 H3 ⟨i,at_,hm,hi,kn,rfl⟩
  refine Qa ?_
  simp only[go_sem]
  refine Qf (Qc rfl ?_ ?_)
  ·intro hc
   have hlt:i<l.length:=by simpa using hc
   have hms:=Qaq (List.getElem_mem hlt)
   have hfm:=hv.1.2 _ (List.getElem_mem hlt)
   have hsu:=Qahs l i
   refine Qe ?_
   try simp only[go_sem]
   refine Qf (Qd ?_)
   refine Qa ?_
   simp only[go_sem,hlt,Qm,Q6 _ _ hlt,Fn.cells]
   intro x5 hx5 H4 h4
   have kn:=kn.al hx5 h4
   have g5:=kn.l 1 rfl
   simp only[go_sem,Qh8,g5]
   intro H5 h5
   have kn:=kn.stL 1 rfl h5
   have gc:=kn.l 0 rfl
   refine Qa ?_
   simp only[go_sem,gc]
   intro H6 h6
   have kn:Kn H H6 [] [(c,ckO fl l i (ckK l i)),(x5,fnO l[i])]:=kn.stL 0 rfl h6
   refine Qa6z hlt hfm (by omega) kn rfl rfl rfl rfl rfl rfl rfl (fun H7 kn e7 f1 f3 f18 f19 f20=>?_)
   simp only[go_sem,AE.X.next]
   refine Qs ?_
   simp only[go_sem,AE.X.next,f1,f3,f18,f19,f20]
   refine⟨Qu (by omega) (by omega),l.length-(i+1),by omega,i+1,i,rfl,by omega,?_,rfl⟩
   rw[hsu];exact kn
  ·intro hc
   have hge:l.length≤i:=by simpa using hc
   have hil:i=l.length:=by omega
   subst hil
   have gc:=kn.l 0 rfl
   refine Q1 ?_
   simp only[go_sem,AE.X.next]
   refine Qa ?_
   simp only[go_sem,gc]
   refine Qi ?_
   exact retf _ _ _ _ hpc kn rfl
theorem Qasn {l:List Fn}{fl:Bool}(hf:Qo l≤2^38)(g:GK H)(hK:∀H',Upd H H' []→K (.c (.bool (Qlm l))) H'):Qp prog Qu8 [.ag [.sl fl 3 (Qr l)]] H K:=by
 refine Qb Qah Qayf ?_
 refine Qa ?_
 simp only[go_sem]
 refine Qa ?_
 simp only[go_sem]
 refine Qakc hf g fun H1 hu=>?_
 simp only[go_sem,Q49]
 refine Qi ?_
 simp only[go_sem,Qy,Q7,Qalf,List.mem_singleton,forall_eq,RS.op]
 exact hK _ hu
end Go.AE.Y

