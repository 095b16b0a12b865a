/- Part 3 of the proof: the engine, codes, walks and plain laws, each named where it stands. -/
import Derived.Test.YtlfdcfggpccakaaGreatDoorZB
open Nat (reduceEqDiff reduceAdd reduceLeDiff reduceLT)
set_option linter.unusedVariables false
set_option linter.unusedSimpArgs false
set_option maxRecDepth 4000
open Bool renaming and_eq_true->Jv,not_false->Jab
open Int renaming eq_ofNat_of_zero_le->Jq
open List renaming mem_singleton->Ja,getElem_mem->Jb,take_of_length_le->Jc,getD_eq_getElem?_getD->Jd,length_map->Jf,take_succ_eq_append_getElem->Jh,length_cons->Ji,mem_append_right->Jj,perm_append_comm->Jk,append_assoc->Jl,mem_append->Jm,length_nil->Jn,drop_zero->Jo,nil_append->Jp,cons_append->Jr,flatMap_append->Js,map_append->Jt,map_set->Ju,set_cons_zero->Jw,take_append_drop->Jx,mem_cons_of_mem->Jy,getD_cons_zero->Jz,length_set->J0,length_append->J3,set_cons_succ->J4,mem_or_eq_of_mem_set->J5,all_eq_true->J6,length_take->J7,mem_flatMap->J8,take_length->J9,contains_iff_mem->Jaa,getD_cons_succ->Jac,getElem_of_mem->Jad,mem_cons_self->Jae,nodup_append->Jag,filter_cons->Jai,all_append->Jaj,filter_nil->Jak,sum_append->Jal,map_cons->Jan,map_take->Jao,take_nil->Jap,map_nil->Jaq,set_set->Jar
open Nat renaming le_refl->Je,zero_add->Jg,lt_pow_self->J1,mul_le_mul_left->J2,one_le_two_pow->Jaf,le_trans->Jah,le_succ->Jam,mul_succ->Jas
namespace Go.AE.Y
open Go.Proofs.Tryz
variable {H:Heap}{K:V→Heap→Prop}
theorem Qc9 {n lo hi:Int}(hK:K (.c (.bool (decide (lo≤n∧n≤hi)))) H):Qs prog Qbq [.c (.int .i64 n),.c (.int .i64 lo),.c (.int .i64 hi)] H K:=by
 refine Qc Qaj Qbsg ?_;refine Qa ?_;simp only[go_sem];refine Qa ?_;simp only[go_sem];refine Qk ?_;simp only[go_sem,Q3,Qab,Qboj,reduceIte,Ja,forall_eq,RS.op];have:(bif decide (lo≤n)then decide (n≤hi)else false)=decide (lo≤n∧n≤hi):=by
  by_cases h:lo≤n <;> simp[h]
 rw[this];exact hK
theorem Qbfu {b:Bool}(hK:K (.c (.int .i64 (if b then 1 else 0))) H):Qs prog Q1h [.c (.bool b)] H K:=by
 refine Qc Qaj Qbgm ?_;refine Qa ?_;simp only[go_sem];refine Qy ?_;refine Qa ?_;simp only[go_sem];refine Qh (Qe rfl ?_ ?_)
 ·intro hc;subst hc;refine Qa ?_;simp only[go_sem];refine Qk ?_;simp only[go_sem,Q3,Qab,Qaa8,reduceIte,Ja,forall_eq,RS.op];exact hK
 ·intro hc;subst hc;refine Qi ?_;simp only[go_sem];refine Qa ?_;simp only[go_sem];refine Qk ?_;simp only[go_sem,Q3,Qab,Qaa8,reduceIte,Ja,forall_eq,RS.op];exact hK
theorem Qbfr {s:List UInt8}{b:UInt8}(hK:∀n:Int,K (.c (.int .i64 n)) H):Qs prog Q1f [.c (.str s),.c (.int .u8 b.toNat)] H K:=by
 refine Qc Qaj Qbgi ?_;refine Qa ?_;simp only[go_sem];refine Qy ?_;refine Qa ?_;simp only[go_sem];refine Qh (Qf (Qw (fun n e1 H1=>∃i:Nat,n=s.length-i∧i≤s.length∧H1=H∧e1=[(0,.c (.str s)),(1,.c (.int .u8 b.toNat)),(5,.c (.int .i64 i))]) s.length ?_ ?_))
 ·exact⟨0,by omega,by omega,rfl,rfl⟩
 ·rintro n e1 H1 ⟨i,hn,hi,rfl,rfl⟩;refine Qy ?_;refine Qa ?_;simp only[go_sem];intro hl;simp only[LIM]at hl;refine Qh (Qe rfl ?_ ?_)
  ·intro hc;have hlt:i<s.length:=by simpa using hc
   refine Qi ?_;simp only[go_sem];refine Qh (Qf ?_);refine Qa ?_;simp only[go_sem,hlt];refine Qe rfl ?_ ?_
   ·intro hc2;refine Qa ?_;simp only[go_sem];refine Qk ?_;simp only[go_sem,X.next,Q3,Qab,Qaa3,reduceIte,Ja,forall_eq,RS.op];exact hK _
   ·intro hc2;refine Qi ?_;simp only[go_sem];refine Qq ?_;simp only[go_sem,X.next];exact⟨Qr (by omega) (by omega),s.length-(i+1),by omega,i+1,rfl,by omega,rfl⟩
  ·intro hc;refine Qv ?_;simp only[go_sem,X.next];refine Qa ?_;simp only[go_sem];refine Qk ?_;simp only[go_sem,Q3,Qab,Qaa3,reduceIte,Ja,forall_eq,RS.op];exact hK _
theorem Qbfp {b:UInt8}(hK:∀n:Int,K (.c (.int .i64 n)) H):Qs prog Q1e [.c (.int .u8 b.toNat)] H K:=by
 refine Qc Qaj Qbgg ?_;refine Qa ?_;simp only[go_sem];refine Qh (Qf ?_);refine Qa ?_;simp only[go_sem];refine Qe rfl ?_ ?_
 ·intro hc;refine Qa ?_;simp only[go_sem];refine Qk ?_;simp only[go_sem,Q3,Qab,Qkj,reduceIte,Ja,forall_eq,RS.op];exact hK _
 intro hc;refine Qa ?_;simp only[go_sem];refine Qe rfl ?_ ?_
 ·intro hc;refine Qa ?_;simp only[go_sem];refine Qk ?_;simp only[go_sem,Q3,Qab,Qkj,reduceIte,Ja,forall_eq,RS.op];exact hK _
 intro hc;refine Qa ?_;simp only[go_sem];refine Qbfr fun n=>?_;simp only[go_sem,Q49];refine Qe rfl ?_ ?_
 ·intro hc;refine Qa ?_;simp only[go_sem];refine Qk ?_;simp only[go_sem,Q3,Qab,Qkj,reduceIte,Ja,forall_eq,RS.op];exact hK _
 intro hc;refine Qa ?_;simp only[go_sem];refine Qe rfl ?_ ?_
 ·intro hc;refine Qa ?_;simp only[go_sem];refine Qk ?_;simp only[go_sem,Q3,Qab,Qkj,reduceIte,Ja,forall_eq,RS.op];exact hK _
 intro hc;refine Qi ?_;simp only[go_sem];refine Qa ?_;simp only[go_sem];refine Qk ?_;simp only[go_sem,Q3,Qab,Qkj,reduceIte,Ja,forall_eq,RS.op];exact hK _
theorem Qbp3 {s:List UInt8}{k:Int}(hK:∀b:Bool,K (.c (.bool b)) H):Qs prog Qamp [.c (.str s),.c (.int .i64 k)] H K:=by
 refine Qc Qaj Qbqe ?_;refine Qa ?_;simp only[go_sem];refine Qy ?_;refine Qa ?_;simp only[go_sem];refine Qh (Qf (Qw (fun n e1 H1=>∃i:Nat,n=s.length-i∧i≤s.length∧H1=H∧e1=[(0,.c (.str s)),(1,.c (.int .i64 k)),(5,.c (.int .i64 i))]) s.length ?_ ?_))
 ·exact⟨0,by omega,by omega,rfl,rfl⟩
 ·rintro n e1 H1 ⟨i,hn,hi,rfl,rfl⟩;refine Qy ?_;refine Qa ?_;simp only[go_sem];intro hl;simp only[LIM]at hl;refine Qh (Qe rfl ?_ ?_)
  ·intro hc;have hlt:i<s.length:=by simpa using hc
   refine Qi ?_;simp only[go_sem];refine Qh (Qf ?_);refine Qa ?_;simp only[go_sem,hlt];refine Qbfp fun cl=>?_;simp only[go_sem,Qaly];refine Qe rfl ?_ ?_
   ·intro hc2;refine Qa ?_;simp only[go_sem];refine Qk ?_;simp only[go_sem,X.next,Q3,Qab,Qa1x,reduceIte,Ja,forall_eq,RS.op];exact hK _
   ·intro hc2;refine Qi ?_;simp only[go_sem];refine Qq ?_;simp only[go_sem,X.next];exact⟨Qr (by omega) (by omega),s.length-(i+1),by omega,i+1,rfl,by omega,rfl⟩
  ·intro hc;refine Qv ?_;simp only[go_sem,X.next];refine Qa ?_;simp only[go_sem];intro _;refine Qk ?_;simp only[go_sem,Q3,Qab,Qa1x,reduceIte,Ja,forall_eq,RS.op];exact hK _
theorem Qa9x (hK:∀ss:List (List UInt8),K (.c (.sl true 1 (Qbm ss))) H):Qs prog Qjk [] H K:=by
 refine Qc Qaj Qann ?_;refine Qa ?_;simp only[go_sem];refine Qa ?_;simp only[go_sem];refine Qk ?_;simp only[go_sem,Q3,Qab,Qy1,reduceIte,Ja,forall_eq,RS.op];exact hK [[102,110],[108,101,116],[115,97,121],[112,117,116],[105,102],[101,108,115,101],[108,111,111,112],[98,97,99,107],[100,111]]
theorem Qbp4 {s:List UInt8}(hK:∀b:Bool,K (.c (.bool b)) H):Qs prog Qamq [.c (.str s)] H K:=by
 refine Qc Qaj Qbqf ?_;refine Qa ?_;simp only[go_sem];refine Qa ?_;simp only[go_sem];refine Qa9x fun ss=>?_;simp only[go_sem,Qalz];refine Qy ?_;refine Qa ?_;simp only[go_sem];refine Qh (Qf (Qw (fun n e1 H1=>∃i:Nat,n=ss.length-i∧i≤ss.length∧H1=H∧e1=[(0,.c (.str s)),(3,.c (.sl true 1 (Qbm ss))),(4,.c (.int .i64 i))]) ss.length ?_ ?_))
 ·exact⟨0,by omega,by omega,rfl,rfl⟩
 ·rintro n e1 H1 ⟨i,hn,hi,rfl,rfl⟩;refine Qy ?_;refine Qa ?_;simp only[go_sem,Qas];intro hl;simp only[LIM]at hl;refine Qh (Qe rfl ?_ ?_)
  ·intro hc;have hlt:i<ss.length:=by simpa using hc
   refine Qi ?_;simp only[go_sem];refine Qh (Qf ?_);refine Qa ?_;simp only[go_sem,hlt,Qas,Qic _ _ hlt];refine Qe rfl ?_ ?_
   ·intro hc2;refine Qa ?_;simp only[go_sem];refine Qk ?_;simp only[go_sem,X.next,Q3,Qab,Qa1y,reduceIte,Ja,forall_eq,RS.op];exact hK _
   ·intro hc2;refine Qi ?_;simp only[go_sem];refine Qq ?_;simp only[go_sem,X.next];exact⟨Qr (by omega) (by omega),ss.length-(i+1),by omega,i+1,rfl,by omega,rfl⟩
  ·intro hc;refine Qv ?_;simp only[go_sem,X.next];refine Qa ?_;simp only[go_sem];refine Qk ?_;simp only[go_sem,Q3,Qab,Qa1y,reduceIte,Ja,forall_eq,RS.op];exact hK _
theorem Q82 {s:List UInt8}(hK:∀b:Bool,K (.c (.bool b)) H):Qs prog Qds [.c (.str s)] H K:=by
 refine Qc Qaj Qa1o ?_;refine Qa ?_;simp only[go_sem];refine Qa ?_;simp only[go_sem];refine Qbp3 fun b=>?_;simp only[go_sem,Qwi];intro hl;refine⟨fun hb=>?_,fun hb=>?_⟩
 ·refine Qbp4 fun b2=>?_;simp only[go_sem,Qj0];refine Qk ?_;simp only[go_sem,Q3,Qab,Qww,reduceIte,Ja,forall_eq,RS.op];exact hK _
 ·simp only[go_sem,Qj0,hb];refine Qk ?_;simp only[go_sem,Q3,Qab,Qww,reduceIte,Ja,forall_eq,RS.op];exact hK _
theorem Qbk5 {op:Int}(hK:∀a b:Int,K (.tup [.c (.int .i64 a),.c (.int .i64 b)]) H):Qs prog Q9y [.c (.int .i64 op)] H K:=by
 refine Qc Qaj Qbll ?_;refine Qa ?_;simp only[go_sem];refine Qy ?_;refine Qa ?_;simp only[go_sem];have ret:∀(a b:Int) (e:Env),lk 2 e=.c (.int .i64 a)→lk 3 e=.c (.int .i64 b)→Q3 Qyu K .ret e H:=by
  intro a b e h1 h2;simp only[go_sem,Q3,Qab,Qyu,List.forall_mem_cons,RS.op,h1,h2];exact hK _ _
 refine Qh (Qf ?_);refine Qy ?_;refine Qa ?_;simp only[go_sem];have r5:∀(b:Bool),Qah prog Qal1 (X.inBlock 0 (X.sq prog Q2o (Q3 Qyu K))) [(4,.c (.int .i64 op)),(5,.c (.bool b))] H:=by
  intro b;refine Qe rfl ?_ ?_
  ·intro hc;refine Qa ?_;simp only[go_sem];refine Qk ?_;simp only[go_sem];exact ret 0 0 _ (by simp[lk]) (by simp[lk])
  intro hc;refine Qy ?_;refine Qa ?_;simp only[go_sem];have r8:∀(b:Bool),Qah prog Qal0 (X.inBlock 0 (X.sq prog Q2o (Q3 Qyu K))) [(4,.c (.int .i64 op)),(8,.c (.bool b))] H:=by
   intro b;refine Qe rfl ?_ ?_
   ·intro hc;refine Qa ?_;simp only[go_sem];refine Qk ?_;simp only[go_sem];exact ret 1 1 _ (by simp[lk]) (by simp[lk])
   intro hc;refine Qa ?_;simp only[go_sem];refine Qe rfl ?_ ?_
   ·intro hc;refine Qa ?_;simp only[go_sem];refine Qk ?_;simp only[go_sem];exact ret 0 3 _ (by simp[lk]) (by simp[lk])
   ·intro hc;refine Qi ?_;simp only[go_sem];refine Qa ?_;simp only[go_sem];refine Qk ?_;exact ret 2 2 _ (by simp[lk]) (by simp[lk])
  refine Qh (Qe rfl ?_ ?_)
  ·intro hc;refine Qi ?_;simp only[go_sem];exact r8 _
  ·intro hc;refine Qq ?_;simp only[go_sem];exact r8 _
 refine Qh (Qe rfl ?_ ?_)
 ·intro hc;refine Qi ?_;simp only[go_sem];exact r5 _
 ·intro hc;refine Qq ?_;simp only[go_sem];exact r5 _
theorem Qbk7 {op:Int}(hK:K (.c (.int .i64 (if op=4 then 2 else 1))) H):Qs prog Q90 [.c (.int .i64 op)] H K:=by
 refine Qc Qaj Qbln ?_;refine Qa ?_;simp only[go_sem];refine Qy ?_;refine Qa ?_;simp only[go_sem];refine Qh (Qe rfl ?_ ?_)
 ·intro hc;refine Qa ?_;simp only[go_sem];refine Qk ?_;simp only[go_sem,Q3,Qab,Qant,reduceIte,Ja,forall_eq,RS.op];rw[if_pos (by simpa using hc)]at hK;exact hK
 ·intro hc;refine Qi ?_;simp only[go_sem];refine Qa ?_;simp only[go_sem];refine Qk ?_;simp only[go_sem,Q3,Qab,Qant,reduceIte,Ja,forall_eq,RS.op];rw[if_neg (by simpa using hc)]at hK;exact hK
end Go.AE.Y
namespace Go.AE
open Go.AE.Y
open Go.Proofs.Tryz
variable {H:Heap}{K:V→Heap→Prop}
theorem Slc.keep {H':Heap}{sz:Nat}{rows:List (List C)}{b:C}{E L:List (Nat×Obj)}(h:Slc H sz rows b)(kn:Kn H H' E L)(hE:∀l a c d,b=.vsl l a c d→l∉E.map Prod.fst):Slc H' sz rows b:=by
 obtain⟨h1,h2,h3,h4⟩:=h
 cases b with
 |sl fl z rs=>exact⟨trivial,h2,h3,h4⟩
 |vsl l z st n=>
  simp only[Go.AE.okSl]at h1
  cases ho:H l with
  |vec y rs=>
   have:=kn.chg l (by rw[ho];simp) (hE l z st n rfl);refine⟨?_,h2,?_,h4⟩
   ·simp only[Go.AE.okSl,this];exact h1
   ·simp only[Go.AE.rowsOf,this];exact h3
  |_=>rw[ho]at h1;exact h1.elim
 |_=>exact h1.elim
theorem Slc.keep0 {H':Heap}{sz:Nat}{rows:List (List C)}{b:C}{L:List (Nat×Obj)}(h:Slc H sz rows b)(kn:Kn H H' [] L):Slc H' sz rows b:=h.keep kn (by simp)
end Go.AE
namespace Go.AE.Y
open Go.Proofs.Tryz
variable {H:Heap}{K:V→Heap→Prop}
def Q8 (nx:Nat→List Int)(b:Int)(n:Nat):List Int:=((List.range n).filter fun i=>(nx i).contains b).map Int.ofNat
theorem Qir (nx:Nat→List Int)(b:Int)(n:Nat):Q8 nx b (n+1)=Q8 nx b n++if (nx n).contains b then [(n:Int)]else []:=by
 simp only[Q8,List.range_succ,List.filter_append,Jt];congr 1;cases h:(nx n).contains b
 ·simp only[Jai,h,Jak];rfl
 ·simp only[Jai,h,Jak,if_true];rfl
theorem Qcs (nx:Nat→List Int)(b:Int)(n:Nat):(Q8 nx b n).length≤n:=by
 simp only[Q8,Jf];exact Jah (List.length_filter_le _ _) (by simp)
set_option maxHeartbeats 1000000 in
theorem Qfm {p rg:Int}{bc:C}{rows:List (List C)}{nx:Nat→List Int}{b:Int}(hs:Slc H 5 rows bc)(how:bc.isOw=false)
  (hx:∀i,i<rows.length→∃a1 a2 a3 a4 fl,rows.getD i []=[a1,a2,a3,a4,.sl fl 1 (Qb (nx i))])
  (hK:∀H',Upd H H' []→K (.c (.sl false 1 (Qb (Q8 nx b rows.length)))) H'):Qs prog Qci [.ag [.int .i64 p,.int .i64 rg,bc],.c (.int .i64 b)] H K:=by
 refine Qx ?_;refine Qc Qaj Qbgp ?_;refine Qa ?_;simp only[go_sem];refine Qa ?_;simp only[go_sem];refine Qy ?_;refine Qa ?_;simp only[go_sem];have hlen:=hs.len;have hesz:=hs.sz;refine Qh (Qf (Qw (fun n e1 H1=>∃(i:Nat) (c:C) (Lg:List (Nat×Obj)),n=rows.length-i∧i≤rows.length∧Gr Lg 1 (Qb (Q8 nx b i)) c∧Kn H H1 [] ([]++Lg)∧
  e1=[(1,.c (.int .i64 b)),(2,.c (.pp [.int .i64 p,.int .i64 rg,bc])),(5,.c c),(6,.c (.int .i64 i))]) rows.length ?_ ?_))
 ·exact⟨0,_,[],by omega,by omega,.nil 1,Kn.start0 H,rfl⟩
 ·rintro n e1 H1 ⟨i,c,Lg,hn1,hi,hgr,kn,rfl⟩;have hs1:=hs.keep0 kn;have hok1:=eq_true hs1.ok;have hrw1:=hs1.rows;refine Qy ?_;refine Qa ?_;simp only[go_sem,how,hok1,hlen];intro hl;simp only[LIM]at hl;refine Qh (Qe rfl ?_ ?_)
  ·intro hc;have hlt:i<rows.length:=by simpa using hc
   obtain⟨a1,a2,a3,a4,fl,hrow⟩:=hx i hlt;refine Qi ?_;simp only[go_sem];have turn:∀(e:Env) (H2:Heap) (c':C) (Lg':List (Nat×Obj)),lk 1 e=.c (.int .i64 b)→lk 2 e=.c (.pp [.int .i64 p,.int .i64 rg,bc])→lk 5 e=.c c'→lk 6 e=.c (.int .i64 i)→
     Gr Lg' 1 (Qb (Q8 nx b (i+1))) c'→Kn H H2 [] ([]++Lg')→
     Qah prog Qaeu (X.next (fun e2 H2=>∃m,m<n∧∃(i:Nat) (c:C) (Lg:List (Nat×Obj)),m=rows.length-i∧i≤rows.length∧Gr Lg 1 (Qb (Q8 nx b i)) c∧Kn H H2 [] ([]++Lg)∧
      e2=[(1,.c (.int .i64 b)),(2,.c (.pp [.int .i64 p,.int .i64 rg,bc])),(5,.c c),(6,.c (.int .i64 i))]) (X.inBlock 0 (X.sq prog Qaev (Q3 Qaba (unK H K))))) e H2:=by
    intro e H2 c' Lg' l1 l2 l5 l6 hg' kn';refine Qq ?_;simp only[go_sem,l1,l2,l5,l6,X.next];exact⟨Qr (by omega) (by omega),rows.length-(i+1),by omega,i+1,c',Lg',rfl,by omega,hg',by simpa using kn',rfl⟩
   refine Qh (Qf ?_);refine Qa ?_;simp only[go_sem];refine Qf (Qw (fun n e1 H2=>∃(k:Nat),n=(nx i).length-k∧k≤(nx i).length∧b∉(nx i).take k∧H2=H1∧e1=[(1,.c (.int .i64 b)),(2,.c (.pp [.int .i64 p,.int .i64 rg,bc])),(5,.c c),(6,.c (.int .i64 i)),(7,.c (.int .i64 k))]) (nx i).length ?_ ?_)
   ·exact⟨0,by omega,by omega,by simp,rfl,rfl⟩
   ·rintro n e1 H2 ⟨k,hn2,hk,hno,rfl,rfl⟩;refine Qy ?_;refine Qa ?_;simp only[go_sem,how,hok1,hlen,hesz,hrw1,hlt,hrow,Qd];intro hl2;simp only[LIM]at hl2;refine Qh (Qe rfl ?_ ?_)
    ·intro hc;have hlt2:k<(nx i).length:=(by simpa using hc);have hgd:(nx i).getD k 0=(nx i)[k]:=(by simp[Jd,hlt2]);refine Qi ?_;simp only[go_sem];refine Qh (Qf ?_);refine Qa ?_;simp only[go_sem,how,hok1,hlen,hesz,hrw1,hlt,hrow,hlt2,Qd,Qn _ _ hlt2,hgd];refine Qe rfl ?_ ?_
     ·intro hc2;have hb:(nx i)[k]=b:=(by simpa using hc2);have hcon:(nx i).contains b=true:=(by rw[Jaa,←hb];exact Jb hlt2);refine Qa ?_;simp only[go_sem];have hpl:=Qcs nx b i;refine kn.grow (B:=[]) (new:=Qb [(i:Int)]) hgr (.mk' _ _ _ _) (Qp _) (by simp only[Qd,LIM,Ji,Jn];omega) fun y' H3 kn=>?_;simp only[go_sem,Q57];refine Qv ?_;have hib:((2:Nat) == 3)=false:=rfl;rw[Qbks hib];simp only[go_sem,X.next];refine turn _ _ _ _ (by simp[lk]) (by simp[lk]) (by simp[lk];rfl) (by simp[lk]) ?_ kn;rw[Qir,hcon,if_pos rfl,Qbg];exact .mk _ _ _ (by simp)
     ·intro hc2;have hb:¬(nx i)[k]=b:=(by simpa using hc2);refine Qi ?_;simp only[go_sem];refine Qq ?_;simp only[go_sem,X.next];refine⟨Qr (by omega) (by omega),(nx i).length-(k+1),by omega,k+1,rfl,by omega,?_,rfl⟩;rw[Jh hlt2];simp only[Jm,Ja,not_or];exact⟨hno,fun h=>hb h.symm⟩
    ·intro hc;have hge:(nx i).length≤k:=(by simpa using hc);rw[Jc hge]at hno;have hcon:(nx i).contains b=false:=by
      cases hcc:(nx i).contains b with
      |false=>rfl
      |true=>exact absurd (Jaa.1 hcc) hno
     refine Qv ?_;simp only[go_sem,X.next];refine turn _ _ _ _ (by simp[lk]) (by simp[lk]) (by simp[lk];rfl) (by simp[lk]) ?_ kn;rw[Qir,hcon];simpa using hgr
  ·intro hc;have hge:i=rows.length:=by have:rows.length≤i:=(by simpa using hc);omega
   subst hge;refine Qv ?_;simp only[go_sem,X.next];refine Qa ?_;simp only[go_sem];refine Qk ?_;simp only[go_sem,Q3,Qab,Qaba,reduceIte,Ja,forall_eq,RS.op];exact⟨_,.c _ _ (hgr.frz kn (Qp _)),hK _ kn.fin⟩
def Qha (op:Int):Int:=if op=1 then 0 else if op=2∨op=10∨op=11∨op=13 then 1 else if (3≤op∧op≤9)∨op=12 then 2 else -1
theorem Qa8v {op:Int}(hK:K (.c (.int .i64 (Qha op))) H):Qs prog Qpa [.c (.int .i64 op)] H K:=by
 refine Qc Qaj Qblr ?_;have retf:∀(n:Int) (e:Env),Qha op=n→lk 2 e=.c (.int .i64 n)→Q3 Qanv K .ret e H:=by
  intro b e h1 h3;simp only[go_sem,Q3,Qab,Qanv,Ja,forall_eq,RS.op,h3];rw[←h1];exact hK
 refine Qa ?_;simp only[go_sem];refine Qh (Qf ?_);refine Qa ?_;simp only[go_sem];refine Qe rfl ?_ ?_
 ·intro hc;refine Qa ?_;simp only[go_sem];refine Qk ?_;simp only[go_sem];exact retf 0 _ (by simp only[decide_eq_true_eq]at hc;simp[Qha,hc]) (by simp[lk])
 intro hc1;refine Qa ?_;simp only[go_sem];refine Qe rfl ?_ ?_
 ·intro hc;refine Qa ?_;simp only[go_sem];refine Qk ?_;simp only[go_sem];exact retf 1 _ (by simp at hc1 hc;rw[Qha,if_neg hc1,if_pos (by omega)]) (by simp[lk])
 intro hc2;refine Qa ?_;simp only[go_sem];refine Qc9 ?_;simp only[go_sem,Qad5];refine Qe rfl ?_ ?_
 ·intro hc;refine Qa ?_;simp only[go_sem];refine Qk ?_;simp only[go_sem];exact retf 2 _ (by simp at hc1 hc2 hc;rw[Qha,if_neg hc1,if_neg (by omega),if_pos (by omega)]) (by simp[lk])
 ·intro hc;refine Qi ?_;simp only[go_sem];refine Qa ?_;simp only[go_sem];refine Qk ?_;exact retf (-1) _ (by simp at hc1 hc2 hc;rw[Qha,if_neg hc1,if_neg (by omega),if_neg (by omega)]) (by simp[lk])
theorem argsN_in {op:Int}:-1≤Qha op∧Qha op≤2:=by
 rw[Qha];split
 ·omega
 ·split
  ·omega
  ·split <;> omega
theorem Qbfv {op:Int}(hK:∀n:Int,-1≤n→n≤2→K (.c (.int .i64 n)) H):Qs prog Qpa [.c (.int .i64 op)] H K:=Qa8v (hK _ argsN_in.1 argsN_in.2)
def Qdv (op:Int):Bool:=decide (1≤op∧op≤14)&&!decide (op=12)&&!decide (op=13)
theorem Qpg {op:Int}(hK:K (.c (.bool (Qdv op))) H):Qs prog Qew [.c (.int .i64 op)] H K:=by
 refine Qc Qaj Qbgo ?_;refine Qa ?_;simp only[go_sem];refine Qa ?_;simp only[go_sem];refine Qc9 ?_;simp only[go_sem,Q56];refine Qk ?_;simp only[go_sem,Q3,Qab,Qas7,reduceIte,Ja,forall_eq,RS.op];have:∀a b c:Bool,(bif bif a then b else false then c else false)=(a&&b&&c):=by decide
 rw[this];exact hK
def Qpw (rg:Int)(l:List Int):Bool:=l.all fun x=>decide (0≤x∧x≤rg-1)
theorem Qbbh {rg:Int}{l:List Int}{i:Nat}(hi:i<l.length):Qpw rg (l.take (i+1))=(Qpw rg (l.take i)&&decide (0≤l.getD i 0∧l.getD i 0≤rg-1)):=by
 have e:l.getD i 0=l[i]:=by simp[Jd,hi]
 rw[Qpw,Jh hi,Jaj,e];simp[Qpw]
theorem Qbg9 {rg:Int}{l:List Int}{i:Nat}(hi:i<l.length)(h:decide (0≤l.getD i 0∧l.getD i 0≤rg-1)=false):Qpw rg l=false:=by
 have e:l.getD i 0=l[i]:=by simp[Jd,hi]
 cases hc:Qpw rg l with
 |false=>rfl
 |true=>
  rw[Qpw,J6]at hc;have:=hc _ (Jb hi);rw[e]at h;rw[h]at this;exact absurd this (by simp)
theorem Qa8w {p rg:Int}{bc:C}{fl:Bool}{l:List Int}(hr:-(2^62)≤rg)(hr2:rg≤2^62)(hK:K (.c (.bool (Qpw rg l))) H) :
  Qs prog Qyb [.ag [.int .i64 p,.int .i64 rg,bc],.c (.sl fl 1 (Qb l))] H K:=by
 refine Qc Qaj Qblv ?_;have retf:∀(b:Bool) (e:Env),Qpw rg l=b→lk 4 e=.c (.bool b)→Q3 Qanw K .ret e H:=by
  intro b e h1 h3;simp only[go_sem,Q3,Qab,Qanw,Ja,forall_eq,RS.op,h3];rw[←h1];exact hK
 refine Qa ?_;simp only[go_sem];refine Qy ?_;refine Qa ?_;simp only[go_sem];refine Qh (Qf (Qw (fun n e1 H1=>∃(i:Nat),n=l.length-i∧i≤l.length∧H1=H∧Qpw rg (l.take i)=true∧e1=[(1,.c (.sl fl 1 (Qb l))),(2,.c (.pp [.int .i64 p,.int .i64 rg,bc])),(5,.c (.int .i64 i))]) l.length ?_ ?_))
 ·exact⟨0,by omega,by omega,rfl,rfl,rfl⟩
 ·rintro n e1 H1 ⟨i,hn1,hi,rfl,hall,rfl⟩;refine Qy ?_;refine Qa ?_;simp only[go_sem,Qd];intro hl;simp only[LIM]at hl;refine Qh (Qe rfl ?_ ?_)
  ·intro hc;have hlt:i<l.length:=by simpa using hc
   refine Qi ?_;simp only[go_sem];refine Qh (Qf ?_);refine Qag ?_;simp only[go_sem,hlt,Qd,Qn _ _ hlt];refine⟨Qr (by omega) (by omega),?_⟩;refine Qc9 ?_;simp only[go_sem,Qaew];refine Qe rfl ?_ ?_
   ·intro hc2;refine Qa ?_;simp only[go_sem];refine Qk ?_;simp only[go_sem,X.next];exact retf false _ (Qbg9 hlt (Qt3 hc2)) (by simp[lk])
   ·intro hc2;refine Qi ?_;simp only[go_sem];refine Qq ?_;simp only[go_sem,X.next];exact⟨Qr (by omega) (by omega),l.length-(i+1),by omega,i+1,rfl,by omega,by rw[Qbbh hlt,hall,Qez hc2];rfl,rfl⟩
  ·intro hc;have hge:l.length≤i:=by simpa using hc
   rw[Jc hge]at hall;refine Qv ?_;simp only[go_sem,X.next];refine Qa ?_;simp only[go_sem];refine Qk ?_;exact retf true _ hall (by simp[lk])
def rgOf (cs:List CodeD)(k:Nat):Int:=(cs[k]?.map CodeD.regs).getD 0
def pmOf (cs:List CodeD)(k:Nat):Int:=(cs[k]?.map CodeD.params).getD 0
theorem Qa10 {cs:List CodeD}{k:Nat}(h:k<cs.length):rgOf cs k=cs[k].regs:=by simp[rgOf,h]
theorem Qanq {cs:List CodeD}{k:Nat}(h:k<cs.length):pmOf cs k=cs[k].params:=by simp[pmOf,h]
def insH (rg:Int)(x:InsD):Bool:=decide (1≤x.op∧x.op≤14)&&Qpw rg x.args
def insT (rg:Int)(x:InsD):Bool:=if Qdv x.op then decide (0≤x.to∧x.to≤rg-1)else decide (x.to=-1)
def insL (cs:List CodeD)(k:Nat)(x:InsD):Bool:=
 if x.op=14 then decide (0≤x.n∧x.n≤(k:Int)-1)&&decide ((x.args.length:Int)=pmOf cs x.n.toNat)
 else decide ((x.args.length:Int)=Qha x.op)&&decide (0≤x.n∧x.n≤255)&&(decide (x.n=0) || decide (x.op=1))
def Q6l (cs:List CodeD)(k:Nat)(x:InsD):Bool:=insH (rgOf cs k) x&&insT (rgOf cs k) x&&insL cs k x
set_option maxHeartbeats 1000000 in
theorem Qbp6 {cs:List CodeD}{fl:Bool}{k:Nat}{x:InsD}(hk:k<cs.length)(hr:0≤cs[k].regs)(hr2:cs[k].regs≤300)(hcl:cs.length≤100)(hK:∀(H':Heap),Upd H H' []→K (.c (.bool (Q6l cs k x))) H') :
  Qs prog Qams [.ag [.sl fl 3 (Qj cs)],.c (.int .i64 k),.ag x.cells] H K:=by
 refine Qx ?_;refine Qc Qaj Qbqh ?_;refine Qa ?_;simp only[go_sem,InsD.cells];refine Qa ?_;simp only[go_sem,hk,Q4,Qam _ _ hk,CodeD.cells];intro x7 hx7 H1 h1;have kn:=(Kn.start0 H).al hx7 h1;have hx71:=kn.l 0 rfl;simp only[go_sem,Qal6,hx71];intro H2 h2;have kn:=kn.stL 0 rfl h2;have hx72:=kn.l 0 rfl;have hrg:=Qa10 hk;have retf:∀(b:Bool) (e:Env),Q6l cs k x=b→lk 6 e=.c (.bool b)→Q3 Qaa9 (unK H K) .ret e H2:=by
  intro b e h1 h3;simp only[go_sem,Q3,Qab,Qaa9,Ja,forall_eq,RS.op,h3];rw[←h1];exact⟨_,.c _ _ (Qg rfl),hK _ kn.fin⟩
 refine Qy ?_;refine Qa ?_;simp only[go_sem];refine Qc9 ?_;simp only[go_sem,Qal7,hx72];have rest:∀(E1:Env) (b:Bool),insH cs[k].regs x=(!b)→lk 1 E1=.c (.int .i64 k)→lk 3 E1=.c (.pp [.sl fl 3 (Qj cs)])→lk 5 E1=.c (.pp [.int .i64 x.op,.int .i64 x.to,.sl false 1 (Qb x.args),.int .i64 x.n])→lk 7 E1=.c (.ptr x7 0)→lk 23 E1=.c (.bool b)→
   Qah prog (s_l7Ins_3.seq Qal5) (Q3 Qaa9 (unK H K)) E1 H2:=by
  intro E1 b hb l1 l3 l5 l7 l23;refine Qh (Qe l23 ?_ ?_)
  ·intro hc;refine Qa ?_;simp only[go_sem];refine Qk ?_;simp only[go_sem];exact retf false _ (by rw[Q6l,hrg,hb,hc];rfl) (by simp[lk])
  intro hc;rw[hc]at hb;refine Qi ?_;simp only[go_sem];refine Qy ?_;refine Qag ?_;simp only[go_sem,l1,l3,l5,l7,hx72];refine⟨Qr (by omega) (by omega),?_⟩;refine Qpg ?_;simp only[go_sem,Qal9,l1,l3,l5,l7,hx72];refine Qc9 ?_;simp only[go_sem,Qal8,l1,l3,l5,l7,hx72];have rest2:∀(E1:Env) (b:Bool),insT cs[k].regs x=(!b)→lk 1 E1=.c (.int .i64 k)→lk 3 E1=.c (.pp [.sl fl 3 (Qj cs)])→lk 5 E1=.c (.pp [.int .i64 x.op,.int .i64 x.to,.sl false 1 (Qb x.args),.int .i64 x.n])→lk 44 E1=.c (.bool b)→
    Qah prog (s_l7Ins_7.seq Qal4) (Q3 Qaa9 (unK H K)) E1 H2:=by
   intro E1 b hb2 l1 l3 l5 l44;refine Qh (Qe l44 ?_ ?_)
   ·intro hc;refine Qa ?_;simp only[go_sem];refine Qk ?_;simp only[go_sem];exact retf false _ (by rw[Q6l,hrg,hb2,hc];simp) (by simp[lk])
   intro hc;rw[hc]at hb2;have hG:Q6l cs k x=insL cs k x:=by rw[Q6l,hrg,hb,hb2];rfl
   refine Qi ?_;simp only[go_sem];refine Qy ?_;refine Qa ?_;simp only[go_sem,l1,l3,l5];refine Qh (Qe rfl ?_ ?_)
   ·intro hc;have hop:x.op=14:=of_decide_eq_true hc;rw[insL,if_pos hop]at hG;refine Qag ?_;simp only[go_sem];refine⟨Qr (by omega) (by omega),?_⟩;refine Qc9 ?_;by_cases hin:0≤x.n∧x.n≤(k:Int)-1
    ·obtain⟨m,hm⟩:=Jq hin.1;have hmk:m<cs.length:=(by omega);have hin':(0≤(m:Int)∧(m:Int)≤(k:Int)-1)=True:=eq_true (by rw[←hm];exact hin);simp only[go_sem,Qtz,hm,hin',hmk,decide_true,Q4,Qam _ _ hmk,CodeD.cells,Qd];refine Qk ?_;refine retf _ _ ?_ (by simp[lk];rfl);rw[hG,hm,Int.toNat_natCast,Qanq hmk];simp only[hin',decide_true,Bool.true_and];simp[show ((m:Int)≤(k:Int)-1) from by omega]
    ·have hin':decide (0≤x.n∧x.n≤(k:Int)-1)=false:=(by simpa using hin);by_cases hm:x.n.toNat<cs.length
     ·simp only[go_sem,Qtz,hin',Qam _ _ hm,CodeD.cells];refine Qk ?_;exact retf false _ (by rw[hG,hin'];rfl) (by simp[lk])
     ·have hgd:(Qj cs).getD x.n.toNat []=[]:=by
       rw[Jd,List.getElem?_eq_none (by rw[Q4];omega)];rfl
      simp only[go_sem,Qtz,hin',hgd,Jap,List.headD_nil];refine Qk ?_;exact retf false _ (by rw[hG,hin'];rfl) (by simp[lk])
   ·intro hc;have hop:¬x.op=14:=of_decide_eq_false hc;rw[insL,if_neg hop]at hG;refine Qi ?_;simp only[go_sem];refine Qag ?_;simp only[go_sem];refine Qa8v ?_;simp only[go_sem,Qaet];refine⟨fun hb=>?_,fun hb=>?_⟩
    ·refine Qc9 ?_;simp only[go_sem,Qxw];refine Qk ?_;refine retf _ _ ?_ (by simp[lk];rfl);have hb':(x.args.length:Int)=Qha x.op:=(by simpa[Qd]using hb);rw[hG];simp[hb',Qd]
    ·simp only[go_sem,Qxw,hb];refine Qk ?_;refine retf _ _ ?_ (by simp[lk];rfl);have hb':¬(x.args.length:Int)=Qha x.op:=(by simpa[Qd]using hb);rw[hG];simp[hb']
  refine⟨fun hb=>?_,fun hb=>?_⟩
  ·refine Qpg ?_;simp only[go_sem,Q2r,l1,l3,l5,l7];refine rest2 _ _ ?_ (by simp[lk]) (by simp[lk]) (by simp[lk]) (by simp[lk];rfl)
   cases hmk:Qdv x.op with
   |true=>simp[insT,hmk]
   |false=>by_cases h:x.to=-1 <;> simp[insT,hmk,h]
  ·replace hb:=Qez hb;simp only[go_sem,Q2r,l1,l3,l5,l7,hb];refine rest2 _ true ?_ (by simp[lk]) (by simp[lk]) (by simp[lk]) (by simp[lk])
   cases hmk:Qdv x.op with
   |true=>simp[hmk]at hb;simp[insT,hmk];omega
   |false=>simp[hmk]at hb;simp[insT,hmk];omega
 refine⟨fun hb=>?_,fun hb=>?_⟩
 ·refine Qa8w (by omega) (by omega) ?_;simp only[go_sem,Q2q];refine rest _ _ ?_ (by simp[lk]) (by simp[lk]) (by simp[lk]) (by simp[lk]) (by simp[lk];rfl);simp[insH]
 ·replace hb:=Qez hb;simp only[go_sem,Q2q,hb];refine rest _ true ?_ (by simp[lk]) (by simp[lk]) (by simp[lk]) (by simp[lk]) (by simp[lk]);rw[insH,Qt3 hb];rfl
theorem InsD.take4 (x:InsD):x.cells.take 4=x.cells:=rfl
theorem InsD.allOw (x:InsD):(x.cells.all fun c=>!c.isOw)=true:=rfl
theorem InsD.len4 (x:InsD):x.cells.length=4:=rfl
theorem Qboy (l:List BlkD)(i:Nat)(h:i<(Qm l).length):∃a1 a2 a3 a4 fl,(Qm l).getD i []=[a1,a2,a3,a4,.sl fl 1 (Qb ((l.map BlkD.next).getD i []))]:=by
 rw[Qo]at h;rw[Qaa _ _ h];have:(l.map BlkD.next).getD i []=l[i].next:=by simp[Jd,h]
 exact⟨.sl false 2 (Q1 l[i].phis),.sl false 4 (Qaq l[i].ins),.int .i64 l[i].jump,.int .i64 l[i].on,false,by rw[this];rfl⟩
set_option maxHeartbeats 3000000 in
theorem Q83 {α:Type}{p:α→Bool}{l:List α}{i:Nat}(hi:i<l.length):(l.take (i+1)).all p=((l.take i).all p&&p l[i]):=by
 rw[Jh hi,Jaj];simp
theorem Qamh {α:Type}{p:α→Bool}{l:List α}{i:Nat}(hi:i<l.length)(h:p l[i]=false):l.all p=false:=by
 cases hc:l.all p with
 |false=>rfl
 |true=>rw[J6.1 hc _ (Jb hi)]at h;exact absurd h (by simp)
def Qd1 (j:Int):Int:=if j=1 then 1 else if j=2 then 2 else if j=3 then 0 else -1
def Qor (rg:Int)(y:BlkD):Bool:=decide ((y.next.length:Int)=Qd1 y.jump)&&if y.jump=1 then decide (y.on=0)else decide (0≤y.on∧y.on≤rg-1)
def Q6q (n:Nat)(x:Int):Bool:=decide (1≤x∧x≤(n:Int)-1)
def phiG (rg:Int)(np b:Nat)(x:PhiD):Bool:=!decide (b=0)&&decide ((x.args.length:Int)=np)&&Qpw rg x.args&&decide (0≤x.to∧x.to≤rg-1)
def Q84 (cs:List CodeD)(k b:Nat)(q:CodeD)(y:BlkD):Bool:=
 Qor q.regs y&&y.next.all (Q6q (Qm q.blocks).length)&&y.ins.all (Q6l cs k)&&y.phis.all (phiG q.regs (Q8 (fun i=>(q.blocks.map BlkD.next).getD i []) (b:Int) (Qm q.blocks).length).length b)
theorem Qbea {cs:List CodeD}{k b:Nat}{q:CodeD}{y:BlkD}(h:Q84 cs k b q y=true):y.next.length≤2:=by
 simp only[Q84,Qor,Jv,decide_eq_true_eq]at h;have:=h.1.1.1.1;rw[Qd1]at this;split at this
 ·omega
 ·split at this
  ·omega
  ·split at this <;> omega
set_option maxHeartbeats 1000000 in
theorem Qbfw {cs:List CodeD}{fl:Bool}{k b:Nat}(hk:k<cs.length)(hbk:b<cs[k].blocks.length)(hr:0≤cs[k].regs)(hr2:cs[k].regs≤300)(hcl:cs.length≤100)(hbl:cs[k].blocks.length≤200)(hK:∀(H':Heap),Upd H H' []→K (.c (.bool (Q84 cs k b cs[k] cs[k].blocks[b]))) H') :
  Qs prog Q1i [.ag [.sl fl 3 (Qj cs)],.c (.int .i64 k),.c (.int .i64 b)] H K:=by
 refine Qx ?_;refine Qc Qaj Qbgn ?_;have retf:∀(v:Bool) (e:Env) (H':Heap) (L:List (Nat×Obj)),Q84 cs k b cs[k] cs[k].blocks[b]=v→Kn H H' [] L→lk 6 e=.c (.bool v)→Q3 Qkk (unK H K) .ret e H':=by
  intro v e H' L hb kn h3;simp only[go_sem,Q3,Qab,Qkk,Ja,forall_eq,RS.op,h3];rw[←hb];exact⟨_,.c _ _ (Qg rfl),hK _ kn.fin⟩
 refine Qa ?_;simp only[go_sem];refine Qa ?_;simp only[go_sem,hk,Q4,Qam _ _ hk,CodeD.cells];intro x7 hx7 H1 h1;have kn:=(Kn.start0 H).al hx7 h1;have hx71:=kn.l 0 rfl;simp only[go_sem,Q5v,hx71];intro H2 h2;have kn:=kn.stL 0 rfl h2;have hx72:=kn.l 0 rfl;refine Qa ?_;simp only[go_sem,hx72,hbk,Qo,Qaa _ _ hbk,BlkD.cells];obtain⟨y,hy⟩:∃y,cs[k].blocks[b]=y:=⟨_,rfl⟩;rw[hy];intro x8 hx8 H3 h3;have kn:=kn.al hx8 h3;have hx83:=kn.l 1 rfl;simp only[go_sem,Q5w,hx83];intro H4 h4;have kn:Kn H H4 [] [(x7,.st [.int .i64 cs[k].params,.int .i64 cs[k].regs,.sl false 5 (Qm cs[k].blocks)]),(x8,.st [.sl false 2 (Q1 y.phis),.sl false 4 (Qaq y.ins),.int .i64 y.jump,.int .i64 y.on,.sl false 1 (Qb y.next)])]:=kn.stL 1 rfl h4;obtain⟨q,hq⟩:∃q,cs[k]=q:=⟨_,rfl⟩;have hGe:Q84 cs k b cs[k] cs[k].blocks[b]=Q84 cs k b q y:=by rw[hy,hq]
 rw[hGe]at retf;rw[hq]at kn hr hr2 hbk hbl;generalize hnp:(Q8 (fun i=>(q.blocks.map BlkD.next).getD i []) (b:Int) (Qm q.blocks).length).length=np;have hGd:Q84 cs k b q y=(Qor q.regs y&&y.next.all (Q6q (Qm q.blocks).length)&&y.ins.all (Q6l cs k)&&y.phis.all (phiG q.regs np b)):=by rw[Q84,hnp]
 refine Qa ?_;simp only[go_sem];have hx74:=kn.l 0 rfl;have hx84:=kn.l 1 rfl;refine Qy ?_;refine Qa ?_;simp only[go_sem,hx84];have rest31:∀(want:Int) (E1:Env),Qd1 y.jump=want→(y.jump=1→y.on=0)→lk 1 E1=.c (.int .i64 k)→lk 2 E1=.c (.int .i64 b)→lk 3 E1=.c (.pp [.sl fl 3 (Qj cs)])→lk 7 E1=.c (.ptr x7 0)→lk 8 E1=.c (.ptr x8 0)→lk 9 E1=.c (.int .i64 want)→
   Qah prog Q5u (Q3 Qkk (unK H K)) E1 H4:=by
  intro want E1 hw hjo l1 l2 l3 l7 l8 l9;refine Qy ?_;refine Qa ?_;simp only[go_sem,l1,l2,l3,l7,l8,l9,hx74,hx84,Qd];intro hnl;simp only[LIM]at hnl;refine⟨fun _=>Qr (by omega) (by omega),?_⟩;have rest8:∀(b1:Bool) (E1:Env),Qor q.regs y=(!b1)→lk 1 E1=.c (.int .i64 k)→lk 2 E1=.c (.int .i64 b)→lk 3 E1=.c (.pp [.sl fl 3 (Qj cs)])→lk 7 E1=.c (.ptr x7 0)→lk 8 E1=.c (.ptr x8 0)→lk 53 E1=.c (.bool b1)→
    Qah prog (s_l7Block_8.seq Q5t) (Q3 Qkk (unK H K)) E1 H4:=by
   intro b1 E1 hn2 l1 l2 l3 l7 l8 l53;refine Qh (Qe l53 ?_ ?_)
   ·intro hc;refine Qa ?_;simp only[go_sem];refine Qk ?_;simp only[go_sem];exact retf false _ _ _ (by rw[hGd,hn2,hc];simp) kn (by simp[lk])
   intro hbf;rw[hbf]at hn2;refine Qi ?_;simp only[go_sem];refine Qy ?_;refine Qa ?_;simp only[go_sem,l1,l2,l3,l7,l8];refine Qh (Qf (Qw (fun n e1 H1=>∃(i:Nat),n=y.next.length-i∧i≤y.next.length∧H1=H4∧(y.next.take i).all (Q6q (Qm q.blocks).length)=true∧e1=[(1,.c (.int .i64 k)),(2,.c (.int .i64 b)),(3,.c (.pp [.sl fl 3 (Qj cs)])),(7,.c (.ptr x7 0)),(8,.c (.ptr x8 0)),(10,.c (.int .i64 i))]) y.next.length ?_ ?_))
   ·exact⟨0,by omega,by omega,rfl,rfl,rfl⟩
   ·rintro n e1 H1 ⟨i,hn1,hi,rfl,hall1,rfl⟩;refine Qy ?_;refine Qa ?_;simp only[go_sem,hx84,Qd];refine fun _=>?_;refine Qh (Qe rfl ?_ ?_)
    ·intro hc;have hlt:i<y.next.length:=(by simpa using hc);have hgd:y.next.getD i 0=y.next[i]:=(by simp[Jd,hlt]);have hng:Q6q (Qm q.blocks).length y.next[i]=decide (1≤y.next.getD i 0∧y.next.getD i 0≤(q.blocks.length:Int)-1):=(by rw[hgd,Q6q,Qo]);refine Qi ?_;simp only[go_sem];refine Qh (Qf ?_);refine Qag ?_;simp only[go_sem,hx84,hx74,hlt,Qd,Qn _ _ hlt,Qo];refine⟨Qr (by omega) (by omega),?_⟩;refine Qc9 ?_;simp only[go_sem,Q5x];refine Qe rfl ?_ ?_
     ·intro hc2;refine Qa ?_;simp only[go_sem];refine Qk ?_;simp only[go_sem,X.next];exact retf false _ _ _ (by rw[hGd,Qamh hlt (by rw[hng];exact Qt3 hc2)];simp) kn (by simp[lk])
     ·intro hc2;refine Qi ?_;simp only[go_sem];refine Qq ?_;simp only[go_sem,X.next];exact⟨Qr (by omega) (by omega),y.next.length-(i+1),by omega,i+1,rfl,by omega,by rw[Q83 hlt,←Qo q.blocks,hall1,hng,Qez hc2];rfl,rfl⟩
    ·intro hc;have hge:y.next.length≤i:=(by simpa using hc);rw[Jc hge]at hall1;refine Qv ?_;simp only[go_sem,X.next];refine Qy ?_;refine Qa ?_;simp only[go_sem];refine Qh (Qf (Qw (fun n e1 H1=>∃(i:Nat),n=y.ins.length-i∧i≤y.ins.length∧Kn H H1 [] [(x7,.st [.int .i64 q.params,.int .i64 q.regs,.sl false 5 (Qm q.blocks)]),(x8,.st [.sl false 2 (Q1 y.phis),.sl false 4 (Qaq y.ins),.int .i64 y.jump,.int .i64 y.on,.sl false 1 (Qb y.next)])]∧(y.ins.take i).all (Q6l cs k)=true∧
      e1=[(1,.c (.int .i64 k)),(2,.c (.int .i64 b)),(3,.c (.pp [.sl fl 3 (Qj cs)])),(7,.c (.ptr x7 0)),(8,.c (.ptr x8 0)),(11,.c (.int .i64 i))]) y.ins.length ?_ ?_))
     ·exact⟨0,by omega,by omega,kn,rfl,rfl⟩
     ·rintro n e1 H5 ⟨i,hn1,hi,kn,hall2,rfl⟩;have hx75:=kn.l 0 rfl;have hx85:=kn.l 1 rfl;refine Qy ?_;refine Qa ?_;simp only[go_sem,hx85,Qal];intro hil;simp only[LIM]at hil;refine Qh (Qe rfl ?_ ?_)
      ·intro hc;have hlt:i<y.ins.length:=(by simpa using hc);refine Qi ?_;simp only[go_sem];refine Qh (Qf ?_);refine Qag ?_;simp only[go_sem,hx85,hx75,hlt,Qal,Qb7 _ _ hlt,InsD.take4,InsD.allOw,InsD.len4];refine Qbp6 hk (by rw[hq];omega) (by rw[hq];omega) hcl fun H6 hu=>?_;have kn:=kn.call0 hu;simp only[go_sem,Q0m];refine Qe rfl ?_ ?_
       ·intro hc2;refine Qa ?_;simp only[go_sem];refine Qk ?_;simp only[go_sem,X.next];exact retf false _ _ _ (by rw[hGd,Qamh hlt (Qt3 hc2)];simp) kn (by simp[lk])
       ·intro hc2;refine Qi ?_;simp only[go_sem];refine Qq ?_;simp only[go_sem,X.next];exact⟨Qr (by omega) (by omega),y.ins.length-(i+1),by omega,i+1,rfl,by omega,kn,by rw[Q83 hlt,hall2,Qez hc2];rfl,rfl⟩
      ·intro hc;have hge:y.ins.length≤i:=(by simpa using hc);rw[Jc hge]at hall2;refine Qv ?_;simp only[go_sem,X.next];refine Qa ?_;simp only[go_sem,hx75];refine Qfm (rows:=Qm q.blocks) (nx:=fun i=>(q.blocks.map BlkD.next).getD i []) (.mk' _ _ _ _) rfl (Qboy q.blocks) fun H6 hu=>?_;have kn:=kn.call0 hu;simp only[go_sem,Q0n];refine Qy ?_;refine Qa ?_;simp only[go_sem];obtain⟨ps,hps⟩:∃ps,Q8 (fun i=>(q.blocks.map BlkD.next).getD i []) (b:Int) (Qm q.blocks).length=ps:=⟨_,rfl⟩;rw[hps];rw[hps]at hnp;have hx76:=kn.l 0 rfl;have hx86:=kn.l 1 rfl;refine Qh (Qf (Qw (fun n e1 H1=>∃(i:Nat),n=y.phis.length-i∧i≤y.phis.length∧H1=H6∧(y.phis.take i).all (phiG q.regs np b)=true∧
        e1=[(2,.c (.int .i64 b)),(7,.c (.ptr x7 0)),(8,.c (.ptr x8 0)),(12,.c (.sl false 1 (Qb ps))),(13,.c (.int .i64 i))]) y.phis.length ?_ ?_))
       ·exact⟨0,by omega,by omega,rfl,rfl,rfl⟩
       ·rintro n e1 H7 ⟨i,hn1,hi,rfl,hall3,rfl⟩;refine Qy ?_;refine Qa ?_;simp only[go_sem,hx86,Q0];intro hpl;simp only[LIM]at hpl;refine Qh (Qe rfl ?_ ?_)
        ·intro hc;have hlt:i<y.phis.length:=(by simpa using hc);refine Qi ?_;simp only[go_sem];refine Qh (Qf ?_);have fin:∀(b3:Bool) (E1:Env),phiG q.regs np b y.phis[i]=(!b3)→lk 2 E1=.c (.int .i64 b)→lk 7 E1=.c (.ptr x7 0)→lk 8 E1=.c (.ptr x8 0)→lk 12 E1=.c (.sl false 1 (Qb ps))→lk 13 E1=.c (.int .i64 i)→lk 135 E1=.c (.bool b3)→
           Qah prog Q5q (X.inBlock 6 (X.sq prog Q5r (X.next (fun e2 H2=>∃m,m<n∧∃(i:Nat),m=y.phis.length-i∧i≤y.phis.length∧H2=H7∧(y.phis.take i).all (phiG q.regs np b)=true∧
            e2=[(2,.c (.int .i64 b)),(7,.c (.ptr x7 0)),(8,.c (.ptr x8 0)),(12,.c (.sl false 1 (Qb ps))),(13,.c (.int .i64 i))]) (X.inBlock 5 (X.sq prog Q5s (Q3 Qkk (unK H K))))))) E1 H7:=by
          intro b3 E1 hph l2 l7 l8 l12 l13 l135;refine Qe l135 ?_ ?_
          ·intro hc2;refine Qa ?_;simp only[go_sem];refine Qk ?_;simp only[go_sem,X.next];exact retf false _ _ _ (by rw[hGd,Qamh hlt (by rw[hph,hc2];rfl)];simp) kn (by simp[lk])
          ·intro hc2;refine Qi ?_;simp only[go_sem];refine Qq ?_;simp only[go_sem,X.next,l2,l7,l8,l12,l13];exact⟨Qr (by omega) (by omega),y.phis.length-(i+1),by omega,i+1,rfl,by omega,by rw[Q83 hlt,hall3,hph,hc2];rfl,rfl⟩
         refine Qag ?_;simp only[go_sem,hx86,hx76,hlt,Q0,Qaw _ _ hlt,PhiD.cells,Qd];refine⟨fun hb1=>?_,fun hb1=>?_⟩
         ·refine Qa8w (by omega) (by omega) ?_;simp only[go_sem,Qms,hx86,hx76,hlt,Q0,Qaw _ _ hlt,PhiD.cells];refine⟨fun _=>Qr (by omega) (by omega),?_⟩;refine⟨fun hb2=>?_,fun hb2=>?_⟩
          ·refine Qc9 ?_;simp only[go_sem,Qg5];refine fin _ _ ?_ (by simp[lk]) (by simp[lk]) (by simp[lk]) (by simp[lk]) (by simp[lk]) (by simp[lk];rfl);simp[phiG,←hnp]
          ·replace hb2:=Qez hb2;simp only[go_sem,Qg5,hb2];refine fin true _ ?_ (by simp[lk]) (by simp[lk]) (by simp[lk]) (by simp[lk]) (by simp[lk]) (by simp[lk]);subst hnp;simp at hb2;simp[phiG];intro h1 h2 h3;simp[h1,h2,h3]at hb2
         ·replace hb1:=Qez hb1;simp only[go_sem,Qms,Qg5,hb1,hx86,hx76,hlt,Q0,Qaw _ _ hlt,PhiD.cells];refine fin true _ ?_ (by simp[lk]) (by simp[lk]) (by simp[lk]) (by simp[lk]) (by simp[lk]) (by simp[lk]);subst hnp;simp at hb1;simp[phiG];intro h1 h2 h3;simp[h1,h2]at hb1
        ·intro hc;have hge:y.phis.length≤i:=(by simpa using hc);rw[Jc hge]at hall3;refine Qv ?_;simp only[go_sem,X.next];refine Qa ?_;simp only[go_sem];refine Qk ?_;exact retf true _ _ _ (by rw[hGd,hn2,hall1,hall2,hall3];rfl) kn (by simp[lk])
  refine⟨fun hb1=>?_,fun hb1=>?_⟩
  ·refine Qc9 ?_;simp only[go_sem,Qi5,hb1,l1,l2,l3,l7,l8];refine rest8 _ _ ?_ (by simp[lk]) (by simp[lk]) (by simp[lk]) (by simp[lk]) (by simp[lk]) (by simp[lk];rfl);by_cases hlw:(y.next.length:Int)=want
   ·by_cases hj:y.jump=1
    ·simp[hlw,hj]at hb1
    ·simp[Qor,hw,hlw,hj]
   ·simp[hlw]at hb1
  ·by_cases hlw:(y.next.length:Int)=want
   ·by_cases hj:y.jump=1
    ·simp only[go_sem,Qi5,hlw,hj,l1,l2,l3,l7,l8,decide_true,decide_false,cond_true,cond_false];have hw1:Qd1 1=want:=(by rw[←hj];exact hw);refine rest8 _ _ ?_ (by simp[lk]) (by simp[lk]) (by simp[lk]) (by simp[lk]) (by simp[lk]) (by simp[lk];rfl);simp[Qor,hw1,hlw,hj,hjo hj]
    ·simp[hlw,hj]at hb1
   ·simp only[go_sem,Qi5,hlw,l1,l2,l3,l7,l8,decide_true,decide_false,cond_true,cond_false];by_cases hj:y.jump=1
    ·simp only[go_sem,hj,decide_true,decide_false,cond_true,cond_false];exact rest8 true _ (by simp[Qor,hw,hlw]) (by simp[lk]) (by simp[lk]) (by simp[lk]) (by simp[lk]) (by simp[lk]) (by simp[lk])
    ·simp only[go_sem,hj,decide_true,decide_false,cond_true,cond_false];exact rest8 true _ (by simp[Qor,hw,hlw]) (by simp[lk]) (by simp[lk]) (by simp[lk]) (by simp[lk]) (by simp[lk]) (by simp[lk])
 refine Qh (Qf ?_);refine Qa ?_;simp only[go_sem];refine Qe rfl ?_ ?_
 ·intro hc;refine Qa ?_;simp only[go_sem,hx84];refine Qe rfl ?_ ?_
  ·intro hc2;refine Qa ?_;simp only[go_sem];refine Qk ?_;simp only[go_sem];exact retf false _ _ _ (by simp at hc hc2;rw[hGd];simp[Qor,hc,hc2]) kn (by simp[lk])
  ·intro hc2;refine Qi ?_;simp only[go_sem];exact rest31 1 _ (by simp at hc;simp[Qd1,hc]) (fun _=>by simpa using hc2) (by simp[lk]) (by simp[lk]) (by simp[lk]) (by simp[lk]) (by simp[lk]) (by simp[lk])
 intro hc1;refine Qa ?_;simp only[go_sem];refine Qe rfl ?_ ?_
 ·intro hc;refine Qq ?_;simp only[go_sem];exact rest31 2 _ (by simp at hc;simp[Qd1,hc]) (fun h=>by simp at hc1;exact absurd h hc1) (by simp[lk]) (by simp[lk]) (by simp[lk]) (by simp[lk]) (by simp[lk]) (by simp[lk])
 intro hc2;refine Qa ?_;simp only[go_sem];refine Qe rfl ?_ ?_
 ·intro hc;refine Qq ?_;simp only[go_sem];exact rest31 0 _ (by simp at hc;simp[Qd1,hc]) (fun h=>by simp at hc1;exact absurd h hc1) (by simp[lk]) (by simp[lk]) (by simp[lk]) (by simp[lk]) (by simp[lk]) (by simp[lk])
 ·intro hc;refine Qa ?_;simp only[go_sem];refine Qk ?_;simp only[go_sem];exact retf false _ _ _ (by simp at hc1 hc2 hc;rw[hGd];simp[Qor,Qd1,hc1,hc2,hc]) kn (by simp[lk])
set_option maxHeartbeats 3000000 in
theorem Qyh {b:BlkD}(hb:b.sg)(hK:∀(o:OBlk) (H':Heap),Kn H H' [] o.lg→o.ok→o.d=b→(∀p∈o.phis,p.own)→K (.ag o.row) H'):Qs prog Qfb [.ag b.cells] H K:=by
 have hbn:=hb.n;have hbi:=hb.i;have hbp:=hb.p;refine Qcb ?_;refine Qc Qaj Qanh ?_;refine Qa ?_;simp only[go_sem,BlkD.cells];intro x2 hx2 H1 h1;have kn:=(Kn.start0 H).al hx2 h1;refine Qag ?_;simp only[go_sem,Qd,Jp,Jg];refine⟨.inl trivial,Qp _,by simp only[LIM];omega,fun y hy H2 h2=>?_⟩;have kn:=kn.al hy h2;simp only[go_sem,Qnx];intro x3 hx3 H3 h3;have kn:=kn.al hx3 h3;have hx33:=kn.l 2 rfl;simp only[go_sem,Qnw,hx33];intro H4 h4;have kn:=kn.stL 2 rfl h4;obtain⟨nx,hnx⟩:∃nx:OInts,nx=⟨b.next,y⟩:=⟨_,rfl⟩;have hnc:C.vsl y 1 0 b.next.length=nx.c:=by rw[hnx];rfl
 have hnl:[(y,Obj.vec 1 (Qb b.next))]=nx.lg:=by rw[hnx];rfl
 rw[hnc]at kn;have kn:Kn H H4 [] ([(x2,.st [.sl true 2 [],.sl true 4 [],.int .i64 0,.int .i64 0,.sl true 1 []]),(x3,.st [.sl true 2 [],.sl true 4 [],.int .i64 b.jump,.int .i64 b.on,nx.c])]++nx.lg):=kn.perm (by
  rw[←hnl];exact .cons _ (.swap _ _ _))
 refine Qy ?_;refine Qa ?_;simp only[go_sem];refine Qh (Qf (Qw (fun n e1 H1=>∃(i:Nat) (ps:List OPhi) (pc:C) (pl:List (Nat×Obj)),n=b.phis.length-i∧i≤b.phis.length∧ps.map OPhi.d=b.phis.take i∧(∀p∈ps,p.own)∧Gr pl 2 (ps.map OPhi.row) pc∧
  Kn H H1 [] (([(x2,.st [.sl true 2 [],.sl true 4 [],.int .i64 0,.int .i64 0,.sl true 1 []]),(x3,.st [pc,.sl true 4 [],.int .i64 b.jump,.int .i64 b.on,nx.c])]++(nx.lg++ps.flatMap OPhi.lg))++pl)∧
  e1=[(1,.c (.pp [.sl false 2 (Q1 b.phis),.sl false 4 (Qaq b.ins),.int .i64 b.jump,.int .i64 b.on,.sl false 1 (Qb b.next)])),(2,.c (.ptr x2 0)),(3,.c (.ptr x3 0)),(4,.c (.int .i64 i))]) b.phis.length ?_ ?_))
 ·exact⟨0,[],_,[],by omega,by omega,rfl,by simp,.nil 2,by simpa using kn,rfl⟩
 ·rintro n e1 H1 ⟨i,ps,pc,pl,hn1,hi,hpsd,hpsok,hgr,kn,rfl⟩;have hpsl:ps.length=i:=by have:=congrArg List.length hpsd;rw[Jf,J7]at this;omega
  have hpcow:=hgr.isOw;refine Qy ?_;refine Qa ?_;simp only[go_sem,Q0];intro hl;refine Qh (Qe rfl ?_ ?_)
  ·intro hc;have hlt:i<b.phis.length:=by simpa using hc
   have hpa:=hb.pa _ (Jb hlt);have hx31:=kn.l 1 rfl;refine Qi ?_;simp only[go_sem];refine Qh (Qf (Qa2 ?_));simp only[go_sem,hx31,hpcow,hlt,Q0,Qaw _ _ hlt,PhiD.cells,Qd,Jp,Jg];refine⟨.inl trivial,Qp _,by simp only[LIM];omega,fun a ha H5 h5=>?_⟩;have kn:=kn.al ha h5;have hx35:=kn.l 1 rfl;simp only[go_sem,Qnz,hx35,hpcow,hlt,Q0,Qaw _ _ hlt,PhiD.cells];obtain⟨o,ho⟩:∃o:OPhi,o=⟨b.phis[i].to,b.phis[i].args,.vsl a 1 0 b.phis[i].args.length,[(a,.vec 1 (Qb b.phis[i].args))]⟩:=⟨_,rfl⟩;have hoow:o.own:=by rw[ho];exact⟨a,rfl,rfl⟩
   have hook:o.ok:=.inl hoow;have hor:[C.int IntKind.i64 b.phis[i].to,C.vsl a 1 0 b.phis[i].args.length]=o.row:=by rw[ho];rfl
   have hol:[(a,Obj.vec 1 (Qb b.phis[i].args))]=o.lg:=by rw[ho]
   rw[hor];rw[hol]at kn;have kn:=kn.perm Qaln;refine kn.grow (new:=[o.row]) hgr (.mk' _ _ _ _) (by intro r hr;simp only[Ja]at hr;subst hr;exact o.noOw hook) (by simp only[Jf,Ji,Jn,LIM];omega) fun z H6 kn=>?_;have kn:Kn H H6 [] (([(x2,.st [.sl true 2 [],.sl true 4 [],.int .i64 0,.int .i64 0,.sl true 1 []]),(x3,.st [pc,.sl true 4 [],.int .i64 b.jump,.int .i64 b.on,nx.c])]++(nx.lg++(ps++[o]).flatMap OPhi.lg))++[(z,.vec 2 ((ps++[o]).map OPhi.row))]):=by
    simpa[Js,Jl]using kn
   have hx36:=kn.l 1 rfl;simp only[go_sem,Qny,hx36];intro H7 h7;have kn:=kn.stL 1 rfl h7;refine Qq ?_;simp only[go_sem,X.next];simp only[LIM]at hl;refine⟨Qr (by omega) (by omega),b.phis.length-(i+1),by omega,i+1,ps++[o],_,_,rfl,by omega,by rw[Jt,hpsd,Jh hlt,ho];rfl,fun p hp=>?_,?_,kn,rfl⟩
   ·rcases Jm.1 hp with h|h
    ·exact hpsok p h
    ·simp only[Ja]at h;subst h;exact hoow
   ·exact .mk _ _ _ (by simp)
  ·intro hc;have hpsd':ps.map OPhi.d=b.phis:=by rw[hpsd,Jc (by simpa using hc)]
   refine Qv ?_;simp only[go_sem,X.next];refine Qy ?_;refine Qa ?_;simp only[go_sem];refine Qh (Qf (Qw (fun n e1 H1=>∃(i:Nat) (is:List OIns) (ic:C) (il:List (Nat×Obj)),n=b.ins.length-i∧i≤b.ins.length∧is.map OIns.d=b.ins.take i∧(∀x∈is,x.a.ns.length≤1000000)∧Gr il 4 (is.map OIns.row) ic∧
    Kn H H1 [] (([(x2,.st [.sl true 2 [],.sl true 4 [],.int .i64 0,.int .i64 0,.sl true 1 []]),(x3,.st [pc,ic,.int .i64 b.jump,.int .i64 b.on,nx.c])]++(nx.lg++(ps.flatMap OPhi.lg++(pl++is.flatMap OIns.lg))))++il)∧
    e1=[(1,.c (.pp [.sl false 2 (Q1 b.phis),.sl false 4 (Qaq b.ins),.int .i64 b.jump,.int .i64 b.on,.sl false 1 (Qb b.next)])),(2,.c (.ptr x2 0)),(3,.c (.ptr x3 0)),(5,.c (.int .i64 i))]) b.ins.length ?_ ?_))
   ·exact⟨0,[],_,[],by omega,by omega,rfl,by simp,.nil 4,by simpa[Jl]using kn,rfl⟩
   ·rintro n e1 H1 ⟨i,is,ic,il,hn1,hi,hisd,hisa,hgi,kn,rfl⟩;have hisl:is.length=i:=(by have:=congrArg List.length hisd;rw[Jf,J7]at this;omega);have hicow:=hgi.isOw;refine Qy ?_;refine Qa ?_;simp only[go_sem,Qal];intro hl;refine Qh (Qe rfl ?_ ?_)
    ·intro hc;have hlt:i<b.ins.length:=(by simpa using hc);have hia:=hb.ia _ (Jb hlt);refine Qi ?_;simp only[go_sem];refine Qh (Qf ?_);refine Qa ?_;simp only[go_sem,hlt,Qal,Qb7 _ _ hlt,InsD.cells];intro x6 hx6 H5 h5;have kn:=kn.al hx6 h5;have kn:=kn.perm (Jk (l₁:=_) (l₂:=[(x6,_)]));have hx65:=kn.l 0 rfl;simp only[go_sem,Qn0,hx65];intro H6 h6;have kn:=kn.stL 0 rfl h6;have hx66:=kn.l 0 rfl;have hx36:=kn.l 2 rfl;refine Qa2 ?_;simp only[go_sem,hx66,hx36,hicow,Qd,Jp,Jg];refine⟨.inl trivial,Qp _,by simp only[LIM];omega,fun a ha H7 h7=>?_⟩;have kn:=kn.al ha h7;have hx67:=kn.l 0 rfl;have hx37:=kn.l 2 rfl;simp only[go_sem,Qn2,hx67,hx37,hicow];obtain⟨o,ho⟩:∃o:OIns,o=⟨b.ins[i].op,b.ins[i].to,⟨b.ins[i].args,a⟩,b.ins[i].n⟩:=⟨_,rfl⟩;have hor:[C.int IntKind.i64 b.ins[i].op,C.int IntKind.i64 b.ins[i].to,C.vsl a 1 0 b.ins[i].args.length,C.int IntKind.i64 b.ins[i].n]=o.row:=(by rw[ho];rfl);have hol:[(a,Obj.vec 1 (Qb b.ins[i].args))]=o.lg:=(by rw[ho];rfl);rw[hor];rw[hol]at kn;have kn:Kn H H7 [] ((([(x2,.st [.sl true 2 [],.sl true 4 [],.int .i64 0,.int .i64 0,.sl true 1 []]),(x3,.st [pc,ic,.int .i64 b.jump,.int .i64 b.on,nx.c])]++(nx.lg++(ps.flatMap OPhi.lg++(pl++is.flatMap OIns.lg))))++il)++o.lg):=by
      have kn:=kn.perm (Jk (l₁:=[(x6,_)]) (l₂:=_));exact kn.drop
     have kn:=kn.perm Qaln;refine kn.grow (new:=[o.row]) hgi (.mk' _ _ _ _) (by simp[o.noOw]) (by simp only[Jf,Ji,Jn,LIM];omega) fun z H8 kn=>?_;have kn:Kn H H8 [] (([(x2,.st [.sl true 2 [],.sl true 4 [],.int .i64 0,.int .i64 0,.sl true 1 []]),(x3,.st [pc,ic,.int .i64 b.jump,.int .i64 b.on,nx.c])]++(nx.lg++(ps.flatMap OPhi.lg++(pl++(is++[o]).flatMap OIns.lg))))++[(z,.vec 4 ((is++[o]).map OIns.row))]):=by
      simpa[Js,Jl]using kn
     have hx38:=kn.l 1 rfl;simp only[go_sem,Qn1,hx38];intro H9 h9;have kn:=kn.stL 1 rfl h9;refine Qq ?_;simp only[go_sem,X.next];simp only[LIM]at hl;refine⟨Qr (by omega) (by omega),b.ins.length-(i+1),by omega,i+1,is++[o],_,_,rfl,by omega,by rw[Jt,hisd,Jh hlt,ho];rfl,fun x hx=>?_,?_,kn,rfl⟩
     ·rcases Jm.1 hx with hx|hx
      ·exact hisa x hx
      ·simp only[Ja]at hx;rw[hx,ho];exact hia
     ·exact .mk _ _ _ (by simp)
    ·intro hc;have hisd':is.map OIns.d=b.ins:=(by rw[hisd,Jc (by simpa using hc)]);have hx21:=kn.l 0 rfl;have hx31:=kn.l 1 rfl;refine Qv ?_;simp only[go_sem,X.next];have hnow:nx.c.isOw=false:=rfl;refine Qa ?_;simp only[go_sem,hx21,hx31,hpcow,hicow,hnow];intro H5 h5;have kn:=kn.stL 0 rfl h5;have hx25:=kn.l 0 rfl;refine Qk ?_;simp only[go_sem,Q3,Qab,Qyw,reduceIte,Ja,forall_eq,RS.op,hx25,hpcow,hicow,hnow];obtain⟨o,ho⟩:∃o:OBlk,o=⟨ps,pc,pl,is,ic,il,b.jump,b.on,nx⟩:=⟨_,rfl⟩;have hok:o.ok:=(by rw[ho];exact⟨hgr,hgi,fun p hp=>.inl (hpsok p hp)⟩);have hod:o.d=b:=by
      rw[ho];show BlkD.mk (ps.map OPhi.d) (is.map OIns.d) b.jump b.on nx.ns=b;rw[hpsd',hisd',hnx]
     have kn:Kn H H5 [] ([(x2,.st [pc,ic,.int .i64 b.jump,.int .i64 b.on,nx.c]),(x3,.st [pc,ic,.int .i64 b.jump,.int .i64 b.on,nx.c])]++o.lg):=by
      rw[ho];simpa[OBlk.lg,Jl]using kn
     refine⟨unx H o.lg,.ag o.row,H5.frz (unx H o.lg),?_,Qd7 _ _,hK o _ kn.finK hok hod (by rw[ho];exact hpsok)⟩;rw[ho];exact FrzL.ag (.cons (.same _ hpcow) (.cons (.same _ hicow) (.cons (Qg rfl) (.cons (Qg rfl) (.cons (.same _ hnow) .nil)))))
theorem BlkD.take5 (x:BlkD):x.cells.take 5=x.cells:=rfl
theorem BlkD.allOw (x:BlkD):(x.cells.all fun c=>!c.isOw)=true:=rfl
theorem BlkD.len5 (x:BlkD):x.cells.length=5:=rfl
theorem CodeD.take3 (x:CodeD):x.cells.take 3=x.cells:=rfl
theorem CodeD.allOw (x:CodeD):(x.cells.all fun c=>!c.isOw)=true:=rfl
theorem CodeD.len3 (x:CodeD):x.cells.length=3:=rfl
theorem OBlk.len5 (x:OBlk):x.row.length=5:=rfl
theorem OCode.len3 (x:OCode):x.row.length=3:=rfl
set_option maxHeartbeats 2000000 in
theorem Q88 {q:CodeD}(hq:q.sg)(hK:∀(o:OCode) (H':Heap),Kn H H' [] o.lg→o.ok→o.d=q→(∀b∈o.blocks,∀p∈b.phis,p.own)→K (.ag o.row) H'):Qs prog Qfl [.ag q.cells] H K:=by
 have hqb:=hq.b;refine Qcb ?_;refine Qc Qaj Qblu ?_;refine Qa ?_;simp only[go_sem,CodeD.cells];intro x2 hx2 H1 h1;have kn:=(Kn.start0 H).al hx2 h1;refine Qa ?_;simp only[go_sem];intro x3 hx3 H2 h2;have kn:=kn.al hx3 h2;have hx32:=kn.l 1 rfl;simp only[go_sem,Qaeq,hx32];intro H3 h3;have kn:=kn.stL 1 rfl h3;refine Qy ?_;refine Qa ?_;simp only[go_sem];refine Qh (Qf (Qw (fun n e1 H1=>∃(i:Nat) (os:List OBlk) (bc:C) (bl:List (Nat×Obj)),n=q.blocks.length-i∧i≤q.blocks.length∧os.map OBlk.d=q.blocks.take i∧(∀o∈os,o.ok∧∀p∈o.phis,p.own)∧Gr bl 5 (os.map OBlk.row) bc∧
  Kn H H1 [] (([(x2,.st [.int .i64 0,.int .i64 0,.sl true 5 []]),(x3,.st [.int .i64 q.params,.int .i64 q.regs,bc])]++os.flatMap OBlk.lg)++bl)∧
  e1=[(1,.c (.pp [.int .i64 q.params,.int .i64 q.regs,.sl false 5 (Qm q.blocks)])),(2,.c (.ptr x2 0)),(3,.c (.ptr x3 0)),(4,.c (.int .i64 i))]) q.blocks.length ?_ ?_))
 ·exact⟨0,[],_,[],by omega,by omega,rfl,by simp,.nil 5,by simpa using kn,rfl⟩
 ·rintro n e1 H1 ⟨i,os,bc,bl,hn1,hi,hod,hok,hgr,kn,rfl⟩;have hol:os.length=i:=by have:=congrArg List.length hod;rw[Jf,J7]at this;omega
  have hbow:=hgr.isOw;have hx31:=kn.l 1 rfl;refine Qy ?_;refine Qa ?_;simp only[go_sem,Qo];intro hl;simp only[LIM]at hl;refine Qh (Qe rfl ?_ ?_)
  ·intro hc;have hlt:i<q.blocks.length:=by simpa using hc
   refine Qi ?_;simp only[go_sem];refine Qh (Qf (Qa2 ?_));simp only[go_sem,hx31,hbow,hlt,Qo,Qaa _ _ hlt,BlkD.take5,BlkD.allOw,BlkD.len5];refine Qyh (hq.bs _ (Jb hlt)) fun o H4 k2 hoo hbd hoow=>?_;have kn:=kn.comp0 k2;have hx34:=kn.l 1 rfl;simp only[go_sem,Qaes,hx34,hbow,o.len5];have kn:=kn.perm Qaln;refine kn.grow (new:=[o.row]) hgr (.mk' _ _ _ _) (by intro r hr;simp only[Ja]at hr;subst hr;exact o.noOw hoo) (by simp only[Jf,Ji,Jn,LIM];omega) fun z H5 kn=>?_;have kn:Kn H H5 [] (([(x2,.st [.int .i64 0,.int .i64 0,.sl true 5 []]),(x3,.st [.int .i64 q.params,.int .i64 q.regs,bc])]++(os++[o]).flatMap OBlk.lg)++[(z,.vec 5 ((os++[o]).map OBlk.row))]):=by
    simpa[Js,Jl]using kn
   have hx35:=kn.l 1 rfl;simp only[go_sem,Qaer,hx35];intro H6 h6;have kn:=kn.stL 1 rfl h6;refine Qq ?_;simp only[go_sem,X.next];refine⟨Qr (by omega) (by omega),q.blocks.length-(i+1),by omega,i+1,os++[o],_,_,rfl,by omega,by rw[Jt,hod,Jh hlt,Jan,Jaq,hbd],fun o' ho'=>?_,.mk _ _ _ (by simp),kn,rfl⟩;rcases Jm.1 ho' with h|h
   ·exact hok o' h
   ·simp at h;subst h;exact⟨hoo,hoow⟩
  ·intro hc;have hge:q.blocks.length≤i:=by simpa using hc
   have hx21:=kn.l 0 rfl;refine Qv ?_;simp only[go_sem,X.next];refine Qa ?_;simp only[go_sem,hx31,hx21,hbow];intro H4 h4;have kn:=kn.stL 0 rfl h4;have hx24:=kn.l 0 rfl;refine Qk ?_;simp only[go_sem,Q3,Qab,Qa87,reduceIte,Ja,forall_eq,RS.op,hx24,hbow];obtain⟨o,ho⟩:∃o:OCode,o=⟨q.params,q.regs,os,bc,bl⟩:=⟨_,rfl⟩;have hod:o.d=q:=by
    rw[ho];show CodeD.mk q.params q.regs (os.map OBlk.d)=q;rw[hod,Jc hge]
   have how':∀b∈o.blocks,∀p∈b.phis,p.own:=by rw[ho];exact fun b hb=>(hok b hb).2
   have hok:o.ok:=by rw[ho];exact⟨hgr,fun b hb=>(hok b hb).1⟩
   have kn:Kn H H4 [] ([(x2,.st [.int .i64 q.params,.int .i64 q.regs,bc]),(x3,.st [.int .i64 q.params,.int .i64 q.regs,bc])]++o.lg):=by
    rw[ho];simpa[OCode.lg,Jl]using kn
   refine⟨unx H o.lg,.ag o.row,H4.frz (unx H o.lg),?_,Qd7 _ _,hK o _ kn.finK hok hod how'⟩;rw[ho];exact FrzL.ag (.cons (Qg rfl) (.cons (Qg rfl) (.cons (.same _ hbow) .nil)))
theorem Qblb {q:CodeD}(hq:q.sm)(hK:∀(o:OCode) (H':Heap),Kn H H' [] o.lg→o.ok→o.d=q→o.sm 1000→K (.ag o.row) H'):Qs prog Qfl [.ag q.cells] H K:=
 Q88 hq.sg fun o H' k1 k2 k3 _=>hK o H' k1 k2 k3 (by rw[←k3]at hq;exact hq.o)
set_option maxHeartbeats 2000000 in
theorem Qar3 {cs:List CodeD}{fl:Bool}(hs:∀c∈cs,c.sm)(hl:cs.length≤1000000)
  (hK:∀(us:List OCode) (cc:C) (cl:List (Nat×Obj)) (H':Heap),Kn H H' [] (us.flatMap OCode.lg++cl)→Gr cl 3 (us.map OCode.row) cc→(∀u∈us,u.ok∧u.sm 1000)→us.length=cs.length→K (.ag [cc]) H') :
  Qs prog Qlz [.ag [.sl fl 3 (Qj cs)]] H K:=by
 refine Qcb ?_;refine Qc Qaj Qask ?_;refine Qa ?_;simp only[go_sem];intro x2 hx2 H1 h1;have kn:=(Kn.start0 H).al hx2 h1;refine Qa ?_;simp only[go_sem];intro x3 hx3 H2 h2;have kn:=kn.al hx3 h2;have hx32:=kn.l 1 rfl;simp only[go_sem,Qsu,hx32];intro H3 h3;have kn:=kn.stL 1 rfl h3;refine Qy ?_;refine Qa ?_;simp only[go_sem];refine Qh (Qf (Qw (fun n e1 H1=>∃(i:Nat) (os:List OCode) (bc:C) (bl:List (Nat×Obj)),n=cs.length-i∧i≤cs.length∧os.length=i∧(∀o∈os,o.ok∧o.sm 1000)∧Gr bl 3 (os.map OCode.row) bc∧
  Kn H H1 [] (([(x2,.st [.sl true 3 []]),(x3,.st [bc])]++os.flatMap OCode.lg)++bl)∧
  e1=[(1,.c (.pp [.sl fl 3 (Qj cs)])),(2,.c (.ptr x2 0)),(3,.c (.ptr x3 0)),(4,.c (.int .i64 i))]) cs.length ?_ ?_))
 ·exact⟨0,[],_,[],by omega,by omega,rfl,by simp,.nil 3,by simpa using kn,rfl⟩
 ·rintro n e1 H1 ⟨i,os,bc,bl,hn1,hi,hol,hok,hgr,kn,rfl⟩;have hbow:=hgr.isOw;have hx31:=kn.l 1 rfl;refine Qy ?_;refine Qa ?_;simp only[go_sem,Q4];intro _;refine Qh (Qe rfl ?_ ?_)
  ·intro hc;have hlt:i<cs.length:=by simpa using hc
   refine Qi ?_;simp only[go_sem];refine Qh (Qf (Qa2 ?_));simp only[go_sem,hx31,hbow,hlt,Q4,Qam _ _ hlt,CodeD.take3,CodeD.allOw,CodeD.len3];refine Qblb (hs _ (Jb hlt)) fun o H4 k2 hoo _ hob=>?_;have kn:=kn.comp0 k2;have hx34:=kn.l 1 rfl;simp only[go_sem,Qsw,hx34,hbow,o.len3];have kn:=kn.perm Qaln;refine kn.grow (new:=[o.row]) hgr (.mk' _ _ _ _) (by intro r hr;simp only[Ja]at hr;subst hr;exact o.noOw hoo) (by simp only[Jf,Ji,Jn,LIM];omega) fun z H5 kn=>?_;have kn:Kn H H5 [] (([(x2,.st [.sl true 3 []]),(x3,.st [bc])]++(os++[o]).flatMap OCode.lg)++[(z,.vec 3 ((os++[o]).map OCode.row))]):=by
    simpa[Js,Jl]using kn
   have hx35:=kn.l 1 rfl;simp only[go_sem,Qsv,hx35];intro H6 h6;have kn:=kn.stL 1 rfl h6;refine Qq ?_;simp only[go_sem,X.next];refine⟨Qr (by omega) (by omega),cs.length-(i+1),by omega,i+1,os++[o],_,_,rfl,by omega,by simp[hol],fun o' ho'=>?_,.mk _ _ _ (by simp),kn,rfl⟩;rcases Jm.1 ho' with h|h
   ·exact hok o' h
   ·simp at h;subst h;exact⟨hoo,hob⟩
  ·intro hc;have hge:cs.length≤i:=by simpa using hc
   have hx21:=kn.l 0 rfl;refine Qv ?_;simp only[go_sem,X.next];refine Qa ?_;simp only[go_sem,hx31,hx21,hbow];intro H4 h4;have kn:=kn.stL 0 rfl h4;have hx24:=kn.l 0 rfl;refine Qk ?_;simp only[go_sem,Q3,Qab,Q3i,reduceIte,Ja,forall_eq,RS.op,hx24,hbow];have kn:Kn H H4 [] ([(x2,.st [bc]),(x3,.st [bc])]++(os.flatMap OCode.lg++bl)):=by
    simpa[Jl]using kn
   exact⟨unx H _,.ag [bc],H4.frz (unx H _),FrzL.ag (.cons (.same _ hbow) .nil),Qd7 _ _,hK os bc bl _ kn.finK hgr hok (by omega)⟩
structure CRd (H:Heap)(R:Rdr)(cc:C)(rows:List (List C)):Prop where
 s:Slc H 3 rows cc
 ow:cc.isOw=false
 ne:∀l a c d,cc=.vsl l a c d→l≠R.l
 r:∀i,i<rows.length→∃(p:Int) (c1 c2:C),rows.getD i []=[.int .i64 p,c1,c2]∧0≤p∧p≤3
theorem CRd.keep {R:Rdr}{cc:C}{rows:List (List C)}{o:Obj}{H':Heap}{L:List (Nat×Obj)}(h:CRd H R cc rows)(kn:Kn H H' [(R.l,o)] L):CRd H' R cc rows:=
 ⟨h.s.keep kn (fun l a c d hh=>by simpa using h.ne l a c d hh),h.ow,h.ne,h.r⟩
theorem Qbfx {R:Rdr}{k b n:Nat}(hH:H R.l=R.o k)(hk:k+2≤2^40)(hb:b≤1000)(hn:n≤1000)
  (hK:∀(v:Int) (H':Heap) (k':Nat),k<k'→k'≤k+2→Upd H H' [(R.l,R.o k')]→K (.c (.int .i64 v)) H') :
  Qs prog Q96 [.c (.ptr R.l 0),.c (.int .i64 b),.c (.int .i64 n)] H K:=by
 refine Qx ?_;refine Qc Qaj Qbsi ?_;have kn:=Kn.start1 hH (R.o_ne k);refine Qa ?_;simp only[go_sem];refine Qy ?_;refine Qa ?_;simp only[go_sem];refine⟨Qr (by omega) (by omega),?_⟩;have rest:∀(v:Bool) (H2:Heap) (k2:Nat),k≤k2→k2≤k+1→Kn H H2 [(R.l,R.o k2)] []→
   Qah prog (s_l7To_2.seq Qa9d) (Q3 Qa88 (unK H K)) [(0,.c (.ptr R.l 0)),(1,.c (.int .i64 b)),(2,.c (.int .i64 n)),(15,.c (.bool v))] H2:=by
  intro v H2 k2 hk1 hk2 kn;have pv:∀m v:Int,m≤1000→(if m<1 then v=0 else 0≤v∧v<m)→0≤v∧v≤1000:=by
   intro m v hm hv;split at hv <;> omega
  refine Qh (Qe rfl ?_ ?_)
  ·intro hc;refine Qa ?_;simp only[go_sem];refine⟨Qr (by omega) (by omega),Qr (by omega) (by omega),Qr (by omega) (by omega),?_⟩;refine Qba (kn.e 0 rfl) (by omega) fun v H3 hv hu=>?_;have kn:=kn.callE 0 rfl hu (R.o_ne _);have hv:=pv _ _ (by omega) hv;simp only[go_sem,Qay8];refine⟨Qr (by omega) (by omega),?_⟩;refine Qk ?_;simp only[go_sem,Q3,Qab,Qa88,reduceIte,Ja,forall_eq,RS.op];exact⟨_,.c _ _ (Qg rfl),hK _ _ (k2+1) (by omega) (by omega) kn.fin⟩
  ·intro hc;refine Qi ?_;simp only[go_sem];refine Qa ?_;simp only[go_sem];refine⟨Qr (by omega) (by omega),?_⟩;refine Qba (kn.e 0 rfl) (by omega) fun v H3 hv hu=>?_;have kn:=kn.callE 0 rfl hu (R.o_ne _);have hv:=pv _ _ (by omega) hv;simp only[go_sem,Qay9];refine⟨Qr (by omega) (by omega),?_⟩;refine Qk ?_;simp only[go_sem,Q3,Qab,Qa88,reduceIte,Ja,forall_eq,RS.op];exact⟨_,.c _ _ (Qg rfl),hK _ _ (k2+1) (by omega) (by omega) kn.fin⟩
 refine⟨fun hb1=>?_,fun hb1=>?_⟩
 ·refine Qba (kn.e 0 rfl) (by omega) fun v H3 hv hu=>?_;have kn:=kn.callE 0 rfl hu (R.o_ne _);simp only[go_sem,Qafa,hb1];exact rest _ _ (k+1) (by omega) (by omega) kn
 ·simp only[go_sem,Qafa,hb1];exact rest _ _ k (by omega) (by omega) kn
set_option maxHeartbeats 2000000 in
theorem Qbld {R:Rdr}{k:Nat}{cc:C}{rows:List (List C)}{regs:Int}(hH:H R.l=R.o k)(hk:k+9≤2^40)(hc:CRd H R cc rows)
  (hK:∀(x:InsD) (H':Heap) (k':Nat),k<k'→k'≤k+9→Upd H H' [(R.l,R.o k')]→x.args.length≤3→K (.ag x.cells) H') :
  Qs prog Q95 [.c (.ptr R.l 0),.ag [cc],.c (.int .i64 regs)] H K:=by
 refine Qx ?_;refine Qc Qaj Qblw ?_;have how:=hc.ow;have hlen:=hc.s.len;have hesz:=hc.s.sz;refine Qa ?_;simp only[go_sem,how];intro x6 hx6 H1 h1;have kn:=(Kn.start1 hH (R.o_ne k)).al hx6 h1;refine Qa ?_;simp only[go_sem];refine Qkc (ns:=[1,1,2,3,4,5,8,9,10,13,3,6,7,11,12,14]) (kn.e 0 rfl) (by omega) (by simp) fun op H2 hop hu=>?_;have kn:=kn.callE 0 rfl hu (R.o_ne _);simp only[go_sem,Qae5];refine Qa ?_;simp only[go_sem];refine Qba (kn.e 0 rfl) (by omega) fun to H3 hto hu=>?_;have kn:=kn.callE 0 rfl hu (R.o_ne _);simp only[go_sem,Qae6,Qxx];intro x8 hx8 H4 h4;have kn:=kn.al hx8 h4;have hx84:=kn.l 1 rfl;simp only[go_sem,Qxx,hx84];intro H5 h5;have kn:=kn.stL 1 rfl h5;refine Qa ?_;simp only[go_sem];refine Qbfv fun many hm1 hm2=>?_;simp only[go_sem,Qae7];have args:∀(many:Int) (to n:Int) (H6:Heap) (k6:Nat),many≤3→k<k6→k6≤k+4→Kn H H6 [(R.l,R.o k6)] [(x6,.st [.int .i64 0,.int .i64 0,.sl true 1 [],.int .i64 0]),(x8,.st [.int .i64 op,.int .i64 to,.sl true 1 [],.int .i64 n])]→
   Qah prog Qae2 (Q3 Qtx (unK H K)) [(0,.c (.ptr R.l 0)),(2,.c (.int .i64 regs)),(6,.c (.ptr x6 0)),(8,.c (.ptr x8 0)),(9,.c (.int .i64 many))] H6:=by
  intro many to n H6 k6 hmany hk1 hk2 kn;refine Qy ?_;refine Qa ?_;simp only[go_sem];refine Qh (Qf (Qw (fun m e1 H1=>∃(i:Nat) (ns:List Int) (ac:C) (al:List (Nat×Obj)),m=3-i∧i≤3∧ns.length=i∧Gr al 1 (Qb ns) ac∧
   Kn H H1 [(R.l,R.o (k6+i))] ([(x6,.st [.int .i64 0,.int .i64 0,.sl true 1 [],.int .i64 0]),(x8,.st [.int .i64 op,.int .i64 to,ac,.int .i64 n])]++al)∧
   e1=[(0,.c (.ptr R.l 0)),(2,.c (.int .i64 regs)),(6,.c (.ptr x6 0)),(8,.c (.ptr x8 0)),(9,.c (.int .i64 many)),(10,.c (.int .i64 i))]) 3 ?_ ?_))
  ·exact⟨0,[],_,[],by omega,by omega,rfl,.nil 1,by simpa using kn,rfl⟩
  ·rintro m e1 H7 ⟨i,ns,ac,al,hm,hi,hns,hgr,kn,rfl⟩;have hacow:=hgr.isOw;have hx8:=kn.l 1 rfl;refine Qy ?_;refine Qa ?_;simp only[go_sem];refine Qh (Qe rfl ?_ ?_)
   ·intro hc;have hlt:(i:Int)<many:=(by simpa using hc);refine Qi ?_;simp only[go_sem];refine Qh (Qf ?_);refine Qa2 ?_;simp only[go_sem,hx8,hacow];refine Qba (kn.e 0 rfl) (by omega) fun v H8 hv hu=>?_;have kn:=kn.callE 0 rfl hu (R.o_ne _);have hx8:=kn.l 1 rfl;simp only[go_sem,Q6b,hx8,hacow];refine kn.grow (new:=Qb [v]) hgr (.mk' _ _ _ _) (Qp _) (by simp only[Qd,LIM,Ji,Jn];omega) fun y H9 kn=>?_;have hx8:=kn.l 1 rfl;simp only[go_sem,Q6a,hx8];intro H10 h10;have kn:=kn.stL 1 rfl h10;refine Qq ?_;simp only[go_sem,X.next];refine⟨Qr (by omega) (by omega),3-(i+1),by omega,i+1,ns++[v],_,_,rfl,by omega,by simp[hns],?_,kn,rfl⟩;rw[←Qbg];exact .mk _ _ _ (by simp[Qbg,Qd])
   ·intro hc;refine Qv ?_;simp only[go_sem,X.next];have hx6:=kn.l 0 rfl;refine Qa ?_;simp only[go_sem,hx8,hx6,hacow];intro H8 h8;have kn:Kn H H8 [(R.l,R.o (k6+i))] ([(x6,.st [.int .i64 op,.int .i64 to,ac,.int .i64 n]),(x8,.st [.int .i64 op,.int .i64 to,ac,.int .i64 n])]++al):=kn.stL 0 rfl h8;have hx6:=kn.l 0 rfl;refine Qk ?_;simp only[go_sem,Q3,Qab,Qtx,reduceIte,Ja,forall_eq,RS.op,hx6,hacow];exact⟨.ag (InsD.mk op to ns n).cells,FrzL.ag (.cons (Qg rfl) (.cons (Qg rfl) (.cons (hgr.frz kn (Qp _)) (.cons (Qg rfl) .nil)))),hK ⟨op,to,ns,n⟩ _ (k6+i) (by omega) (by omega) kn.fin (by show ns.length≤3;omega)⟩
 have rest:∀(many n:Int) (H6:Heap) (k6:Nat) (E1:Env),lk 0 E1=.c (.ptr R.l 0)→lk 2 E1=.c (.int .i64 regs)→lk 6 E1=.c (.ptr x6 0)→lk 7 E1=.c (.int .i64 op)→lk 8 E1=.c (.ptr x8 0)→lk 9 E1=.c (.int .i64 many)→many≤3→k<k6→k6≤k+3→Kn H H6 [(R.l,R.o k6)] [(x6,.st [.int .i64 0,.int .i64 0,.sl true 1 [],.int .i64 0]),(x8,.st [.int .i64 op,.int .i64 to,.sl true 1 [],.int .i64 n])]→
   Qah prog Qae4 (Q3 Qtx (unK H K)) E1 H6:=by
  intro many n H6 k6 E1 l0 l2 l6 l7 l8 l9 hmany hk1 hk2 kn;have rest2:∀(n:Int) (H6:Heap) (k6:Nat) (E1:Env),lk 0 E1=.c (.ptr R.l 0)→lk 2 E1=.c (.int .i64 regs)→lk 6 E1=.c (.ptr x6 0)→lk 7 E1=.c (.int .i64 op)→lk 8 E1=.c (.ptr x8 0)→lk 9 E1=.c (.int .i64 many)→k<k6→k6≤k+4→Kn H H6 [(R.l,R.o k6)] [(x6,.st [.int .i64 0,.int .i64 0,.sl true 1 [],.int .i64 0]),(x8,.st [.int .i64 op,.int .i64 to,.sl true 1 [],.int .i64 n])]→
    Qah prog Qae3 (Q3 Qtx (unK H K)) E1 H6:=by
   intro n H6 k6 E1 l0 l2 l6 l7 l8 l9 hk1 hk2 kn;refine Qy ?_;refine Qa ?_;simp only[go_sem];simp only[l7,true_and];refine Qpg ?_;simp only[go_sem,Q59,l0,l2,l6,l7,l8,l9];refine Qh (Qe rfl ?_ ?_)
   ·intro hc;have hx8:=kn.l 1 rfl;refine Qq ?_;simp only[go_sem,hx8];intro H7 h7;have kn:=kn.stL 1 rfl h7;exact args many (-1) n H7 k6 hmany hk1 hk2 kn
   ·intro hc;refine Qi ?_;simp only[go_sem];exact args many to n H6 k6 hmany hk1 hk2 kn
  refine Qy ?_;refine Qa ?_;simp only[go_sem,l0,l2,l6,l7,l8,l9];refine Qh (Qe rfl ?_ ?_)
  ·intro hc;refine Qq ?_;simp only[go_sem];refine Qkc (ns:=[0,1,2,3,15,16,255]) (kn.e 0 rfl) (by omega) (by simp) fun n2 H7 hn2 hu=>?_;have kn:=kn.callE 0 rfl hu (R.o_ne _);have hx8:=kn.l 1 rfl;simp only[go_sem,Q58,hx8];intro H8 h8;have kn:=kn.stL 1 rfl h8;exact rest2 n2 H8 (k6+1) _ (by simp[lk]) (by simp[lk]) (by simp[lk]) (by simp[lk]) (by simp[lk]) (by simp[lk]) (by omega) (by omega) kn
  ·intro hc;refine Qi ?_;simp only[go_sem];exact rest2 n H6 k6 _ (by simp[lk]) (by simp[lk]) (by simp[lk]) (by simp[lk]) (by simp[lk]) (by simp[lk]) (by omega) (by omega) kn
 refine Qy ?_;refine Qa ?_;simp only[go_sem];refine Qh (Qe rfl ?_ ?_)
 ·intro hop14;have hc5:=hc.keep kn;have hok5:=eq_true hc5.s.ok;refine Qy ?_;refine Qa ?_;simp only[go_sem,how,hlen,hok5];intro hl;refine Qh (Qe rfl ?_ ?_)
  ·intro h0;refine Qa ?_;simp only[go_sem];refine Qba (kn.e 0 rfl) (by omega) fun v H6 hv hu=>?_;have kn:=kn.callE 0 rfl hu (R.o_ne _);have hx6:=kn.l 0 rfl;simp only[go_sem,Qae8,hx6];intro H7 h7;have kn:=kn.stL 0 rfl h7;have hx6:=kn.l 0 rfl;refine Qk ?_;simp only[go_sem,Q3,Qab,Qtx,reduceIte,Ja,forall_eq,RS.op,hx6];exact⟨.ag (InsD.mk 13 (-1) [v] 0).cells,FrzL.ag (.cons (Qg rfl) (.cons (Qg rfl) (.cons (FrzR.same (Qp [v])).sl (.cons (Qg rfl) .nil)))),hK ⟨13,-1,[v],0⟩ _ (k+3) (by omega) (by omega) kn.fin (by simp)⟩
  ·intro h0;have hpos:0<rows.length:=by
    have:¬rows.length=0:=(by simpa using h0);omega
   refine Qi ?_;simp only[go_sem];refine Qa ?_;simp only[go_sem,how,hlen,hok5];intro _;refine Qba (kn.e 0 rfl) (by omega) fun v H6 hv hu=>?_;have kn:=kn.callE 0 rfl hu (R.o_ne _);rw[if_neg (by omega)]at hv;obtain⟨i,rfl⟩:=Jq hv.1;have hi:i<rows.length:=by omega
   obtain⟨p,c1,c2,hrow,hp0,hp3⟩:=hc.r i hi;have hx8:=kn.l 1 rfl;simp only[go_sem,Qae9,hx8];intro H7 h7;have kn:=kn.stL 1 rfl h7;have hx8:=kn.l 1 rfl;have hc7:=hc.keep kn;have hok7:=eq_true hc7.s.ok;have hrw7:=hc7.s.rows;refine Qq ?_;simp only[go_sem,how,hlen,hok7,hrw7,hesz,hx8,hi,hrow];exact rest p i H7 (k+3) _ (by simp[lk]) (by simp[lk]) (by simp[lk]) (by simp[lk]) (by simp[lk]) (by simp[lk]) (by omega) (by omega) (by omega) kn
 ·intro hop14;refine Qi ?_;simp only[go_sem];exact rest many 0 H5 (k+2) _ (by simp[lk]) (by simp[lk]) (by simp[lk]) (by simp[lk]) (by simp[lk]) (by simp[lk]) (by omega) (by omega) (by omega) kn
theorem Qbqp {α:Type}{a M b c:List α}:(a++(M++b)++c).Perm (((M++c)++b)++a):=by
 refine Jk.trans ?_;refine (List.Perm.append_left _ (Jk (l₁:=a))).trans ?_;rw[←Jl];refine .append_right _ ?_;rw[←Jl];exact .append_right _ Jk
def EnvA (R:Rdr)(cc:C)(x4 x5 x8 n b:Nat)(e:Env):Prop:=
 lk 0 e=.c (.ptr R.l 0)∧lk 3 e=.c (.pp [cc])∧lk 4 e=.c (.ptr x4 0)∧lk 5 e=.c (.ptr x5 0)∧lk 6 e=.c (.int .i64 n)∧lk 7 e=.c (.int .i64 b)∧lk 8 e=.c (.ptr x8 0)
set_option maxHeartbeats 4000000 in
theorem Qbla {R:Rdr}{k:Nat}{cc:C}{rows:List (List C)}(hH:H R.l=R.o k)(hk:k+1000≤2^40)(hc:CRd H R cc rows)
  (hK:∀(o:UCode) (H':Heap) (k':Nat),k<k'→k'≤k+1000→Kn H H' [(R.l,R.o k')] o.lg→o.ok→o.sm 0→K (.ag o.row) H') :
  Qs prog Q94 [.c (.ptr R.l 0),.ag [cc]] H K:=by
 refine Qcb ?_;refine Qc Qaj Qblt ?_;have how:=hc.ow;refine Qa ?_;simp only[go_sem,how];intro x4 hx4 H1 h1;have kn:=(Kn.start1 hH (R.o_ne k)).al hx4 h1;refine Qa ?_;simp only[go_sem];refine Qkc (ns:=[1,0,2,3]) (kn.e 0 rfl) (by omega) (by simp) fun p H2 hp hu=>?_;have kn:=kn.callE 0 rfl hu (R.o_ne _);have hp:0≤p∧p≤3:=by simp at hp;omega
 simp only[go_sem,Qaeg];intro x5 hx5 H3 h3;have kn:=kn.al hx5 h3;have hx53:=kn.l 1 rfl;simp only[go_sem,Qaef,hx53];intro H4 h4;have kn:=kn.stL 1 rfl h4;have hx54:=kn.l 1 rfl;refine Qag ?_;simp only[go_sem,hx54];refine⟨Qr (by omega) (by omega),?_⟩;refine Qba (kn.e 0 rfl) (by omega) fun q H5 hq hu=>?_;have kn:=kn.callE 0 rfl hu (R.o_ne _);have hx55:=kn.l 1 rfl;rw[if_neg (by omega)]at hq;simp only[go_sem,Qaeh,hx55];refine⟨Qr (by omega) (by omega),?_⟩;intro H6 h6;have kn:=kn.stL 1 rfl h6;obtain⟨rg,hrg⟩:∃rg,p+2+q=rg:=⟨_,rfl⟩;rw[hrg]at kn;refine Qa ?_;simp only[go_sem];refine Qkc (ns:=[3,5,2,1,7,4]) (kn.e 0 rfl) (by omega) (by simp) fun n0 H7 hn0 hu=>?_;have kn:=kn.callE 0 rfl hu (R.o_ne _);simp only[go_sem,Qaei];obtain⟨n,rfl,hn1,hn7⟩:∃n:Nat,n0=n∧1≤n∧n≤7:=⟨n0.toNat,by simp at hn0;omega⟩;refine Qy ?_;refine Qa ?_;simp only[go_sem];refine Qh (Qf (Qw (fun m e1 H1=>∃(b k1:Nat) (bs:List UBlk) (bc:C) (bl:List (Nat×Obj)),m=n-b∧b≤n∧bs.length=b∧k<k1∧k1≤k+3+50 * b∧(∀o∈bs,o.ok∧o.sm 0)∧Gr bl 5 (bs.map UBlk.row) bc∧
  Kn H H1 [(R.l,R.o k1)] (([(x4,.st [.int .i64 0,.int .i64 0,.sl true 5 []]),(x5,.st [.int .i64 p,.int .i64 rg,bc])]++bs.flatMap UBlk.lg)++bl)∧
  e1=[(0,.c (.ptr R.l 0)),(3,.c (.pp [cc])),(4,.c (.ptr x4 0)),(5,.c (.ptr x5 0)),(6,.c (.int .i64 n)),(7,.c (.int .i64 b))]) n ?_ ?_))
 ·exact⟨0,k+1+1+1,[],_,[],by omega,by omega,rfl,by omega,by omega,by simp,.nil 5,by simpa using kn,rfl⟩
 ·rintro m e1 H8 ⟨b,k1,bs,bc,bl,hm,hb,hbs,hk1,hk2,hok,hgr,kn,rfl⟩;have hbow:=hgr.isOw;refine Qy ?_;refine Qa ?_;simp only[go_sem];refine Qh (Qe rfl ?_ ?_)
  ·intro hc1;have hlt:b<n:=by simpa using hc1
   refine Qi ?_;simp only[go_sem];refine Qh (Qf ?_);refine Qa ?_;simp only[go_sem];intro x8 hx8 H9 h9;have kn:=kn.al hx8 h9;have kn:=kn.perm Jk;have hx89:=kn.l 0 rfl;simp only[go_sem,Qaej,hx89];intro H10 h10;have kn:=kn.stL 0 rfl h10;refine Qy ?_;refine Qa ?_;simp only[go_sem];refine Qkc (ns:=[1,2,0,3,4]) (kn.e 0 rfl) (by omega) (by simp) fun i0 H11 hi0 hu=>?_;have kn:=kn.callE 0 rfl hu (R.o_ne _);simp only[go_sem,Qaek];obtain⟨i,rfl,hi4⟩:∃i:Nat,i0=i∧i≤4:=⟨i0.toNat,by simp at hi0;omega⟩;refine Qh (Qf (Qw (fun m e1 H1=>∃(t k2:Nat) (ds:List InsD) (ic:C) (il:List (Nat×Obj)),m=t∧t+ds.length=i∧k1<k2∧k2≤k1+1+9 * ds.length∧(∀d∈ds,d.args.length≤3)∧Gr il 4 (Qaq ds) ic∧
    Kn H H1 [(R.l,R.o k2)] (([(x8,.st [.sl true 2 [],ic,.int .i64 0,.int .i64 0,.sl true 1 []])]++(([(x4,.st [.int .i64 0,.int .i64 0,.sl true 5 []]),(x5,.st [.int .i64 p,.int .i64 rg,bc])]++bs.flatMap UBlk.lg)++bl))++il)∧
    e1=[(0,.c (.ptr R.l 0)),(3,.c (.pp [cc])),(4,.c (.ptr x4 0)),(5,.c (.ptr x5 0)),(6,.c (.int .i64 n)),(7,.c (.int .i64 b)),(8,.c (.ptr x8 0)),(9,.c (.int .i64 t))]) i ?_ ?_))
   ·refine⟨i,k1+1,[],_,[],rfl,rfl,by omega,by simp,by simp,.nil 4,by simpa using kn,rfl⟩
   ·rintro m2 e1 H12 ⟨t,k2,ds,ic,il,hm2,ht,hk3,hk4,hds,hgi,kn,rfl⟩;have hicow:=hgi.isOw;have hx8:=kn.l 0 rfl;have hx5:=kn.l 2 rfl;refine Qy ?_;refine Qa ?_;simp only[go_sem];refine Qh (Qe rfl ?_ ?_)
    ·intro hc2;have ht0:0<t:=(by simpa using hc2);refine Qi ?_;simp only[go_sem];refine Qh (Qf ?_);refine Qa2 ?_;simp only[go_sem,hx8,hx5,hicow,hbow,how];refine Qbld (kn.e 0 rfl) (by omega) (hc.keep kn) fun d H13 k3 hk5 hk6 hu hd=>?_;have kn:=kn.callE 0 rfl hu (R.o_ne _);have hx8:=kn.l 0 rfl;simp only[go_sem,Qaem,hx8,hicow,InsD.take4,InsD.allOw,InsD.len4];refine kn.grow (new:=[d.cells]) hgi (.mk' _ _ _ _) (by intro r hr;simp only[Ja]at hr;subst hr;rfl) (by simp only[Qal,LIM,Ji,Jn];omega) fun y H14 kn=>?_;have hx8:=kn.l 0 rfl;simp only[go_sem,Qael,hx8];intro H15 h15;have kn:=kn.stL 0 rfl h15;refine Qq ?_;simp only[go_sem,X.next];refine⟨Qr (by omega) (by omega),t-1,by omega,t-1,k3,ds++[d],_,_,rfl,by simp;omega,by omega,by simp;omega,fun d' hd'=>?_,?_,kn,?_⟩
     ·rcases Jm.1 hd' with h|h
      ·exact hds _ h
      ·simp only[Ja]at h;subst h;exact hd
     ·rw[Qbaj];exact .mk _ _ _ (by simp[Qal])
     ·have:(t:Int)-1=((t-1:Nat):Int):=(by omega);rw[this]
    ·intro hc2;have ht0:t=0:=(by have:¬0<t:=(by simpa using hc2);omega);refine Qv ?_;simp only[go_sem,X.next];refine Qa ?_;simp only[go_sem,hx5,hbow];refine Qba (kn.e 0 rfl) (by omega) fun on H13 hon hu=>?_;have kn:=kn.callE 0 rfl hu (R.o_ne _);have hx8:=kn.l 0 rfl;simp only[go_sem,Q5y,hx8,hicow];intro H14 h14;have kn:=kn.stL 0 rfl h14;refine Qa ?_;simp only[go_sem];refine Qkc (ns:=[2,1,2,1,3]) (kn.e 0 rfl) (by omega) (by simp) fun jump H15 hjump hu=>?_;have kn:=kn.callE 0 rfl hu (R.o_ne _);have hx8:=kn.l 0 rfl;simp only[go_sem,Q5z,hx8,hicow];intro H16 h16;have kn:=kn.stL 0 rfl h16;refine Qd2 (fun e2 H2=>∃(k2:Nat) (jump:Int),k1<k2∧k2≤k1+40∧Kn H H2 [(R.l,R.o k2)] (([(x8,.st [.sl true 2 [],ic,.int .i64 jump,.int .i64 on,.sl true 1 []])]++(([(x4,.st [.int .i64 0,.int .i64 0,.sl true 5 []]),(x5,.st [.int .i64 p,.int .i64 rg,bc])]++bs.flatMap UBlk.lg)++bl))++il)∧EnvA R cc x4 x5 x8 n b e2) ?_ ?_
     ·intro Q hn _ _;have rest:∀(v:Bool) (H2:Heap) (k2:Nat),k1<k2→k2≤k1+40→Kn H H2 [(R.l,R.o k2)] (([(x8,.st [.sl true 2 [],ic,.int .i64 jump,.int .i64 on,.sl true 1 []])]++(([(x4,.st [.int .i64 0,.int .i64 0,.sl true 5 []]),(x5,.st [.int .i64 p,.int .i64 rg,bc])]++bs.flatMap UBlk.lg)++bl))++il)→
        Qah prog Qaee Q [(0,.c (.ptr R.l 0)),(3,.c (.pp [cc])),(4,.c (.ptr x4 0)),(5,.c (.ptr x5 0)),(6,.c (.int .i64 n)),(7,.c (.int .i64 b)),(8,.c (.ptr x8 0)),(68,.c (.bool v))] H2:=by
       intro v H2 k2 hk1 hk2 kn;refine Qe rfl ?_ ?_
       ·intro hc;have hx8:=kn.l 0 rfl;refine Qq ?_;simp only[go_sem,hx8,hicow];intro H3 h3;have kn:=kn.stL 0 rfl h3;exact hn _ _ ⟨k2,3,hk1,hk2,kn,rfl,rfl,rfl,rfl,rfl,rfl,rfl⟩
       ·intro hc;refine Qi ?_;exact hn _ _ ⟨k2,jump,hk1,hk2,kn,rfl,rfl,rfl,rfl,rfl,rfl,rfl⟩
      refine Qa ?_;simp only[go_sem];refine⟨fun _=>Qr (by omega) (by omega),?_⟩;refine⟨fun hb1=>?_,fun hb1=>?_⟩
      ·refine Qba (kn.e 0 rfl) (by omega) fun v H17 hv hu=>?_;have kn:=kn.callE 0 rfl hu (R.o_ne _);simp only[go_sem,Qi6,hb1];exact rest _ _ _ (by omega) (by omega) kn
      ·by_cases h1:(n:Int)=1
       ·have hd:=decide_eq_true h1;have hd2:decide ((b:Int)=n-1)=true:=decide_eq_true (by omega);simp only[go_sem,Qi6,hd,hd2,Bool.not_true,cond_true,cond_false];exact rest true _ _ (by omega) (by omega) kn
       ·have h2:¬(b:Int)=n-1:=(by simpa[h1]using hb1);simp only[go_sem,Qi6,hb1,h1,h2,decide_false,Jab,cond_true,cond_false];exact rest false _ _ (by omega) (by omega) kn
     rintro e2 H17 ⟨k3,jump,hk5,hk6,kn,l0,l3,l4,l5,l6,l7,l8⟩;refine Qd2 (fun e2 H2=>∃(k2:Nat) (jump on:Int) (nfl:Bool) (next:List Int),next.length≤2∧k1<k2∧k2≤k1+50∧Kn H H2 [(R.l,R.o k2)] (([(x8,.st [.sl true 2 [],ic,.int .i64 jump,.int .i64 on,.sl nfl 1 (Qb next)])]++(([(x4,.st [.int .i64 0,.int .i64 0,.sl true 5 []]),(x5,.st [.int .i64 p,.int .i64 rg,bc])]++bs.flatMap UBlk.lg)++bl))++il)∧EnvA R cc x4 x5 x8 n b e2) ?_ ?_
     ·intro Q hn _ _;have hx8:=kn.l 0 rfl;refine Qa ?_;simp only[go_sem,hx8,l0,l3,l4,l5,l6,l7,l8,hicow];refine Qf ?_;refine Qa ?_;simp only[go_sem];refine Qe rfl ?_ ?_
      ·intro hc;refine Qa ?_;simp only[go_sem,hx8,hicow];intro H18 h18;have kn:=kn.stL 0 rfl h18;refine Qq ?_;simp only[go_sem];refine Qbfx (kn.e 0 rfl) (by omega) (by omega) (by omega) fun v1 H19 k4 hk7 hk8 hu=>?_;have kn:=kn.callE 0 rfl hu (R.o_ne _);have hx8:=kn.l 0 rfl;simp only[go_sem,Q50,hx8,hicow];intro H20 h20;have kn:=kn.stL 0 rfl h20;exact hn _ _ ⟨k4,jump,0,true,[v1],by simp,by omega,by omega,kn,rfl,rfl,rfl,rfl,rfl,rfl,rfl⟩
      ·intro hc;refine Qa ?_;simp only[go_sem];refine Qe rfl ?_ ?_
       ·intro hc;refine Qq ?_;simp only[go_sem];refine Qbfx (kn.e 0 rfl) (by omega) (by omega) (by omega) fun v1 H19 k4 hk7 hk8 hu=>?_;have kn:=kn.callE 0 rfl hu (R.o_ne _);simp only[go_sem,Q52];refine Qbfx (kn.e 0 rfl) (by omega) (by omega) (by omega) fun v2 H20 k5 hk9 hk10 hu=>?_;have kn:=kn.callE 0 rfl hu (R.o_ne _);have hx8:=kn.l 0 rfl;simp only[go_sem,Q51,hx8,hicow];intro H21 h21;have kn:=kn.stL 0 rfl h21;exact hn _ _ ⟨k5,jump,on,true,[v1,v2],by simp,by omega,by omega,kn,rfl,rfl,rfl,rfl,rfl,rfl,rfl⟩
       ·intro hc;refine Qi ?_;exact hn _ _ ⟨k3,jump,on,true,[],by simp,by omega,by omega,kn,rfl,rfl,rfl,rfl,rfl,rfl,rfl⟩
     rintro e3 H18 ⟨k4,jump,on,nfl,next,hnx,hk7,hk8,kn,l0,l3,l4,l5,l6,l7,l8⟩;have hx8:=kn.l 0 rfl;have hx5:=kn.l 2 rfl;refine Qq ?_;simp only[go_sem,hx8,hx5,l0,l3,l4,l5,l6,l7,l8,hicow,hbow];obtain⟨o,ho⟩:∃o:UBlk,o=⟨[],.sl true 2 [],[],ds,ic,il,jump,on,nfl,next⟩:=⟨_,rfl⟩;have hor:[C.sl true 2 [],ic,C.int IntKind.i64 jump,C.int IntKind.i64 on,C.sl nfl 1 (Qb next)]=o.row:=(by rw[ho];rfl);have hol:o.lg=il:=(by rw[ho];simp[UBlk.lg]);have hook:o.ok:=(by rw[ho];exact⟨.nil 2,hgi,by simp⟩);have hosm:o.sm 0:=(by rw[ho];exact⟨hnx,by show ds.length≤_;omega,by simp,fun d hd=>by have:=hds d hd;omega,by simp⟩);rw[hor];have kn:=(kn.perm Qbqp).drop;refine kn.grow (new:=[o.row]) hgr (.mk' _ _ _ _) (by intro r hr;simp only[Ja]at hr;subst hr;exact o.noOw hook) (by simp only[Jf,Ji,Jn,LIM];omega) fun z H19 kn=>?_;have kn:Kn H H19 [(R.l,R.o k4)] (([(x4,.st [.int .i64 0,.int .i64 0,.sl true 5 []]),(x5,.st [.int .i64 p,.int .i64 rg,bc])]++(bs++[o]).flatMap UBlk.lg)++[(z,.vec 5 ((bs++[o]).map UBlk.row))]):=by
      simpa[Js,Jl,hol]using kn
     have hx5:=kn.l 1 rfl;simp only[go_sem,Q53,hx5,l0,l3,l4,l5,l6,l7,hbow];intro H20 h20;have kn:=kn.stL 1 rfl h20;refine Qq ?_;simp only[go_sem,X.next];refine⟨Qr (by omega) (by omega),n-(b+1),by omega,b+1,k4,bs++[o],_,_,rfl,by omega,by simp[hbs],by omega,by omega,fun o' ho'=>?_,.mk _ _ _ (by simp),kn,rfl⟩;rcases Jm.1 ho' with h|h
     ·exact hok o' h
     ·simp only[Ja]at h;subst h;exact⟨hook,hosm⟩
  ·intro hc1;have hbn:b=n:=by have:¬b<n:=(by simpa using hc1);omega
   have hx4:=kn.l 0 rfl;have hx5:=kn.l 1 rfl;refine Qv ?_;simp only[go_sem,X.next];refine Qa ?_;simp only[go_sem,hx5,hx4,hbow];intro H9 h9;have kn:=kn.stL 0 rfl h9;have hx4:=kn.l 0 rfl;refine Qk ?_;simp only[go_sem,Q3,Qab,Qa86,reduceIte,Ja,forall_eq,RS.op,hx4,hbow];obtain⟨o,ho⟩:∃o:UCode,o=⟨p,rg,bs,bc,bl⟩:=⟨_,rfl⟩;have hook:o.ok:=by rw[ho];exact⟨hgr,fun b hb=>(hok b hb).1,hp.1,hp.2⟩
   have hosm:o.sm 0:=by rw[ho];exact⟨by show 0<bs.length;omega,by show bs.length≤_;omega,fun b hb=>(hok b hb).2⟩
   have kn:Kn H H9 [(R.l,R.o k1)] ([(x4,.st [.int .i64 p,.int .i64 rg,bc]),(x5,.st [.int .i64 p,.int .i64 rg,bc])]++o.lg):=by
    rw[ho];simpa[UCode.lg,Jl]using kn
   refine⟨unx H o.lg,.ag o.row,H9.frz (unx H o.lg),?_,Qd7 _ _,hK o _ k1 hk1 (by omega) kn.finK hook hosm⟩;rw[ho];exact FrzL.ag (.cons (Qg rfl) (.cons (Qg rfl) (.cons (.same _ hbow) .nil)))
end Go.AE.Y
namespace Go.AE
open Go.AE.Y
open Go.Proofs.Tryz
variable {H:Heap}{K:V→Heap→Prop}
theorem Gr.slc {H0 H:Heap}{E B Lg:List (Nat×Obj)}{sz:Nat}{rows:List (List C)}{c:C}(h:Gr Lg sz rows c)(kn:Kn H0 H E (B++Lg)):Slc H sz rows c:=by
 obtain⟨h1,h2⟩:=h.get kn;exact⟨h1,h.elemSz,h2,h.lenC⟩
theorem Gr.ne {H0 H:Heap}{E B Lg:List (Nat×Obj)}{sz:Nat}{rows:List (List C)}{c:C}{r:Nat}{o:Obj}(h:Gr Lg sz rows c)(kn:Kn H0 H E (B++Lg))(hr:(r,o)∈E):∀l a d n,c=.vsl l a d n→l≠r:=by
 intro l a d n hc hh;rcases h with ⟨h1,_⟩|⟨y,h1,h2⟩
 ·rw[h1]at hc;simp at hc
 ·rw[h1]at hc;have hy:y=l:=by injection hc
  have:=kn.loc (y,.vec sz rows) (by rw[h2];simp);exact kn.ext (r,o) hr (by rw[←hh,←hy];exact this)
theorem Gr.slcM {H0 H:Heap}{E L Lg:List (Nat×Obj)}{sz:Nat}{rows:List (List C)}{c:C}(h:Gr Lg sz rows c)(kn:Kn H0 H E L)(hm:∀p∈Lg,p∈L):Slc H sz rows c:=by
 rcases h with ⟨h1,h2,h3⟩|⟨y,h1,h2⟩
 ·rw[h1,h2];exact .mk' _ _ _ _
 ·have hy:H y=.vec sz rows:=(kn.get (y,.vec sz rows) (Jj _ (hm _ (by rw[h2];simp)))).1;rw[h1];exact⟨by simp[Go.AE.okSl,hy],rfl,by simp[Go.AE.rowsOf,hy],rfl⟩
end Go.AE
namespace Go.AE.Y
open Go.Proofs.Tryz
variable {H:Heap}{K:V→Heap→Prop}
theorem Qbrx {H0 H:Heap}{B cl:List (Nat×Obj)}{R:Rdr}{o:Obj}{us:List UCode}{cc:C}(hg:Gr cl 3 (us.map UCode.row) cc)(kn:Kn H0 H [(R.l,o)] (B++cl))(hu:∀u∈us,u.ok):CRd H R cc (us.map UCode.row):=by
 refine⟨hg.slc kn,hg.isOw,hg.ne kn (o:=o) (by simp),fun i hi=>?_⟩;rw[Jf]at hi;refine⟨us[i].params,.int .i64 us[i].regs,us[i].bc,by simp[Jd,hi,UCode.row],(hu _ (Jb hi)).p0,(hu _ (Jb hi)).p1⟩
set_option maxHeartbeats 4000000 in
theorem Qa8x {R:Rdr}{k:Nat}(hH:H R.l=R.o k)(hk:k+10000≤2^40)
  (hK:∀(cs:List CodeD) (H':Heap) (k':Nat),k<k'→k'≤k+10000→Upd H H' [(R.l,R.o k')]→0<cs.length→cs.length≤3→(∀c∈cs,c.sm)→K (.ag [.sl false 3 (Qj cs)]) H') :
  Qs prog Qyc [.c (.ptr R.l 0)] H K:=by
 refine Qx ?_;refine Qc Qaj Qblx ?_;refine Qa ?_;simp only[go_sem];intro x2 hx2 H1 h1;have kn:=(Kn.start1 hH (R.o_ne k)).al hx2 h1;refine Qa ?_;simp only[go_sem];intro x3 hx3 H2 h2;have kn:=kn.al hx3 h2;have hx32:=kn.l 1 rfl;simp only[go_sem,Qafb,hx32];intro H3 h3;have kn:=kn.stL 1 rfl h3;refine Qy ?_;refine Qa ?_;simp only[go_sem];refine Qkc (ns:=[1,2,1,3]) (kn.e 0 rfl) (by omega) (by simp) fun i0 H4 hi0 hu=>?_;have kn:=kn.callE 0 rfl hu (R.o_ne _);simp only[go_sem,Qafc];obtain⟨i,rfl,hi1,hi3⟩:∃i:Nat,i0=i∧1≤i∧i≤3:=⟨i0.toNat,by simp at hi0;omega⟩;refine Qh (Qf (Qw (fun m e1 H1=>∃(t k1:Nat) (us:List UCode) (cc:C) (cl:List (Nat×Obj)),m=t∧t+us.length=i∧k<k1∧k1≤k+1+1000 * us.length∧(∀u∈us,u.ok∧u.sm 0)∧Gr cl 3 (us.map UCode.row) cc∧
  Kn H H1 [(R.l,R.o k1)] (([(x2,.st [.sl true 3 []]),(x3,.st [cc])]++us.flatMap UCode.lg)++cl)∧
  e1=[(0,.c (.ptr R.l 0)),(2,.c (.ptr x2 0)),(3,.c (.ptr x3 0)),(4,.c (.int .i64 t))]) i ?_ ?_))
 ·exact⟨i,k+1,[],_,[],rfl,rfl,by omega,by simp,by simp,.nil 3,by simpa using kn,rfl⟩
 ·rintro m e1 H5 ⟨t,k1,us,cc,cl,hm,ht,hk1,hk2,hok,hgr,kn,rfl⟩;have hcow:=hgr.isOw;have hx3:=kn.l 1 rfl;refine Qy ?_;refine Qa ?_;simp only[go_sem];refine Qh (Qe rfl ?_ ?_)
  ·intro hc;have ht0:0<t:=by simpa using hc
   refine Qi ?_;simp only[go_sem];refine Qh (Qf (Qa2 ?_));simp only[go_sem,hx3,hcow];refine Qbla (kn.e 0 rfl) (by omega) (Qbrx hgr kn fun u hu=>(hok u hu).1) fun o H6 k2 hk3 hk4 kn2 hoo hos=>?_;have kn:=kn.compE 0 rfl kn2;have hx3:=kn.l 1 rfl;simp only[go_sem,Qafe,hx3,hcow,o.len3];have kn:=kn.perm Qaln;refine kn.grow (new:=[o.row]) hgr (.mk' _ _ _ _) (by intro r hr;simp only[Ja]at hr;subst hr;exact o.noOw hoo) (by simp only[Jf,Ji,Jn,LIM];omega) fun z H7 kn=>?_;have kn:Kn H H7 [(R.l,R.o k2)] (([(x2,.st [.sl true 3 []]),(x3,.st [cc])]++(us++[o]).flatMap UCode.lg)++[(z,.vec 3 ((us++[o]).map UCode.row))]):=by
    simpa[Js,Jl]using kn
   have hx3:=kn.l 1 rfl;simp only[go_sem,Qafd,hx3];intro H8 h8;have kn:=kn.stL 1 rfl h8;refine Qq ?_;simp only[go_sem,X.next];refine⟨Qr (by omega) (by omega),t-1,by omega,t-1,k2,us++[o],_,_,rfl,by simp;omega,by omega,by simp;omega,fun o' ho'=>?_,.mk _ _ _ (by simp),kn,?_⟩
   ·rcases Jm.1 ho' with h|h
    ·exact hok o' h
    ·simp only[Ja]at h;subst h;exact⟨hoo,hos⟩
   ·have:(t:Int)-1=((t-1:Nat):Int):=(by omega);rw[this]
  ·intro hc;have ht0:t=0:=by have:¬0<t:=(by simpa using hc);omega
   refine Qv ?_;simp only[go_sem,X.next];refine Qy ?_;refine Qa ?_;simp only[go_sem];refine Qkc (ns:=[0,0,1,3]) (kn.e 0 rfl) (by omega) (by simp) fun j0 H6 hj0 hu=>?_;have kn:=kn.callE 0 rfl hu (R.o_ne _);simp only[go_sem,Qaff];obtain⟨j,rfl,hj3⟩:∃j:Nat,j0=j∧j≤3:=⟨j0.toNat,by simp at hj0;omega⟩;have hcl:0<us.length:=by omega
   have hcl3:us.length≤3:=by omega
   refine Qh (Qf (Qw (fun m e1 H1=>∃(t k2 N:Nat) (us:List UCode),m=t∧t+N=j∧us.length=i∧k<k2∧k2≤k1+1+200 * N∧(∀u∈us,u.ok∧u.sm N)∧Gr cl 3 (us.map UCode.row) cc∧
    Kn H H1 [(R.l,R.o k2)] (([(x2,.st [.sl true 3 []]),(x3,.st [cc])]++us.flatMap UCode.lg)++cl)∧
    e1=[(0,.c (.ptr R.l 0)),(2,.c (.ptr x2 0)),(3,.c (.ptr x3 0)),(5,.c (.int .i64 t))]) j ?_ ?_))
   ·exact⟨j,k1+1,0,us,rfl,rfl,by omega,by omega,by omega,hok,hgr,kn,rfl⟩
   ·rintro m e1 H7 ⟨t,k2,N,us,hm,ht,hui,hk3,hk4,hok,hgr,kn,rfl⟩;have hx3:=kn.l 1 rfl;refine Qy ?_;refine Qa ?_;simp only[go_sem];refine Qh (Qe rfl ?_ ?_)
    ·intro hc;have ht0:0<t:=(by simpa using hc);refine Qi ?_;simp only[go_sem];have hmem:∀p∈cl,p∈(([(x2,.st [.sl true 3 []]),(x3,.st [cc])]++us.flatMap UCode.lg)++cl):=fun p hp=>(by simp[hp]);refine Qd2 (fun e2 H2=>∃(k3:Nat) (us:List UCode),us.length=i∧k<k3∧k3≤k2+200∧(∀u∈us,u.ok∧u.sm (N+1))∧Gr cl 3 (us.map UCode.row) cc∧
      Kn H H2 [(R.l,R.o k3)] (([(x2,.st [.sl true 3 []]),(x3,.st [cc])]++us.flatMap UCode.lg)++cl)∧lk 0 e2=.c (.ptr R.l 0)∧lk 2 e2=.c (.ptr x2 0)∧lk 3 e2=.c (.ptr x3 0)∧lk 5 e2=.c (.int .i64 t)) ?_ ?_
     ·intro Q hn _ _;have hs:=hgr.slc kn;have hsok:=eq_true hs.ok;have hlen:=hs.len;have hsz:=hs.sz;rw[Jf]at hlen;refine Qf ?_;refine Qag ?_;simp only[go_sem,hx3,hcow,hsok,hlen];refine Qba (kn.e 0 rfl) (by omega) fun v H8 hv hu=>?_;have kn:=kn.callE 0 rfl hu (R.o_ne _);rw[if_neg (by omega)]at hv;obtain⟨ci,rfl⟩:=Jq hv.1;have hci:ci<us.length:=(by omega);have hx3:=kn.l 1 rfl;have hs:=hgr.slc kn;have hsok:=eq_true hs.ok;simp only[go_sem,Qafg,hx3,hcow,hsok,hlen,hsz,hci];obtain⟨u,hu⟩:∃u,us[ci]=u:=⟨_,rfl⟩;obtain⟨huok,husm⟩:=hok _ (Jb hci);rw[hu]at huok husm;have hrow:(us.map UCode.row).getD ci []=[.int .i64 u.params,.int .i64 u.regs,u.bc]:=(by rw[←hu];simp[Jd,hci,UCode.row]);have hub0:=husm.b0;have hub1:=husm.b;obtain⟨yb,hbc,hbl⟩:=UCode.bvec huok hub0;have hblow:=huok.b.isOw;have hblen:=huok.b.lenC;rw[Jf]at hblen;have hrws:=hs.rows;have hmemb:∀p∈u.bl,p∈(([(x2,.st [.sl true 3 []]),(x3,.st [cc])]++us.flatMap UCode.lg)++cl):=fun p hp=>by
       have:p∈us.flatMap UCode.lg:=J8.2 ⟨u,by rw[←hu];exact Jb hci,Jj _ hp⟩;simp[this]
      have hbok:=eq_true (huok.b.slcM kn hmemb).ok;refine Qa ?_;simp only[go_sem,hx3,hcow,hsok,hlen,hsz,hci,hrws,hrow,hblow,hblen,hbok];intro _;refine Qba (kn.e 0 rfl) (by omega) fun v H9 hv hu9=>?_;have kn:=kn.callE 0 rfl hu9 (R.o_ne _);rw[if_neg (by omega)]at hv;obtain⟨bi,rfl⟩:=Jq hv.1;have hbi:bi<u.blocks.length:=(by omega);have hsok:=eq_true (hgr.slcM kn hmem).ok;have hrws:=(hgr.slcM kn hmem).rows;simp only[go_sem,Qafh];refine Qa ?_;simp only[go_sem,hcow,hsok,hlen,hsz,hci,hrws,hrow,hblow];refine Qba (kn.e 0 rfl) (by omega) fun to H10 _ hu10=>?_;have kn:=kn.callE 0 rfl hu10 (R.o_ne _);simp only[go_sem,Q6d];intro x8 hx8 H11 h11;have kn:=kn.al hx8 h11;have kn:=kn.perm Jk;have hx8:=kn.l 0 rfl;simp only[go_sem,Q6c,hx8];intro H12 h12;have kn:Kn H H12 [(R.l,R.o (k2+1+1+1))] ([(x8,.st [.int .i64 to,.sl true 1 []])]++(([(x2,.st [.sl true 3 []]),(x3,.st [cc])]++us.flatMap UCode.lg)++cl)):=kn.stL 0 rfl h12;have hmem2:∀p∈cl,p∈([(x8,Obj.st [.int .i64 to,.sl true 1 []])]++(([(x2,.st [.sl true 3 []]),(x3,.st [cc])]++us.flatMap UCode.lg)++cl)):=fun p hp=>Jj _ (hmem p hp);have hsok:=eq_true (hgr.slcM kn hmem2).ok;have hrws:=(hgr.slcM kn hmem2).rows;have hbs:=huok.b.slcM kn (fun p hp=>Jj _ (hmemb p hp));refine Qy ?_;refine Qa ?_;simp only[go_sem,hcow,hsok,hlen,hsz,hci,hrws,hrow,hblow];refine Qfm (rows:=u.blocks.map UBlk.row) (nx:=fun i=>(u.blocks.map UBlk.next).getD i []) hbs hblow (fun i hi=>?_) fun H13 hu13=>?_
      ·rw[Jf]at hi;refine⟨u.blocks[i].pc,u.blocks[i].ic,.int .i64 u.blocks[i].jump,.int .i64 u.blocks[i].on,u.blocks[i].nfl,?_⟩;simp[Jd,hi,UBlk.row]
      have kn:=kn.call0 hu13;obtain⟨ps,hps⟩:∃ps,Q8 (fun i=>(u.blocks.map UBlk.next).getD i []) (bi:Int) (u.blocks.map UBlk.row).length=ps:=⟨_,rfl⟩;have hpsl:ps.length≤160:=by
       have:=Qcs (fun i=>(u.blocks.map UBlk.next).getD i []) (bi:Int) (u.blocks.map UBlk.row).length;rw[hps,Jf]at this;omega
      rw[hps];simp only[go_sem,Q6e,Qd];intro _;refine Qh (Qf (Qw (fun m e1 H1=>∃(q:Nat) (ns:List Int) (ac:C) (al:List (Nat×Obj)),m=ps.length-q∧q≤ps.length∧ns.length=q∧Gr al 1 (Qb ns) ac∧
       Kn H H1 [(R.l,R.o (k2+1+1+1+q))] (([(x8,.st [.int .i64 to,ac])]++(([(x2,.st [.sl true 3 []]),(x3,.st [cc])]++us.flatMap UCode.lg)++cl))++al)∧
       e1=[(0,.c (.ptr R.l 0)),(2,.c (.ptr x2 0)),(3,.c (.ptr x3 0)),(5,.c (.int .i64 t)),(6,.c (cc.ep 3 ci 0)),(7,.c (.int .i64 bi)),(8,.c (.ptr x8 0)),(59,.c (.int .i64 ps.length)),(60,.c (.int .i64 q))]) ps.length ?_ ?_))
      ·exact⟨0,[],_,[],by omega,by omega,rfl,.nil 1,by simpa using kn,rfl⟩
      ·rintro m2 e1 H14 ⟨q,ns,ac,al,hm2,hq,hns,hga,kn,rfl⟩;have hacow:=hga.isOw;have hx8:=kn.l 0 rfl;have hmem3:∀p∈cl,p∈(([(x8,Obj.st [.int .i64 to,ac])]++(([(x2,.st [.sl true 3 []]),(x3,.st [cc])]++us.flatMap UCode.lg)++cl))++al):=fun p hp=>List.mem_append_left _ (Jj _ (hmem p hp));have hsok:=eq_true (hgr.slcM kn hmem3).ok;have hrws:=(hgr.slcM kn hmem3).rows;refine Qa ?_;simp only[go_sem];refine Qh (Qe rfl ?_ ?_)
       ·intro hc;have hlt:q<ps.length:=(by simpa using hc);refine Qi ?_;simp only[go_sem];refine Qh (Qf (Qa2 ?_));simp only[go_sem,hx8,hacow,hcow,hsok,hlen,hsz,hci,hrws,hrow,hblow];refine Qba (kn.e 0 rfl) (by omega) fun v H15 _ hu15=>?_;have kn:=kn.callE 0 rfl hu15 (R.o_ne _);have hx8:=kn.l 0 rfl;simp only[go_sem,Q6g,hx8,hacow];refine kn.grow (new:=Qb [v]) hga (.mk' _ _ _ _) (Qp _) (by simp only[Qd,LIM,Ji,Jn];omega) fun y H16 kn=>?_;have hx8:=kn.l 0 rfl;simp only[go_sem,Q6f,hx8];intro H17 h17;have kn:=kn.stL 0 rfl h17;refine Qq ?_;simp only[go_sem,X.next];refine⟨Qr (by omega) (by omega),ps.length-(q+1),by omega,q+1,ns++[v],_,_,rfl,by omega,by simp[hns],?_,kn,rfl⟩;rw[←Qbg];exact .mk _ _ _ (by simp[Qbg,Qd])
       ·intro hc;have hqp:q=ps.length:=(by have:¬q<ps.length:=(by simpa using hc);omega);refine Qv ?_;simp only[go_sem,X.next];refine Qa ?_;simp only[go_sem];refine Qe rfl ?_ ?_
        ·intro hc;obtain⟨blk,hblk⟩:∃blk,u.blocks[bi]=blk:=⟨_,rfl⟩;have hbok2:=huok.bs _ (Jb hbi);have hbsm2:=husm.bs _ (Jb hbi);rw[hblk]at hbok2 hbsm2;have hbp:=hbsm2.p;have hbr:(u.blocks.map UBlk.row).getD bi []=[blk.pc,blk.ic,.int .i64 blk.jump,.int .i64 blk.on,.sl blk.nfl 1 (Qb blk.next)]:=(by rw[←hblk];simp[Jd,hbi,UBlk.row]);have hpcow:=hbok2.p.isOw;have hbl5:(u.blocks.map UBlk.row).length=u.blocks.length:=(by simp);have kn:Kn H H14 [(R.l,R.o (k2+1+1+1+q))] (([(yb,.vec 5 (u.blocks.map UBlk.row))]++([(x8,.st [.int .i64 to,ac])]++([(x2,.st [.sl true 3 []]),(x3,.st [cc])]++(blk.core++(al++(Qarf us ci bi hci++cl))))))++blk.pl):=kn.perm (Ql fun f hf h0 hc1 hp=>by
          have h1:=hp _ _ (Qbn5 us ci bi hci (by rw[hu];exact hbi));subst hu;rw[hblk,hbl]at h1;simp only[hf]at h1⊢;omega)
         have hyb:=kn.l 0 rfl;have hx8:=kn.l 1 rfl;have hmem4:∀p∈cl,p∈(([(yb,Obj.vec 5 (u.blocks.map UBlk.row))]++([(x8,Obj.st [.int .i64 to,ac])]++([(x2,Obj.st [.sl true 3 []]),(x3,Obj.st [cc])]++(blk.core++(al++(Qarf us ci bi hci++cl))))))++blk.pl):=fun p hp=>(by simp[hp]);have hsok:=eq_true (hgr.slcM kn hmem4).ok;have hrws:=(hgr.slcM kn hmem4).rows;obtain⟨ph,hph⟩:∃ph:UPhi,ph=⟨to,ns,ac,al⟩:=⟨_,rfl⟩;have hphr:[C.int IntKind.i64 to,ac]=ph.row:=(by rw[hph];rfl);have hphl:ph.al=al:=(by rw[hph]);have hphg:Gr ph.al 1 (Qb ph.ns) ph.ac:=(by rw[hph];exact hga);rw[hbc]at hrow hblow hblen;have hgp:=hbok2.p;have htk:List.take u.blocks.length (u.blocks.map UBlk.row)=u.blocks.map UBlk.row:=Jc (by simp);refine Qa2 ?_;simp only[go_sem,hx8,hacow,hcow,hsok,hlen,hsz,hci,hrws,hrow,hyb,hbi,hbl5,htk,hbr,hpcow,Jo,J9,Jg];rw[hphr];refine kn.grow (new:=[ph.row]) hgp (.mk' _ _ _ _) (by intro r hr;simp only[Ja]at hr;subst hr;exact ph.noOw hphg) (by simp only[Jf,Ji,Jn,LIM];omega) fun z H15 kn=>?_;have kn:Kn H H15 [(R.l,R.o (k2+1+1+1+q))] ([(yb,.vec 5 (u.blocks.map UBlk.row))]++(([(x8,.st [.int .i64 to,ac])]++([(x2,.st [.sl true 3 []]),(x3,.st [cc])]++(blk.core++(al++(Qarf us ci bi hci++cl)))))++[(z,.vec 2 ((blk.phis++[ph]).map UPhi.row))])):=by
          simpa[Jl]using kn
         have hyb:=kn.l 0 rfl;have hmem5:∀p∈cl,p∈([(yb,Obj.vec 5 (u.blocks.map UBlk.row))]++(([(x8,Obj.st [.int .i64 to,ac])]++([(x2,Obj.st [.sl true 3 []]),(x3,Obj.st [cc])]++(blk.core++(al++(Qarf us ci bi hci++cl)))))++[(z,.vec 2 ((blk.phis++[ph]).map UPhi.row))])):=fun p hp=>(by simp[hp]);have hsok:=eq_true (hgr.slcM kn hmem5).ok;have hrws:=(hgr.slcM kn hmem5).rows;simp only[go_sem,Q6h,hcow,hsok,hlen,hsz,hci,hrws,hrow,hyb,hbi,hbl5,htk,hbr,hpcow,Jo,Jg];intro H16 h16;obtain⟨b',hb'⟩:∃b':UBlk,b'={ blk with phis:=blk.phis++[ph],pc:=.vsl z 2 0 ((blk.phis.map UPhi.row).length+1),pl:=[(z,.vec 2 ((blk.phis++[ph]).map UPhi.row))] }:=⟨_,rfl⟩;have hbr':[C.vsl z 2 0 ((blk.phis.map UPhi.row).length+1),blk.ic,C.int IntKind.i64 blk.jump,C.int IntKind.i64 blk.on,C.sl blk.nfl 1 (Qb blk.next)]=b'.row:=(by rw[hb'];rfl);have hbset:(u.blocks.map UBlk.row).set bi b'.row=(u.blocks.set bi b').map UBlk.row:=(by rw[Ju]);rw[hbr',hbset]at h16;have kn:=kn.stL 0 rfl h16;have hbok':b'.ok:=by
          rw[hb'];refine⟨.mk _ _ _ (by simp),hbok2.i,fun p hp=>?_⟩;rcases Jm.1 hp with h|h
          ·exact hbok2.a p h
          ·simp only[Ja]at h;subst h;exact hphg
         have hbsm':b'.sm (N+1):=by
          rw[hb'];refine⟨hbsm2.n,hbsm2.i,by simp;omega,hbsm2.ia,fun p hp=>?_⟩;rcases Jm.1 hp with h|h
          ·exact hbsm2.pa p h
          ·simp only[Ja]at h;subst h;rw[hph];show ns.length≤1000;omega
         obtain⟨u',hu'⟩:∃u',u'=u.put bi b' [(yb,.vec 5 ((u.blocks.set bi b').map UBlk.row))]:=⟨_,rfl⟩;have huok':u'.ok:=(by rw[hu'];exact UCode.put_ok huok hbok' hbl);have husm':u'.sm (N+1):=(by rw[hu'];exact UCode.put_sm husm hbsm');have hkn:Kn H H16 [(R.l,R.o (k2+1+1+1+q))] ((([(x2,.st [.sl true 3 []]),(x3,.st [cc])]++(us.set ci u').flatMap UCode.lg)++cl)++[(x8,.st [.int .i64 to,ac])]):=kn.perm (Ql fun f hf h0 hc1 hp=>by
          have h1:=hp _ _ (Qbri us ci bi hci (by rw[hu];exact hbi) b' [(yb,.vec 5 ((u.blocks.set bi b').map UBlk.row))]);rw[hu,←hu']at h1;have h2:b'.core=blk.core++al:=(by rw[hb',UBlk.core_snoc,hphl]);have h3:b'.pl=[(z,.vec 2 ((blk.phis++[ph]).map UPhi.row))]:=(by rw[hb']);rw[h2,h3]at h1;simp only[Jr,Jp,Jw,hf,hc1 _ (_::_),hc1 _ (_++_)]at h1⊢;omega)
         refine hn _ _ ⟨k2+1+1+1+q,us.set ci u',by simpa using hui,by omega,by omega,fun v hv=>?_,?_,hkn.drop,rfl,rfl,rfl,rfl⟩
         ·rcases J5 hv with hv|rfl
          ·exact⟨(hok v hv).1,(hok v hv).2.mono (by omega)⟩
          ·exact⟨huok',husm'⟩
         ·rw[Qbrj us ci hci u' (by rw[hu',UCode.put_row,hu])];exact hgr
        ·intro hc;refine Qi ?_;simp only[go_sem];refine hn _ _ ⟨k2+1+1+1+q,us,hui,by omega,by omega,fun u hu=>⟨(hok u hu).1,(hok u hu).2.mono (by omega)⟩,hgr,?_,rfl,rfl,rfl,rfl⟩;have kn:=kn.drop;exact (kn.perm Jk).drop
     rintro e2 H8 ⟨k3,us,hui,hk5,hk6,hok,hgr,kn,l0,l2,l3,l5⟩;refine Qq ?_;simp only[go_sem,X.next,l0,l2,l3,l5];refine⟨Qr (by omega) (by omega),t-1,by omega,t-1,k3,N+1,us,rfl,by omega,hui,hk5,by omega,hok,hgr,kn,?_⟩;have:(t:Int)-1=((t-1:Nat):Int):=(by omega);rw[this]
    ·intro hc;refine Qv ?_;simp only[go_sem,X.next];have hx2:=kn.l 0 rfl;refine Qa ?_;simp only[go_sem,hx2,hx3,hcow];intro H8 h8;have kn:=kn.stL 0 rfl h8;have hx2:=kn.l 0 rfl;refine Qk ?_;simp only[go_sem,Q3,Qab,Qa89,reduceIte,Ja,forall_eq,RS.op,hx2,hcow];have hheld:Held H8 (un H) (us.flatMap UCode.lg++cl):=fun p hp=>by
      have hp2:p∈(([(x2,Obj.st [cc]),(x3,Obj.st [cc])]++us.flatMap UCode.lg)++cl):=by
       rcases Jm.1 hp with h|h
       ·simp[h]
       ·simp[h]
      exact⟨(kn.get p (Jj _ hp2)).1,Qe8 (kn.loc p hp2)⟩
     obtain⟨cs,hf,hcn,hcs⟩:=UCodes.frz (N:=N) (by omega) hgr hok hheld;exact⟨_,FrzL.ag (.cons hf .nil),hK cs _ k2 hk3 (by omega) kn.fin (by omega) (by omega) hcs⟩
end Go.AE.Y
namespace Go.AE
open Go.AE.Y
open Go.Proofs.Tryz
variable {H:Heap}{K:V→Heap→Prop}
theorem Kn.lm {H0 H:Heap}{E L:List (Nat×Obj)}{x:Nat}{o:Obj}(kn:Kn H0 H E L)(h:(x,o)∈L):H x=o:=(kn.get (x,o) (Jj _ h)).1
end Go.AE
namespace Go.AE.Y
open Go.Proofs.Tryz
variable {H:Heap}{K:V→Heap→Prop}
set_option maxHeartbeats 4000000 in
theorem Qbk9 {R:Rdr}{k:Nat}(hH:H R.l=R.o k)(hk:k+20000≤2^40)
  (hK:∀(cs:List CodeD) (H':Heap) (k':Nat),k<k'→k'≤k+20000→Upd H H' [(R.l,R.o k')]→0<cs.length→cs.length≤3→(∀c∈cs,c.gd)→K (.ag [.sl false 3 (Qj cs)]) H') :
  Qs prog Q93 [.c (.ptr R.l 0)] H K:=by
 refine Qx ?_;refine Qc Qaj Qbls ?_;refine Qa ?_;simp only[go_sem];intro x2 hx2 H1 h1;have kn:=(Kn.start1 hH (R.o_ne k)).al hx2 h1;refine Qa ?_;simp only[go_sem];refine Qa8x (kn.e 0 rfl) (by omega) fun cs H2 k1 hk1 hk2 hu hcs0 hcs3 hsm=>?_;have kn:=kn.callE 0 rfl hu (R.o_ne _);simp only[go_sem,Qad8];refine Qar3 hsm (by omega) fun us cc cl H3 k2 hgr hok hul=>?_;have kn:=kn.comp0 k2;have hcow:=hgr.isOw;simp only[go_sem,Qad7,hcow];intro x3 hx3 H4 h4;have kn:=kn.al hx3 h4;have kn:=kn.perm Jk;have hx3:=kn.l 0 rfl;simp only[go_sem,Qad6,hx3,hcow];intro H5 h5;have kn:=kn.stL 0 rfl h5;have kn:Kn H H5 [(R.l,R.o k1)] (([(x2,.st [.sl true 3 []]),(x3,.st [cc])]++us.flatMap OCode.lg)++cl):=kn.perm (Ql fun f hf h0 hc1 hp=>by
  simp only[Jr,Jp,Jw,hf,hc1 _ (_::_),hc1 _ (_++_),hc1 _ (List.flatMap _ _)];omega)
 have hx3:=kn.l 1 rfl;have hs:=hgr.slc kn;have hsok:=eq_true hs.ok;have hlen:=hs.len;have hsz:=hs.sz;rw[Jf]at hlen;refine Qag ?_;simp only[go_sem,hx3,hcow,hsok,hlen];refine Qba (kn.e 0 rfl) (by omega) fun v H6 hv hu=>?_;have kn:=kn.callE 0 rfl hu (R.o_ne _);rw[if_neg (by omega)]at hv;obtain⟨ci,rfl⟩:=Jq hv.1;have hci:ci<us.length:=by omega
 have hx3:=kn.l 1 rfl;have hs:=hgr.slc kn;have hsok:=eq_true hs.ok;have hrws:=hs.rows;simp only[go_sem,Qad9,hx3,hcow,hsok,hlen,hsz,hci];obtain⟨u,hu⟩:∃u,us[ci]=u:=⟨_,rfl⟩;obtain⟨huok,husm⟩:=hok _ (Jb hci);rw[hu]at huok husm;have hrow:(us.map OCode.row).getD ci []=[.int .i64 u.params,.int .i64 u.regs,u.bc]:=by rw[←hu];simp[Jd,hci,OCode.row]
 have hub0:=husm.b0;have hub1:=husm.b;obtain⟨yb,hbc,hbl⟩:=OCode.bvec huok hub0;have hblow:(C.vsl yb 5 0 u.blocks.length).isOw=false:=rfl;have hblen:lenC (C.vsl yb 5 0 u.blocks.length)=u.blocks.length:=rfl;rw[hbc]at hrow;have hybm:(yb,Obj.vec 5 (u.blocks.map OBlk.row))∈(([(x2,Obj.st [.sl true 3 []]),(x3,.st [cc])]++us.flatMap OCode.lg)++cl):=by
  have:(yb,Obj.vec 5 (u.blocks.map OBlk.row))∈us.flatMap OCode.lg:=J8.2 ⟨u,by rw[←hu];exact Jb hci,Jj _ (by rw[hbl];simp)⟩;simp[this]
 have hyb:=kn.lm hybm;have hbl5:(u.blocks.map OBlk.row).length=u.blocks.length:=by simp
 have htk:List.take u.blocks.length (u.blocks.map OBlk.row)=u.blocks.map OBlk.row:=Jc (by simp);refine Qag ?_;simp only[go_sem,hcow,hsok,hlen,hsz,hci,hrws,hrow,hyb,hbl5,Jg,Je];refine Qba (kn.e 0 rfl) (by omega) fun v H7 hv hu7=>?_;have kn:=kn.callE 0 rfl hu7 (R.o_ne _);rw[if_neg (by omega)]at hv;obtain⟨bi,rfl⟩:=Jq hv.1;have hbi:bi<u.blocks.length:=by omega
 have hs:=hgr.slc kn;have hsok:=eq_true hs.ok;have hrws:=hs.rows;have hyb:=kn.lm hybm;simp only[go_sem,Qaea,hcow,hsok,hlen,hsz,hci,hrws,hrow,hyb,hbl5,hbi,Jg,Je];refine Qag ?_;simp only[go_sem,hcow,hsok,hlen,hsz,hci,hrws,hrow,hyb,hbl5,hbi,Jg,Je];refine Qkc (ns:=[-1,u.regs,u.blocks.length,0,1]) (kn.e 0 rfl) (by omega) (by simp) fun bad H8 _ hu8=>?_;have kn:=kn.callE 0 rfl hu8 (R.o_ne _);simp only[go_sem,Qaeb];refine Qy ?_;refine Qa ?_;simp only[go_sem];refine Qba (kn.e 0 rfl) (by omega) fun kind H9 _ hu9=>?_;have kn:=kn.callE 0 rfl hu9 (R.o_ne _);refine Qd2 (fun e2 H2=>∃(k3:Nat) (us:List OCode) (cl:List (Nat×Obj)),us.length=cs.length∧k<k3∧k3≤k+20000∧(∀u∈us,u.ok∧u.sm 1001)∧Gr cl 3 (us.map OCode.row) cc∧
   Kn H H2 [(R.l,R.o k3)] (([(x2,.st [.sl true 3 []]),(x3,.st [cc])]++us.flatMap OCode.lg)++cl)∧lk 2 e2=.c (.ptr x2 0)∧lk 3 e2=.c (.ptr x3 0)) ?_ ?_
 ·intro Q hn _ _;have hull:us.length=cs.length:=hul;have knO:=kn;obtain⟨blk,hblk⟩:∃blk,u.blocks[bi]=blk:=⟨_,rfl⟩;have hbok:=huok.bs _ (Jb hbi);have hbsm:=husm.bs _ (Jb hbi);rw[hblk]at hbok hbsm;have hbr:(u.blocks.map OBlk.row).getD bi []=[blk.pc,blk.ic,.int .i64 blk.jump,.int .i64 blk.on,.vsl blk.nx.y 1 0 blk.nx.ns.length]:=by rw[←hblk];simp[Jd,hbi,OBlk.row,OInts.c]
  have hpcow:=hbok.p.isOw;have hicow:=hbok.i.isOw;have kn:=Qa91 kn hci hu hbi hblk hbl;have hset:∀b':OBlk,(u.blocks.map OBlk.row).set bi b'.row=(u.blocks.set bi b').map OBlk.row:=fun b'=>(Ju).symm;have hdone:∀(b':OBlk) (H2:Heap) (k3:Nat) (e2:Env),b'.ok→b'.sm 1001→k<k3→k3≤k+20000→Kn H H2 [(R.l,R.o k3)] ([(yb,.vec 5 ((u.blocks.set bi b').map OBlk.row))]++(b'.lg++(Qag1 us ci bi hci++([(x2,Obj.st [.sl true 3 []]),(x3,.st [cc])]++cl))))→
    lk 2 e2=.c (.ptr x2 0)→lk 3 e2=.c (.ptr x3 0)→Q .nrm e2 H2:=by
   intro b' H2 k3 e2 h1 h2 h3 h4 kn l2 l3;obtain⟨us',g1,g2,g3,g4⟩:=Qbd9 (N:=1000) hci hu hbi hbl hok h1 h2 hgr kn;exact hn _ _ ⟨k3,us',cl,by omega,h3,h4,g3,g2,g4,l2,l3⟩
  have hsame:∀e2:Env,lk 2 e2=.c (.ptr x2 0)→lk 3 e2=.c (.ptr x3 0)→Q .nrm e2 H9:=fun e2 l2 l3=>
   hn _ _ ⟨_,us,cl,hul,by omega,by omega,fun u hu=>⟨(hok u hu).1,(hok u hu).2.mono (by omega)⟩,hgr,knO,l2,l3⟩
  refine Qf ?_;refine Qa ?_;simp only[go_sem];have hsok:=eq_true (hgr.slcM kn (fun p hp=>by simp[hp])).ok;have hrws:=(hgr.slcM kn (fun p hp=>by simp[hp])).rows;have hyb:=kn.l 0 rfl;refine Qe rfl ?_ ?_
  ·intro hc;refine Qq ?_;simp only[go_sem];refine Qba (kn.e 0 rfl) (by omega) fun v H10 _ hu10=>?_;have kn:=kn.callE 0 rfl hu10 (R.o_ne _);have hyb:=kn.l 0 rfl;simp only[go_sem,Qaec,hyb,hbl5,htk,hbi,hbr,hpcow,hicow,Qb1,Jo,Jg,Je];intro H11 h11;have hb':[blk.pc,blk.ic,C.int IntKind.i64 v,C.int IntKind.i64 blk.on,C.vsl blk.nx.y 1 0 blk.nx.ns.length]=({ blk with jump:=v }:OBlk).row:=rfl;rw[hb',hset]at h11;exact hdone { blk with jump:=v } _ _ _ ⟨hbok.p,hbok.i,hbok.a⟩ ⟨hbsm.n,hbsm.i,by have:=hbsm.p;show blk.phis.length≤_;omega,fun x hx=>by have:=hbsm.ia x hx;omega⟩ (by omega) (by omega) (kn.stL 0 rfl h11) (by simp[lk]) (by simp[lk])
  intro hc0;refine Qa ?_;simp only[go_sem];refine Qe rfl ?_ ?_
  ·intro hc;have hny:H9 blk.nx.y=.vec 1 (Qb blk.nx.ns):=kn.l 1 rfl;have htk2:List.take blk.nx.ns.length (Qb blk.nx.ns)=Qb blk.nx.ns:=Jc (by simp[Qd]);refine Qa ?_;simp only[go_sem,hyb,hbl5,htk,hbi,hbr,hpcow,hicow,Qb1,Jo,Jg,Je,hny,Qd];intro _;refine Qe rfl ?_ ?_
   ·intro hc2;have hn0:0<blk.nx.ns.length:=(by simpa using hc2);have hg1:=Qn blk.nx.ns 0 hn0;refine Qq ?_;simp only[go_sem,hyb,hbl5,htk,hbi,hbr,hpcow,hicow,Qb1,Jo,Jg,Je,hny,hn0,hg1,htk2,Qd];refine⟨by omega,fun H11 h11=>?_⟩;have hs1:(Qb blk.nx.ns).set 0 [C.int IntKind.i64 bad]=Qb (blk.nx.ns.set 0 bad):=(by simp[Qb,Ju]);rw[hs1]at h11;have kn:Kn H H11 [(R.l,R.o (k1+1+1+1+1))] ([(yb,.vec 5 (u.blocks.map OBlk.row))]++(OBlk.lg { blk with nx:=⟨blk.nx.ns.set 0 bad,blk.nx.y⟩ }++(Qag1 us ci bi hci++([(x2,Obj.st [.sl true 3 []]),(x3,.st [cc])]++cl)))):=kn.stL 1 rfl h11;refine hdone { blk with nx:=⟨blk.nx.ns.set 0 bad,blk.nx.y⟩ } _ (k1+1+1+1+1) _ ⟨hbok.p,hbok.i,hbok.a⟩ ⟨by simpa using hbsm.n,hbsm.i,by have:=hbsm.p;show blk.phis.length≤_;omega,fun x hx=>by have:=hbsm.ia x hx;omega⟩ (by omega) (by omega) ?_ (by simp[lk]) (by simp[lk]);rw[Q85 hbi (by rw[hblk];simp[OBlk.row,OInts.c])];exact kn
   ·intro hc2;refine Qi ?_;exact hsame _ (by simp[lk]) (by simp[lk])
  intro hc1;refine Qa ?_;simp only[go_sem];refine Qe rfl ?_ ?_
  ·intro hc;refine Qq ?_;simp only[go_sem,hyb,hbl5,htk,hbi,hbr,hpcow,hicow,Qb1,Jo,Jg,Je];intro H11 h11;have hb':[blk.pc,blk.ic,C.int IntKind.i64 blk.jump,C.int IntKind.i64 bad,C.vsl blk.nx.y 1 0 blk.nx.ns.length]=({ blk with on:=bad }:OBlk).row:=rfl;rw[hb',hset]at h11;exact hdone { blk with on:=bad } _ _ _ ⟨hbok.p,hbok.i,hbok.a⟩ ⟨hbsm.n,hbsm.i,by have:=hbsm.p;show blk.phis.length≤_;omega,fun x hx=>by have:=hbsm.ia x hx;omega⟩ (by omega) (by omega) (kn.stL 0 rfl h11) (by simp[lk]) (by simp[lk])
  intro hc2;refine Qa ?_;simp only[go_sem];have hilen:lenC blk.ic=blk.ins.length:=by rw[hbok.i.lenC];simp
  have hiok:okSl H9 blk.ic=True:=eq_true (hbok.i.slcM kn (fun p hp=>by simp[OBlk.lg,hp])).ok;refine Qe rfl ?_ ?_
  ·intro hc;refine Qa ?_;simp only[go_sem,hyb,hbl5,htk,hbi,hbr,hpcow,hicow,Qb1,Jo,Jg,Je,hilen,hiok];intro _;refine Qe rfl ?_ ?_
   ·intro hc2;have hn0:0<blk.ins.length:=(by simpa using hc2);obtain⟨yi,hic,hil⟩:=OBlk.ivec hbok hn0;rw[hic]at hbr;have knI:=Qamv kn hil;have hyi:=knI.l 0 rfl;obtain⟨x,hx⟩:∃x,blk.ins[0]=x:=⟨_,rfl⟩;have hxr:(blk.ins.map OIns.row).getD 0 []=[.int .i64 x.op,.int .i64 x.to,.vsl x.a.y 1 0 x.a.ns.length,.int .i64 x.n]:=(by rw[←hx];simp[Jd,hn0,OIns.row,OInts.c]);have hil4:(blk.ins.map OIns.row).length=blk.ins.length:=(by simp);have htk4:List.take blk.ins.length (blk.ins.map OIns.row)=blk.ins.map OIns.row:=Jc (by simp);have hxa:x.a.ns.length≤1000:=hbsm.ia x (by rw[←hx];exact Jb hn0);refine Qq ?_;simp only[go_sem,hyb,hbl5,htk,hbi,hbr,hpcow,hicow,Qb1,Jo,Jg,Je,hyi,hn0,hxr,hil4,htk4];refine⟨by omega,fun H12 h12=>?_⟩;have hr':[C.int IntKind.i64 x.op,C.int IntKind.i64 bad,C.vsl x.a.y 1 0 x.a.ns.length,C.int IntKind.i64 x.n]=({ x with to:=bad }:OIns).row:=rfl;rw[hr',←Ju]at h12;have knD:=Qbe3 (b:=blk) (is:=blk.ins.set 0 { x with to:=bad }) (knI.stL 0 rfl h12) (Q27 hn0 (by rw[hx];rfl));refine hdone _ _ (k1+1+1+1+1) _ (OBlk.ins_ok (i:=0) (x':={ x with to:=bad }) hbok hic) (OBlk.ins_sm (i:=0) (x':={ x with to:=bad }) hbsm (by show x.a.ns.length≤_;omega)) (by omega) (by omega) ?_ (by simp[lk]) (by simp[lk]);rw[Q85 hbi (by rw[hblk];rfl)];exact knD
   ·intro hc2;refine Qi ?_;exact hsame _ (by simp[lk]) (by simp[lk])
  intro hc3;refine Qa ?_;simp only[go_sem];refine Qe rfl ?_ ?_
  ·intro hc;refine Qa ?_;simp only[go_sem,hyb,hbl5,htk,hbi,hbr,hpcow,hicow,Qb1,Jo,Jg,Je,hilen,hiok];intro _;refine Qe rfl ?_ ?_
   ·intro hc2;have hn0:0<blk.ins.length:=(by simpa using hc2);obtain⟨yi,hic,hil⟩:=OBlk.ivec hbok hn0;rw[hic]at hbr;have knI:=Qamv kn hil;have hyi:=knI.l 0 rfl;obtain⟨x,hx⟩:∃x,blk.ins[0]=x:=⟨_,rfl⟩;have hxr:(blk.ins.map OIns.row).getD 0 []=[.int .i64 x.op,.int .i64 x.to,.vsl x.a.y 1 0 x.a.ns.length,.int .i64 x.n]:=(by rw[←hx];simp[Jd,hn0,OIns.row,OInts.c]);have hil4:(blk.ins.map OIns.row).length=blk.ins.length:=(by simp);have htk4:List.take blk.ins.length (blk.ins.map OIns.row)=blk.ins.map OIns.row:=Jc (by simp);have hxa:x.a.ns.length≤1000:=hbsm.ia x (by rw[←hx];exact Jb hn0);refine Qa2 ?_;have knA:Kn H H9 [(R.l,R.o (k1+1+1+1+1))] ([(x.a.y,.vec 1 (Qb x.a.ns))]++([(yi,.vec 4 (blk.ins.map OIns.row))]++([(yb,.vec 5 (u.blocks.map OBlk.row))]++(blk.nx.lg++(blk.phis.flatMap OPhi.lg++(blk.pl++((blk.ins.eraseIdx 0).flatMap OIns.lg++(Qag1 us ci bi hci++([(x2,Obj.st [.sl true 3 []]),(x3,.st [cc])]++cl))))))))):=knI.perm (Ql fun f hf h0 hc1 hp=>by
     have h1:=hp _ _ (Qjc OIns.lg blk.ins 0 hn0);rw[hx]at h1;have h2:x.lg=[(x.a.y,.vec 1 (Qb x.a.ns))]:=rfl;rw[h2]at h1;simp only[hf]at h1⊢;omega)
    have hxy:=knA.l 0 rfl;have htk1:List.take x.a.ns.length (Qb x.a.ns)=Qb x.a.ns:=Jc (by simp[Qd]);simp only[go_sem,hyb,hbl5,htk,hbi,hbr,hpcow,hicow,Qb1,Jo,Jg,Je,hyi,hn0,hxr,hil4,htk4,hxy,Qd,htk1];refine⟨by omega,by simp only[LIM];omega,fun y' hy' H10 h10=>?_⟩;have knA:=knA.ap 0 rfl hy' h10;have hyi:=knA.l 1 rfl;have hyb:=knA.l 2 rfl;simp only[go_sem,Qaed,hyb,hbl5,htk,hbi,hbr,hpcow,hicow,Qb1,Jo,Jg,Je,hyi,hn0,hxr,hil4,htk4];refine⟨by omega,fun H12 h12=>?_⟩;obtain⟨x',hx'⟩:∃x':OIns,x'={ x with a:=⟨x.a.ns++[bad],y'⟩ }:=⟨_,rfl⟩;have hr':[C.int IntKind.i64 x.op,C.int IntKind.i64 x.to,C.vsl y' 1 0 (x.a.ns.length+1),C.int IntKind.i64 x.n]=x'.row:=(by rw[hx'];simp[OIns.row,OInts.c]);have hl':x'.lg=[(y',.vec 1 (Qb x.a.ns++[[.int .i64 bad]]))]:=(by rw[hx'];simp[OIns.lg,OInts.lg,Qb]);rw[hr',←Ju]at h12;have knA:=knA.stL 1 rfl h12;refine hdone _ _ (k1+1+1+1+1) _ (OBlk.ins_ok (i:=0) (x':=x') hbok hic) (OBlk.ins_sm (i:=0) (x':=x') hbsm (by rw[hx'];simp;omega)) (by omega) (by omega) ?_ (by simp[lk]) (by simp[lk]);rw[Q85 hbi (by rw[hblk];rfl)];refine knA.perm (Ql fun f hf h0 hc1 hp=>?_);have h1:=hp _ _ (Qgv OIns.lg blk.ins 0 x' hn0);rw[hl']at h1;simp only[OBlk.lg,Jr,Jp,Jw,J4,hf,hc1 _ (_::_),hc1 _ (_++_),hc1 _ (List.flatMap _ _)]at h1⊢;omega
   ·intro hc2;refine Qi ?_;exact hsame _ (by simp[lk]) (by simp[lk])
  intro hc4;refine Qa ?_;simp only[go_sem];refine Qe rfl ?_ ?_
  ·intro hc;refine Qq ?_;simp only[go_sem,hyb,hbl5,htk,hbi,hbr,hpcow,hicow,Qb1,Jo,Jg,Je];have knP:Kn H H9 [(R.l,R.o (k1+1+1+1+1))] (([(yb,.vec 5 (u.blocks.map OBlk.row))]++(blk.nx.lg++(blk.phis.flatMap OPhi.lg++(blk.ins.flatMap OIns.lg++(blk.il++(Qag1 us ci bi hci++([(x2,Obj.st [.sl true 3 []]),(x3,.st [cc])]++cl)))))))++blk.pl):=kn.perm (Ql fun f hf h0 hc1 hp=>by
    simp only[OBlk.lg,hf];omega)
   obtain⟨ph,hph⟩:∃ph:OPhi,ph=⟨0,[bad],.sl true 1 (Qb [bad]),[]⟩:=⟨_,rfl⟩;have hphr:[C.int IntKind.i64 0,C.sl true 1 [[C.int IntKind.i64 bad]]]=ph.row:=by rw[hph];rfl
   have hphok:ph.ok:=by rw[hph];exact .inr ⟨true,rfl,rfl⟩
   have hphl:ph.lg=[]:=by rw[hph]
   have hpl:=hbsm.p;rw[hphr];refine knP.grow (new:=[ph.row]) hbok.p (.mk' _ _ _ _) (by intro r hr;simp only[Ja]at hr;subst hr;exact ph.noOw hphok) (by simp only[Jf,Ji,Jn,LIM];omega) fun z H10 knP=>?_;have hyb:=knP.l 0 rfl;simp only[go_sem,Q5n,hyb,hbl5,htk,hbi,hbr,hpcow,hicow,Qb1,Jo,Jg,Je];intro H11 h11;obtain⟨b',hb'⟩:∃b':OBlk,b'={ blk with phis:=blk.phis++[ph],pc:=.vsl z 2 0 ((blk.phis.map OPhi.row).length+1),pl:=[(z,.vec 2 ((blk.phis++[ph]).map OPhi.row))] }:=⟨_,rfl⟩;have hbr':[C.vsl z 2 0 ((blk.phis.map OPhi.row).length+1),blk.ic,C.int IntKind.i64 blk.jump,C.int IntKind.i64 blk.on,C.vsl blk.nx.y 1 0 blk.nx.ns.length]=b'.row:=by rw[hb'];rfl
   rw[hbr',hset]at h11;have knP:=knP.stL 0 rfl h11;have hbok':b'.ok:=by
    rw[hb'];refine⟨.mk _ _ _ (by simp),hbok.i,fun p hp=>?_⟩;rcases Jm.1 hp with h|h
    ·exact hbok.a p h
    ·simp only[Ja]at h;subst h;exact hphok
   have hbsm':b'.sm 1001:=by
    rw[hb'];exact⟨hbsm.n,hbsm.i,by simp;omega,fun x hx=>by have:=hbsm.ia x hx;omega⟩
   refine hdone b' _ (k1+1+1+1+1) _ hbok' hbsm' (by omega) (by omega) ?_ (by simp[lk]) (by simp[lk]);have hbl':b'.lg=blk.nx.lg++(blk.phis.flatMap OPhi.lg++([(z,.vec 2 ((blk.phis++[ph]).map OPhi.row))]++(blk.ins.flatMap OIns.lg++blk.il))):=by
    rw[hb'];simp[OBlk.lg,Js,hphl]
   rw[hbl'];have hmm:blk.phis.map OPhi.row++[ph.row]=(blk.phis++[ph]).map OPhi.row:=by simp
   rw[hmm]at knP;refine knP.perm (Ql fun f hf h0 hc1 hp=>?_);simp only[Jr,Jp,Jw,J4,hf,hc1 _ (_::_),hc1 _ (_++_),hc1 _ (List.flatMap _ _)];omega
  intro hc5;refine Qa ?_;simp only[go_sem];refine Qe rfl ?_ ?_
  ·intro hc;refine Qa2 ?_;simp only[go_sem,hcow,hsok,hlen,hsz,hci,hrws,hrow];refine Qba (kn.e 0 rfl) (by omega) fun v H10 hv hu10=>?_;have knO:=knO.callE 0 rfl hu10 (R.o_ne _);obtain⟨yc,hcc,hcl⟩:∃yc,cc=.vsl yc 3 0 us.length∧cl=[(yc,.vec 3 (us.map OCode.row))]:=by
    rcases hgr with ⟨h1,h2,h3⟩|⟨y,h1,h2⟩
    ·rw[List.map_eq_nil_iff]at h2;rw[h2]at hci;simp at hci
    ·exact⟨y,by rw[h1];simp,h2⟩
   have hyc:H10 yc=.vec 3 (us.map OCode.row):=knO.lm (by rw[hcl];simp);have hul3:(us.map OCode.row).length=us.length:=by simp
   have htk3:List.take us.length (us.map OCode.row)=us.map OCode.row:=Jc (by simp);have hbcow:=huok.b.isOw;simp only[go_sem,Q5o,hcc,hyc,hul3,htk3,hci,hrow,Qb1,Jo,Jg,Je];have hp0:=husm.p0;have hp1:=husm.p1;rw[if_neg (by omega)]at hv;refine⟨Qr (by omega) (by omega),fun H11 h11=>?_⟩;obtain⟨u',hu'⟩:∃u':OCode,u'={ u with regs:=u.params+v }:=⟨_,rfl⟩;have hur:[C.int IntKind.i64 u.params,C.int IntKind.i64 (u.params+v),C.vsl yb 5 0 u.blocks.length]=u'.row:=by rw[hu',←hbc];rfl
   have hul':u'.lg=u.lg:=by rw[hu'];rfl
   have huok':u'.ok:=by rw[hu'];exact⟨huok.b,huok.bs⟩
   have husm':u'.sm 1000:=by rw[hu'];exact⟨husm.b0,husm.b,husm.bs,husm.p0,husm.p1⟩
   rw[hur,←Ju]at h11;have knF:Kn H H10 [(R.l,R.o (k1+1+1+1+1+1))] ([(yc,.vec 3 (us.map OCode.row))]++([(x2,Obj.st [.sl true 3 []]),(x3,.st [cc])]++us.flatMap OCode.lg)):=by
    rw[hcl]at knO;exact knO.perm Jk
   have knF:=knF.stL 0 rfl h11;refine hn _ _ ⟨k1+1+1+1+1+1,us.set ci u',[(yc,.vec 3 ((us.set ci u').map OCode.row))],by simpa using hul,by omega,by omega,fun w hw=>?_,?_,?_,by simp[lk],by simp[lk]⟩
   ·rcases J5 hw with hw|rfl
    ·exact⟨(hok w hw).1,(hok w hw).2.mono (by omega)⟩
    ·exact⟨huok',husm'.mono (by omega)⟩
   ·rw[hcc];exact .mk _ _ _ (by simp)
   ·refine knF.perm (Ql fun f hf h0 hc1 hp=>?_);have h1:=hp _ _ (Qgv OCode.lg us ci u' hci);have h2:=hp _ _ (Qjc OCode.lg us ci hci);rw[hul']at h1;rw[hu]at h2;simp only[Jr,Jp,Jw,hf,hc1 _ (_::_),hc1 _ (_++_),hc1 _ (List.flatMap _ _)]at h1 h2⊢;omega
  intro hc6;refine Qa ?_;simp only[go_sem];refine Qe rfl ?_ ?_
  ·intro hc;refine Qa ?_;simp only[go_sem,hyb,hbl5,htk,hbi,hbr,hpcow,hicow,Qb1,Jo,Jg,Je,hilen,hiok];intro _;refine Qe rfl ?_ ?_
   ·intro hc2;have hn0:0<blk.ins.length:=(by simpa using hc2);obtain⟨yi,hic,hil⟩:=OBlk.ivec hbok hn0;rw[hic]at hbr;have knI:=Qamv kn hil;have hyi:=knI.l 0 rfl;obtain⟨x,hx⟩:∃x,blk.ins[0]=x:=⟨_,rfl⟩;have hxr:(blk.ins.map OIns.row).getD 0 []=[.int .i64 x.op,.int .i64 x.to,.vsl x.a.y 1 0 x.a.ns.length,.int .i64 x.n]:=(by rw[←hx];simp[Jd,hn0,OIns.row,OInts.c]);have hil4:(blk.ins.map OIns.row).length=blk.ins.length:=(by simp);have htk4:List.take blk.ins.length (blk.ins.map OIns.row)=blk.ins.map OIns.row:=Jc (by simp);have hxa:x.a.ns.length≤1000:=hbsm.ia x (by rw[←hx];exact Jb hn0);refine Qa2 ?_;simp only[go_sem,hyb,hbl5,htk,hbi,hbr,hpcow,hicow,Qb1,Jo,Jg,Je,hyi,hn0,hxr,hil4,htk4];refine Qkc (ns:=[256,-1,1]) (knI.e 0 rfl) (by omega) (by simp) fun v H10 hv hu10=>?_;have knI:=knI.callE 0 rfl hu10 (R.o_ne _);have hyi:=knI.l 0 rfl;have hyb:=knI.l 1 rfl;simp only[go_sem,Q5p,hyb,hbl5,htk,hbi,hbr,hpcow,hicow,Qb1,Jo,Jg,Je,hyi,hn0,hxr,hil4,htk4];refine⟨by omega,fun H12 h12=>?_⟩;have hr':[C.int IntKind.i64 x.op,C.int IntKind.i64 x.to,C.vsl x.a.y 1 0 x.a.ns.length,C.int IntKind.i64 v]=({ x with n:=v }:OIns).row:=rfl;rw[hr',←Ju]at h12;have knD:=Qbe3 (b:=blk) (is:=blk.ins.set 0 { x with n:=v }) (knI.stL 0 rfl h12) (Q27 hn0 (by rw[hx];rfl));refine hdone _ _ (k1+1+1+1+1+1) _ (OBlk.ins_ok (i:=0) (x':={ x with n:=v }) hbok hic) (OBlk.ins_sm (i:=0) (x':={ x with n:=v }) hbsm (by show x.a.ns.length≤_;omega)) (by omega) (by omega) ?_ (by simp[lk]) (by simp[lk]);rw[Q85 hbi (by rw[hblk];rfl)];exact knD
   ·intro hc2;refine Qi ?_;exact hsame _ (by simp[lk]) (by simp[lk])
  ·intro hc;refine Qi ?_;exact hsame _ (by simp[lk]) (by simp[lk])
 ·rintro e2 H10 ⟨k3,us,cl,hul,hk3,hk4,hok,hgr,kn,l2,l3⟩;have hx2:=kn.l 0 rfl;have hx3:=kn.l 1 rfl;refine Qa ?_;simp only[go_sem,hx2,hx3,hcow,l2,l3];intro H8 h8;have kn:=kn.stL 0 rfl h8;have hx2:=kn.l 0 rfl;refine Qk ?_;simp only[go_sem,Q3,Qab,Qa85,reduceIte,Ja,forall_eq,RS.op,hx2,hcow];have hheld:Held H8 (un H) (us.flatMap OCode.lg++cl):=fun p hp=>by
   have hp2:p∈(([(x2,Obj.st [cc]),(x3,Obj.st [cc])]++us.flatMap OCode.lg)++cl):=by
    rcases Jm.1 hp with h|h
    ·simp[h]
    ·simp[h]
   exact⟨(kn.get p (Jj _ hp2)).1,Qe8 (kn.loc p hp2)⟩
  obtain⟨cs,hf,hcn,hcs⟩:=OCodes.frz (N:=1001) (by omega) hgr hok hheld;exact⟨_,FrzL.ag (.cons hf .nil),hK cs _ k3 hk3 (by omega) kn.fin (by omega) (by omega) hcs⟩
end Go.AE.Y
namespace Go.AE.Y
open Go.Proofs.Tryz
theorem Qam1 {R : Rdr} {fl : Bool} {ss : List (List UInt8)} : ∀ (d : Nat) {k : Nat} {H : Heap} {K : V → Heap → Prop} (deep : Int), deep ≤ d → H R.l = R.o k → k + 6 * 2^d ≤ 2^40 →
    (∀ (x : Ex) (H' : Heap) (k' : Nat), k < k' → k' + 3 ≤ k + 6 * 2^d → Upd H H' [(R.l, R.o k')] → x.ok → k + x.size ≤ k' → K (.ag x.cells) H') →
    Qs prog Qfk [.c (.ptr R.l 0), .c (.sl fl 1 (Qbm ss)), .c (.int .i64 deep)] H K := by
  intro d
  induction d using Nat.strongRecOn with
  | ind d ih =>
  intro k H K deep hd hH hk hK;have hp1 : 1 ≤ 2^d := Jaf;have hp0 : d < 2^d := Nat.lt_two_pow_self;refine Qx ?_;refine Qc Qaj Qblj ?_;refine Qa ?_;simp only [go_sem];intro x hx H1 h1;have kn := (Kn.start1 hH (R.o_ne k)).al hx h1;refine Qy ?_;refine Qa ?_;simp only [go_sem];have rest : ∀ (b : Bool) (H2 : Heap) (k2 : Nat), k ≤ k2 → k2 ≤ k + 1 → Kn H H2 [(R.l, R.o k2)] [(x, .st [.int .i64 0, .int .i64 0, .str [], .sl true 4 []])] → (b = false → 2 ≤ deep) →
      Qah prog (s_l2Expr_2.seq Qaci) (Q3 Q9b (unK H K))
       [(0, V.c (C.ptr R.l 0)), (1, V.c (C.sl fl 1 (Qbm ss))), (2, .c (.int .i64 deep)), (6, V.c (C.ptr x 0)), (14, V.c (.bool b))] H2 := by
    intro b H2 k2 hk1 hk2 kn hb;have fin : ∀ (op n : Int) (name : List UInt8) (fl : Bool) (kids : List Ex) (H3 : Heap) (k3 : Nat) (o : Obj), k < k3 → k3 + 3 ≤ k + 6 * 2^d → Kn H H3 [(R.l, R.o k3)] [(x, .st [.int .i64 op, .int .i64 n, .str name, .sl fl 4 (Qbv kids)])] →
        (op = 10 → kids.length = 2) → Qd3 kids → k + 1 + Qai kids ≤ k3 →
        Qab Q9b [(6, V.c (C.ptr x 0))] H3 (unK H K) := by
      intro op n name fl kids H3 k3 o g1 g2 kn g3 g4 g5;have hx3 := kn.l 0 rfl;simp only [go_sem, Qab, Q9b, reduceIte, Ja, forall_eq, RS.op, hx3];refine ⟨_, (Ex.mk op n name kids).frz, hK _ _ k3 g1 g2 kn.fin ?_ ?_⟩
      · simp only [Ex.ok]; exact ⟨g3, g4⟩
      · simp only [Ex.size]; omega
    refine Qh (Qe rfl ?_ ?_)
    · intro hb';refine Qa ?_;simp only [go_sem];refine Qbk6 (kn.e 0 rfl) (by omega) fun y H3 k3 g1 g2 hu hok hsz => ?_;have kn := kn.callE 0 rfl hu (R.o_ne _);have hx3 := kn.l 0 rfl;simp only [go_sem, Qacj, hx3, y.cells_eq];intro H4 h4;have kn := kn.stL 0 rfl h4;refine Qk ?_;simp only [go_sem, Q3];refine fin _ _ _ _ _ _ k3 .none (by omega) (by omega) kn (Ex.ok_and hok) (Ex.ok_kids hok) ?_;have := y.size_kids; omega
    · intro hb';have hdp := hb hb';have hp : 2^d = 2 * 2^(d-1) := (by rw [← Nat.pow_succ']; congr 1; omega);have hp2 : 1 ≤ 2^(d-1) := Jaf;have ihd := fun {k H K} => @ih (d-1) (by omega) k H K;generalize 2^(d-1) = e at *;refine Qi ?_;simp only [go_sem];refine Qy ?_;refine Qa ?_;simp only [go_sem];refine Qba (kn.e 0 rfl) (by omega) fun v H3 hv hu => ?_;have kn := kn.callE 0 rfl hu (R.o_ne _);simp only [go_sem, Qack];refine Qh (Qe rfl ?_ ?_)
      · intro hc;refine Qa ?_;simp only [go_sem];refine Qkc (ns := [11, 12, 11]) (kn.e 0 rfl) (by omega) (by simp) fun op H4 hop hu => ?_;have kn := kn.callE 0 rfl hu (R.o_ne _);simp only [go_sem, Qacm];refine ⟨Qr (by omega) (by omega), ?_⟩;refine ihd (deep - 1) (by omega) (kn.e 0 rfl) (by omega) fun y H5 k5 g1 g2 hu hok hsz => ?_;have kn := kn.callE 0 rfl hu (R.o_ne _);have hx5 := kn.l 0 rfl;simp only [go_sem, Qacl, hx5, y.cells_len];intro H6 h6;have kn := kn.stL 0 rfl h6;refine Qk ?_;simp only [go_sem, Q3];refine fin op 0 [] true [y] _ k5 .none (by omega) (by omega) kn (fun h => ?_) ⟨hok, trivial⟩ ?_
        · subst h; simp at hop
        · simp only [Qai]; omega
      · intro hc;refine Qi ?_;simp only [go_sem];refine Qa ?_;simp only [go_sem];refine Qkc (ns := [3, 3, 4, 5, 6, 7, 8, 9, 10]) (kn.e 0 rfl) (by omega) (by simp) fun op H4 hop hu => ?_;have kn := kn.callE 0 rfl hu (R.o_ne _);simp only [go_sem, Qacn];refine Qa ?_;simp only [go_sem];refine ⟨Qr (by omega) (by omega), ?_⟩;refine ihd (deep - 1) (by omega) (kn.e 0 rfl) (by omega) fun y H5 k5 g1 g2 hu hok hsz => ?_;have kn := kn.callE 0 rfl hu (R.o_ne _);simp only [go_sem, Qacp];refine ⟨Qr (by omega) (by omega), ?_⟩;refine ihd (deep - 1) (by omega) (kn.e 0 rfl) (by omega) fun z H6 k6 g3 g4 hu hok2 hsz2 => ?_;have kn := kn.callE 0 rfl hu (R.o_ne _);have hx5 := kn.l 0 rfl;simp only [go_sem, Qaco, hx5, y.cells_len, z.cells_len];intro H7 h7;have kn := kn.stL 0 rfl h7;refine Qk ?_;simp only [go_sem, Q3];refine fin op 0 [] true [y, z] _ k6 .none (by omega) (by omega) kn (fun h => rfl) ⟨hok, hok2, trivial⟩ ?_;simp only [Qai]; omega
  refine ⟨fun hb => ?_, fun hb => ?_⟩
  · refine Qba (kn.e 0 rfl) (by omega) fun v H2 hv hu => ?_;have kn := kn.callE 0 rfl hu (R.o_ne _);simp only [go_sem, Qxr];refine rest _ H2 (k + 1) (by omega) (by omega) kn ?_;intro h;have : ¬ deep < 2 := (by simpa using hb);omega
  · have hb2 : decide (deep < 2) = true := (by simpa using hb);simp only [go_sem, Qxr, hb2];exact rest true H1 k (by omega) (by omega) kn (fun h => by simp at h)
theorem Qam2 {R:Rdr}{gl k:Nat}{s:GS}{H:Heap}{K:V→Heap→Prop}(hR:H R.l=R.o k)(hG:H gl=s.o R)(hne:R.l≠gl)(hs:s.ok k)(hk:k+2≤2^30)
  (hK:∀(name:List UInt8) (H':Heap) (k':Nat),k+1≤k'→k'≤k+2→Upd H H' [(R.l,R.o k'),(gl,GS.o { s with next:=s.next+1 } R)]→K (.c (.str name)) H') :
  Qs prog Qjh [.c (.ptr gl 0)] H K:=by
 have h0:=hs.n0;have h1':=hs.n1;refine Qx ?_;refine Qc Qaj Qang ?_;refine Qa ?_;simp only[go_sem];refine Qa ?_;simp only[go_sem,hG,GS.o];refine⟨Qr (by omega) (by omega),fun H1 h1=>?_⟩;have kn:Kn H H1 [(R.l,R.o k),(gl,GS.o { s with next:=s.next+1 } R)] []:=(Kn.start2 hR (R.o_ne k) hG (s.o_ne R) hne).stE 1 rfl h1;have hG1:=kn.e 1 rfl;refine Qy ?_;refine Qa ?_;simp only[go_sem,hG1,GS.o];refine Qba (kn.e 0 rfl) (by omega) fun v H2 hv hu=>?_;have kn:=kn.callE 0 rfl hu (R.o_ne _);have hG2:=kn.e 1 rfl;simp only[go_sem,Qno,hG2,GS.o];intro hl;refine Qh (Qe rfl ?_ ?_)
 ·intro hc;have hv0:0<s.vars.length:=by
   rw[Qas]at hc;cases h:decide (v=0) <;> rw[h]at hc <;> simp_all
  refine Qag ?_;simp only[go_sem,hG2,GS.o];refine of_c (kn.e 0 rfl) (by omega) hv0 fun name H3 hn hu=>?_;have kn:=kn.callE 0 rfl hu (R.o_ne _);simp only[go_sem,Qnp];refine Qk ?_;simp only[go_sem,Q3,Qab,Ql8,reduceIte,Ja,forall_eq,RS.op];exact⟨_,.c _ _ (Qg rfl),hK _ _ (k+1+1) (by omega) (by omega) kn.fin⟩
 ·intro hc;refine Qi ?_;simp only[go_sem];refine Qag ?_;have e1:0≤(s.next+1).tmod 24:=Int.tmod_nonneg _ (by omega);have e2:(s.next+1).tmod 24<24:=Int.tmod_lt_of_pos _ (by omega);simp only[go_sem,hG2,GS.o];refine⟨by omega,by omega,Qr (by omega) (by omega),by omega,?_⟩;refine Qk ?_;simp only[go_sem,Q3,Qab,Ql8,reduceIte,Ja,forall_eq,RS.op];exact⟨_,.c _ _ (Qg rfl),hK _ _ (k+1) (by omega) (by omega) kn.fin⟩
theorem Q99 {R:Rdr}{gl k:Nat}{s:GS}{x:Ex}{fl:Bool}{H:Heap}{K:V→Heap→Prop}(hR:H R.l=R.o k)(hG:H gl=s.o R)(hne:R.l≠gl)(hs:s.ok k)(hk:k+2≤2^30)
  (hK:∀(name:List UInt8) (H':Heap) (k':Nat),k+1≤k'→k'≤k+2→Upd H H' [(R.l,R.o k'),(gl,GS.o { s with next:=s.next+1,vars:=s.vars++[name],vfl:=false } R)]→K (.ag (St.mk 1 name [x] [] []).cells) H') :
  Qs prog Qil [.c (.ptr gl 0),.ag [.int .i64 x.op,.int .i64 x.n,.str x.name,.sl fl 4 (Qbv x.kids)]] H K:=by
 have hv:=hs.v;refine Qcb ?_;refine Qc Qaj Qa1k ?_;refine Qa ?_;simp only[go_sem,x.cells_eq];intro y hy H1 h1;have kn:=(Kn.start2 hR (R.o_ne k) hG (s.o_ne R) hne).al hy h1;refine Qa ?_;simp only[go_sem];refine Qam2 (kn.e 0 rfl) (kn.e 1 rfl) hne hs hk fun name H2 k' g1 g2 hu=>?_;have kn:=kn.callEE 0 1 rfl rfl (by decide) hu (R.o_ne _) (GS.o_ne _ _);have hG2:=kn.e 1 rfl;simp only[go_sem,Qv6];refine Qa ?_;have hL:s.vars.length≤LIM:=by simp only[LIM];omega
 have hL1:s.vars.length+1≤LIM:=by simp only[LIM];omega
 simp only[go_sem,hG2,GS.o,Qas,Qamf,Jg,Jp,hL];refine⟨.inl trivial,Qmw _,?_⟩;intro z hz H3 h3;have kn:=kn.al hz h3;have hz3:=kn.l 1 rfl;have hG3:=kn.e 1 rfl;simp only[go_sem,Qv8,hz3,hG3,GS.o,Qas,Qa75,hL1,J9,Jc];refine⟨by omega,fun z' hz' H4 h4=>?_⟩;have kn:=kn.ap 1 rfl hz' h4;have hG4:=kn.e 1 rfl;simp only[go_sem,Qv7,hG4,GS.o];intro H5 h5;have kn:=kn.stE 1 rfl h5;have hy5:=kn.l 0 rfl;refine Qa ?_;simp only[go_sem,hy5];intro H6 h6;have kn:=kn.stL 0 rfl h6;have hy6:=kn.l 0 rfl;refine Qk ?_;simp only[go_sem,Q3,Qab,Qaa6,reduceIte,Ja,forall_eq,RS.op,hy6];refine⟨un H,(.ag (St.mk 1 name [x] [] []).cells),(H6.frz (un H)).set gl (GS.o { s with next:=s.next+1,vars:=s.vars++[name],vfl:=false } R),?_,?_,hK name _ k' g1 g2 (kn.fin.set2 hne)⟩
 ·simp only[St.cells,Qbv,Qa4,x.cells_eq];exact (FrzL.cons (Qg rfl) (.cons (Qg rfl) (.cons (FrzR.cons (.cons (Qg rfl) (.cons (Qg rfl) (.cons (Qg rfl) (.cons (FrzR.same (Qj1 _)).sl .nil)))) .nil).sl (.cons (FrzR.nil).sl (.cons (FrzR.nil).sl .nil))))).ag
 ·refine (Qd7 _ _).set (Qa79 (kn.usedE 1 rfl)) ?_;rw[kn.e 1 rfl];refine FrzKL.st (.same (.same (.cons rfl ?_ (.same (.same .nil)))));exact Qamu (kn.un 1 rfl) (kn.l 1 rfl) (by simp[Qbm]) (noOw_mem (Qmw _))
theorem Qb8 {R : Rdr} {gl k : Nat} {s : GS} {H : Heap} {K : V → Heap → Prop} (deep : Int) (hd : deep ≤ 3) (hR : H R.l = R.o k) (hG : H gl = s.o R) (hne : R.l ≠ gl) (hs : s.ok k) (hF : FnsOk H R gl s) (hk : k + 200 ≤ 2^30)
    (hK : ∀ (x : Ex) (H' : Heap) (k' : Nat), k < k' → k' ≤ k + 200 → Upd H H' [(R.l, R.o k')] → x.ok → k + x.size ≤ k' → K (.ag x.cells) H') :
    Qs prog Qbc [.c (.ptr gl 0), .c (.int .i64 deep)] H K := by
  have hfl := hs.fn;refine Qx ?_;refine Qc Qaj Qash ?_;refine Qa ?_;simp only [go_sem];intro x4 hx4 H1 h1;have kn := (Kn.start2 hR (R.o_ne k) hG (s.o_ne R) hne).al hx4 h1;have hG1 := kn.e 1 rfl;refine Qag ?_;simp only [go_sem, hG1, GS.o];refine Qam1 3 deep (by omega) (kn.e 0 rfl) (by omega) fun e H2 k2 g1 g2 hu heok hesz => ?_;have kn := kn.callE 0 rfl hu (R.o_ne _);have hG2 := kn.e 1 rfl;simp only [go_sem, Qr3];intro x5 hx5 H3 h3;have kn := kn.al hx5 h3;have hG3 := kn.e 1 rfl;have hx53 := kn.l 1 rfl;simp only [go_sem, Qr2, hG3, hx53, GS.o, e.cells_len, e.cells_eq];intro H4 h4;have kn := kn.stL 1 rfl h4;have hG4 := kn.e 1 rfl;refine Qy ?_;refine Qa ?_;simp only [go_sem, hG4, GS.o, hF.ow, hF.ok kn, hF.len];intro hl;have fin : ∀ (op n : Int) (name : List UInt8) (c : C) (kids : List Ex) (H3 : Heap) (k3 : Nat) (L : List (Nat × Obj)), k < k3 → k3 ≤ k + 200 → Kn H H3 [(R.l, R.o k3), (gl, s.o R)] L →
      L[0]? = some (x4, .st [.int .i64 op, .int .i64 n, .str name, c]) → c.isOw = false → FrzC H3 (un H) c (.sl false 4 (Qbv kids)) → (Ex.mk op n name kids).ok → k + (Ex.mk op n name kids).size ≤ k3 →
      Qab Qiw [(4, V.c (C.ptr x4 0))] H3 (unK H K) := by
    intro op n name c kids H3 k3 L g1 g2 kn g3 hno g4 g5 g6;have hx3 := kn.l 0 g3;simp only [go_sem, Qab, Qiw, reduceIte, Ja, forall_eq, RS.op, hx3, hno];refine ⟨(.ag (Ex.mk op n name kids).cells), ?_, hK _ _ k3 g1 g2 (kn.fin.drop2 hG) g5 g6⟩;rw [Ex.cells_eq];exact (FrzL.cons (Qg rfl) (.cons (Qg rfl) (.cons (Qg rfl) (.cons g4 .nil)))).ag
  have rest : ∀ (b : Bool) (H2 : Heap) (k3 : Nat), k2 ≤ k3 → k3 ≤ k2 + 1 → Kn H H2 [(R.l, R.o k3), (gl, s.o R)] [(x4, .st [.int .i64 0, .int .i64 0, .str [], .sl true 4 []]), (x5, .st [.int .i64 e.op, .int .i64 e.n, .str e.name, .sl false 4 (Qbv e.kids)])] →
      (b = false → 0 < s.fns.length) →
      Qah prog (s_l3Gen_expr_3.seq Qr1) (Q3 Qiw (unK H K))
       [(0, V.c (C.ptr gl 0)), (4, V.c (C.ptr x4 0)), (5, V.c (C.ptr x5 0)), (32, .c (.bool b))] H2 := by
    intro b H2 k3 g3 g4 kn hb;have hx52 := kn.l 1 rfl;have hx42 := kn.l 0 rfl;refine Qh (Qe rfl ?_ ?_)
    · intro hb';refine Qa ?_;simp only [go_sem, hx52, hx42];intro H3 h3;have kn := kn.stL 0 rfl h3;refine Qk ?_;simp only [go_sem, Q3]
      cases e with
      | mk op n name kids => exact fin op n name _ kids H3 k3 _ (by omega) (by omega) kn rfl rfl (Q1l (noOw_mem (Qj1 _))) heok (by omega)
    · intro hb';have hfn := hb hb';refine Qi ?_;simp only [go_sem];have hG3 := kn.e 1 rfl;refine Qag ?_;simp only [go_sem, hG3, GS.o, hF.ow, hF.ok kn, hF.len];refine Qba (kn.e 0 rfl) (by omega) fun v H3 hv hu => ?_;have kn := kn.callE 0 rfl hu (R.o_ne _);rw [if_neg (by omega)] at hv;obtain ⟨i, rfl⟩ := Jq hv.1;have hi : i < s.fns.length := (by omega);have hG4 := kn.e 1 rfl;simp only [go_sem, Qr5, hG4, GS.o, hF.ow, hF.ok kn, hF.len, hF.rows kn, hF.esz, hi, Qg7 _ _ hi, Fn.cells];intro x6 hx6 H4 h4;have kn := kn.al hx6 h4;have hG5 := kn.e 1 rfl;have hx64 := kn.l 2 rfl;simp only [go_sem, Qr4, hG5, hx64, GS.o, hF.ow, hF.ok kn, hF.len, hF.rows kn, hF.esz, hi, Qg7 _ _ hi, Fn.cells];have hpar := hs.f _ (Jb hi);generalize s.fns[i] = f at *;intro H5 h5;have kn := kn.stL 2 rfl h5;have hx65 := kn.l 2 rfl;refine Qa ?_;simp only [go_sem, hx65];intro x7 hx7 H6 h6;have kn := kn.al hx7 h6;have hx67 := kn.l 2 rfl;have hx77 := kn.l 3 rfl;simp only [go_sem, Qr6, hx67, hx77];intro H7 h7;have kn := kn.stL 3 rfl h7;refine Qy ?_;refine Qa ?_;simp only [go_sem];refine Qh (Qf (Qw (fun n e1 H1 => ∃ (i k4 : Nat) (kids : List Ex) (c : C) (Lg : List (Nat × Obj)), n = f.params.length - i ∧ i ≤ f.params.length ∧ k4 ≤ k3 + 1 + 21 * i ∧ k3 + 1 + Qai kids ≤ k4 ∧ Qd3 kids ∧ kids.length = i ∧
        Gr Lg 4 (Qbv kids) c ∧ Kn H H1 [(R.l, R.o k4), (gl, s.o R)] ([(x4, .st [.int .i64 0, .int .i64 0, .str [], .sl true 4 []]), (x5, .st [.int .i64 e.op, .int .i64 e.n, .str e.name, .sl false 4 (Qbv e.kids)]),
          (x6, .st [.str f.name, .sl false 1 (Qbm f.params), .sl false 5 (Qa4 f.body)]), (x7, .st [.int .i64 13, .int .i64 0, .str f.name, c])] ++ Lg) ∧
        e1 = [(0, V.c (C.ptr gl 0)), (4, V.c (C.ptr x4 0)), (6, V.c (C.ptr x6 0)), (7, V.c (C.ptr x7 0)), (8, V.c (C.int IntKind.i64 i))]) f.params.length ?_ ?_))
      · exact ⟨0, k3 + 1, [], _, [], by omega, by omega, by omega, by simp [Qai], trivial, rfl, .nil 4, kn, rfl⟩
      · rintro n e1 H1 ⟨i, k4, kids, c, Lg, hn, hi1, hk4, hksz, hkok, hkl, hgr, kn, rfl⟩;have hx61 := kn.l 2 rfl;have hx71 := kn.l 3 rfl;have hG1 := kn.e 1 rfl;refine Qy ?_;refine Qa ?_;simp only [go_sem, hx61, Qas];intro hpl;refine Qh (Qe rfl ?_ ?_)
        · intro hc;have hlt : i < f.params.length := (by simpa using hc);refine Qi ?_;simp only [go_sem];refine Qh (Qf (Qa2 ?_));have hcow := hgr.isOw;simp only [go_sem, hx71, hG1, GS.o, hcow];refine Qam1 2 2 (by omega) (kn.e 0 rfl) (by omega) fun z H2 k5 g5 g6 hu hok hsz => ?_;have kn := kn.callE 0 rfl hu (R.o_ne _);have hx72 := kn.l 3 rfl;simp only [go_sem, Qr8, hx72, hcow, z.cells_len];refine kn.grow (new := [z.cells]) hgr (.mk' _ _ _ _) (by simp [z.noOw]) (by simp only [Qa6, Ji, Jn, LIM]; omega) fun y' H3 kn => ?_;have hx73 := kn.l 3 rfl;simp only [go_sem, Qr7, hx73];intro H4 h4;have kn := kn.stL 3 rfl h4;refine Qq ?_;simp only [go_sem];refine ⟨Qr (by omega) (by omega), ?_⟩;refine ⟨f.params.length - (i + 1), by omega, i + 1, k5, kids ++ [z], _, _, rfl, by omega, by omega, ?_, Qbeu hkok ⟨hok, trivial⟩, by simp [hkl], ?_, kn, ?_⟩
          · simp only [Qwm, Qai]; omega
          · rw [← Qbae]; exact .mk _ _ _ (by simp)
          · simp
        · intro hc;have hge : f.params.length ≤ i := (by simpa using hc);refine Qv ?_;simp only [go_sem, X.next];refine Qy ?_;refine Qa ?_;simp only [go_sem, hG1, GS.o];refine Qba (kn.e 0 rfl) (by omega) fun v H2 hv hu => ?_;have kn := kn.callE 0 rfl hu (R.o_ne _);have hx72 := kn.l 3 rfl;have hx42 := kn.l 0 rfl;have hcow := hgr.isOw;have hG2 := kn.e 1 rfl;simp only [go_sem, Qnl];refine Qh (Qe rfl ?_ ?_)
          · intro hc;refine Qa ?_;simp only [go_sem, hx72, hx42, hcow];intro H3 h3;have kn := kn.stL 0 rfl h3;refine Qk ?_;simp only [go_sem, Q3];refine fin 13 0 f.name c kids H3 (k4 + 1) _ (by omega) (by omega) kn rfl hcow (hgr.frz (B := [_, _, _, _]) kn (Qj1 _)) ?_ ?_
            · simp only [Ex.ok]; exact ⟨fun h => by simp at h, hkok⟩
            · simp only [Ex.size]; omega
          · intro hc;refine Qi ?_;simp only [go_sem];refine Qag ?_;simp only [go_sem, hx72, hG2, hcow, GS.o];refine Qkc (ns := [3, 4, 8, 10]) (kn.e 0 rfl) (by omega) (by simp) fun op H3 hop hu => ?_;have kn := kn.callE 0 rfl hu (R.o_ne _);have hx73 := kn.l 3 rfl;have hG3 := kn.e 1 rfl;simp only [go_sem, Qnn, hx73, hG3, hcow, GS.o];refine Qam1 2 2 (by omega) (kn.e 0 rfl) (by omega) fun z H4 k5 g5 g6 hu hok hsz => ?_;have kn := kn.callE 0 rfl hu (R.o_ne _);have hx74 := kn.l 3 rfl;have hx44 := kn.l 0 rfl;simp only [go_sem, Qnm, hx74, hx44, hcow, z.cells_len];intro H5 h5;have kn := kn.stL 0 rfl h5;refine Qk ?_;simp only [go_sem, Q3];refine fin op 0 [] _ [Ex.mk 13 0 f.name kids, z] H5 k5 _ (by omega) (by omega) kn rfl rfl ?_ ?_ ?_
            · refine FrzR.sl (.cons ?_ (.cons (.same z.noOw) .nil));rw [Ex.cells_eq];exact .cons (Qg rfl) (.cons (Qg rfl) (.cons (Qg rfl) (.cons (hgr.frz (B := [_, _, _, _]) kn (Qj1 _)) .nil)))
            · simp only [Ex.ok, Qd3]; exact ⟨fun h => rfl, ⟨fun h => by simp at h, hkok⟩, hok, trivial⟩
            · simp only [Ex.size, Qai]; omega
  refine ⟨fun hb => ?_, fun hb => ?_⟩
  · refine Qba (kn.e 0 rfl) (by omega) fun v H5 hv hu => ?_;have kn := kn.callE 0 rfl hu (R.o_ne _);simp only [go_sem, Qia];refine rest _ H5 (k2 + 1) (by omega) (by omega) kn ?_;intro h;have : ¬ s.fns.length = 0 := (by simpa using hb);omega
  · have hb2 : decide ((s.fns.length : Int) = 0) = true := (by simpa using hb);simp only [go_sem, Qia, hb2];exact rest true H4 k2 (by omega) (by omega) kn (fun h => by simp at h)
theorem Q28 {R:Rdr}{gl k:Nat}{s:GS}{H:Heap}{K:V→Heap→Prop}(hR:H R.l=R.o k)(hG:H gl=s.o R)(hne:R.l≠gl)(hs:s.ok k)(hF:FnsOk H R gl s)(hk:k+201≤2^30)
  (hK:∀(x:Ex) (H':Heap) (k':Nat),k<k'→k'≤k+201→Upd H H' [(R.l,R.o k')]→x.ok→2 * k+x.size≤2 * k'→K (.ag x.cells) H') :
  Qs prog Qgy [.c (.ptr gl 0)] H K:=by
 refine Qx ?_;refine Qc Qaj Qasg ?_;refine Qa ?_;simp only[go_sem];intro x2 hx2 H1 h1;have kn:=(Kn.start2 hR (R.o_ne k) hG (s.o_ne R) hne).al hx2 h1;have hG1:=kn.e 1 rfl;refine Qag ?_;simp only[go_sem,hG1,GS.o];refine Qb8 2 (by omega) (kn.e 0 rfl) (kn.e 1 rfl) hne hs (hF.keep kn rfl rfl) (by omega) fun e H2 k2 g1 g2 hu heok hesz=>?_;have kn:=kn.callE 0 rfl hu (R.o_ne _);have hG2:=kn.e 1 rfl;simp only[go_sem,Qr0,hG2,GS.o];refine Qkc (ns:=[16,16,16,8,17,0]) (kn.e 0 rfl) (by omega) (by simp) fun v H3 hv hu=>?_;have kn:=kn.callE 0 rfl hu (R.o_ne _);have hx23:=kn.l 0 rfl;simp only[go_sem,Qrz,hx23,e.cells_len];intro H4 h4;have kn:=kn.stL 0 rfl h4;have hx24:=kn.l 0 rfl;refine Qk ?_;simp only[go_sem,Q3,Qab,Q3g,reduceIte,Ja,forall_eq,RS.op,hx24];refine⟨(.ag (Ex.mk 7 0 [] [e,Ex.mk 1 v [] []]).cells),?_,hK _ _ (k2+1) (by omega) (by omega) (kn.fin.drop2 hG) ?_ ?_⟩
 ·rw[Ex.cells_eq (Ex.mk 7 0 [] _)];refine FrzL.ag ?_;refine .cons (Qg rfl) (.cons (Qg rfl) (.cons (Qg rfl) (.cons (FrzR.sl (.cons (.same e.noOw) (.cons ?_ .nil))) .nil)));simp only[Ex.cells,Qbv];exact .cons (Qg rfl) (.cons (Qg rfl) (.cons (Qg rfl) (.cons (FrzR.nil).sl .nil)))
 ·simp only[Ex.ok,Qd3];exact⟨fun h=>rfl,heok,⟨fun h=>by simp at h,trivial⟩,trivial⟩
 ·simp only[Ex.size,Qai];omega
def Qboq (d:Nat):Prop:=∀(R:Rdr) (gl k:Nat) (s:GS) (H:Heap) (K:V→Heap→Prop) (deep:Int),deep≤d→H R.l=R.o k→H gl=s.o R→R.l≠gl→s.ok k→FnsOk H R gl s→k+500 * 10^d≤2^30→
  (∀(l:List St) (s':GS) (H':Heap) (k':Nat),k<k'→k'≤k+500 * 10^d→Upd H H' [(R.l,R.o k'),(gl,s'.o R)]→s'.ok k'→s.left+4 * (k:Int)≤s'.left+4 * (k':Int)→s'.fns=s.fns→s'.ffl=s.ffl→l.length≤2→Qc0 l→4 * k+Q5 l≤4 * k'→K (.c (.sl false 5 (Qa4 l))) H')→
  Qs prog Qly [.c (.ptr gl 0),.c (.int .i64 deep)] H K
def Q9h (d:Nat):Prop:=∀(R:Rdr) (gl k:Nat) (s:GS) (H:Heap) (K:V→Heap→Prop) (deep:Int),deep≤d→H R.l=R.o k→H gl=s.o R→R.l≠gl→s.ok k→FnsOk H R gl s→k+2001 * 10^d≤2^30→
  (∀(l:List St) (c:C) (Lg:List (Nat×Obj)) (s':GS) (H':Heap) (k':Nat),k<k'→k'≤k+2001 * 10^d→Upd H H' [(R.l,R.o k'),(gl,s'.o R)]→Gr Lg 5 (Qa4 l) c→New H H' Lg→s'.ok k'→s.left+4 * (k:Int)≤s'.left+4 * (k':Int)→s'.fns=s.fns→s'.ffl=s.ffl→
   l.length≤8→Qc0 l→4 * k+Q5 l≤4 * k'→K (.c c) H')→
  Qs prog Qch [.c (.ptr gl 0),.c (.int .i64 deep)] H K
theorem Qa8f {d:Nat}(hS:Qboq d):Q9h d:=by
 intro R gl k s H K deep hd hR hG hne hs hF hk hK;have hp0:d<10^d:=J1 (by omega);generalize hpe:10^d=e at *;have hS':=hS;simp only[Qboq]at hS';rw[hpe]at hS';generalize hM:500 * e=M at *;refine Qcb ?_;refine Qc Qaj Qanf ?_;refine Qa ?_;simp only[go_sem];refine Qa ?_;simp only[go_sem,hG,GS.o];refine Qa ?_;simp only[go_sem];refine Qy ?_;refine Qa ?_;simp only[go_sem,hG,GS.o];have kn:=Kn.start2 hR (R.o_ne k) hG (s.o_ne R) hne;refine Qkc (ns:=[2,3,1,4]) hR (by omega) (by simp) fun v H1 hv hu=>?_;have kn:=kn.callE 0 rfl hu (R.o_ne _);simp only[go_sem,Qni];have hv4:1≤v∧v≤4:=by simp at hv;omega
 refine Qh (Qf (Qw (fun n e1 H1=>∃(j k4:Nat) (l:List St) (c:C) (Lg:List (Nat×Obj)) (s':GS),n=v.toNat-j∧(j:Int)≤v∧k+1≤k4∧k4≤k+1+M * j∧4 * k+Q5 l≤4 * k4∧Qc0 l∧l.length≤2 * j∧
    Gr Lg 5 (Qa4 l) c∧s'.ok k4∧s.left+4 * (k:Int)≤s'.left+4 * (k4:Int)∧s'.fns=s.fns∧s'.ffl=s.ffl∧Kn H H1 [(R.l,R.o k4),(gl,s'.o R)] ([]++Lg)∧
    e1=[(0,V.c (C.ptr gl 0)),(1,.c (.int .i64 deep)),(5,.c (.sl s.vfl 1 (Qbm s.vars))),(6,.c c),(7,V.c (C.int IntKind.i64 (v-j)))]) v.toNat ?_ ?_))
 ·exact⟨0,k+1,[],_,[],s,by omega,by omega,by omega,by omega,by simp only[Q5];omega,trivial,by simp,.nil 5,hs.mono (by omega),by omega,rfl,rfl,kn,by simp⟩
 ·rintro n e1 H1 ⟨j,k4,l,c,Lg,s',hn,hj,hk4,hk4',hsz,hok,hll,hgr,hs',hlf,hf1,hf2,kn,rfl⟩;have hG1:=kn.e 1 rfl;have hMj:M * j≤M * 4:=J2 _ (by omega);refine Qy ?_;refine Qa ?_;simp only[go_sem,hG1,GS.o];refine Qh (Qe rfl ?_ ?_)
  ·intro hc;have hi:(j:Int)<v:=by
    cases h:decide (0<v-(j:Int))with
    |true=>have:0<v-(j:Int):=by simpa using h
           omega
    |false=>rw[h]at hc;simp at hc
   have hM1:M * (j+1)=M * j+M:=Jas _ _;have hM2:M * (j+1)≤M * 4:=J2 _ (by omega);refine Qi ?_;simp only[go_sem];refine Qh (Qf (Qq ?_));simp only[go_sem];refine hS' _ _ _ _ _ _ deep hd (kn.e 0 rfl) (kn.e 1 rfl) hne hs' (hF.keep kn hf1 hf2) (by omega) fun l2 s2 H2 k5 g1 g2 hu g3 glf g4 g5 g6 g7 g8=>?_;have kn:=kn.callEE 0 1 rfl rfl (by decide) hu (R.o_ne _) (GS.o_ne _ _);simp only[go_sem,Qnk];refine kn.grow hgr (.mk' _ _ _ (Qa4 l2)) (Qg9 _) (by simp only[Qbb,LIM];omega) fun y' H3 kn=>?_;simp only[go_sem,Qnj];refine Qq ?_;simp only[go_sem];refine⟨Qr (by omega) (by omega),?_⟩;simp only[X.next];refine⟨v.toNat-(j+1),by omega,j+1,k5,l++l2,.vsl y' 5 0 ((Qa4 l).length+(Qa4 l2).length),_,s2,rfl,by omega,by omega,by omega,?_,Qagz hok g7,by simp;omega,?_,g3,by omega,g4.trans hf1,g5.trans hf2,kn,?_⟩
   ·rw[Qid];omega
   ·rw[Qagy];exact .mk _ _ _ (by simp[Qbb])
   ·have:v-((j+1:Nat):Int)=v-j-1:=(by omega);rw[this]
  ·intro hc;refine Qv ?_;simp only[go_sem,X.next];refine Qa ?_;simp only[go_sem,hG1,GS.o];intro H2 h2;have kn:Kn H H2 [(R.l,R.o k4),(gl,GS.o { s' with vars:=s.vars,vfl:=s.vfl } R)] ([]++Lg):=kn.stE 1 rfl h2;refine Qa ?_;simp only[go_sem];refine Qk ?_;simp only[go_sem,Q3,Qab,Qyv,reduceIte,Ja,forall_eq,RS.op];refine⟨unx H Lg,_,H2.frz (unx H Lg),.c _ _ (.same _ hgr.isOw),Qd7 _ _,?_⟩;refine hK l c Lg _ _ k4 (by omega) (by omega) kn.finx.1 hgr kn.finx.2 ⟨hs'.n0,hs'.n1,hs'.l0,hs'.l1,?_,hs'.f,hs'.fn⟩ (by show _≤s'.left+_;omega) hf1 hf2 (by omega) hok hsz;have:=hs.v;show s.vars.length≤_;omega
def Qbop (d:Nat):Prop:=∀(R:Rdr) (gl k:Nat) (s:GS) (H:Heap) (K:V→Heap→Prop) (deep:Int),deep≤d+1→2≤deep→H R.l=R.o k→H gl=s.o R→R.l≠gl→s.ok k→FnsOk H R gl s→k+2001 * 10^d+10≤2^30→
  (∀(l:List St) (s':GS) (H':Heap) (k':Nat),k+2<k'→k'≤k+2001 * 10^d+3→Upd H H' [(R.l,R.o k'),(gl,s'.o R)]→s'.ok k'→s.left+4 * (k:Int)≤s'.left+4 * (k':Int)→s'.fns=s.fns→s'.ffl=s.ffl→l.length≤2→Qc0 l→4 * k+Q5 l≤4 * k'→K (.c (.sl false 5 (Qa4 l))) H')→
  Qs prog Qlx [.c (.ptr gl 0),.c (.int .i64 deep)] H K
theorem Qbp8 {d:Nat}(hB:Q9h d):Qbop d:=by
 intro R gl k s H K deep hd hd2 hR hG hne hs hF hk hK;have hp0:d<10^d:=J1 (by omega);have hB':=hB;simp only[Q9h]at hB';generalize hpe:10^d=e at *;refine Qx ?_;refine Qc Qaj Qasi ?_;refine Qa ?_;simp only[go_sem];refine Qa ?_;simp only[go_sem,hG,GS.o];have kn:=Kn.start2 hR (R.o_ne k) hG (s.o_ne R) hne;refine Qkc (ns:=[2,3,1,0,5]) hR (by omega) (by simp) fun v H1 hv hu=>?_;have kn:=kn.callE 0 rfl hu (R.o_ne _);simp only[go_sem,Qsc];refine Q99 (x:=Ex.mk 1 v [] []) (fl:=true) (kn.e 0 rfl) (kn.e 1 rfl) hne (hs.mono (Jam k)) (by omega) fun name H2 k2 g1 g2 hu=>?_;have kn:=kn.callEE 0 1 rfl rfl (by decide) hu (R.o_ne _) (GS.o_ne _ _);simp only[go_sem,Qsb];intro x5 hx5 H3 h3;have kn:=kn.al hx5 h3;have hx53:=kn.l 0 rfl;simp only[go_sem,Qsa,hx53,St.cells_len,St.cells];intro H4 h4;have kn:=kn.stL 0 rfl h4;have hx54:=kn.l 0 rfl;refine Qa ?_;simp only[go_sem,hx54];intro x6 hx6 H5 h5;have kn:=kn.al hx6 h5;have hx65:=kn.l 1 rfl;simp only[go_sem,Qsd,hx65];intro H6 h6;have kn:=kn.stL 1 rfl h6;refine Qa ?_;simp only[go_sem];refine⟨Qr (by omega) (by omega),?_⟩;have hs2:GS.ok { s with next:=s.next+1,vars:=s.vars++[name],vfl:=false } k2:=by
  refine⟨?_,?_,?_,hs.l1,?_,hs.f,hs.fn⟩
  ·have:=hs.n0;show -1≤s.next+1;omega
  ·have:=hs.n1;show s.next+1≤_;omega
  ·have:=hs.l0;show _≤s.left;omega
  ·have:=hs.v;show (s.vars++[name]).length≤_;simp;omega
 refine hB' _ _ _ _ _ _ (deep-1) (by omega) (kn.e 0 rfl) (kn.e 1 rfl) hne hs2 (hF.keep kn rfl rfl) (by omega) fun l c Lg s3 H7 k3 g3 g4 hu hgr hnew hs3 glf g5 g6 g7 g8 g9=>?_;have kn0:=kn;have kn:=kn.callEE 0 1 rfl rfl (by decide) hu (R.o_ne _) (GS.o_ne _ _);have kn:=kn0.addGr kn rfl rfl hgr hnew;have hx57:=kn.l 0 rfl;have hx67:=kn.l 1 rfl;simp only[go_sem,Qse];refine Qa ?_;simp only[go_sem,hx57,hx67];intro x8 hx8 H8 h8;have kn:=kn.al hx8 h8;have kn:=kn.perm (L':=[(x5,_),(x6,_),(x8,_)]++Lg) (by
  simp only[List.set,Jp,Jr,Jl];refine .cons _ (.cons _ ?_);exact Jk)
 have hx88:=kn.l 2 rfl;simp only[go_sem,Qsf,hx88];intro H9 h9;have kn:=kn.stL 2 rfl h9;have hG9:=kn.e 1 rfl;refine Qa ?_;simp only[go_sem,hG9,GS.o];have hl0:=hs3.l0;have hl1:=hs3.l1;refine⟨Qr (by omega) (by omega),fun H10 h10=>?_⟩;have kn:Kn H H10 [(R.l,R.o k3),(gl,GS.o { s3 with left:=s3.left-2 } R)] ([(x5,_),(x6,_),(x8,_)]++Lg):=kn.stE 1 rfl h10;have hx5a:=kn.l 0 rfl;have hx6a:=kn.l 1 rfl;have hx8a:=kn.l 2 rfl;refine Qag ?_;simp only[go_sem,hx5a,hx6a,hx8a];refine kn.grow hgr (.mk' _ _ _ _) (by intro r hr;simp only[Ja]at hr;subst hr;rfl) (by simp only[Qbb,LIM,Ji,Jn];omega) fun y' H11 kn=>?_;have hx5b:=kn.l 0 rfl;have hx6b:=kn.l 1 rfl;have hyb:=kn.l 3 rfl;simp only[go_sem,Qsg,hx5b,hx6b];refine Qk ?_;simp only[go_sem,Q3,Qab,Q3h,reduceIte,Ja,forall_eq,RS.op];have hok1:GS.ok { s3 with left:=s3.left-2 } k3:=⟨hs3.n0,hs3.n1,by show _≤s3.left-2;have:=hs.l0;simp only at glf;omega,by show s3.left-2≤100;omega,hs3.v,hs3.f,hs3.fn⟩;refine⟨.c (.sl false 5 (Qa4 [St.mk 1 name [Ex.mk 1 v [] []] [] [],St.mk 6 [] [Ex.mk 2 0 name []] (l++[St.mk 2 name [Ex.mk 4 0 [] [Ex.mk 2 0 name [],Ex.mk 1 1 [] []]] [] []]) []])),.c _ _ ?_,hK _ _ _ k3 (by omega) (by omega) kn.fin hok1 (by show _≤s3.left-2+_;simp only at glf;omega) g5 g6 (by simp) ?_ ?_⟩
 ·simp only[Qa4,St.cells,Qbv,Ex.cells,←Qagy]
  repeat' first|exact FrzL.nil|exact FrzR.nil|exact Qg rfl|exact FrzL.same (Ex.noOw _)|exact FrzL.same (St.noOw _)|refine FrzL.cons ?_ ?_|refine FrzR.cons ?_ ?_|refine FrzR.sl ?_
  refine FrzR.vsl (kn.un 3 rfl) hyb (by simp) (.app (.same (Qg9 _)) ?_)
  repeat' first|exact FrzL.nil|exact FrzR.nil|exact Qg rfl|exact FrzL.same (Ex.noOw _)|exact FrzL.same (St.noOw _)|refine FrzL.cons ?_ ?_|refine FrzR.cons ?_ ?_|refine FrzR.sl ?_
 ·simp only[Qc0,St.ok,Qd3,Ex.ok];refine⟨⟨by simp,⟨⟨fun h=>by simp at h,trivial⟩,trivial⟩,trivial,trivial⟩,⟨by simp,⟨⟨fun h=>by simp at h,trivial⟩,trivial⟩,Qagz g8 ?_,trivial⟩,trivial⟩;simp[Qc0,St.ok,Qd3,Ex.ok]
 ·simp only[Q5,St.size,Qid,Qai,Ex.size];omega
theorem Qbsn {A L1 L2:List (Nat×Obj)}:(A++L1++L2).Perm (A++L2++L1):=by
 rw[Jl,Jl];exact .append_left _ Jk
set_option maxHeartbeats 2000000 in
theorem Qbjb {d : Nat} (hB : ∀ d', d = d' + 1 → Q9h d') : Qboq d := by
  intro R gl k s H K deep hd hR hG hne hs hF hk hK;have hp0 : d < 10^d := J1 (by omega);have hex : ∃ e, 10^d = e ∧ ∀ d', d = d' + 1 → 10 * 10^d' = e := ⟨10^d, rfl, fun d' h => by rw [h, Nat.pow_succ]; omega⟩;obtain ⟨e, hpe, he'⟩ := hex;rw [hpe] at hp0 hk hK;have hl0 := hs.l0;have hl1 := hs.l1;refine Qx ?_;refine Qc Qaj Qasj ?_;refine Qa ?_;simp only [go_sem];refine Qa ?_;simp only [go_sem, hG, GS.o];refine ⟨Qr (by omega) (by omega), fun H1 h1 => ?_⟩;have kn : Kn H H1 [(R.l, R.o k), (gl, GS.o { s with left := s.left - 1 } R)] [] := (Kn.start2 hR (R.o_ne k) hG (s.o_ne R) hne).stE 1 rfl h1;have hs1 : GS.ok { s with left := s.left - 1 } (k + 1) := ⟨hs.n0, by have := hs.n1; show s.next ≤ _; omega, by show _ ≤ s.left - 1; omega, by show s.left - 1 ≤ 100; omega, by have := hs.v; show s.vars.length ≤ _; omega, hs.f, hs.fn⟩;have hlr : s.left ≤ ({ s with left := s.left - 1 } : GS).left + 1 := by show s.left ≤ s.left - 1 + 1; omega
  have hfn : ({ s with left := s.left - 1 } : GS).fns = s.fns := rfl;have hff : ({ s with left := s.left - 1 } : GS).ffl = s.ffl := rfl;have hF1 : FnsOk H R gl { s with left := s.left - 1 } := ⟨hF.1, hF.2⟩;generalize ({ s with left := s.left - 1 } : GS) = s1 at *;have hG1 := kn.e 1 rfl;refine Qa ?_;simp only [go_sem, hG1, GS.o];refine Qba (kn.e 0 rfl) (by omega) fun v H2 hv hu => ?_;have kn : Kn H H2 [(R.l, R.o (k + 1)), (gl, s1.o R)] [] := kn.callE 0 rfl hu (R.o_ne _);have hG2 := kn.e 1 rfl;simp only [go_sem, Qsj];have fin : ∀ (l : List St) (c : C) (s' : GS) (H3 : Heap) (k3 : Nat) (L : List (Nat × Obj)), k < k3 → k3 ≤ k + 500 * e → Kn H H3 [(R.l, R.o k3), (gl, s'.o R)] L → FrzC H3 (un H) c (.sl false 5 (Qa4 l)) →
      s'.ok k3 → s1.left + 4 * ((k + 1 : Nat) : Int) ≤ s'.left + 4 * (k3 : Int) → s'.fns = s1.fns → s'.ffl = s1.ffl → l.length ≤ 2 → Qc0 l → 4 * k + Q5 l ≤ 4 * k3 → ∃ x', FrzV H3 (un H) (.c c) x' ∧ K x' (H3.frz (un H)) := by
    intro l c s' H3 k3 L g1 g2 kn g3 g4 g5 g6 g7 g8 g9 g10;exact ⟨_, .c _ _ g3, hK l s' _ k3 g1 g2 kn.fin g4 (by omega) (g6.trans hfn) (g7.trans hff) g8 g9 g10⟩
  refine Qh (Qf ?_);refine Qa ?_;simp only [go_sem, hG2, GS.o, Qas];intro hvl;refine Qe rfl ?_ ?_
  ·
    intro hc;have hv0 : 0 < s1.vars.length := by
      cases h : decide (v < 3) with
      | true => rw [h] at hc; simp at hc; omega
      | false => rw [h] at hc; simp at hc
    refine Qag ?_;simp only [go_sem, hG2, GS.o];refine of_c (kn.e 0 rfl) (by omega) hv0 fun name H3 hn hu => ?_;have kn := kn.callE 0 rfl hu (R.o_ne _);simp only [go_sem, Qsl];refine Qb8 3 (by omega) (kn.e 0 rfl) (kn.e 1 rfl) hne (hs1.mono (by omega)) (hF1.keep kn rfl rfl) (by omega) fun x H4 k4 g1 g2 hu g3 g4 => ?_;have kn := kn.callE 0 rfl hu (R.o_ne _);simp only [go_sem, Qsk, x.cells_len];refine Qk ?_;simp only [go_sem, Q3, Qab, Qbe, reduceIte, Ja, forall_eq, RS.op];refine fin [St.mk 2 name [x] [] []] _ s1 H4 k4 _ (by omega) (by omega) kn ?_ (hs1.mono (by omega)) (by omega) rfl rfl (by simp) ?_ ?_
    · simp only [Qa4, St.cells, Qbv]
      repeat' first | exact FrzL.nil | exact FrzR.nil | exact Qg rfl | exact FrzL.same (Ex.noOw _) | exact FrzL.same (St.noOw _) | refine FrzL.cons ?_ ?_ | refine FrzR.cons ?_ ?_ | refine FrzR.sl ?_
    · simp only [Qc0, St.ok, Qd3]; exact ⟨⟨by simp, ⟨g3, trivial⟩, trivial, trivial⟩, trivial⟩
    · simp only [Q5, St.size, Qai]; omega
  intro hc0;refine Qa ?_;simp only [go_sem];refine Qe rfl ?_ ?_
  ·
    intro hc;refine Qa ?_;simp only [go_sem];refine Qb8 3 (by omega) (kn.e 0 rfl) (kn.e 1 rfl) hne (hs1.mono (by omega)) (hF1.keep kn rfl rfl) (by omega) fun x H4 k4 g1 g2 hu g3 g4 => ?_;have kn := kn.callE 0 rfl hu (R.o_ne _);simp only [go_sem, Qsn, x.cells_eq];refine Q99 (x := x) (kn.e 0 rfl) (kn.e 1 rfl) hne (hs1.mono (by omega)) (by omega) fun name H5 k5 g5 g6 hu => ?_;have kn := kn.callEE 0 1 rfl rfl (by decide) hu (R.o_ne _) (GS.o_ne _ _);simp only [go_sem, Qsm, St.cells_len];refine Qk ?_;simp only [go_sem, Q3, Qab, Qbe, reduceIte, Ja, forall_eq, RS.op];have h0 := hs1.n0;have h1 := hs1.n1;have h2 := hs1.l0;have h3 := hs1.v;refine fin [St.mk 1 name [x] [] []] _ _ H5 k5 _ (by omega) (by omega) kn ?_ ⟨?_, ?_, ?_, hs1.l1, ?_, hs1.f, hs1.fn⟩ (by show _ ≤ s1.left + _; omega) rfl rfl (by simp) ?_ ?_
    · simp only [Qa4]
      repeat' first | exact FrzL.nil | exact FrzR.nil | exact Qg rfl | exact FrzL.same (Ex.noOw _) | exact FrzL.same (St.noOw _) | refine FrzL.cons ?_ ?_ | refine FrzR.cons ?_ ?_ | refine FrzR.sl ?_
    · show -1 ≤ s1.next + 1; omega
    · show s1.next + 1 ≤ _; omega
    · show _ ≤ s1.left; omega
    · show (s1.vars ++ [name]).length ≤ _; simp; omega
    · simp only [Qc0, St.ok, Qd3]; exact ⟨⟨by simp, ⟨g3, trivial⟩, trivial, trivial⟩, trivial⟩
    · simp only [Q5, St.size, Qai]; omega
  intro hc1;refine Qa ?_;simp only [go_sem];refine Qe rfl ?_ ?_
  ·
    intro hc;refine Qa ?_;simp only [go_sem];refine Qb8 3 (by omega) (kn.e 0 rfl) (kn.e 1 rfl) hne (hs1.mono (by omega)) (hF1.keep kn rfl rfl) (by omega) fun x H4 k4 g1 g2 hu g3 g4 => ?_;have kn := kn.callE 0 rfl hu (R.o_ne _);simp only [go_sem, Qso, x.cells_len];refine Qk ?_;simp only [go_sem, Q3, Qab, Qbe, reduceIte, Ja, forall_eq, RS.op];refine fin [St.mk 3 [] [x] [] []] _ s1 H4 k4 _ (by omega) (by omega) kn ?_ (hs1.mono (by omega)) (by omega) rfl rfl (by simp) ?_ ?_
    · simp only [Qa4, St.cells, Qbv]
      repeat' first | exact FrzL.nil | exact FrzR.nil | exact Qg rfl | exact FrzL.same (Ex.noOw _) | exact FrzL.same (St.noOw _) | refine FrzL.cons ?_ ?_ | refine FrzR.cons ?_ ?_ | refine FrzR.sl ?_
    · simp only [Qc0, St.ok, Qd3]; exact ⟨⟨by simp, ⟨g3, trivial⟩, trivial, trivial⟩, trivial⟩
    · simp only [Q5, St.size, Qai]; omega
  intro hc2;have hdp : 2 ≤ deep := by
    cases h : decide (v < 7) with
    | true => rw [h] at hc2; simp at hc2
    | false => rw [h] at hc2; simp at hc2; omega
  obtain ⟨d', hdd⟩ : ∃ d', d = d' + 1 := ⟨d - 1, by omega⟩;have hB0 : Q9h d' := hB d' hdd;have hL0 : Qbop d' := Qbp8 hB0;have hB' := hB0;have hL' := hL0;simp only [Q9h, Qbop] at hB' hL';have he1 := he' d' hdd;have hp1 : d' < 10^d' := J1 (by omega);generalize 10^d' = e1 at *;refine Qa ?_;simp only [go_sem];refine Qe rfl ?_ ?_
  ·
    intro hc;refine Qa ?_;simp only [go_sem];refine Q28 (kn.e 0 rfl) (kn.e 1 rfl) hne (hs1.mono (by omega)) (hF1.keep kn rfl rfl) (by omega) fun x H4 k4 g1 g2 hu g3 g4 => ?_;have kn := kn.callE 0 rfl hu (R.o_ne _);simp only [go_sem, Qsq, x.cells_len];refine Qb8 2 (by omega) (kn.e 0 rfl) (kn.e 1 rfl) hne (hs1.mono (by omega)) (hF1.keep kn rfl rfl) (by omega) fun y H5 k5 g5 g6 hu g7 g8 => ?_;have kn := kn.callE 0 rfl hu (R.o_ne _);simp only [go_sem, Qsp, x.cells_len, y.cells_len];refine Qk ?_;simp only [go_sem, Q3, Qab, Qbe, reduceIte, Ja, forall_eq, RS.op];refine fin [St.mk 4 [] [x, y] [] []] _ s1 H5 k5 _ (by omega) (by omega) kn ?_ (hs1.mono (by omega)) (by omega) rfl rfl (by simp) ?_ ?_
    · simp only [Qa4, St.cells, Qbv]
      repeat' first | exact FrzL.nil | exact FrzR.nil | exact Qg rfl | exact FrzL.same (Ex.noOw _) | exact FrzL.same (St.noOw _) | refine FrzL.cons ?_ ?_ | refine FrzR.cons ?_ ?_ | refine FrzR.sl ?_
    · simp only [Qc0, St.ok, Qd3]; exact ⟨⟨by simp, ⟨g3, g7, trivial⟩, trivial, trivial⟩, trivial⟩
    · simp only [Q5, St.size, Qai]; omega
  intro hc3;refine Qa ?_;simp only [go_sem];refine Qe rfl ?_ ?_
  ·
    intro hc;refine Qa ?_;simp only [go_sem];refine Q28 (kn.e 0 rfl) (kn.e 1 rfl) hne (hs1.mono (by omega)) (hF1.keep kn rfl rfl) (by omega) fun x H4 k4 g1 g2 hu g3 g4 => ?_;have kn := kn.callE 0 rfl hu (R.o_ne _);simp only [go_sem, Qsr, x.cells_len];refine Qk ?_;simp only [go_sem, Q3, Qab, Qbe, reduceIte, Ja, forall_eq, RS.op];refine fin [St.mk 3 [] [Ex.mk 12 0 [] [x]] [] []] _ s1 H4 k4 _ (by omega) (by omega) kn ?_ (hs1.mono (by omega)) (by omega) rfl rfl (by simp) ?_ ?_
    · rw [Qa4, Qa4, St.cells, Qbv, Qbv, Ex.cells_eq (Ex.mk 12 0 [] _)];simp only [Qa4, Qbv, Ex.kids, Ex.op, Ex.n, Ex.name]
      repeat' first | exact FrzL.nil | exact FrzR.nil | exact Qg rfl | exact FrzL.same (Ex.noOw _) | exact FrzL.same (St.noOw _) | refine FrzL.cons ?_ ?_ | refine FrzR.cons ?_ ?_ | refine FrzR.sl ?_
    · simp only [Qc0, St.ok, Qd3, Ex.ok]; exact ⟨⟨by simp, ⟨⟨fun h => by simp at h, g3, trivial⟩, trivial⟩, trivial, trivial⟩, trivial⟩
    · simp only [Q5, St.size, Qai, Ex.size]; omega
  intro hc4;refine Qa ?_;simp only [go_sem];refine Qe rfl ?_ ?_
  ·
    intro hc;refine Qa ?_;simp only [go_sem];refine Qb8 3 (by omega) (kn.e 0 rfl) (kn.e 1 rfl) hne (hs1.mono (by omega)) (hF1.keep kn rfl rfl) (by omega) fun x H4 k4 g1 g2 hu g3 g4 => ?_;have kn := kn.callE 0 rfl hu (R.o_ne _);simp only [go_sem, Qnr, x.cells_len];refine ⟨Qr (by omega) (by omega), ?_⟩;refine hB' _ _ _ _ _ _ (deep - 1) (by omega) (kn.e 0 rfl) (kn.e 1 rfl) hne (hs1.mono (by omega)) (hF1.keep kn rfl rfl) (by omega) fun b1 c1 L1 s2 H5 k5 g5 g6 hu hg1 hnew hs2 glf g7 g8 g9 g10 g11 => ?_;have kn0 := kn;have kn := kn.callEE 0 1 rfl rfl (by decide) hu (R.o_ne _) (GS.o_ne _ _);have kn := kn0.addGr kn rfl rfl hg1 hnew;have hc1ow := hg1.isOw;simp only [go_sem, Qnq];intro x6 hx6 H6 h6;have kn := kn.al hx6 h6;have kn := kn.perm (L' := [(x6, _)] ++ L1) Jk;have hx66 := kn.l 0 rfl;simp only [go_sem, Qss, hx66];intro H7 h7;have kn : Kn H H7 [(R.l, R.o k5), (gl, s2.o R)] ([(x6, _)] ++ L1) := kn.stL 0 rfl h7;have hG7 := kn.e 1 rfl;refine Qy ?_;refine Qa ?_;simp only [go_sem, hG7, GS.o];refine Qba (kn.e 0 rfl) (by omega) fun v2 H8 hv2 hu => ?_;have kn : Kn H H8 [(R.l, R.o (k5 + 1)), (gl, s2.o R)] ([(x6, _)] ++ L1) := kn.callE 0 rfl hu (R.o_ne _);simp only [go_sem, Qns];have rest : ∀ (E1 : Env) (hE : lk 6 E1 = V.c (C.ptr x6 0)) (c2 : C) (b2 : List St) (L2 : List (Nat × Obj)) (s3 : GS) (H9 : Heap) (k6 : Nat), k5 + 1 ≤ k6 → k6 ≤ k5 + 1 + 2001 * e1 → Gr L2 5 (Qa4 b2) c2 →
        Kn H H9 [(R.l, R.o k6), (gl, s3.o R)] ([(x6, .st [.int .i64 5, .str [], .sl true 4 [x.cells], c1, c2])] ++ L1 ++ L2) → s3.ok k6 → s2.left + 4 * ((k5 + 1 : Nat) : Int) ≤ s3.left + 4 * (k6 : Int) → s3.fns = s2.fns → s3.ffl = s2.ffl → Qc0 b2 → 4 * (k5 + 1) + Q5 b2 ≤ 4 * k6 →
        Qah prog Qsh (X.inBlock 0 (X.sq prog Qib (Q3 Qbe (unK H K)))) E1 H9 := by
      intro E1 hE c2 b2 L2 s3 H9 k6 e1 e2 hg2 kn e3 e4 e5 e6 e7 e8;have hx69 := kn.l 0 rfl;have hc2ow := hg2.isOw;refine Qa ?_;simp only [go_sem, hE, hx69, hc1ow, hc2ow];refine Qk ?_;simp only [go_sem, Q3, Qab, Qbe, reduceIte, Ja, forall_eq, RS.op];refine fin [St.mk 5 [] [x] b1 b2] _ s3 H9 k6 _ (by omega) (by omega) kn ?_ e3 (by omega) (e5.trans g7) (e6.trans g8) (by simp) ?_ ?_
      · simp only [Qa4, St.cells, Qbv]
        repeat' first | exact FrzL.nil | exact FrzR.nil | exact Qg rfl | exact FrzL.same (Ex.noOw _) | exact FrzL.same (St.noOw _) | refine FrzL.cons ?_ ?_ | refine FrzR.cons ?_ ?_ | refine FrzR.sl ?_
        · exact hg1.frz (kn.perm Qbsn) (Qg9 _)
        · exact hg2.frz kn (Qg9 _)
      · simp only [Qc0, St.ok, Qd3]; exact ⟨⟨by simp, ⟨g3, trivial⟩, g10, e7⟩, trivial⟩
      · simp only [Q5, St.size, Qai]; omega
    refine Qh (Qe rfl ?_ ?_)
    · intro hc';refine Qq ?_;simp only [go_sem];refine ⟨Qr (by omega) (by omega), ?_⟩;refine hB' _ _ _ _ _ _ (deep - 1) (by omega) (kn.e 0 rfl) (kn.e 1 rfl) hne (hs2.mono (by omega)) (hF1.keep kn g7 g8) (by omega) fun b2 c2 L2 s3 H9 k6 q1 q2 hu hg2 hnew hs3 q3 q4 q5 q6 q7 q8 => ?_;have kn0 := kn;have kn := kn.callEE 0 1 rfl rfl (by decide) hu (R.o_ne _) (GS.o_ne _ _);have kn := kn0.addGr kn rfl rfl hg2 hnew;have hx69 := kn.l 0 rfl;simp only [go_sem, Qnt, hx69];intro H10 h10;have kn : Kn H H10 [(R.l, R.o k6), (gl, s3.o R)] ([(x6, _)] ++ L1 ++ L2) := kn.stL 0 rfl h10;exact rest _ (by simp [lk]) c2 b2 L2 s3 H10 k6 (by omega) (by omega) hg2 kn hs3 (by omega) q4 q5 q7 (by omega)
    · intro hc';refine Qi ?_;simp only [go_sem];exact rest _ (by simp [lk]) _ [] [] s2 H8 (k5 + 1) (by omega) (by omega) (.nil 5) (by rw [List.append_nil]; exact kn) (hs2.mono (by omega)) (by omega) rfl rfl trivial (by simp only [Q5]; omega)
  · intro hc5;refine Qa ?_;simp only [go_sem, hG2, GS.o];have rest : ∀ (b : Bool) (H3 : Heap) (k3 : Nat), k + 1 ≤ k3 → k3 ≤ k + 2 → Kn H H3 [(R.l, R.o k3), (gl, s1.o R)] [] →
        Qah prog Qsi (X.inBlock 0 (X.sq prog Qib (Q3 Qbe (unK H K))))
         [(0, V.c (C.ptr gl 0)), (1, .c (.int .i64 deep)), (109, .c (.bool b))] H3 := by
      intro b H3 k3 e3 e4 kn;refine Qe rfl ?_ ?_
      · intro hb;refine Qa ?_;simp only [go_sem];refine Qb8 2 (by omega) (kn.e 0 rfl) (kn.e 1 rfl) hne (hs1.mono (by omega)) (hF1.keep kn rfl rfl) (by omega) fun x H4 k4 g1 g2 hu g3 g4 => ?_;have kn := kn.callE 0 rfl hu (R.o_ne _);simp only [go_sem, Qnu, x.cells_len];refine Qk ?_;simp only [go_sem, Q3, Qab, Qbe, reduceIte, Ja, forall_eq, RS.op];refine fin [St.mk 7 [] [x] [] []] _ s1 H4 k4 _ (by omega) (by omega) kn ?_ (hs1.mono (by omega)) (by omega) rfl rfl (by simp) ?_ ?_
        · simp only [Qa4, St.cells, Qbv]
          repeat' first | exact FrzL.nil | exact FrzR.nil | exact Qg rfl | exact FrzL.same (Ex.noOw _) | exact FrzL.same (St.noOw _) | refine FrzL.cons ?_ ?_ | refine FrzR.cons ?_ ?_ | refine FrzR.sl ?_
        · simp only [Qc0, St.ok, Qd3]; exact ⟨⟨by simp, ⟨g3, trivial⟩, trivial, trivial⟩, trivial⟩
        · simp only [Q5, St.size, Qai]; omega
      · intro hb;refine Qi ?_;simp only [go_sem];refine Qa ?_;simp only [go_sem];refine hL' _ _ _ _ _ _ deep (by omega) hdp (kn.e 0 rfl) (kn.e 1 rfl) hne (hs1.mono (by omega)) (hF1.keep kn rfl rfl) (by omega) fun l s2 H4 k4 g1 g2 hu g3 g4 g5 g6 g7 g8 g9 => ?_;have kn := kn.callEE 0 1 rfl rfl (by decide) hu (R.o_ne _) (GS.o_ne _ _);simp only [go_sem, Qnv];refine Qk ?_;simp only [go_sem, Q3, Qab, Qbe, reduceIte, Ja, forall_eq, RS.op];exact fin l _ s2 H4 k4 _ (by omega) (by omega) kn (Qg rfl) g3 (by omega) g5 g6 g7 g8 (by omega)
    refine ⟨fun hb => ?_, fun hb => ?_⟩
    · refine Qba (kn.e 0 rfl) (by omega) fun v2 H3 hv2 hu => ?_;have kn := kn.callE 0 rfl hu (R.o_ne _);simp only [go_sem, Qf8];exact rest _ H3 (k + 1 + 1) (by omega) (by omega) kn
    · simp only [go_sem, Qf8, hb];exact rest _ H2 (k + 1) (by omega) (by omega) kn
theorem Qboz (d:Nat):Q9h d:=by
 induction d with
 |zero=>exact Qa8f (Qbjb (fun d' h=>absurd h (by omega)))
 |succ d ih=>exact Qa8f (Qbjb (fun d' h=>by
   have:d'=d:=by omega
   rw[this];exact ih))
set_option maxHeartbeats 1000000 in
theorem Qalf {R:Rdr}{gl k:Nat}{s:GS}{name:List UInt8}{params:Int}{H:Heap}{K:V→Heap→Prop}(hp0:0≤params)(hp3:params≤3)(hR:H R.l=R.o k)(hG:H gl=s.o R)(hne:R.l≠gl)(hs:s.ok k)(hF:FnsOk H R gl s)(hk:k+2001300≤2^30)
  (hK:∀(f:Fn) (s':GS) (H':Heap) (k':Nat),k<k'→k'≤k+2001300→Upd H H' [(R.l,R.o k'),(gl,s'.o R)]→s'.ok k'→s'.fns=s.fns→s'.ffl=s.ffl→f.params.length≤3→Qc0 f.body→4 * k+Q5 f.body≤4 * k'→K (.ag f.cells) H') :
  Qs prog Qlw [.c (.ptr gl 0),.c (.str name),.c (.int .i64 params)] H K:=by
 obtain⟨np,rfl⟩:=Jq hp0;refine Qx ?_;refine Qc Qaj Qba3 ?_;refine Qa ?_;simp only[go_sem];intro x6 hx6 H1 h1;have kn:=(Kn.start2 hR (R.o_ne k) hG (s.o_ne R) hne).al hx6 h1;have hG1:=kn.e 1 rfl;refine Qa ?_;have etk:List.take np [[C.str [97]],[C.str [98]],[C.str [99]]]=Qbm (List.take np [[97],[98],[99]]):=by simp[Qbm,Jao]
 simp only[go_sem,hG1,GS.o,etk];refine⟨⟨by omega,by omega⟩,fun H2 h2=>?_⟩;have kn:Kn H H2 [(R.l,R.o k),(gl,GS.o { s with vars:=List.take np [[97],[98],[99]],vfl:=false } R)] [(x6,_)]:=kn.stE 1 rfl h2;have hG2:=kn.e 1 rfl;refine Qa ?_;simp only[go_sem,hG2,GS.o];refine⟨Qr (by omega) (by omega),fun H3 h3=>?_⟩;have kn:Kn H H3 [(R.l,R.o k),(gl,GS.o { s with vars:=List.take np [[97],[98],[99]],vfl:=false,next:=(np:Int)-1 } R)] [(x6,_)]:=kn.stE 1 rfl h3;have hs1:GS.ok { s with vars:=List.take np [[97],[98],[99]],vfl:=false,next:=(np:Int)-1 } k:=
  ⟨by show -1≤(np:Int)-1;omega,by show (np:Int)-1≤_;omega,hs.l0,hs.l1,by show (List.take np _).length≤_;simp;omega,hs.f,hs.fn⟩
 have hvl:(List.take np [[97],[98],[99]]:List (List UInt8)).length≤3:=by simp;omega
 have hfn:GS.fns { s with vars:=List.take np [[97],[98],[99]],vfl:=false,next:=(np:Int)-1 }=s.fns:=rfl;have hff:GS.ffl { s with vars:=List.take np [[97],[98],[99]],vfl:=false,next:=(np:Int)-1 }=s.ffl:=rfl;have hvv:GS.vars { s with vars:=List.take np [[97],[98],[99]],vfl:=false,next:=(np:Int)-1 }=List.take np [[97],[98],[99]]:=rfl;rw[←hvv]at hvl;have hF1:FnsOk H R gl { s with vars:=List.take np [[97],[98],[99]],vfl:=false,next:=(np:Int)-1 }:=⟨hF.1,hF.2⟩;generalize ({ s with vars:=List.take np [[97],[98],[99]],vfl:=false,next:=(np:Int)-1 }:GS)=s1 at *;have hG3:=kn.e 1 rfl;refine Qa ?_;have hL:s1.vars.length≤LIM:=by simp only[LIM];omega
 simp only[go_sem,hG3,GS.o,Qas,Jg,Jp,hL];refine⟨.inl trivial,Qmw _,fun y hy H4 h4=>?_⟩;have kn:=kn.al hy h4;simp only[go_sem,Q0i];intro x7 hx7 H5 h5;have kn:=kn.al hx7 h5;have hx75:=kn.l 2 rfl;simp only[go_sem,Q0h,hx75];intro H6 h6;have kn:Kn H H6 [(R.l,R.o k),(gl,s1.o R)] [(x6,_),(y,_),(x7,_)]:=kn.stL 2 rfl h6;refine Qa ?_;simp only[go_sem];refine Qboz 3 _ _ _ _ _ _ 3 (by omega) (kn.e 0 rfl) (kn.e 1 rfl) hne hs1 (hF1.keep kn rfl rfl) (by omega) fun l c Lg s2 H7 k2 g1 g2 hu hgr hnew hs2 glf g3 g4 g5 g6 g7=>?_;have kn0:=kn;have kn:=kn.callEE 0 1 rfl rfl (by decide) hu (R.o_ne _) (GS.o_ne _ _);have kn:=kn0.addGr kn rfl rfl hgr hnew;have hx77:=kn.l 2 rfl;simp only[go_sem,Q0j,hx77];intro H8 h8;have kn:Kn H H8 [(R.l,R.o k2),(gl,s2.o R)] ([(x6,.st [.str [],.sl true 1 [],.sl true 5 []]),(y,.vec 1 (Qbm s1.vars)),(x7,.st [.str name,.vsl y 1 0 s1.vars.length,c])]++Lg):=kn.stL 2 rfl h8;have hG8:=kn.e 1 rfl;refine Qy ?_;refine Qa ?_;simp only[go_sem,hG8,GS.o];have hcow:=hgr.isOw;have rest:∀(E1:Env) (hE6:lk 6 E1=V.c (C.ptr x6 0)) (hE7:lk 7 E1=V.c (C.ptr x7 0)) (l2:List St) (c2:C) (rws:List (List C)) (L2:List (Nat×Obj)) (s3:GS) (H9:Heap) (k3:Nat),k<k3→k3≤k+2001300→
   Kn H H9 [(R.l,R.o k3),(gl,s3.o R)] ([(x6,.st [.str [],.sl true 1 [],.sl true 5 []]),(y,.vec 1 (Qbm s1.vars)),(x7,.st [.str name,.vsl y 1 0 s1.vars.length,c2])]++L2)→Gr L2 5 rws c2→(∀H',FrzR H' (un H) rws (Qa4 l2))→
   s3.ok k3→s3.fns=s1.fns→s3.ffl=s1.ffl→Qc0 l2→4 * k+Q5 l2≤4 * k3→Qah prog Qr9 (Q3 Qtw (unK H K)) E1 H9:=by
  intro E1 hE6 hE7 l2 c2 rws L2 s3 H9 k3 e1 e2 kn hg2 hfr e3 e4 e5 e6 e7;have hx69:=kn.l 0 rfl;have hx79:=kn.l 2 rfl;have hcow:=hg2.isOw;refine Qa ?_;simp only[go_sem,hE6,hE7,hx69,hx79,hcow];intro H10 h10;have kn:=kn.stL 0 rfl h10;have hx6a:=kn.l 0 rfl;have hya:=kn.l 1 rfl;refine Qk ?_;simp only[go_sem,Q3,Qab,Qtw,reduceIte,Ja,forall_eq,RS.op,hx6a,hcow];refine⟨(.ag (Fn.mk name s1.vars l2).cells),?_,hK _ s3 _ k3 e1 e2 kn.fin e3 (e4.trans hfn) (e5.trans hff) hvl e6 e7⟩;refine FrzL.ag (.cons (Qg rfl) (.cons ?_ (.cons ?_ .nil)))
  ·exact Qamu (kn.un 1 rfl) hya (by simp[Qbm]) (noOw_mem (Qmw _))
  ·exact hg2.frzR (B:=[_,_,_]) kn (hfr _)
 have tl:∀(b:Bool) (H9:Heap) (k3:Nat),k2≤k3→k3≤k2+1→(b=true→0<s2.left)→Kn H H9 [(R.l,R.o k3),(gl,s2.o R)] ([(x6,.st [.str [],.sl true 1 [],.sl true 5 []]),(y,.vec 1 (Qbm s1.vars)),(x7,.st [.str name,.vsl y 1 0 s1.vars.length,c])]++Lg)→
   Qah prog (s_l3Gen_fn_7.seq Qr9) (Q3 Qtw (unK H K)) [(0,V.c (C.ptr gl 0)),(6,V.c (C.ptr x6 0)),(7,V.c (C.ptr x7 0)),(42,.c (.bool b))] H9:=by
  intro b H9 k3 e1 e2 hb kn;have hG9:=kn.e 1 rfl;refine Qh (Qe rfl ?_ ?_)
  ·intro hc;have hlp:=hb hc;have hl1:=hs2.l1;refine Qa ?_;simp only[go_sem,hG9,GS.o];refine⟨Qr (by omega) (by omega),fun H10 h10=>?_⟩;have kn:Kn H H10 [(R.l,R.o k3),(gl,GS.o { s2 with left:=s2.left-1 } R)] ([(x6,_),(y,_),(x7,_)]++Lg):=kn.stE 1 rfl h10;have hs3:GS.ok { s2 with left:=s2.left-1 } k3:=⟨hs2.n0,by have:=hs2.n1;show s2.next≤_;omega,by show _≤s2.left-1;omega,by show s2.left-1≤100;omega,by have:=hs2.v;show s2.vars.length≤_;omega,hs2.f,hs2.fn⟩;have hx7a:=kn.l 2 rfl;refine Qa2 ?_;simp only[go_sem,hx7a,hcow];refine Qb8 2 (by omega) (kn.e 0 rfl) (kn.e 1 rfl) hne hs3 (hF1.keep kn g3 g4) (by omega) fun x H11 k4 q1 q2 hu q3 q4=>?_;have kn:=kn.callE 0 rfl hu (R.o_ne _);have hx7b:=kn.l 2 rfl;simp only[go_sem,Q0l,hx7b,hcow,x.cells_len];refine kn.grow (B:=[_,_,_]) hgr (.mk' _ _ _ _) (by intro r hr;simp only[Ja]at hr;subst hr;rfl) (by simp only[Qbb,LIM,Ji,Jn];omega) fun y' H12 kn=>?_;have hx7c:=kn.l 2 rfl;simp only[go_sem,Q0k,hx7c];intro H13 h13;have kn:=kn.stL 2 rfl h13;refine rest _ (by simp[lk]) (by simp[lk]) (l++[St.mk 7 [] [x] [] []]) _ _ _ _ H13 k4 (by omega) (by omega) kn (.mk _ _ _ (by simp[Qbb])) (fun H'=>?_) (hs3.mono (by omega)) g3 g4 (Qagz g6 ?_) ?_
   ·rw[←Qagy];refine .app (.same (Qg9 _)) ?_;simp only[Qa4,St.cells,Qbv]
    repeat' first|exact FrzL.nil|exact FrzR.nil|exact Qg rfl|exact FrzL.same (Ex.noOw _)|exact FrzL.same (St.noOw _)|refine FrzL.cons ?_ ?_|refine FrzR.cons ?_ ?_|refine FrzR.sl ?_
   ·simp only[Qc0,St.ok,Qd3];exact⟨⟨by simp,⟨q3,trivial⟩,trivial,trivial⟩,trivial⟩
   ·simp only[Qid,Q5,St.size,Qai];omega
  ·intro hc;refine Qi ?_;simp only[go_sem];exact rest _ (by simp[lk]) (by simp[lk]) l c _ Lg s2 H9 k3 (by omega) (by omega) kn hgr (fun H'=>.same (Qg9 _)) (hs2.mono (by omega)) g3 g4 g6 (by omega)
 refine⟨fun hb=>?_,fun hb=>?_⟩
 ·refine Qba (kn.e 0 rfl) (by omega) fun v H9 hv hu=>?_;have kn:=kn.callE 0 rfl hu (R.o_ne _);simp only[go_sem,Qmq,hb];exact tl _ H9 (k2+1) (by omega) (by omega) (fun _=>by simpa using hb) kn
 ·simp only[go_sem,Qmq,hb];exact tl false H8 k2 (by omega) (by omega) (fun h=>by simp at h) kn
variable {H:Heap}{K:V→Heap→Prop}
theorem Qo1 {l:List Ex}{i:Nat}(h:i<l.length):Qai (l.take (i+1))=Qai (l.take i)+(l[i]'h).size:=by
 rw[Jh h,Qwm];simp[Qai]
theorem Qtf {l:List St}{i:Nat}(h:i<l.length):Q5 (l.take (i+1))=Q5 (l.take i)+(l[i]'h).size:=by
 rw[Jh h,Qid];simp[Q5]
theorem Qhc (l:List Ex)(i:Nat):Qai (l.take i)≤Qai l:=by
 conv=>rhs;rw[←Jx i l,Qwm]
 omega
theorem Qie (l:List St)(i:Nat):Q5 (l.take i)≤Q5 l:=by
 conv=>rhs;rw[←Jx i l,Qid]
 omega
theorem St.size_pos (x:St):1≤x.size:=by rw[x.size_eq];omega
theorem Qag0 (l:List St):l.length≤Q5 l:=by
 induction l with
 |nil=>simp
 |cons x r ih=>simp only[Ji,Q5];have:=x.size_pos;omega
theorem Qbfq:∀(n:Nat) (x:Ex) {H:Heap} {K:V→Heap→Prop},x.size≤n→x.size≤2^40→K (.c (.int .i64 x.size)) H→Qs prog Qtq [.ag x.cells] H K:=by
 intro n
 induction n with
 |zero=>intro x _ _ h;have:=x.size_pos;omega
 |succ n ih=>
 intro x H K hn hb hK;have hsz:=x.size_kids;refine Qc Qaj Qbgh ?_;refine Qa ?_;simp only[go_sem,x.cells_eq];refine Qa ?_;simp only[go_sem];refine Qy ?_;refine Qa ?_;simp only[go_sem];refine Qh (Qf (Qw (fun n e1 H1=>∃i:Nat,n=x.kids.length-i∧i≤x.kids.length∧H1=H∧e1=[(1,.c (.pp [.int .i64 x.op,.int .i64 x.n,.str x.name,.sl false 4 (Qbv x.kids)])),(3,.c (.int .i64 ((1+Qai (x.kids.take i):Nat):Int))),(4,.c (.int .i64 i))]) x.kids.length ?_ ?_))
 ·exact⟨0,by omega,by omega,rfl,by simp[Qai]⟩
 ·rintro n e1 H1 ⟨i,hn,hi,rfl,rfl⟩;refine Qy ?_;refine Qa ?_;simp only[go_sem,Qa6];intro hl;simp only[LIM]at hl;refine Qh (Qe rfl ?_ ?_)
  ·intro hc;have hlt:i<x.kids.length:=by simpa using hc
   have hm:=Qes (Jb hlt);have htk:=Qo1 hlt;have htl:=Qhc x.kids (i+1);refine Qi ?_;simp only[go_sem];refine Qh (Qf (Qq ?_));simp only[go_sem,hlt,Qa6,Qer _ _ hlt,Ex.take4,Ex.allOw,Ex.cells_len];refine ih _ (by omega) (by omega) ?_;simp only[go_sem,Q5a];refine⟨Qr (by omega) (by omega),?_⟩;refine Qq ?_;simp only[go_sem,X.next];refine⟨Qr (by omega) (by omega),x.kids.length-(i+1),by omega,i+1,rfl,by omega,?_⟩;rw[htk];simp;omega
  ·intro hc;have hge:x.kids.length≤i:=by simpa using hc
   refine Qv ?_;simp only[go_sem,X.next];refine Qa ?_;simp only[go_sem];refine Qk ?_;simp only[go_sem,Q3,Qab,Qas5,reduceIte,Ja,forall_eq,RS.op];rw[Jc hge,←hsz];exact hK
theorem Qbk4:∀(n:Nat) (x:Ex) {H:Heap} {K:V→Heap→Prop} (deep:Int),x.size≤n→deep≤100→(∀b:Bool,K (.c (.bool b)) H)→Qs prog Qya [.ag x.cells,.c (.int .i64 deep)] H K:=by
 intro n
 induction n with
 |zero=>intro x _ _ _ h;have:=x.size_pos;omega
 |succ n ih=>
 intro x H K deep hn hd hK;have hsz:=x.size_kids;refine Qc Qaj Qblk ?_;refine Qa ?_;simp only[go_sem,x.cells_eq];refine Qa ?_;simp only[go_sem];refine Qbk5 fun lo hi=>?_;simp only[go_sem,Qacs,Jz,Jac];refine Qy ?_;refine Qa ?_;simp only[go_sem];have retf:∀(b:Bool) (e:Env),lk 4 e=.c (.bool b)→Q3 Qyt K .ret e H:=by
  intro b e h1;simp only[go_sem,Q3,Qab,Qyt,Ja,forall_eq,RS.op,h1];exact hK _
 have rest:∀b:Bool,(b=false→1≤deep)→Qah prog (s_l2Form_3.seq Qacr) (Q3 Qyt K)
   [(1,.c (.int .i64 deep)),(2,.c (.pp [.int .i64 x.op,.int .i64 x.n,.str x.name,.sl false 4 (Qbv x.kids)])),(31,.c (.bool b))] H:=by
  intro b hb;refine Qh (Qe rfl ?_ ?_)
  ·intro hc;refine Qa ?_;simp only[go_sem];refine Qk ?_;simp only[go_sem];exact retf false _ (by simp[lk])
  intro hc;have hdp:=hb hc;refine Qi ?_;simp only[go_sem];refine Qa ?_;simp only[go_sem];refine Qy ?_;refine Qa ?_;simp only[go_sem];refine Q82 fun b1=>?_;simp only[go_sem,Qact];have rest2:∀b:Bool,Qah prog (s_l2Form_6.seq Qacq) (Q3 Qyt K)
    [(1,.c (.int .i64 deep)),(2,.c (.pp [.int .i64 x.op,.int .i64 x.n,.str x.name,.sl false 4 (Qbv x.kids)])),(69,.c (.bool b))] H:=by
   intro b;refine Qh (Qe rfl ?_ ?_)
   ·intro hc;refine Qa ?_;simp only[go_sem];refine Qk ?_;simp only[go_sem];exact retf false _ (by simp[lk])
   intro hc;refine Qi ?_;simp only[go_sem];refine Qy ?_;refine Qa ?_;simp only[go_sem];refine Qh (Qf (Qw (fun n e1 H1=>∃i:Nat,n=x.kids.length-i∧i≤x.kids.length∧H1=H∧e1=[(1,.c (.int .i64 deep)),(2,.c (.pp [.int .i64 x.op,.int .i64 x.n,.str x.name,.sl false 4 (Qbv x.kids)])),(8,.c (.int .i64 i))]) x.kids.length ?_ ?_))
   ·exact⟨0,by omega,by omega,rfl,rfl⟩
   ·rintro n e1 H1 ⟨i,hn,hi,rfl,rfl⟩;refine Qy ?_;refine Qa ?_;simp only[go_sem,Qa6];intro hl;simp only[LIM]at hl;refine Qh (Qe rfl ?_ ?_)
    ·intro hc;have hlt:i<x.kids.length:=(by simpa using hc);have hm:=Qes (Jb hlt);refine Qi ?_;simp only[go_sem];refine Qh (Qf ?_);refine Qa ?_;simp only[go_sem,hlt,Qa6,Qer _ _ hlt,Ex.take4,Ex.allOw,Ex.cells_len];refine⟨Qr (by omega) (by omega),?_⟩;refine ih _ (deep-1) (by omega) (by omega) fun b2=>?_;simp only[go_sem,Qacu];refine Qe rfl ?_ ?_
     ·intro hc2;refine Qa ?_;simp only[go_sem];refine Qk ?_;simp only[go_sem,X.next];exact retf false _ (by simp[lk])
     ·intro hc2;refine Qi ?_;simp only[go_sem];refine Qq ?_;simp only[go_sem,X.next];exact⟨Qr (by omega) (by omega),x.kids.length-(i+1),by omega,i+1,rfl,by omega,rfl⟩
    ·intro hc;refine Qv ?_;simp only[go_sem,X.next];refine Qa ?_;simp only[go_sem];refine Qk ?_;exact retf true _ (by simp[lk])
  refine⟨fun hb1=>?_,fun hb1=>?_⟩
  ·refine Qc9 ?_;simp only[go_sem,Qxt];exact rest2 _
  ·replace hb1:=Qez hb1;simp only[go_sem,Qxt,hb1];exact rest2 _
 refine⟨fun hb1=>?_,fun hb1=>?_⟩
 ·replace hb1:=Qt3 hb1;have hdp:1≤deep:=by simp at hb1;omega
  refine Qc9 ?_;simp only[go_sem,Qxs,hb1,Qa6,cond_false];intro hl;refine⟨fun hb2=>?_,fun hb2=>?_⟩
  ·refine Qc9 ?_;simp only[go_sem,Qmp];exact rest _ (fun _=>hdp)
  ·replace hb2:=Qez hb2;simp only[go_sem,Qmp,hb2];exact rest _ (fun _=>hdp)
 ·replace hb1:=Qez hb1;simp only[go_sem,Qxs,Qmp,hb1,Qa6,cond_true];exact rest _ (fun h=>by simp at h)
theorem Qa0i {x:Ex}(hx:x.size≤2^40)(hK:∀b:Bool,K (.c (.bool b)) H):Qs prog Qhp [.ag x.cells] H K:=by
 refine Qc Qaj Qahj ?_;refine Qa ?_;simp only[go_sem,Ex.ne_nil];refine Qa ?_;simp only[go_sem,Ex.take4,Ex.allOw,Ex.cells_len];refine Qbk4 x.size x 6 (Je _) (by omega) fun b=>?_;simp only[go_sem,Qlb,Ex.take4,Ex.allOw,Ex.cells_len];refine⟨fun hb=>?_,fun hb=>?_⟩
 ·refine Qbfq x.size x (Je _) hx ?_;simp only[go_sem,Qe1];refine Qk ?_;simp only[go_sem,Q3,Qab,Qjq,reduceIte,Ja,forall_eq,RS.op];exact hK _
 ·simp only[go_sem,Qe1,hb];refine Qk ?_;simp only[go_sem,Q3,Qab,Qjq,reduceIte,Ja,forall_eq,RS.op];exact hK _
def St.raw (x:St):List C:=[.int .i64 x.op,.str x.name,.sl false 4 (Qbv x.args),.sl false 5 (Qa4 x.body),.sl false 5 (Qa4 x.els)]
theorem Qbft:∀(n:Nat) (l:List St) {fl:Bool} {H:Heap} {K:V→Heap→Prop},Q5 l≤n→Q5 l≤2^40→(∀v:Nat,v≤Q5 l→K (.c (.int .i64 v)) H)→Qs prog Qj5 [.c (.sl fl 5 (Qa4 l))] H K:=by
 intro n
 induction n using Nat.strongRecOn with
 |ind n ih=>
 intro l fl H K hn hb hK;have hlen:=Qag0 l;refine Qc Qaj Qbgk ?_;refine Qa ?_;simp only[go_sem];refine Qa ?_;simp only[go_sem,Qbb];intro hl;refine Qy ?_;refine Qa ?_;simp only[go_sem];refine Qh (Qf (Qw (fun n e1 H1=>∃(i v:Nat),n=l.length-i∧i≤l.length∧v≤(l.length-i)+Q5 (l.take i)∧H1=H∧e1=[(0,.c (.sl fl 5 (Qa4 l))),(3,.c (.int .i64 v)),(4,.c (.int .i64 i))]) l.length ?_ ?_))
 ·exact⟨0,l.length,by omega,by omega,by omega,rfl,rfl⟩
 ·rintro n e1 H1 ⟨i,v,hn1,hi,hv,rfl,rfl⟩;refine Qy ?_;refine Qa ?_;simp only[go_sem,Qbb];simp only[LIM]at hl;refine fun _=>?_;refine Qh (Qe rfl ?_ ?_)
  ·intro hc;have hlt:i<l.length:=by simpa using hc
   have hm:=Qmx (Jb hlt);have htk:=Qtf hlt;have htl:=Qie l (i+1);have hse:=(l[i]'hlt).size_eq;refine Qi ?_;simp only[go_sem];refine Qh (Qf (Qa2 ?_));simp only[go_sem,hlt,Qbb,Qe7 _ _ hlt,St.cells_eq];refine ih (Q5 l[i].body) (by omega) l[i].body (Je _) (by omega) fun a ha=>?_;simp only[go_sem,Q5d,hlt,Qbb,Qe7 _ _ hlt,St.cells_eq];refine⟨Qr (by omega) (by omega),?_⟩;refine ih (Q5 l[i].els) (by omega) l[i].els (Je _) (by omega) fun c hc=>?_;simp only[go_sem,Q5c];refine⟨Qr (by omega) (by omega),?_⟩;refine Qq ?_;simp only[go_sem,X.next];refine⟨Qr (by omega) (by omega),l.length-(i+1),by omega,i+1,v+a+c,rfl,by omega,by omega,rfl⟩
  ·intro hc;have hge:l.length≤i:=by simpa using hc
   refine Qv ?_;simp only[go_sem,X.next];refine Qa ?_;simp only[go_sem];refine Qk ?_;simp only[go_sem,Q3,Qab,Qas6,reduceIte,Ja,forall_eq,RS.op];rw[Jc hge]at hv;exact hK v (by omega)
def Qbrt (n:Nat):Prop:=∀(x:St) (deep:Int) (H:Heap) (K:V→Heap→Prop),x.size≤n→x.size≤2^40→deep≤100→(∀b:Bool,K (.c (.bool b)) H)→Qs prog Q92 [.ag x.cells,.c (.int .i64 deep)] H K
def Qbd5 (n:Nat):Prop:=∀(l:List St) (deep:Int) (fl:Bool) (H:Heap) (K:V→Heap→Prop),Q5 l≤n→Q5 l≤2^40→deep≤100→(∀b:Bool,K (.c (.bool b)) H)→Qs prog Qj6 [.c (.sl fl 5 (Qa4 l)),.c (.int .i64 deep)] H K
theorem Qbns {n:Nat}(hS:Qbrt n):Qbd5 n:=by
 intro l deep fl H K hn hb hd hK;refine Qc Qaj Qbgl ?_;have retf:∀(b:Bool) (e:Env),lk 4 e=.c (.bool b)→Q3 Qaa7 K .ret e H:=by
  intro b e h1;simp only[go_sem,Q3,Qab,Qaa7,Ja,forall_eq,RS.op,h1];exact hK _
 refine Qa ?_;simp only[go_sem];refine Qy ?_;refine Qa ?_;simp only[go_sem];refine Qh (Qf (Qw (fun n e1 H1=>∃(i:Nat),n=l.length-i∧i≤l.length∧H1=H∧e1=[(0,.c (.sl fl 5 (Qa4 l))),(1,.c (.int .i64 deep)),(5,.c (.int .i64 i))]) l.length ?_ ?_))
 ·exact⟨0,by omega,by omega,rfl,rfl⟩
 ·rintro n e1 H1 ⟨i,hn1,hi,rfl,rfl⟩;refine Qy ?_;refine Qa ?_;simp only[go_sem,Qbb];intro hl;simp only[LIM]at hl;refine Qh (Qe rfl ?_ ?_)
  ·intro hc;have hlt:i<l.length:=by simpa using hc
   have hm:=Qmx (Jb hlt);refine Qi ?_;simp only[go_sem];refine Qh (Qf ?_);refine Qa ?_;simp only[go_sem,hlt,Qbb,Qe7 _ _ hlt,St.take5,St.allOw,St.cells_len];refine hS _ deep _ _ (by omega) (by omega) hd fun b=>?_;simp only[go_sem,Q5m];refine Qe rfl ?_ ?_
   ·intro hc2;refine Qa ?_;simp only[go_sem];refine Qk ?_;simp only[go_sem,X.next];exact retf false _ (by simp[lk])
   ·intro hc2;refine Qi ?_;simp only[go_sem];refine Qq ?_;simp only[go_sem,X.next];exact⟨Qr (by omega) (by omega),l.length-(i+1),by omega,i+1,rfl,by omega,rfl⟩
  ·intro hc;refine Qv ?_;simp only[go_sem,X.next];refine Qa ?_;simp only[go_sem];refine Qk ?_;exact retf true _ (by simp[lk])
theorem Qbq7 {n:Nat}(hS:∀m,m<n→Qbd5 m):Qbrt n:=by
 intro x deep H K hn hb hd hK;have hsz:=x.size_eq;refine Qc Qaj Qblp ?_;have retf:∀(b:Bool) (e:Env),lk 4 e=.c (.bool b)→Q3 Q9d K .ret e H:=by
  intro b e h1;simp only[go_sem,Q3,Qab,Q9d,Ja,forall_eq,RS.op,h1];exact hK _
 refine Qa ?_;simp only[go_sem,x.cells_eq];refine Qy ?_;refine Qag ?_;simp only[go_sem];have rest:∀b:Bool,(b=false→1≤deep∧x.args.length=if x.op=4 then 2 else 1)→Qah prog (s_l3Stmt_2.seq Qad2) (Q3 Q9d K)
   [(1,.c (.int .i64 deep)),(2,.c (.pp [.int .i64 x.op,.str x.name,.sl false 4 (Qbv x.args),.sl false 5 (Qa4 x.body),.sl false 5 (Qa4 x.els)])),(23,.c (.bool b))] H:=by
  intro b hb;refine Qh (Qe rfl ?_ ?_)
  ·intro hc;refine Qa ?_;simp only[go_sem];refine Qk ?_;simp only[go_sem];exact retf false _ (by simp[lk])
  intro hc;obtain⟨hdp,hal⟩:=hb hc;have hap:0<x.args.length:=by rw[hal];split <;> omega
  refine Qi ?_;simp only[go_sem];refine Qa ?_;simp only[go_sem];refine Qy ?_;refine Qa ?_;simp only[go_sem];refine Q82 fun b1=>?_;simp only[go_sem,Qad3];refine Qh (Qe rfl ?_ ?_)
  ·intro hc;refine Qa ?_;simp only[go_sem];refine Qk ?_;simp only[go_sem];exact retf false _ (by simp[lk])
  intro hc;refine Qi ?_;simp only[go_sem];refine Qy ?_;refine Qa ?_;simp only[go_sem];refine Qh (Qf (Qw (fun n e1 H1=>∃(i:Nat),n=x.args.length-i∧i≤x.args.length∧H1=H∧e1=[(1,.c (.int .i64 deep)),(2,.c (.pp [.int .i64 x.op,.str x.name,.sl false 4 (Qbv x.args),.sl false 5 (Qa4 x.body),.sl false 5 (Qa4 x.els)])),(6,.c (.int .i64 i))]) x.args.length ?_ ?_))
  ·exact⟨0,by omega,by omega,rfl,rfl⟩
  ·rintro n e1 H1 ⟨i,hn1,hi,rfl,rfl⟩;refine Qy ?_;refine Qa ?_;simp only[go_sem,Qa6];intro hl;simp only[LIM]at hl;refine Qh (Qe rfl ?_ ?_)
   ·intro hc;have hlt:i<x.args.length:=(by simpa using hc);have hm:=Qes (Jb hlt);refine Qi ?_;simp only[go_sem];refine Qh (Qf ?_);refine Qa ?_;simp only[go_sem,hlt,Qa6,Qer _ _ hlt,Ex.take4,Ex.allOw,Ex.cells_len];refine Qa0i (by omega) fun b=>?_;simp only[go_sem,Qad4];refine Qe rfl ?_ ?_
    ·intro hc2;refine Qa ?_;simp only[go_sem];refine Qk ?_;simp only[go_sem,X.next];exact retf false _ (by simp[lk])
    ·intro hc2;refine Qi ?_;simp only[go_sem];refine Qq ?_;simp only[go_sem,X.next];exact⟨Qr (by omega) (by omega),x.args.length-(i+1),by omega,i+1,rfl,by omega,rfl⟩
   ·intro hc;refine Qv ?_;simp only[go_sem,X.next];refine Qy ?_;refine Qa ?_;simp only[go_sem,hap,Qa6,Qer _ _ hap,Ex.cells_eq];refine⟨fun _=>Int.le_refl _,?_⟩;refine Qh (Qe rfl ?_ ?_)
    ·intro hc;refine Qa ?_;simp only[go_sem];refine Qk ?_;simp only[go_sem];exact retf false _ (by simp[lk])
    intro hc;refine Qi ?_;simp only[go_sem];refine Qy ?_;refine Qa ?_;simp only[go_sem,Qbb]
    intros
    refine Qh (Qe rfl ?_ ?_)
    ·intro hc;refine Qa ?_;simp only[go_sem];refine Qk ?_;simp only[go_sem];exact retf false _ (by simp[lk])
    intro hc;refine Qi ?_;simp only[go_sem];refine Qa ?_;simp only[go_sem];refine⟨Qr (by omega) (by omega),?_⟩;refine hS (Q5 x.body) (by omega) _ _ _ _ _ (Je _) (by omega) (by omega) fun b1=>?_;simp only[go_sem,Q5l];refine⟨fun _=>Qr (by omega) (by omega),?_⟩;refine⟨fun hb1=>?_,fun hb1=>?_⟩
    ·refine hS (Q5 x.els) (by omega) _ _ _ _ _ (Je _) (by omega) (by omega) fun b2=>?_;simp only[go_sem,Qst];refine Qk ?_;exact retf _ _ (by simp[lk];rfl)
    ·simp only[go_sem,Qst,hb1];refine Qk ?_;exact retf false _ (by simp[lk])
 refine⟨fun hb1=>?_,fun hb1=>?_⟩
 ·replace hb1:=Qt3 hb1;have hdp:1≤deep:=by simp at hb1;omega
  refine Qc9 ?_;simp only[go_sem,Qxv,hb1,Qa6,cond_false];refine⟨fun hb2=>?_,fun hb2=>?_⟩
  ·refine Qbk7 ?_;simp only[go_sem,Qmr,Qa6];refine rest _ (fun h=>⟨hdp,?_⟩);have h1:(x.args.length:Int)=if x.op=4 then 2 else 1:=by
    cases h2:decide (1≤x.op∧x.op≤8) <;> rw[h2]at h <;> simp_all
   by_cases h4:x.op=4
   ·rw[if_pos h4]at h1⊢;omega
   ·rw[if_neg h4]at h1⊢;omega
  ·replace hb2:=Qez hb2;simp only[go_sem,Qmr,hb2,Qa6];exact rest _ (fun h=>by simp at h)
 ·replace hb1:=Qez hb1;simp only[go_sem,Qxv,Qmr,hb1,Qa6,cond_true];exact rest _ (fun h=>by simp at h)
theorem Qbq8 (n:Nat):Qbd5 n:=by
 induction n using Nat.strongRecOn with
 |ind n ih=>exact Qbns (Qbq7 ih)
theorem Qbsb {f:Fn}(hf:Q5 f.body≤2^40)(hK:∀b:Bool,K (.c (.bool b)) H):Qs prog Qa00 [.ag f.cells] H K:=by
 refine Qc Qaj Qbsh ?_;have retf:∀(b:Bool) (e:Env),lk 2 e=.c (.bool b)→Q3 Qbg5 K .ret e H:=by
  intro b e h1;simp only[go_sem,Q3,Qab,Qbg5,Ja,forall_eq,RS.op,h1];exact hK _
 refine Qa ?_;simp only[go_sem,Fn.cells];refine Qy ?_;refine Qa ?_;simp only[go_sem];refine Qh (Qf (Qw (fun n e1 H1=>∃(i:Nat),n=f.params.length-i∧i≤f.params.length∧H1=H∧e1=[(1,.c (.pp [.str f.name,.sl false 1 (Qbm f.params),.sl false 5 (Qa4 f.body)])),(3,.c (.int .i64 i))]) f.params.length ?_ ?_))
 ·exact⟨0,by omega,by omega,rfl,rfl⟩
 ·rintro n e1 H1 ⟨i,hn1,hi,rfl,rfl⟩;refine Qy ?_;refine Qa ?_;simp only[go_sem,Qas];intro hl;simp only[LIM]at hl;refine Qh (Qe rfl ?_ ?_)
  ·intro hc;have hlt:i<f.params.length:=by simpa using hc
   refine Qi ?_;simp only[go_sem];refine Qh (Qf ?_);refine Qa ?_;simp only[go_sem,hlt,Qas,Qic _ _ hlt];refine Q82 fun b=>?_;simp only[go_sem,Qax8];refine Qe rfl ?_ ?_
   ·intro hc2;refine Qa ?_;simp only[go_sem];refine Qk ?_;simp only[go_sem,X.next];exact retf false _ (by simp[lk])
   ·intro hc2;refine Qi ?_;simp only[go_sem];refine Qq ?_;simp only[go_sem,X.next];exact⟨Qr (by omega) (by omega),f.params.length-(i+1),by omega,i+1,rfl,by omega,rfl⟩
  ·intro hc;refine Qv ?_;simp only[go_sem,X.next];refine Qa ?_;simp only[go_sem];refine Q82 fun b=>?_;simp only[go_sem,Qax9,Qas]
   intros
   refine⟨fun hb1=>?_,fun hb1=>?_⟩
   ·refine Qbq8 _ _ _ _ _ _ (Je _) hf (by omega) fun b2=>?_;simp only[go_sem,Qacy];refine Qk ?_;exact retf _ _ (by simp[lk];rfl)
   ·simp only[go_sem,Qacy,hb1];refine Qk ?_;exact retf false _ (by simp[lk])
def Qa7:List Fn→Nat
 |[]=>0
 |f::r=>Q5 f.body+Qa7 r
theorem Qpl {l:List Fn}{f:Fn}(h:f∈l):Q5 f.body≤Qa7 l:=by
 induction l with
 |nil=>simp at h
 |cons g r ih=>
  simp only[Qa7];rcases List.mem_cons.1 h with rfl|h
  ·omega
  ·have:=ih h;omega
theorem Qis (a b:List Fn):Qa7 (a++b)=Qa7 a+Qa7 b:=by
 induction a with
 |nil=>simp[Qa7]
 |cons x r ih=>simp only[Jr,Qa7,ih];omega
theorem Qanr {l:List Fn}{i:Nat}(h:i<l.length):Qa7 (l.take (i+1))=Qa7 (l.take i)+Q5 (l[i]'h).body:=by
 rw[Jh h,Qis];simp[Qa7]
theorem Q6r (l:List Fn)(i:Nat):Qa7 (l.take i)≤Qa7 l:=by
 conv=>rhs;rw[←Jx i l,Qis]
 omega
theorem Qbp5 {l:List Fn}{fl:Bool}(hf:Qa7 l≤2^40)(hK:∀n:Int,K (.c (.int .i64 n)) H):Qs prog Qamr [.ag [.sl fl 3 (Qca l)]] H K:=by
 refine Qc Qaj Qbqg ?_;refine Qa ?_;simp only[go_sem];refine Qa ?_;simp only[go_sem];refine Qy ?_;refine Qa ?_;simp only[go_sem];refine Qh (Qf (Qw (fun n e1 H1=>∃(i v:Nat),n=l.length-i∧i≤l.length∧v≤Qa7 (l.take i)∧H1=H∧e1=[(1,.c (.pp [.sl fl 3 (Qca l)])),(3,.c (.int .i64 v)),(4,.c (.int .i64 i))]) l.length ?_ ?_))
 ·exact⟨0,0,by omega,by omega,by omega,rfl,rfl⟩
 ·rintro n e1 H1 ⟨i,v,hn1,hi,hv,rfl,rfl⟩;refine Qy ?_;refine Qa ?_;simp only[go_sem,Qbk];intro hl;simp only[LIM]at hl;refine Qh (Qe rfl ?_ ?_)
  ·intro hc;have hlt:i<l.length:=by simpa using hc
   have hm:=Qpl (Jb hlt);have htk:=Qanr hlt;have htl:=Q6r l (i+1);refine Qi ?_;simp only[go_sem];refine Qh (Qf (Qq ?_));simp only[go_sem,hlt,Qbk,Qg7 _ _ hlt,Fn.cells];refine Qbft _ _ (Je _) (by omega) fun c hc=>?_;simp only[go_sem,Qal3];refine⟨Qr (by omega) (by omega),?_⟩;refine Qq ?_;simp only[go_sem,X.next];exact⟨Qr (by omega) (by omega),l.length-(i+1),by omega,i+1,v+c,rfl,by omega,by omega,rfl⟩
  ·intro hc;refine Qv ?_;simp only[go_sem,X.next];refine Qa ?_;simp only[go_sem];refine Qk ?_;simp only[go_sem,Q3,Qab,Qbg4,reduceIte,Ja,forall_eq,RS.op];exact hK _
theorem Qag2 {l:List Fn}{fl:Bool}(hf:Qa7 l≤2^40)(hK:∀b:Bool,K (.c (.bool b)) H):Qs prog Qd5 [.ag [.sl fl 3 (Qca l)]] H K:=by
 refine Qc Qaj Q1r ?_;have retf:∀(b:Bool) (e:Env),lk 2 e=.c (.bool b)→Q3 Qe0 K .ret e H:=by
  intro b e h1;simp only[go_sem,Q3,Qab,Qe0,Ja,forall_eq,RS.op,h1];exact hK _
 refine Qa ?_;simp only[go_sem];refine Qy ?_;refine Qa ?_;simp only[go_sem,Qbk];intro hl;simp only[LIM]at hl;refine Qc9 ?_;simp only[go_sem,Qgq];refine Qh (Qe rfl ?_ ?_)
 ·intro hc;refine Qa ?_;simp only[go_sem];refine Qk ?_;simp only[go_sem];exact retf false _ (by simp[lk])
 intro hc;refine Qi ?_;simp only[go_sem];refine Qy ?_;refine Qa ?_;simp only[go_sem];refine Qh (Qf (Qw (fun n e1 H1=>∃(i:Nat),n=l.length-i∧i≤l.length∧H1=H∧e1=[(1,.c (.pp [.sl fl 3 (Qca l)])),(3,.c (.int .i64 i))]) l.length ?_ ?_))
 ·exact⟨0,by omega,by omega,rfl,rfl⟩
 ·rintro n e1 H1 ⟨i,hn1,hi,rfl,rfl⟩;refine Qy ?_;refine Qa ?_;simp only[go_sem,Qbk];refine fun _=>?_;refine Qh (Qe rfl ?_ ?_)
  ·intro hc;have hlt:i<l.length:=by simpa using hc
   have hm:=Qpl (Jb hlt);refine Qi ?_;simp only[go_sem];refine Qh (Qf ?_);refine Qa ?_;simp only[go_sem,hlt,Qbk,Qg7 _ _ hlt,Fn.take3,Fn.allOw,Fn.cells_len];refine Qbsb (by omega) fun b=>?_;simp only[go_sem,Qgr];refine Qe rfl ?_ ?_
   ·intro hc2;refine Qa ?_;simp only[go_sem];refine Qk ?_;simp only[go_sem,X.next];exact retf false _ (by simp[lk])
   ·intro hc2;refine Qi ?_;simp only[go_sem];refine Qq ?_;simp only[go_sem,X.next];exact⟨Qr (by omega) (by omega),l.length-(i+1),by omega,i+1,rfl,by omega,rfl⟩
  ·intro hc;refine Qv ?_;simp only[go_sem,X.next];refine Qa ?_;simp only[go_sem];refine Qbp5 hf fun n=>?_;simp only[go_sem,Qgs];refine Qk ?_;exact retf _ _ (by simp[lk];rfl)
end Go.AE.Y
namespace Go.AE.Y
open Go.Proofs.Tryz
structure PrOk (l:List Fn):Prop where
 pos:0<l.length
 par:∀f∈l,f.params.length≤3
 ok:∀f∈l,Qc0 f.body
 size:Qa7 l≤2^34
 len:l.length≤4
end Go.AE.Y
namespace Go.AE
open Go.AE.Y
open Go.Proofs.Tryz
theorem Kn.perm4 {H0 H:Heap}{E:List (Nat×Obj)}{a b c d:Nat×Obj}(kn:Kn H0 H E [a,b,c,d]):Kn H0 H E [a,b,d]:=
 Kn.drop (A:=[a,b,d]) (B:=[c]) (kn.perm (.cons _ (.cons _ (.swap _ _ _))))
end Go.AE
namespace Go.AE.Y
open Go.Proofs.Tryz
set_option maxHeartbeats 2000000 in
theorem Qbk8 {R:Rdr}{k:Nat}{H:Heap}{K:V→Heap→Prop}(hR:H R.l=R.o k)(hk:k+7000000≤2^30)
  (hK:∀(l:List Fn) (H':Heap) (k':Nat),k<k'→k'≤k+7000000→Upd H H' [(R.l,R.o k')]→PrOk l→K (.ag [.sl false 3 (Qca l)]) H') :
  Qs prog Q91 [.c (.ptr R.l 0)] H K:=by
 refine Qx ?_;refine Qc Qaj Qblo ?_;refine Qa ?_;simp only[go_sem];intro x2 hx2 H1 h1;have kn:=(Kn.start1 hR (R.o_ne k)).al hx2 h1;refine Qa ?_;simp only[go_sem];refine Qkc (ns:=[14,20,8,26]) (kn.e 0 rfl) (by omega) (by simp) fun v H2 hv hu=>?_;have kn:=kn.callE 0 rfl hu (R.o_ne _);simp only[go_sem,Qadw];intro gl hgl H3 h3;have kn:Kn H H3 [(R.l,R.o (k+1))] [(x2,.st [.sl true 3 []]),(gl,GS.o ⟨[],(.sl true 3 [],[]),[],true,0,v⟩ R)]:=kn.al hgl h3;have hv26:0≤v∧v≤26:=by simp at hv;omega
 simp only[go_sem,Qadv];have hne:R.l≠gl:=kn.ne 0 1 rfl rfl;refine Qy ?_;refine Qa ?_;simp only[go_sem];refine Qkc (ns:=[0,1,1,2]) (kn.e 0 rfl) (by omega) (by simp) fun cnt H4 hcnt hu=>?_;have kn:=kn.callE 0 rfl hu (R.o_ne _);have hc2:0≤cnt∧cnt≤2:=by simp at hcnt;omega
 simp only[go_sem,Qadx];obtain⟨M,hM⟩:∃M:Nat,M=2001301:=⟨_,rfl⟩;refine Qh (Qf (Qw (fun n e1 H1=>∃(j k4:Nat) (s:GS),n=cnt.toNat-j∧(j:Int)≤cnt∧s.fns.length=j∧k+2≤k4∧k4≤k+2+M * j∧s.ok k4∧(∀f∈s.fns,Qc0 f.body)∧4 * k+Qa7 s.fns≤4 * k4∧
   Gr s.ffl.2 3 (Qca s.fns) s.ffl.1∧Kn H H1 [(R.l,R.o k4)] ([(x2,.st [.sl true 3 []]),(gl,s.o R)]++s.ffl.2)∧
   e1=[(0,.c (.ptr R.l 0)),(2,.c (.ptr x2 0)),(3,.c (.ptr gl 0)),(4,.c (.int .i64 (cnt-j)))]) cnt.toNat ?_ ?_))
 ·refine⟨0,k+2,⟨[],(.sl true 3 [],[]),[],true,0,v⟩,by omega,by omega,rfl,by omega,by omega,⟨?_,?_,?_,?_,by simp,by simp,by simp⟩,by simp,by simp only[Qa7];omega,.nil 3,kn,by simp⟩
  ·show -1≤(0:Int);omega
  ·show (0:Int)≤_;omega
  ·show _≤v;omega
  ·show v≤100;omega
 ·rintro n e1 H1 ⟨j,k4,s,hn,hj,hfl,hk4,hk4',hs,hfok,hsz,hgr,kn,rfl⟩;have hMj:M * j≤M * 2:=J2 _ (by omega);have hM1:M * (j+1)=M * j+M:=Jas _ _;have hG1:=kn.l 1 rfl;have hfow:=hgr.isOw;have hflen:=hgr.lenC;rw[Qbk]at hflen;refine Qy ?_;refine Qa ?_;simp only[go_sem];refine Qh (Qe rfl ?_ ?_)
  ·intro hc;have hi:(j:Int)<cnt:=by simp at hc;omega
   refine Qi ?_;simp only[go_sem];refine Qh (Qf ?_);have hfok':=(hgr.okSl (B:=[_,_]) kn);have eg:List.getD [[C.str [102]],[C.str [103]],[C.str [104]]] s.fns.length []=[.str (List.getD [[102],[103],[104]] s.fns.length [])]:=Qic [[102],[103],[104]] _ (by simp;omega);have hl3:s.fns.length<3:=by omega
   refine Qag ?_;simp only[go_sem,hG1,GS.o,hfow,hflen,eq_true hfok',eg,hl3];refine Qba (kn.e 0 rfl) (by omega) fun p H2 hp hu=>?_;have kn:Kn H H2 [(R.l,R.o (k4+1))] ([(x2,.st [.sl true 3 []]),(gl,s.o R)]++s.ffl.2):=kn.callE 0 rfl hu (R.o_ne _);rw[if_neg (by omega)]at hp;have hG2:=kn.l 1 rfl;have hfok2:=(hgr.okSl (B:=[_,_]) kn);simp only[go_sem,Qad0,hG2,GS.o,hfow,hflen,eq_true hfok2,eg,hl3];have hF:FnsOk H2 R gl s:=⟨hgr,fun q hq=>by
    have h1:=kn.get q (Jj _ (Jj _ hq));refine⟨h1.1,fun hh=>?_,fun hh=>?_⟩
    ·exact kn.usedE 0 rfl (hh▸kn.loc q (Jj _ hq))
    ·have:=kn.dL;rw[Jt]at this;exact (Jag.1 this).2.2 gl (by simp) q.1 (Qao hq) hh.symm⟩
   refine Qalf hp.1 (by omega) (kn.e 0 rfl) (kn.l 1 rfl) hne (hs.mono (Jam k4)) hF (by omega) fun f s2 H5 k5 g1 g2 hu hs2 g3 g4 g5 g6 g7=>?_;have kn:=kn.callEL 0 1 rfl rfl hu (R.o_ne _) (GS.o_ne _ _);have kn:Kn H H5 [(R.l,R.o k5)] ([(x2,.st [.sl true 3 []]),(gl,s2.o R)]++s.ffl.2):=kn;simp only[go_sem,Qadz];intro x5 hx5 H6 h6;have kn:=kn.al hx5 h6;have kn:=kn.perm (L':=[(x2,_),(gl,_),(x5,_)]++s.ffl.2) (by
    simp only[Jr,Jp,Jl];exact .cons _ (.cons _ Jk))
   have hG6:=kn.l 1 rfl;have hx56:=kn.l 2 rfl;have hfok6:=(hgr.okSl (B:=[_,_,_]) kn);simp only[go_sem,Qady,hG6,hx56,GS.o,g3,g4,hfow,hflen,eq_true hfok6,eg,hl3,Fn.cells];intro H7 h7;have kn:Kn H H7 [(R.l,R.o k5)] ([(x2,_),(gl,_),(x5,_)]++s.ffl.2):=kn.stL 2 rfl h7;have hG7:=kn.l 1 rfl;have hx57:=kn.l 2 rfl;refine Qa2 ?_;simp only[go_sem,hG7,hx57,GS.o,g4,hfow];refine kn.grow (B:=[_,_,_]) (new:=[f.cells]) hgr (.mk' _ _ _ _) (by simp[f.noOw]) (by simp only[Qbk,LIM,Ji,Jn];omega) fun z H8 kn=>?_;have hG8:=kn.l 1 rfl;simp only[go_sem,Qad1,hG8,GS.o];intro H9 h9;have kn:=kn.stL 1 rfl h9;obtain⟨s9,hs9⟩:∃s9:GS,s9=GS.mk (s.fns++[f]) (C.vsl z 3 0 ((Qca s.fns).length+1),[(z,Obj.vec 3 (Qca s.fns++[f.cells]))]) s2.vars s2.vfl s2.next s2.left:=⟨_,rfl⟩;have ho9:s9.o R=.st [C.ptr R.l 0,C.vsl z 3 0 ((Qca s.fns).length+1),C.sl s2.vfl 1 (Qbm s2.vars),C.int IntKind.i64 s2.next,C.int IntKind.i64 s2.left]:=by rw[hs9];rfl
   rw[←ho9]at kn;have kn:Kn H H9 [(R.l,R.o k5)] [(x2,_),(gl,s9.o R),(x5,_),(z,_)]:=kn;have kn:=kn.perm4;refine Qq ?_;simp only[go_sem,X.next];have hkb:k5≤k+2+M * (j+1):=by rw[hM1];omega
   refine⟨Qr (by omega) (by omega),cnt.toNat-(j+1),by omega,j+1,k5,s9,rfl,by omega,by simp[hs9,hfl],by omega,hkb,?_,?_,?_,?_,by rw[hs9]at kn⊢;exact kn,?_⟩
   ·subst hs9;refine⟨hs2.n0,hs2.n1,hs2.l0,hs2.l1,hs2.v,fun f' hf'=>?_,by simp;omega⟩;rcases Jm.1 hf' with h|h
    ·exact hs.f f' h
    ·simp at h;subst h;exact g5
   ·subst hs9;intro f' hf';rcases Jm.1 hf' with h|h
    ·exact hfok f' h
    ·simp at h;subst h;exact g6
   ·subst hs9;simp only[Qis,Qa7];omega
   ·subst hs9;show Gr [(z,Obj.vec 3 (Qca s.fns++[f.cells]))] 3 (Qca (s.fns++[f])) _;rw[Qalc];exact .mk _ _ _ (by simp[Qbk])
   ·have:cnt-((j+1:Nat):Int)=cnt-j-1:=(by omega);rw[this]
  ·intro hc;refine Qv ?_;simp only[go_sem,X.next];have hkE:k4≤k+4002604:=by omega
   refine Qa ?_;simp only[go_sem];refine Qkc (ns:=[0,1,2,1]) (kn.e 0 rfl) (by omega) (by simp) fun p H2 hp hu=>?_;have kn:Kn H H2 [(R.l,R.o (k4+1))] ([(x2,.st [.sl true 3 []]),(gl,s.o R)]++s.ffl.2):=kn.callE 0 rfl hu (R.o_ne _);have hp2:0≤p∧p≤3:=by simp at hp;omega
   simp only[go_sem,Q5g];have hF:FnsOk H2 R gl s:=⟨hgr,fun q hq=>by
    have h1:=kn.get q (Jj _ (Jj _ hq));refine⟨h1.1,fun hh=>?_,fun hh=>?_⟩
    ·exact kn.usedE 0 rfl (hh▸kn.loc q (Jj _ hq))
    ·have:=kn.dL;rw[Jt]at this;exact (Jag.1 this).2.2 gl (by simp) q.1 (Qao hq) hh.symm⟩
   refine Qalf hp2.1 hp2.2 (kn.e 0 rfl) (kn.l 1 rfl) hne (hs.mono (Jam k4)) hF (by omega) fun f s2 H5 k5 g1 g2 hu hs2 g3 g4 g5 g6 g7=>?_;have kn:=kn.callEL 0 1 rfl rfl hu (R.o_ne _) (GS.o_ne _ _);have kn:Kn H H5 [(R.l,R.o k5)] ([(x2,.st [.sl true 3 []]),(gl,s2.o R)]++s.ffl.2):=kn;simp only[go_sem,Q5f];intro x6 hx6 H6 h6;have kn:=kn.al hx6 h6;have kn:=kn.perm (L':=[(x2,_),(gl,_),(x6,_)]++s.ffl.2) (by
    simp only[Jr,Jp,Jl];exact .cons _ (.cons _ Jk))
   have hx66:=kn.l 2 rfl;simp only[go_sem,Q5e,hx66,Fn.cells];intro H7 h7;have kn:Kn H H7 [(R.l,R.o k5)] ([(x2,_),(gl,_),(x6,_)]++s.ffl.2):=kn.stL 2 rfl h7;have hG7:=kn.l 1 rfl;have hx67:=kn.l 2 rfl;have hfok7:=hgr.okSl (B:=[_,_,_]) kn;have hrows7:=hgr.rowsOf (B:=[_,_,_]) kn;have hesz:=hgr.elemSz;have hL:s.fns.length≤LIM:=by simp only[LIM];omega
   refine Qag ?_;simp only[go_sem,hG7,hx67,GS.o,g4,hfow,hflen,eq_true hfok7,hrows7,hesz,hL,Jg];refine⟨.inl trivial,Qalb _,fun y hy H8 h8=>?_⟩;have kn:=kn.al hy h8;have kn:=kn.perm (L':=([(x2,_),(gl,_),(x6,_)]++[(y,_)])++s.ffl.2) Qbsn;have kn:=kn.drop;have hx68:=kn.l 2 rfl;have kn:Kn H H8 [(R.l,R.o k5)] [(x2,_),(gl,_),(x6,_),(y,_)]:=kn;have hy8:=kn.l 3 rfl;have etk:List.take s.fns.length (Qca s.fns)=Qca s.fns:=Jc (by rw[Qbk];omega);simp only[go_sem,Q5j,hx68,hy8,Qbk,etk];refine⟨by omega,by simp only[LIM];omega,fun z hz H9 h9=>?_⟩;have kn:Kn H H9 [(R.l,R.o k5)] [(x2,_),(gl,_),(x6,_),(z,.vec 3 (Qca s.fns++[f.cells]))]:=kn.ap 3 rfl hz h9;simp only[go_sem,Q5i];intro x7 hx7 H10 h10;have kn:=kn.al hx7 h10;have hG10:=kn.l 1 rfl;have hx6a:=kn.l 2 rfl;have hx7a:=kn.l 4 rfl;have kn:Kn H H10 [(R.l,R.o k5)] [(x2,_),(gl,_),(x6,_),(z,_),(x7,_)]:=kn;simp only[go_sem,Q5h,hG10,hx6a,hx7a,GS.o,g4,hfow];intro H11 h11;have kn:=kn.stL 4 rfl h11;have kn:Kn H H11 [(R.l,R.o k5)] ([(x2,.st [.sl true 3 []]),(x7,.st [.vsl z 3 0 (s.fns.length+1)])]++[(z,.vec 3 (Qca s.fns++[f.cells]))]):=
    (kn.perm (L':=([(x2,_),(x7,_)]++[(z,_)])++[(gl,_),(x6,_)]) (by
     simp only[List.set,Jr,Jp];refine .cons _ ?_;refine .trans (.cons _ (.cons _ (.swap _ _ _))) ?_;refine .trans (.cons _ (.swap _ _ _)) ?_;refine .trans (.swap _ _ _) ?_;refine .cons _ ?_;refine .trans (.cons _ (.swap _ _ _)) ?_;exact .swap _ _ _)).drop
   have hz11:=kn.l 2 rfl;have hx711:=kn.l 1 rfl;obtain⟨hfz,kn⟩:=kn.freeze 1 rfl (og':=.st [.sl false 3 (Qca (s.fns++[f]))]) (FrzKL.st (.cons rfl (by
    rw[←Qalc];exact Qamu (by simp) hz11 (by simp[Qbk]) (noOw_mem (Qbl4 (Qalb _) (by simp[f.noOw])))) .nil)) (by simp)
   refine Qy ?_;refine c_gh (Qdt _ (fun t=>?_) hfz) (e':=[(2,V.c (C.ptr x2 0)),(7,V.c (C.ptr x7 0))]) ?_
   ·simp only[lk];split
    ·exact .c _ _ (.same _ rfl)
    ·split
     ·exact .c _ _ (.same _ rfl)
     ·exact .unk _
   generalize ((H11.frz fun m=>m == z).set x7 (Obj.st [C.sl false 3 (Qca (s.fns++[f]))]))=H12 at *;have hx7b:=kn.l 1 rfl;have hx2b:=kn.l 0 rfl;have hpr:Qa7 (s.fns++[f])≤2^34:=by rw[Qis];simp only[Qa7];omega
   refine Qa ?_;simp only[go_sem,hx7b];refine Qag2 (by omega) fun b=>?_;simp only[go_sem,Q5k];refine Qh (Qe rfl ?_ ?_)
   ·intro hc;refine Qa ?_;simp only[go_sem,hx2b];intro H13 h13;have kn:=kn.stL 0 rfl h13;have hx2c:=kn.l 0 rfl;refine Qk ?_;simp only[go_sem,Q3,Qab,Qanu,reduceIte,Ja,forall_eq,RS.op,hx2c];refine⟨.ag [.sl false 3 (Qca [Fn.mk [109] [] [St.mk 3 [] [Ex.mk 1 1 [] []] [] []]])],FrzL.ag ?_,hK _ _ k5 (by omega) (by omega) kn.fin ⟨by simp,by simp,?_,?_,by simp⟩⟩
    ·simp only[Qca,Jan,Jaq,Fn.cells,Qamf,Qa4,St.cells,Qbv,Ex.cells]
     repeat' first|exact FrzL.nil|exact FrzR.nil|exact Qg rfl|exact FrzL.same (Ex.noOw _)|exact FrzL.same (St.noOw _)|refine FrzL.cons ?_ ?_|refine FrzR.cons ?_ ?_|refine FrzR.sl ?_
    ·intro f hf;simp at hf;subst hf;simp[Qc0,St.ok,Qd3,Ex.ok]
    ·simp[Qa7,Q5,St.size,Qai,Ex.size]
   ·intro hc;refine Qi ?_;simp only[go_sem];refine Qa ?_;simp only[go_sem,hx2b,hx7b];intro H13 h13;have kn:=kn.stL 0 rfl h13;have hx2c:=kn.l 0 rfl;refine Qk ?_;simp only[go_sem,Q3,Qab,Qanu,reduceIte,Ja,forall_eq,RS.op,hx2c];refine⟨.ag [.sl false 3 (Qca (s.fns++[f]))],FrzL.ag (.cons (Qg rfl) .nil),hK _ _ k5 (by omega) (by omega) kn.fin ⟨by simp,?_,?_,hpr,by simp;omega⟩⟩
    ·intro f' hf';rcases Jm.1 hf' with h|h
     ·exact hs.f f' h
     ·simp at h;subst h;exact g5
    ·intro f' hf';rcases Jm.1 hf' with h|h
     ·exact hfok f' h
     ·simp at h;subst h;exact g6
variable {F H:Heap}{w:Nat}{s:LS}{K:V→Heap→Prop}
structure LStep (s s':LS)(d:Nat):Prop where
 bl:s.blocks.length≤s'.blocks.length
 ok:∀N,s.ok N→s'.ok (N+d)
 vl:s.vars.length≤s'.vars.length
 at_:s.at_<s.blocks.length→s'.at_<s'.blocks.length
 fn:s'.fns=s.fns∧s'.pfl=s.pfl
theorem LStep.trans {s s' s'':LS}{d e:Nat}(h:LStep s s' d)(k:LStep s' s'' e):LStep s s'' (d+e):=
 ⟨Jah h.bl k.bl,fun N hN=>by rw[←Nat.add_assoc];exact k.ok _ (h.ok N hN),Jah h.vl k.vl,fun ha=>k.at_ (h.at_ ha),k.fn.1.trans h.fn.1,k.fn.2.trans h.fn.2⟩
theorem LStep.refl (s:LS):LStep s s 0:=⟨Je _,fun N h=>h,Je _,fun h=>h,rfl,rfl⟩
theorem LStep.mono {s s':LS}{d e:Nat}(h:LStep s s' d)(hd:d≤e):LStep s s' e:=⟨h.bl,fun N hN=>(h.ok N hN).mono (by omega),h.vl,h.at_,h.fn⟩
theorem Qpd {N:Nat}(h:LInv F H w s)(hok:s.ok N)(hN:N+1≤2^38)(hK:∀(s':LS) (H':Heap),LInv F H' w s'→LStep s s' 1→K (.c (.int .i64 s.regs)) H') :
  Qs prog Qa5 [.c (.ptr w 0)] H K:=by
 have hw:=h.hw;have h0:=hok.r0;have h1:=hok.r1;refine Qc Qaj Qank ?_;refine Qa ?_;simp only[go_sem];refine Qa ?_;simp only[go_sem,hw,LS.o];refine⟨Qr (by omega) (by omega),fun H1 h1'=>?_⟩;have h':LInv F H1 w { s with regs:=s.regs+1 }:=h.setw h1' rfl rfl rfl rfl h.gv h.rv;have hw1:=h'.hw;refine Qa ?_;simp only[go_sem,hw1,LS.o];refine⟨Qr (by omega) (by omega),?_⟩;refine Qk ?_;simp only[go_sem,Q3,Qab,Qyz,reduceIte,Ja,forall_eq,RS.op];refine hK _ H1 h' ⟨Je _,fun M hM=>⟨?_,?_,hM.n0,?_,?_,?_,?_⟩,Je _,fun h=>h,rfl,rfl⟩
 ·have:=hM.r0;show 0≤s.regs+1;omega
 ·have:=hM.r1;show s.regs+1≤_;omega
 ·have:=hM.n1;show s.next≤_;omega
 ·have:=hM.b1;show s.blocks.length≤_;omega
 ·intro b hb;have:=hM.i1 b hb;omega
 ·have:=hM.v1;show s.vars.length≤_;omega
theorem Qarh {N:Nat}(h:LInv F H w s)(hok:s.ok N)(hN:N+1≤2^38)(hK:∀(s':LS) (H':Heap),LInv F H' w s'→LStep s s' 1→s.blocks.length<s'.blocks.length→s'.at_=s.at_→K (.c (.int .i64 s.blocks.length)) H') :
  Qs prog Qap [.c (.ptr w 0)] H K:=by
 have hw:=h.hw;have hb1:=hok.b1;have hbow:=h.gb.isOw;refine Qc Qaj Qanj ?_;refine Qa ?_;simp only[go_sem];refine Qa ?_;simp only[go_sem,hw,LS.o,hbow];refine h.addBlk (b:=⟨.sl true 4 [],[],[],0,0,true,[]⟩) (by simp only[LIM];omega) rfl rfl rfl fun y H1 hw1 cont=>?_;simp only[go_sem,Qn8,hw1,LS.o];intro H2 h2;have h':=cont H2 h2;have hw2:=h'.hw;obtain⟨y2,hv1,hv2,hv3⟩:=h'.bvec (by simp);simp only[C.vsl.injEq]at hv1;obtain⟨rfl,_⟩:=hv1;refine Qa ?_;simp only[go_sem,hw2,LS.o,hv3,Jf,J3];refine⟨by omega,fun hl=>⟨Qr (by omega) (by omega),?_⟩⟩;refine Qk ?_;simp only[go_sem,Q3,Qab,Qyy,reduceIte,Ja,forall_eq,RS.op];have e1:(((s.blocks.length+1:Nat):Int)-1)=s.blocks.length:=by omega
 rw[e1];refine hK _ H2 h' ⟨by simp,fun M hM=>⟨hM.r0,?_,hM.n0,?_,?_,?_,?_⟩,Je _,fun ha=>by simp;show s.at_<_;omega,rfl,rfl⟩ (by simp) rfl
 ·have:=hM.r1;show s.regs≤_;omega
 ·have:=hM.n1;show s.next≤_;omega
 ·have:=hM.b1;simp;omega
 ·intro b hb;rcases Jm.1 hb with hb|hb
  ·have:=hM.i1 b hb;omega
  ·simp at hb;subst hb;simp
 ·have:=hM.v1;show s.vars.length≤_;omega
theorem Qgt {N:Nat}(h:LInv F H w s)(hok:s.ok N)(hN:N+1≤2^38)(hK:∀(s':LS) (H':Heap),LInv F H' w s'→LStep s s' 1→s.blocks.length<s'.blocks.length→K (.c (.int .i64 s.blocks.length)) H') :
  Qs prog Qap [.c (.ptr w 0)] H K:=Qarh h hok hN fun s' H' a b c _=>hK s' H' a b c
theorem Q1w {N:Nat}{op to n:Int}{fl:Bool}{args:List Int}(h:LInv F H w s)(hat:s.at_<s.blocks.length)(hok:s.ok N)(hN:N+1≤2^38)
  (hK:∀(s':LS) (H':Heap),LInv F H' w s'→LStep s s' 1→K (.c (.int .i64 to)) H') :
  Qs prog Qat [.c (.ptr w 0),.c (.int .i64 op),.c (.int .i64 to),.c (.int .i64 n),.c (.sl fl 1 (Qb args))] H K:=by
 have hw:=h.hw;obtain⟨y,hbc,hlb,hy⟩:=h.bvec (by omega);have hm:=Jb hat;have hi1:=hok.i1 _ hm;have hiow:=(h.gi _ hm).isOw;have hg1:List.getD (List.map Blk.row s.blocks) s.at_ []=s.blocks[s.at_].row:=by simp[Jd,hat]
 have hg2:List.getD (List.take s.blocks.length (List.map Blk.row s.blocks)) s.at_ []=s.blocks[s.at_].row:=by
  rw[Jc (by simp)];exact hg1
 refine Qc Qaj Qa1m ?_;refine Qa ?_;simp only[go_sem];refine Qag ?_;simp only[go_sem,hw,LS.o,hbc,hy,hat,Jg,Jf];refine Qa ?_;simp only[go_sem,hw,LS.o,hbc,hy,hat,hg2,Blk.row,hiow,Jg,Jf];refine h.addIns hat hbc hlb ⟨op,to,n,fl,args,rfl⟩ (by simp only[LIM];omega) fun z H1 hw1 hy1 cont=>?_;simp only[go_sem,Qwh,hy1,hg1,hat,Blk.row,Jg,Jf];intro H2 h2;obtain⟨b',hb',h'⟩:=cont H2 h2;refine Qa ?_;simp only[go_sem];refine Qk ?_;simp only[go_sem,Q3,Qab,Qabc,reduceIte,Ja,forall_eq,RS.op];refine hK _ H2 h' ⟨by simp,fun M hM=>⟨hM.r0,?_,hM.n0,?_,?_,?_,?_⟩,Je _,fun ha=>by simp;show s.at_<_;omega,rfl,rfl⟩
 ·have:=hM.r1;show s.regs≤_;omega
 ·have:=hM.n1;show s.next≤_;omega
 ·have:=hM.b1;simp;omega
 ·intro b hb;rcases Qey hb with rfl|hb
  ·have:=hM.i1 _ hm;omega
  ·have:=hM.i1 b hb;omega
 ·have:=hM.v1;show s.vars.length≤_;omega
theorem Qu5 {N:Nat}{kind on:Int}{at':Nat}{fl:Bool}{next:List Int}(h:LInv F H w s)(hat:s.at_<s.blocks.length)(hat':at'<s.blocks.length)
  (hK:∀(s':LS) (H':Heap),LInv F H' w s'→LStep s s' 0→K (.tup []) H') :
  Qs prog Qa1 [.c (.ptr w 0),.c (.int .i64 kind),.c (.int .i64 on),.c (.sl fl 1 (Qb next)),.c (.int .i64 at')] H K:=by
 have hw:=h.hw;obtain⟨y,hbc,hlb,hy⟩:=h.bvec (by omega);have hm:=Jb hat;have hg1:List.getD (List.map Blk.row s.blocks) s.at_ []=s.blocks[s.at_].row:=by simp[Jd,hat]
 refine Qc Qaj Qasn ?_;refine Qag ?_;simp only[go_sem,hw,LS.o,hbc,hy,hat,Jg,Jf];refine Qa ?_;simp only[go_sem,hy,hg1,hat,Blk.row,Jg,Jf];intro H1 h1;have h1:H1=H.set y (.vec 5 ((s.blocks.set s.at_ { s.blocks[s.at_]with jump:=kind }).map Blk.row)):=by rw[h1,←Qaaj];rfl
 have hv:=h.setBlk hat hbc hlb h1 rfl rfl rfl;obtain⟨b1,hb1,hb1l,hb1i⟩:∃b1:Blk,b1={ s.blocks[s.at_]with jump:=kind }∧b1.irows=s.blocks[s.at_].irows∧b1.ic=s.blocks[s.at_].ic:=⟨_,rfl,rfl,rfl⟩;rw[←hb1]at hv h1;have hy1:H1 y=.vec 5 ((s.blocks.set s.at_ b1).map Blk.row):=by rw[h1];exact Heap.set_same _ _ _
 have hg2:List.getD ((s.blocks.set s.at_ b1).map Blk.row) s.at_ []=b1.row:=by simp[Jd,hat]
 refine Qa ?_;simp only[go_sem,hy1,hg2,hat,Blk.row,Jg,Jf,J0];intro H2 h2;have h2:H2=H1.set y (.vec 5 (((s.blocks.set s.at_ b1).set s.at_ { b1 with on:=on }).map Blk.row)):=by rw[h2];simp only[Ju];rfl
 have hv:=hv.setBlk (i:=s.at_) (b':={ b1 with on:=on }) (by simpa using hat) (by simpa using hbc) (by rfl) h2 (by simp) (by simp) (by simp);simp only[Jar]at hv h2;obtain⟨b2,hb2,hb2i⟩:∃b2:Blk,b2={ b1 with on:=on }∧b2.irows=b1.irows:=⟨_,rfl,rfl⟩;rw[←hb2]at hv h2;have hy2:H2 y=.vec 5 ((s.blocks.set s.at_ b2).map Blk.row):=by rw[h2];exact Heap.set_same _ _ _
 have hg3:List.getD ((s.blocks.set s.at_ b2).map Blk.row) s.at_ []=b2.row:=by simp[Jd,hat]
 refine Qa ?_;simp only[go_sem,hy2,hg3,hat,Blk.row,Jg,Jf,J0];intro H3 h3;have h3:H3=H2.set y (.vec 5 (((s.blocks.set s.at_ b2).set s.at_ { b2 with next:=next,nfl:=fl }).map Blk.row)):=by rw[h3];simp only[Ju];rfl
 have hv:=hv.setBlk (i:=s.at_) (b':={ b2 with next:=next,nfl:=fl }) (by simpa using hat) (by simpa using hbc) (by rfl) h3 (by simp) (by simp) (by simp);simp only[Jar]at hv;have hw3:=hv.hw;refine Qq ?_;simp only[go_sem,hw3,LS.o];intro H4 h4;have h':=hv.setw (s':={ s with lb:=[(y,.vec 5 ((s.blocks.set s.at_ { b2 with next:=next,nfl:=fl }).map Blk.row))],blocks:=s.blocks.set s.at_ { b2 with next:=next,nfl:=fl },at_:=at' }) h4 rfl rfl rfl rfl hv.gv hv.rv;simp only[Q3,Qab,Q3k];refine⟨by simp,hK _ H4 h' ⟨by simp,fun M hM=>⟨hM.r0,hM.r1,hM.n0,hM.n1,?_,?_,hM.v1⟩,Je _,fun ha=>by simpa using hat',rfl,rfl⟩⟩
 ·have:=hM.b1;simpa using this
 ·intro b hb;rcases Qey hb with rfl|hb
  ·show b2.irows.length≤_;rw[hb2i,hb1l];exact hM.i1 _ hm
  ·exact hM.i1 b hb
theorem Qbrr {l:List Fn}{fl:Bool}{name:List UInt8}(hK:∀n:Int,K (.c (.int .i64 n)) H):Qs prog Q1j [.ag [.sl fl 3 (Qca l)],.c (.str name)] H K:=by
 refine Qc Qaj Qbgq ?_;have retf:∀(n:Int) (e:Env),lk 4 e=.c (.int .i64 n)→Q3 Qabd K .ret e H:=by
  intro b e h1;simp only[go_sem,Q3,Qab,Qabd,Ja,forall_eq,RS.op,h1];exact hK _
 refine Qa ?_;simp only[go_sem];refine Qy ?_;refine Qa ?_;simp only[go_sem];refine Qh (Qf (Qw (fun n e1 H1=>∃(i:Nat),n=l.length-i∧i≤l.length∧H1=H∧e1=[(1,.c (.str name)),(2,.c (.pp [.sl fl 3 (Qca l)])),(5,.c (.int .i64 i))]) l.length ?_ ?_))
 ·exact⟨0,by omega,by omega,rfl,rfl⟩
 ·rintro n e1 H1 ⟨i,hn1,hi,rfl,rfl⟩;refine Qy ?_;refine Qa ?_;simp only[go_sem,Qbk];intro hl;simp only[LIM]at hl;refine Qh (Qe rfl ?_ ?_)
  ·intro hc;have hlt:i<l.length:=by simpa using hc
   refine Qi ?_;simp only[go_sem];refine Qh (Qf ?_);refine Qa ?_;simp only[go_sem,hlt,Qbk,Qg7 _ _ hlt,Fn.cells];refine Qe rfl ?_ ?_
   ·intro hc2;refine Qa ?_;simp only[go_sem];refine Qk ?_;simp only[go_sem,X.next];exact retf _ _ (by simp[lk];rfl)
   ·intro hc2;refine Qi ?_;simp only[go_sem];refine Qq ?_;simp only[go_sem,X.next];exact⟨Qr (by omega) (by omega),l.length-(i+1),by omega,i+1,rfl,by omega,rfl⟩
  ·intro hc;refine Qv ?_;simp only[go_sem,X.next];refine Qa ?_;simp only[go_sem];refine Qk ?_;exact retf _ _ (by simp[lk];rfl)
theorem Qbso {name:List UInt8}(h:LInv F H w s)(hK:∀n:Int,K (.c (.int .i64 n)) H):Qs prog Qim [.c (.ptr w 0),.c (.str name)] H K:=by
 have hw:=h.hw;obtain⟨hv1,hv2⟩:=h.vget;have hvl:=h.gv.lenC;have hve:=h.gv.elemSz;have hvo:=h.gv.isOw;refine Qc Qaj Qa1n ?_;have retf:∀(n:Int) (e:Env),lk 4 e=.c (.int .i64 n)→Q3 Qwv K .ret e H:=by
  intro b e h1;simp only[go_sem,Q3,Qab,Qwv,Ja,forall_eq,RS.op,h1];exact hK _
 refine Qa ?_;simp only[go_sem];refine Qy ?_;refine Qa ?_;simp only[go_sem,hw,LS.o,hv1,hvl,hvo];intro hl;simp only[LIM]at hl;refine⟨Qr (by omega) (by omega),?_⟩;refine Qh (Qf (Qw (fun n e1 H1=>∃(j:Nat),n=j∧j≤s.vars.length∧H1=H∧e1=[(0,.c (.ptr w 0)),(1,.c (.str name)),(5,.c (.int .i64 ((j:Int)-1)))]) s.vars.length ?_ ?_))
 ·exact⟨s.vars.length,rfl,by omega,rfl,rfl⟩
 ·rintro n e1 H1 ⟨j,hnj,hj,rfl,rfl⟩;refine Qy ?_;refine Qa ?_;simp only[go_sem];refine Qh (Qe rfl ?_ ?_)
  ·intro hc;have hj1:1≤j:=by simp at hc;omega
   obtain⟨i,rfl⟩:∃i,j=i+1:=⟨j-1,by omega⟩;have e1:(((i+1:Nat):Int)-1)=(i:Int):=by omega
   have hlt:i<s.vars.length:=by omega
   obtain⟨nm,a,b,hr⟩:=h.rv _ (Jb hlt);have hr':List.getD s.vars i []=[.str nm,.int .i64 a,.int .i64 b]:=by rw[←hr];simp[Jd,hlt]
   rw[e1]at hc⊢;refine Qi ?_;simp only[go_sem];refine Qh (Qf ?_);refine Qa ?_;simp only[go_sem,hw,LS.o,hv1,hv2,hvl,hvo,hve,hlt,hr'];refine Qe rfl ?_ ?_
   ·intro hc2;refine Qa ?_;simp only[go_sem,hw,LS.o,hv1,hv2,hvl,hvo,hve,hlt,hr'];refine Qk ?_;simp only[go_sem,X.next];exact retf _ _ (by simp[lk];rfl)
   ·intro hc2;refine Qi ?_;simp only[go_sem];refine Qq ?_;simp only[go_sem,X.next];exact⟨Qr (by omega) (by omega),i,by omega,i,rfl,by omega,rfl⟩
  ·intro hc;refine Qv ?_;simp only[go_sem,X.next];refine Qa ?_;simp only[go_sem];refine Qk ?_;exact retf _ _ (by simp[lk];rfl)
def Qbjv (n:Nat):Prop:=∀(x:Ex) (F H:Heap) (w:Nat) (s:LS) (N:Nat) (K:V→Heap→Prop),x.size≤n→x.ok→LInv F H w s→s.at_<s.blocks.length→s.ok N→N+10 * x.size≤2^38→
  (∀(v:Int) (s':LS) (H':Heap),LInv F H' w s'→LStep s s' (10 * x.size)→K (.c (.int .i64 v)) H')→Qs prog Qb9 [.c (.ptr w 0),.ag x.cells] H K
def AndL (n:Nat):Prop:=∀(x:Ex) (F H:Heap) (w:Nat) (s:LS) (N:Nat) (K:V→Heap→Prop),x.size≤n→x.ok→x.op=10→LInv F H w s→s.at_<s.blocks.length→s.ok N→N+10 * x.size≤2^38→
  (∀(v:Int) (s':LS) (H':Heap),LInv F H' w s'→LStep s s' (10 * x.size)→K (.c (.int .i64 v)) H')→Qs prog Qpc [.c (.ptr w 0),.ag x.cells] H K
theorem Qbru {n:Nat}(hE:∀m,m<n→Qbjv m):AndL n:=by
 intro x F H w s N K hn hok hop h hat hsok hN hK;have hsz:=x.size_kids;have hk2:=Ex.ok_and hok hop;have hkok:=Ex.ok_kids hok;obtain⟨a,b,hab⟩:∃a b,x.kids=[a,b]:=by
  match hx:x.kids,hk2 with
  |[a,b],_=>exact⟨a,b,rfl⟩
 rw[hab]at hsz hkok;simp only[Qai,Qd3]at hsz hkok;refine Qc Qaj Qa1l ?_;refine Qa ?_;simp only[go_sem,x.cells_eq];refine Qa ?_;simp only[go_sem,hab,Qbv,Ex.take4,Ex.allOw,Ex.cells_len,Jz];refine⟨by omega,?_⟩;refine hE a.size (by omega) a F H w s N _ (Je _) hkok.1 h hat hsok (by omega) fun va s1 H1 h1 st1=>?_;simp only[go_sem,Qv9];refine Qa ?_;simp only[go_sem];refine Qpd h1 (st1.ok _ hsok) (by omega) fun s2 H2 h2 st2=>?_;have st2:=st1.trans st2;simp only[go_sem,Qwb];refine Q1w (args:=[]) h2 (st2.at_ hat) (st2.ok _ hsok) (by omega) fun s3 H3 h3 st3=>?_;have st3:=st2.trans st3;simp only[go_sem,Qwa];refine Qa ?_;simp only[go_sem];refine Qgt h3 (st3.ok _ hsok) (by omega) fun s4 H4 h4 st4 hb4=>?_;have st4':=st4;have st4:=st3.trans st4;simp only[go_sem,Qwc];refine Qa ?_;simp only[go_sem];refine Qgt h4 (st4.ok _ hsok) (by omega) fun s5 H5 h5 st5 hb5=>?_;have st5:=st4.trans st5;simp only[go_sem,Qwd];refine Qa ?_;simp only[go_sem];refine Qu5 (next:=[(s3.blocks.length:Int),(s4.blocks.length:Int)]) (N:=0) h5 (st5.at_ hat) (by omega) fun s6 H6 h6 st6=>?_;have hb6:=st6.bl;have st6:=st5.trans st6;refine Qa ?_;simp only[go_sem,hab,Qbv,Ex.take4,Ex.allOw,Ex.cells_len,Jz,Jac];refine⟨by omega,?_⟩;refine hE b.size (by omega) b F H6 w s6 _ _ (Je _) hkok.2.1 h6 (st6.at_ hat) (st6.ok _ hsok) (by omega) fun vb s7 H7 h7 st7=>?_;have hb7:=st7.bl;have st7:=st6.trans st7;simp only[go_sem,Qwe];refine Qa ?_;simp only[go_sem];refine Qpd h7 (st7.ok _ hsok) (by omega) fun s8 H8 h8 st8=>?_;have hb8:=st8.bl;have st8:=st7.trans st8;simp only[go_sem,Qwg];refine Q1w (args:=[vb]) h8 (st8.at_ hat) (st8.ok _ hsok) (by omega) fun s9 H9 h9 st9=>?_;have hb9:=st9.bl;have st9:=st8.trans st9;simp only[go_sem,Qwf];refine Qa ?_;simp only[go_sem];refine Q1w (args:=[s7.regs]) h9 (st9.at_ hat) (st9.ok _ hsok) (by omega) fun s10 H10 h10 st10=>?_;have hb10:=st10.bl;have st10:=st9.trans st10;refine Qa ?_;simp only[go_sem];refine Qu5 (next:=[(s4.blocks.length:Int)]) (N:=0) h10 (st10.at_ hat) (by omega) fun s11 H11 h11 st11=>?_;have st11:=st10.trans st11;refine Qa ?_;simp only[go_sem];refine Qk ?_;simp only[go_sem,Q3,Qab,Qabb,reduceIte,Ja,forall_eq,RS.op];exact hK _ s11 H11 h11 (st11.mono (by omega))
set_option maxHeartbeats 2000000 in
theorem Qbpl {n:Nat}(hA:AndL n)(hE:∀m,m<n→Qbjv m):Qbjv n:=by
 intro x F H w s N K hn hok h hat hsok hN hK;have hsz:=x.size_kids;have hkok:=Ex.ok_kids hok;refine Qc Qaj Qasm ?_;have retf:∀(v:Int) (e:Env) (s':LS) (H':Heap),LInv F H' w s'→LStep s s' (10 * x.size)→lk 4 e=.c (.int .i64 v)→Q3 Qpt K .ret e H':=by
  intro v e s' H' a1 a2 h1;simp only[go_sem,Q3,Qab,Qpt,Ja,forall_eq,RS.op,h1];exact hK _ _ _ a1 a2
 refine Qa ?_;simp only[go_sem,x.cells_eq];refine Qy ?_;refine Qa ?_;simp only[go_sem];refine Qh (Qf ?_);refine Qa ?_;simp only[go_sem];refine Qe rfl ?_ ?_
 ·intro hc;refine Qag ?_;simp only[go_sem];refine Qpd h hsok (by omega) fun s1 H1 h1 st1=>?_;simp only[go_sem,Qsz];refine Q1w (args:=[]) h1 (st1.at_ hat) (st1.ok _ hsok) (by omega) fun s2 H2 h2 st2=>?_;simp only[go_sem,Qsy];refine Qk ?_;simp only[go_sem];exact retf _ _ s2 H2 h2 ((st1.trans st2).mono (by omega)) (by simp[lk];rfl)
 intro hc1;refine Qa ?_;simp only[go_sem];refine Qe rfl ?_ ?_
 ·intro hc;refine Qa ?_;simp only[go_sem];refine Qbso h fun v=>?_;simp only[go_sem,Qs0];refine Qk ?_;simp only[go_sem];exact retf _ _ s H h ((LStep.refl s).mono (by omega)) (by simp[lk];rfl)
 intro hc2;refine Qa ?_;simp only[go_sem];refine Qe rfl ?_ ?_
 ·intro hc;have hop:x.op=10:=by simpa using hc
  refine Qa ?_;simp only[go_sem];rw[←x.cells_eq];refine hA x F H w s N _ hn hok hop h hat hsok hN fun v s1 H1 h1 st1=>?_;simp only[go_sem,Qs1];refine Qk ?_;simp only[go_sem];exact retf _ _ s1 H1 h1 st1 (by simp[lk];rfl)
 intro hc3;refine Qi ?_;simp only[go_sem];refine Qa ?_;simp only[go_sem];refine Qy ?_;refine Qa ?_;simp only[go_sem];refine Qh (Qf (Qw (fun n e1 H1=>∃(i:Nat) (ars:List Int) (c:C) (Lg:List (Nat×Obj)) (s':LS),n=x.kids.length-i∧i≤x.kids.length∧ars.length=i∧Gr Lg 1 (Qb ars) c∧LInv F H1 w s'∧Kn F H1 [] (s'.L w++Lg)∧
  LStep s s' (10 * Qai (x.kids.take i))∧e1=[(0,.c (.ptr w 0)),(3,.c (.pp [.int .i64 x.op,.int .i64 x.n,.str x.name,.sl false 4 (Qbv x.kids)])),(5,.c c),(6,.c (.int .i64 i))]) x.kids.length ?_ ?_))
 ·exact⟨0,[],_,[],s,by omega,by omega,rfl,.nil 1,h,by simpa using h.kn,(LStep.refl s).mono (by omega),rfl⟩
 ·rintro n e1 H1 ⟨i,ars,c,Lg,s1,hn1,hi,hasl,hgr,h1,kn,st1,rfl⟩;refine Qy ?_;refine Qa ?_;simp only[go_sem,Qa6];intro hl;simp only[LIM]at hl;refine Qh (Qe rfl ?_ ?_)
  ·intro hc;have hlt:i<x.kids.length:=by simpa using hc
   have hm:=Qes (Jb hlt);have htk:=Qo1 hlt;have htl:=Qhc x.kids (i+1);refine Qi ?_;simp only[go_sem];refine Qh (Qf (Qq ?_));simp only[go_sem,hlt,Qa6,Qer _ _ hlt,Ex.take4,Ex.allOw,Ex.cells_len];obtain⟨F',hf,back⟩:=h1.beside kn hgr;refine hE x.kids[i].size (by omega) _ F' H1 w s1 _ _ (Je _) (Q9u hkok _ (Jb hlt)) hf (st1.at_ hat) (st1.ok _ hsok) (by omega) fun v s2 H2 h2 st2=>?_;obtain⟨h2,kn⟩:=back s2 H2 h2;simp only[go_sem,Qs3];refine kn.grow (new:=Qb [v]) hgr (.mk' _ _ _ _) (Qp _) (by simp only[Qd,hasl,Ji,Jn,LIM];omega) fun y' H3 kn=>?_;simp only[go_sem,Qs2];refine Qq ?_;simp only[go_sem,X.next];refine⟨Qr (by omega) (by omega),x.kids.length-(i+1),by omega,i+1,ars++[v],_,_,s2,rfl,by omega,by simp[hasl],.mk y' 1 (Qb (ars++[v])) (n:=(Qb ars).length+(Qb [v]).length) (by simp[Qb]),h2.re kn.drop,by rw[Qbg];exact kn,(st1.trans st2).mono (by rw[htk];omega),by simp[Qb]⟩
  ·intro hc;have hge:x.kids.length≤i:=by simpa using hc
   rw[Jc hge]at st1;refine Qv ?_;simp only[go_sem,X.next];refine Qy ?_;refine Qy ?_;obtain⟨S,H2,f1,f2,kn2⟩:=hgr.freeze kn (Qp _);have h2:=h1.re kn2;refine c_gh (Qdt S (fun t=>?_) f2) (e':=[(0,.c (.ptr w 0)),(3,.c (.pp [.int .i64 x.op,.int .i64 x.n,.str x.name,.sl false 4 (Qbv x.kids)])),(5,.c (.sl false 1 (Qb ars)))]) ?_
   ·simp only[lk];split
    ·exact .c _ _ (.same _ rfl)
    ·split
     ·exact .c _ _ (.same _ rfl)
     ·split
      ·exact .c _ _ f1
      ·exact .unk _
   refine Qa ?_;simp only[go_sem];refine Qh (Qf ?_);refine Qa ?_;simp only[go_sem];refine Qe rfl ?_ ?_
   ·intro hc;refine Qa ?_;simp only[go_sem];refine Qpd h2 (st1.ok _ hsok) (by omega) fun s3 H3 h3 st3=>?_;have st3:=st1.trans st3;simp only[go_sem,Qoa];refine Q1w h3 (st3.at_ hat) (st3.ok _ hsok) (by omega) fun s4 H4 h4 st4=>?_;simp only[go_sem,Qn9];refine Qk ?_;simp only[go_sem];exact retf _ _ s4 H4 h4 ((st3.trans st4).mono (by omega)) (by simp[lk];rfl)
   intro hc4;refine Qa ?_;simp only[go_sem];refine Qe rfl ?_ ?_
   ·intro hc;refine Qa ?_;simp only[go_sem];refine Qpd h2 (st1.ok _ hsok) (by omega) fun s3 H3 h3 st3=>?_;have st3:=st1.trans st3;simp only[go_sem,Qoc];refine Q1w h3 (st3.at_ hat) (st3.ok _ hsok) (by omega) fun s4 H4 h4 st4=>?_;simp only[go_sem,Qob];refine Qk ?_;simp only[go_sem];exact retf _ _ s4 H4 h4 ((st3.trans st4).mono (by omega)) (by simp[lk];rfl)
   intro hc5;refine Qa ?_;simp only[go_sem];refine Qe rfl ?_ ?_
   ·intro hc;have hw2:=h2.hw;refine Qag ?_;simp only[go_sem,hw2,LS.o];refine Qpd h2 (st1.ok _ hsok) (by omega) fun s3 H3 h3 st3=>?_;have hw3:=h3.hw;have hfn:=st3.fn;have st3:=st1.trans st3;simp only[go_sem,Qof,hw3,LS.o,hfn.1,hfn.2];refine Qbrr fun q=>?_;simp only[go_sem,Qoe];refine Q1w h3 (st3.at_ hat) (st3.ok _ hsok) (by omega) fun s4 H4 h4 st4=>?_;simp only[go_sem,Qod];refine Qk ?_;simp only[go_sem];exact retf _ _ s4 H4 h4 ((st3.trans st4).mono (by omega)) (by simp[lk];rfl)
   intro hc6;refine Qi ?_;simp only[go_sem];refine Qag ?_;simp only[go_sem];refine Qpd h2 (st1.ok _ hsok) (by omega) fun s3 H3 h3 st3=>?_;have st3:=st1.trans st3;simp only[go_sem,Qoh];refine Q1w h3 (st3.at_ hat) (st3.ok _ hsok) (by omega) fun s4 H4 h4 st4=>?_;simp only[go_sem,Qog];refine Qk ?_;exact retf _ _ s4 H4 h4 ((st3.trans st4).mono (by omega)) (by simp[lk];rfl)
theorem Qbr5 (n:Nat):Qbjv n:=by
 induction n using Nat.strongRecOn with
 |ind n ih=>exact Qbpl (Qbru ih) ih
theorem Qble:∀(n:Nat) (l:List St) {fl:Bool} {H:Heap} {K:V→Heap→Prop},Q5 l≤n→Q5 l≤2^40→(∀v:Nat,v≤Q5 l→K (.c (.int .i64 v)) H)→Qs prog Qpb [.c (.sl fl 5 (Qa4 l))] H K:=by
 intro n
 induction n using Nat.strongRecOn with
 |ind n ih=>
 intro l fl H K hn hb hK;have hlen:=Qag0 l;refine Qc Qaj Qbly ?_;refine Qa ?_;simp only[go_sem];refine Qa ?_;simp only[go_sem];refine Qy ?_;refine Qa ?_;simp only[go_sem];refine Qh (Qf (Qw (fun n e1 H1=>∃(i v:Nat),n=l.length-i∧i≤l.length∧v≤Q5 (l.take i)∧H1=H∧e1=[(0,.c (.sl fl 5 (Qa4 l))),(3,.c (.int .i64 v)),(4,.c (.int .i64 i))]) l.length ?_ ?_))
 ·exact⟨0,0,by omega,by omega,by omega,rfl,rfl⟩
 ·rintro n e1 H1 ⟨i,v,hn1,hi,hv,rfl,rfl⟩;refine Qy ?_;refine Qa ?_;simp only[go_sem,Qbb];intro hl;simp only[LIM]at hl;refine Qh (Qe rfl ?_ ?_)
  ·intro hc;have hlt:i<l.length:=by simpa using hc
   have hm:=Qmx (Jb hlt);have htk:=Qtf hlt;have htl:=Qie l (i+1);have hse:=(l[i]'hlt).size_eq;refine Qi ?_;simp only[go_sem];refine Qh (Qf (Qa2 ?_));simp only[go_sem,hlt,Qbb,Qe7 _ _ hlt,St.cells_eq];refine Qbfu ?_;obtain⟨t,ht,ht1⟩:∃t:Nat,(if decide (l[i].op=1)=true then (1:Int)else 0)=t∧t≤1:=by
    by_cases h:l[i].op=1
    ·exact⟨1,by simp[h],Je _⟩
    ·exact⟨0,by simp[h],by omega⟩
   simp only[go_sem,Qafk,hlt,Qbb,Qe7 _ _ hlt,St.cells_eq,ht];refine⟨Qr (by omega) (by omega),?_⟩;refine ih (Q5 l[i].body) (by omega) l[i].body (Je _) (by omega) fun a ha=>?_;simp only[go_sem,Qafj,hlt,Qbb,Qe7 _ _ hlt,St.cells_eq];refine⟨Qr (by omega) (by omega),?_⟩;refine ih (Q5 l[i].els) (by omega) l[i].els (Je _) (by omega) fun c hc=>?_;simp only[go_sem,Qafi];refine⟨Qr (by omega) (by omega),?_⟩;refine Qq ?_;simp only[go_sem,X.next];refine⟨Qr (by omega) (by omega),l.length-(i+1),by omega,i+1,v+t+a+c,rfl,by omega,by omega,rfl⟩
  ·intro hc;have hge:l.length≤i:=by simpa using hc
   refine Qv ?_;simp only[go_sem,X.next];refine Qa ?_;simp only[go_sem];refine Qk ?_;simp only[go_sem,Q3,Qab,Qa9a,reduceIte,Ja,forall_eq,RS.op];rw[Jc hge]at hv;exact hK v (by omega)
def Qbrs (n:Nat):Prop:=∀(x:St) (F H:Heap) (w:Nat) (s:LS) (N:Nat) (K:V→Heap→Prop),x.size≤n→x.ok→LInv F H w s→s.at_<s.blocks.length→s.ok N→N+10 * x.size≤2^38→
  (∀(s':LS) (H':Heap),LInv F H' w s'→LStep s s' (10 * x.size)→K (.tup []) H')→Qs prog Ql2 [.c (.ptr w 0),.ag x.cells] H K
def Qbte (n:Nat):Prop:=∀(x:St) (F H:Heap) (w:Nat) (s:LS) (N:Nat) (K:V→Heap→Prop),x.size≤n→x.ok→LInv F H w s→s.at_<s.blocks.length→s.ok N→N+10 * x.size≤2^38→
  (∀(s':LS) (H':Heap),LInv F H' w s'→LStep s s' (10 * x.size)→K (.tup []) H')→Qs prog Ql1 [.c (.ptr w 0),.ag x.cells] H K
def Qa8b (n:Nat):Prop:=∀(l:List St) (fl:Bool) (F H:Heap) (w:Nat) (s:LS) (N:Nat) (K:V→Heap→Prop),Q5 l≤n→Qc0 l→LInv F H w s→s.at_<s.blocks.length→s.ok N→N+10 * Q5 l≤2^38→
  (∀(s':LS) (H':Heap),LInv F H' w s'→LStep s s' (10 * Q5 l)→K (.tup []) H')→Qs prog Qcj [.c (.ptr w 0),.c (.sl fl 5 (Qa4 l))] H K
theorem Qbje {n:Nat}(hS:Qbrs n):Qa8b n:=by
 intro l fl F H w s N K hn hok h hat hsok hN hK;have hw:=h.hw;obtain⟨hv1,hv2⟩:=h.vget;have hvl:=h.gv.lenC;have hvo:=h.gv.isOw;refine Qc Qaj Qanl ?_;refine Qa ?_;simp only[go_sem,hw,LS.o,hv1,hvl,hvo];intro hvlim;refine Qy ?_;refine Qa ?_;simp only[go_sem];refine Qh (Qf (Qw (fun n e1 H1=>∃(i:Nat) (s':LS),n=l.length-i∧i≤l.length∧LInv F H1 w s'∧LStep s s' (10 * Q5 (l.take i))∧e1=[(0,.c (.ptr w 0)),(1,.c (.sl fl 5 (Qa4 l))),(4,.c (.int .i64 s.vars.length)),(5,.c (.int .i64 i))]) l.length ?_ ?_))
 ·exact⟨0,s,by omega,by omega,h,(LStep.refl s).mono (by omega),rfl⟩
 ·rintro n e1 H1 ⟨i,s1,hn1,hi,h1,st1,rfl⟩;refine Qy ?_;refine Qa ?_;simp only[go_sem,Qbb];intro hl;simp only[LIM]at hl;refine Qh (Qe rfl ?_ ?_)
  ·intro hc;have hlt:i<l.length:=by simpa using hc
   have hm:=Qmx (Jb hlt);have htk:=Qtf hlt;have htl:=Qie l (i+1);refine Qi ?_;simp only[go_sem];refine Qh (Qf (Qq ?_));simp only[go_sem,hlt,Qbb,Qe7 _ _ hlt,St.take5,St.allOw,St.cells_len];refine hS l[i] F H1 w s1 _ _ (by omega) (Qbjj hok _ (Jb hlt)) h1 (st1.at_ hat) (st1.ok _ hsok) (by omega) fun s2 H2 h2 st2=>?_;refine Qq ?_;simp only[go_sem,X.next];exact⟨Qr (by omega) (by omega),l.length-(i+1),by omega,i+1,s2,rfl,by omega,h2,(st1.trans st2).mono (by rw[htk];omega),rfl⟩
  ·intro hc;have hge:l.length≤i:=by simpa using hc
   rw[Jc hge]at st1;have hw1:=h1.hw;obtain⟨hv1',hv2'⟩:=h1.vget;have hvl':=h1.gv.lenC;have hvo':=h1.gv.isOw;have hve':=h1.gv.elemSz;have hvle:=st1.vl;have hrv:∀r∈s1.vars.take s.vars.length,VarRow r:=fun r hr=>h1.rv r (List.mem_of_mem_take hr);have fin:∀(H2:Heap) (c:C),H2=H1.set w (LS.o { s1 with vc:=c })→VGr s1.lv (s1.vars.take s.vars.length) c→Q3 Ql9 K .nrm [] H2:=by
    intro H2 c h2 hg;simp only[Q3,Qab,Ql9];refine⟨by simp,hK { s1 with vc:=c,vars:=s1.vars.take s.vars.length } H2 (h1.setw h2 rfl rfl rfl rfl hg hrv) ⟨st1.bl,fun M hM=>?_,by simp;omega,st1.at_,st1.fn⟩⟩;have:=st1.ok M hM;exact⟨this.r0,this.r1,this.n0,this.n1,this.b1,this.i1,by have:=this.v1;simp;omega⟩
   refine Qv ?_;simp only[go_sem,X.next];refine Qq ?_;rcases h1.gv with ⟨g1,g2,g3⟩|⟨y,all,k,g1,g2,g3,g4⟩
   ·have hz:s.vars.length=0:=(by rw[g2]at hvle;simpa using hvle);simp only[go_sem,hw1,LS.o,g1,hz,Jap,List.drop_nil];refine⟨⟨by omega,by omega⟩,fun H2 h2=>?_⟩;refine fin H2 (.sl true 3 []) h2 (.inl ⟨rfl,by rw[g2];simp,g3⟩)
   ·rw[g1]at hv1' hvl';have hk:k=s1.vars.length:=(by simpa[lenC]using hvl');simp only[go_sem]at hv1';simp only[go_sem,hw1,LS.o,g1,hv1'];refine⟨⟨by omega,by omega⟩,fun H2 h2=>?_⟩;refine fin H2 (.vsl y 3 0 (s.vars.length-0)) h2 (.inr ⟨y,all,s.vars.length-0,rfl,by omega,?_,g4⟩);rw[g3,List.take_take];congr 1;omega
set_option maxHeartbeats 1000000 in
theorem Qblh {n:Nat}(hS:∀m,m<n→Qa8b m):Qbte n:=by
 intro x F H w s N K hn hok h hat hsok hN hK;have hsz:=x.size_eq;rw[St.ok_eq]at hok;obtain⟨hap,hao,hbo,heo⟩:=hok;have ham:=Qes (Jb hap);refine Qc Qaj Qaso ?_;refine Qa ?_;simp only[go_sem,x.cells_eq];refine Qa ?_;simp only[go_sem];refine Qgt h hsok (by omega) fun s1 H1 h1 st1 hb1=>?_;simp only[go_sem,Qs4];refine Qa ?_;simp only[go_sem];refine Qgt h1 (st1.ok _ hsok) (by omega) fun s2 H2 h2 st2 hb2=>?_;have st2:=st1.trans st2;simp only[go_sem,Qs5];refine Qa ?_;simp only[go_sem];refine Qgt h2 (st2.ok _ hsok) (by omega) fun s3 H3 h3 st3 hb3=>?_;have st3:=st2.trans st3;simp only[go_sem,Qs6];refine Qa ?_;simp only[go_sem];refine Qu5 (next:=[(s.blocks.length:Int)]) (N:=0) h3 (st3.at_ hat) (by omega) fun s4 H4 h4 st4=>?_;have hb4:=st4.bl;have st4:=st3.trans st4;refine Qa ?_;simp only[go_sem,hap,Qa6,Qer _ _ hap,Ex.take4,Ex.allOw,Ex.cells_len];refine⟨by omega,?_⟩;refine Qbr5 _ x.args[0] F H4 w s4 _ _ (Je _) (Q9u hao _ (Jb hap)) h4 (st4.at_ hat) (st4.ok _ hsok) (by omega) fun v s5 H5 h5 st5=>?_;have hb5:=st5.bl;have st5:=st4.trans st5;simp only[go_sem,Qs7];refine Qa ?_;simp only[go_sem];refine Qu5 (next:=[(s1.blocks.length:Int),(s2.blocks.length:Int)]) (N:=0) h5 (st5.at_ hat) (by omega) fun s6 H6 h6 st6=>?_;have hb6:=st6.bl;have st6:=st5.trans st6;refine Qa ?_;simp only[go_sem];refine hS (Q5 x.body) (by omega) x.body _ F H6 w s6 _ _ (Je _) hbo h6 (st6.at_ hat) (st6.ok _ hsok) (by omega) fun s7 H7 h7 st7=>?_;have hb7:=st7.bl;have st7:=st6.trans st7;refine Qq ?_;simp only[go_sem];refine Qu5 (next:=[(s.blocks.length:Int)]) (N:=0) h7 (st7.at_ hat) (by omega) fun s8 H8 h8 st8=>?_;have st8:=st7.trans st8;simp only[Q3,Qab,Q3l];exact⟨by simp,hK s8 H8 h8 (st8.mono (by omega))⟩
set_option maxHeartbeats 2000000 in
theorem Qbnr {n:Nat}(hS:∀m,m<n→Qa8b m):Qbrs n:=by
 intro x F H w s N K hn hok h hat hsok hN hK;have hok':=hok;have hsz:=x.size_eq;rw[St.ok_eq]at hok;obtain⟨hap,hao,hbo,heo⟩:=hok;refine Qc Qaj Qasp ?_;have retn:∀(e:Env) (s':LS) (H':Heap) (q:X),(q=.nrm∨q=.ret)→LInv F H' w s'→LStep s s' (10 * x.size)→Q3 Qpu K q e H':=by
  intro e s' H' q hq a1 a2;rcases hq with rfl|rfl <;> exact⟨by simp[Qpu],hK s' H' a1 a2⟩
 refine Qa ?_;simp only[go_sem,x.cells_eq];refine Qy ?_;refine Qa ?_;simp only[go_sem];refine Qh (Qe rfl ?_ ?_)
 ·intro hc;refine Qa ?_;simp only[go_sem];rw[←x.cells_eq];refine Qblh hS x F H w s N _ hn hok' h hat hsok hN fun s1 H1 h1 st1=>?_;simp only[Qa0c];refine Qk ?_;simp only[go_sem];exact retn _ s1 H1 _ (.inr rfl) h1 st1
 intro hc0;refine Qi ?_;simp only[go_sem];refine Qa ?_;simp only[go_sem];refine Qy ?_;refine Qa ?_;simp only[go_sem];refine Qh (Qf (Qw (fun n e1 H1=>∃(i:Nat) (ars:List Int) (c:C) (Lg:List (Nat×Obj)) (s':LS),n=x.args.length-i∧i≤x.args.length∧ars.length=i∧Gr Lg 1 (Qb ars) c∧LInv F H1 w s'∧Kn F H1 [] (s'.L w++Lg)∧
  LStep s s' (10 * Qai (x.args.take i))∧e1=[(0,.c (.ptr w 0)),(3,.c (.pp [.int .i64 x.op,.str x.name,.sl false 4 (Qbv x.args),.sl false 5 (Qa4 x.body),.sl false 5 (Qa4 x.els)])),(4,.c c),(5,.c (.int .i64 i))]) x.args.length ?_ ?_))
 ·exact⟨0,[],_,[],s,by omega,by omega,rfl,.nil 1,h,by simpa using h.kn,(LStep.refl s).mono (by omega),rfl⟩
 ·rintro n e1 H1 ⟨i,ars,c,Lg,s1,hn1,hi,harl,hgr,h1,kn,st1,rfl⟩;refine Qy ?_;refine Qa ?_;simp only[go_sem,Qa6];intro hl;simp only[LIM]at hl;refine Qh (Qe rfl ?_ ?_)
  ·intro hc;have hlt:i<x.args.length:=by simpa using hc
   have hm:=Qes (Jb hlt);have htk:=Qo1 hlt;have htl:=Qhc x.args (i+1);refine Qi ?_;simp only[go_sem];refine Qh (Qf (Qq ?_));simp only[go_sem,hlt,Qa6,Qer _ _ hlt,Ex.take4,Ex.allOw,Ex.cells_len];obtain⟨F',hf,back⟩:=h1.beside kn hgr;refine Qbr5 _ _ F' H1 w s1 _ _ (Je _) (Q9u hao _ (Jb hlt)) hf (st1.at_ hat) (st1.ok _ hsok) (by omega) fun v s2 H2 h2 st2=>?_;obtain⟨h2,kn⟩:=back s2 H2 h2;simp only[go_sem,Qs9];refine kn.grow (new:=Qb [v]) hgr (.mk' _ _ _ _) (Qp _) (by simp only[Qd,harl,Ji,Jn,LIM];omega) fun y' H3 kn=>?_;simp only[go_sem,Qs8];refine Qq ?_;simp only[go_sem,X.next];refine⟨Qr (by omega) (by omega),x.args.length-(i+1),by omega,i+1,ars++[v],_,_,s2,rfl,by omega,by simp[harl],.mk y' 1 (Qb (ars++[v])) (n:=(Qb ars).length+(Qb [v]).length) (by simp[Qb]),h2.re kn.drop,by rw[Qbg];exact kn,(st1.trans st2).mono (by rw[htk];omega),by simp[Qb]⟩
  ·intro hc;have hge:x.args.length≤i:=by simpa using hc
   have hil:i=x.args.length:=by omega
   rw[Jc hge]at st1;have har0:0<ars.length:=by omega
   refine Qv ?_;simp only[go_sem,X.next];refine Qy ?_;obtain⟨S,H2,f1,f2,kn2⟩:=hgr.freeze kn (Qp _);have h2:=h1.re kn2;refine c_gh (Qdt S (fun t=>?_) f2) (e':=[(0,.c (.ptr w 0)),(3,.c (.pp [.int .i64 x.op,.str x.name,.sl false 4 (Qbv x.args),.sl false 5 (Qa4 x.body),.sl false 5 (Qa4 x.els)])),(4,.c (.sl false 1 (Qb ars)))]) ?_
   ·simp only[lk];split
    ·exact .c _ _ (.same _ rfl)
    ·split
     ·exact .c _ _ (.same _ rfl)
     ·split
      ·exact .c _ _ f1
      ·exact .unk _
   have hsok1:=st1.ok _ hsok;have hat1:=st1.at_ hat;have hw2:=h2.hw;refine Qa ?_;simp only[go_sem];refine Qf ?_;refine Qa ?_;simp only[go_sem];refine Qe rfl ?_ ?_
   ·
    intro hc;refine Qa ?_;simp only[go_sem,hw2,LS.o];refine Q1w h2 hat1 hsok1 (by omega) fun s3 H3 h3 st3=>?_;have hw3:=h3.hw;have hvo:=h3.gv.isOw;have hsok3:=st3.ok _ hsok1;have st3:=st1.trans st3;simp only[go_sem];refine Qag ?_;simp only[go_sem,hw3,LS.o,hvo];refine h3.addVar ⟨x.name,s3.next,0,rfl⟩ (by have:=hsok3.v1;simp only[LIM];omega) fun y H4 hw4 cont=>?_;simp only[go_sem,Qta,hw4,LS.o];intro H5 h5;have h5':=cont H5 h5;have hw5:=h5'.hw;refine Qq ?_;have hn0:=hsok3.n0;have hn1:=hsok3.n1;simp only[go_sem,hw5,LS.o];refine⟨Qr (by omega) (by omega),fun H6 h6=>?_⟩;have h6':=h5'.setw (s':={ s3 with vc:=.vsl y 3 0 (s3.vars.length+1),lv:=[(y,.vec 3 (s3.vars++[[C.str x.name,C.int IntKind.i64 s3.next,C.int IntKind.i64 0]]))],vars:=s3.vars++[[C.str x.name,C.int IntKind.i64 s3.next,C.int IntKind.i64 0]],next:=s3.next+1 }) h6 rfl rfl rfl rfl h5'.gv h5'.rv;refine retn _ _ H6 _ (.inl rfl) h6' ⟨st3.bl,fun M hM=>?_,?_,st3.at_,st3.fn⟩
    ·have q:=st3.ok M hM;refine⟨q.r0,?_,?_,?_,?_,fun b hb=>?_,?_⟩
     ·have:=q.r1;show s3.regs≤_;omega
     ·have:=q.n0;show 0≤s3.next+1;omega
     ·have:=q.n1;show s3.next+1≤_;omega
     ·have:=q.b1;show s3.blocks.length≤_;omega
     ·have:=q.i1 b hb;omega
     ·have:=q.v1;simp;omega
    ·have:=st3.vl;simp;omega
   intro hc1;refine Qa ?_;simp only[go_sem];refine Qe rfl ?_ ?_
   ·
    intro hc;refine Qq ?_;simp only[go_sem];refine Qbso h2 fun v=>?_;simp only[go_sem,Qtb];refine Q1w h2 hat1 hsok1 (by omega) fun s3 H3 h3 st3=>?_;exact retn _ _ H3 _ (.inl rfl) h3 ((st1.trans st3).mono (by omega))
   intro hc2;refine Qa ?_;simp only[go_sem];refine Qe rfl ?_ ?_
   ·intro hc;refine Qq ?_;simp only[go_sem];refine Q1w h2 hat1 hsok1 (by omega) fun s3 H3 h3 st3=>?_;exact retn _ _ H3 _ (.inl rfl) h3 ((st1.trans st3).mono (by omega))
   intro hc3;refine Qa ?_;simp only[go_sem];refine Qe rfl ?_ ?_
   ·intro hc;refine Qq ?_;simp only[go_sem];refine Q1w h2 hat1 hsok1 (by omega) fun s3 H3 h3 st3=>?_;exact retn _ _ H3 _ (.inl rfl) h3 ((st1.trans st3).mono (by omega))
   intro hc4;refine Qa ?_;simp only[go_sem];refine Qe rfl ?_ ?_
   ·
    intro hc;refine Qa2 ?_;simp only[go_sem,har0,Qd,Qn _ _ har0];refine⟨by omega,?_⟩;refine Qgt h2 hsok1 (by omega) fun s3 H3 h3 st3 hb3=>?_;have st3:=st1.trans st3;simp only[go_sem,Qoi,har0,Qd,Qn _ _ har0];refine⟨by omega,?_⟩;refine Qu5 (next:=[]) (N:=0) h3 (st3.at_ hat) (by omega) fun s4 H4 h4 st4=>?_;exact retn _ _ H4 _ (.inl rfl) h4 ((st3.trans st4).mono (by omega))
   intro hc5;refine Qa ?_;simp only[go_sem];refine Qe rfl ?_ ?_
   ·
    intro hc;refine Qa ?_;simp only[go_sem];refine Qgt h2 hsok1 (by omega) fun s3 H3 h3 st3 hb3=>?_;have st3:=st1.trans st3;simp only[go_sem,Qoj];refine Qa ?_;simp only[go_sem];refine Qgt h3 (st3.ok _ hsok) (by omega) fun s4 H4 h4 st4 hb4=>?_;have st4:=st3.trans st4;simp only[go_sem,Qok];refine Qa ?_;simp only[go_sem];refine Qgt h4 (st4.ok _ hsok) (by omega) fun s5 H5 h5 st5 hb5=>?_;have st5:=st4.trans st5;simp only[go_sem,Qol];refine Qa ?_;simp only[go_sem,har0,Qd,Qn _ _ har0];refine⟨by omega,?_⟩;refine Qu5 (next:=[(s1.blocks.length:Int),(s3.blocks.length:Int)]) (N:=0) h5 (st5.at_ hat) (by omega) fun s6 H6 h6 st6=>?_;have hb6:=st6.bl;have st6:=st5.trans st6;refine Qa ?_;simp only[go_sem];refine hS (Q5 x.body) (by omega) x.body _ F H6 w s6 _ _ (Je _) hbo h6 (st6.at_ hat) (st6.ok _ hsok) (by omega) fun s7 H7 h7 st7=>?_;have hb7:=st7.bl;have st7:=st6.trans st7;refine Qa ?_;simp only[go_sem];refine Qu5 (next:=[(s4.blocks.length:Int)]) (N:=0) h7 (st7.at_ hat) (by omega) fun s8 H8 h8 st8=>?_;have hb8:=st8.bl;have st8:=st7.trans st8;refine Qa ?_;simp only[go_sem];refine hS (Q5 x.els) (by omega) x.els _ F H8 w s8 _ _ (Je _) heo h8 (st8.at_ hat) (st8.ok _ hsok) (by omega) fun s9 H9 h9 st9=>?_;have hb9:=st9.bl;have st9:=st8.trans st9;refine Qq ?_;simp only[go_sem];refine Qu5 (next:=[(s4.blocks.length:Int)]) (N:=0) h9 (st9.at_ hat) (by omega) fun s10 H10 h10 st10=>?_;exact retn _ _ H10 _ (.inl rfl) h10 ((st9.trans st10).mono (by omega))
   ·intro hc6;refine Qi ?_;simp only[go_sem];exact retn _ _ H2 _ (.inl rfl) h2 (st1.mono (by omega))
theorem Qbs5 (n:Nat):Qa8b n:=by
 induction n using Nat.strongRecOn with
 |ind n ih=>exact Qbje (Qbnr ih)
end Go.AE.Y
namespace Go.AE.Y
open Go.Proofs.Tryz
variable {H:Heap}{K:V→Heap→Prop}
set_option maxHeartbeats 2000000 in
theorem Qbsc {fns:List Fn}{fl:Bool}{k:Nat}(hk:k<fns.length)(hpl:fns[k].params.length≤3)(hbo:Qc0 fns[k].body)(hbs:Q5 fns[k].body≤2^34)
  (hK:∀(c:CodeD) (H':Heap),Upd H H' []→c.fits→K (.ag c.cells) H'):Qs prog Qa01 [.ag [.sl fl 3 (Qca fns)],.c (.int .i64 k)] H K:=by
 refine Qx ?_;refine Qc Qaj Qbsj ?_;refine Qa ?_;simp only[go_sem];intro x4 hx4 H1 h1;have kn:=(Kn.start0 H).al hx4 h1;refine Qa ?_;simp only[go_sem,hk,Qbk,Qg7 _ _ hk,Fn.take3,Fn.allOw,Fn.cells_len];generalize fns[k]=f at *;intro x5 hx5 H2 h2;have kn:=kn.al hx5 h2;have hx52:=kn.l 1 rfl;simp only[go_sem,Qazc,hx52,Fn.cells];intro H3 h3;have kn:Kn H H3 [] [(x4,.st [.int .i64 0,.int .i64 0,.sl true 5 []]),(x5,.st [.str f.name,.sl false 1 (Qbm f.params),.sl false 5 (Qa4 f.body)])]:=kn.stL 1 rfl h3;have hx43:=kn.l 0 rfl;have hx53:=kn.l 1 rfl;have h45:=kn.neL 0 1 rfl rfl (by decide);refine Qa ?_;simp only[go_sem,hx53,Qas];intro hpl2 w hw H4 h4;have h:LInv H3 H4 w ⟨fns,fl,0,0,.sl true 5 [],[],[],0,.sl true 3 [],[],[],f.params.length⟩:=
  ⟨(Kn.start0 H3).al hw h4,.nil 5,.inl ⟨rfl,rfl,rfl⟩,by simp,by simp,by simp⟩
 have hfr:∀(s:LS) (H':Heap),LInv H3 H' w s→H' x4=.st [.int .i64 0,.int .i64 0,.sl true 5 []]∧H' x5=.st [.str f.name,.sl false 1 (Qbm f.params),.sl false 5 (Qa4 f.body)]:=fun s H' h'=>
  ⟨by rw[h'.kn.chg x4 (by rw[hx43];simp) (by simp),hx43],by rw[h'.kn.chg x5 (by rw[hx53];simp) (by simp),hx53]⟩
 have hx54:=(hfr _ _ h).2;have hw4:=h.hw;simp only[go_sem,Qazd];refine Qa ?_;simp only[go_sem,hx54,hw4,LS.o,Qas];intro _ H5 h5;have h:=h.setw (s':=⟨fns,fl,f.params.length,0,.sl true 5 [],[],[],0,.sl true 3 [],[],[],f.params.length⟩) h5 rfl rfl rfl rfl h.gv h.rv;have hx55:=(hfr _ _ h).2;refine Qag ?_;simp only[go_sem,hx55,Qas];refine Qble _ f.body (Je _) (by omega) fun v hv=>?_;have hw5:=h.hw;simp only[go_sem,Qaze,hx55,hw5,LS.o,Qas];refine⟨Qr (by omega) (by omega),fun H6 h6=>?_⟩;have h:=h.setw (s':=⟨fns,fl,f.params.length,(f.params.length:Int)+v,.sl true 5 [],[],[],0,.sl true 3 [],[],[],f.params.length⟩) h6 rfl rfl rfl rfl h.gv h.rv;refine Qy ?_;refine Qa ?_;simp only[go_sem];refine Qh (Qf (Qw (fun n e1 H1=>∃(i:Nat) (s':LS),n=f.params.length-i∧i≤f.params.length∧LInv H3 H1 w s'∧s'.blocks=[]∧s'.at_=0∧s'.regs=(f.params.length:Int)+v∧s'.next=f.params.length∧s'.vars.length=i∧
  e1=[(4,.c (.ptr x4 0)),(5,.c (.ptr x5 0)),(6,.c (.ptr w 0)),(7,.c (.int .i64 i))]) f.params.length ?_ ?_))
 ·exact⟨0,_,by omega,by omega,h,rfl,rfl,rfl,rfl,rfl,rfl⟩
 ·rintro n e1 H1 ⟨i,s,hn1,hi,h,hb0,ha0,hr0,hn0,hvl,rfl⟩;have hx51:=(hfr _ _ h).2;have hw1:=h.hw;have hvo:=h.gv.isOw;refine Qy ?_;refine Qa ?_;simp only[go_sem,hx51,Qas];intro _;refine Qh (Qe rfl ?_ ?_)
  ·intro hc;have hlt:i<f.params.length:=by simpa using hc
   refine Qi ?_;simp only[go_sem];refine Qh (Qf (Qa2 ?_));simp only[go_sem,hx51,hw1,LS.o,hvo,hlt,Qas,Qic _ _ hlt];refine h.addVar ⟨_,_,_,rfl⟩ (by simp only[LIM];omega) fun y H4 hw4 cont=>?_;simp only[go_sem,Qazf,hw4,LS.o];intro H5 h5;have h':=cont H5 h5;refine Qq ?_;simp only[go_sem,X.next];exact⟨Qr (by omega) (by omega),f.params.length-(i+1),by omega,i+1,_,rfl,by omega,h',hb0,ha0,hr0,hn0,by simp[hvl],rfl⟩
  ·intro hc;refine Qv ?_;simp only[go_sem,X.next];have hsok:s.ok (3+v):=⟨by rw[hr0];omega,by rw[hr0];omega,by rw[hn0];omega,by rw[hn0];omega,by simp[hb0],by simp[hb0],by omega⟩;refine Qa ?_;simp only[go_sem];refine Qarh h hsok (by omega) fun s1 H4 h1 st1 hb1 hat1=>?_;have hat:s1.at_<s1.blocks.length:=by rw[hat1,ha0];omega
   have hsok1:=st1.ok _ hsok;refine Qa ?_;have hx54:=(hfr _ _ h1).2;simp only[go_sem,hx54];refine Qbs5 _ f.body _ H3 H4 w s1 _ _ (Je _) hbo h1 hat hsok1 (by omega) fun s2 H5 h2 st2=>?_;refine Qa ?_;simp only[go_sem];refine Qpd h2 (st2.ok _ hsok1) (by omega) fun s3 H6 h3 st3=>?_;have st3:=st2.trans st3;simp only[go_sem,Qazh];refine Q1w (args:=[]) h3 (st3.at_ hat) (st3.ok _ hsok1) (by omega) fun s4 H7 h4 st4=>?_;have st4:=st3.trans st4;simp only[go_sem,Qazg];have hbl4:=st4.bl;refine Qa ?_;simp only[go_sem];refine Qu5 (at':=0) (next:=[]) (N:=0) h4 (st4.at_ hat) (by omega) fun s5 H8 h5 st5=>?_;have hw8:=h5.hw;obtain⟨hx48,hx58⟩:=hfr _ _ h5;have hbow:=h5.gb.isOw;refine Qa ?_;simp only[go_sem,hw8,hx48,LS.o,hbow];intro H9 h9;have hx49:H9 x4=.st [.int .i64 s5.params,.int .i64 s5.regs,s5.bc]:=by rw[h9];exact Heap.set_same _ _ _
   have ho9:∀m,m≠x4→H9 m=H8 m:=fun m hm=>by rw[h9];exact Heap.set_other _ _ hm
   have huse:∀m,H m≠.none→H9 m=H m:=fun m hm=>by
    have e1:=kn.chg m hm (by simp);have e2:=h5.kn.chg m (by rw[e1];exact hm) (by simp);rw[ho9 m (fun hh=>by subst hh;exact hm (kn.free 0 rfl)),e2,e1]
   have hun:∀p∈s5.L w,H9 p.1=p.2∧un H p.1=true:=fun p hp=>by
    have e1:=(h5.kn.get p (by simpa using hp)).1;have e2:=h5.kn.loc p hp;have hne:p.1≠x4:=fun hh=>(by rw[hh,hx43]at e2;simp at e2);refine⟨by rw[ho9 _ hne,e1],Qe8 ?_⟩
    cases hh:H p.1 with
    |none=>rfl
    |_=>have:=kn.chg p.1 (by rw[hh];simp) (by simp);rw[e2,hh]at this;simp at this
   refine Qk ?_;simp only[go_sem,Q3,Qab,Qbok,reduceIte,Ja,forall_eq,RS.op,hx49,hbow];have hok5:=(st4.trans st5).ok _ hsok1;obtain⟨bs,hbs1,hbs2,hbs3⟩:=Qa8e (H:=H9) (S:=un H) s5.blocks fun b hb=>⟨h5.gi b hb,h5.ri b hb,fun p hp=>hun p (by
    simp only[LS.L,Jm,J8];exact .inr (.inr (.inr ⟨b,hb,hp⟩))),by have:=hok5.i1 b hb;omega⟩
   refine⟨.ag (CodeD.mk s5.params s5.regs bs).cells,FrzL.ag (.cons (Qg rfl) (.cons (Qg rfl) (.cons (Gr.frzM h5.gb (fun p hp=>hun p (by
    simp only[LS.L,Jm];exact .inr (.inl hp))) hbs1) .nil))),hK _ _ ⟨by simp,fun m hm _=>?_⟩ hbs3⟩
   rw[Qbe0 hm];exact huse m hm
theorem Qblf {fns:List Fn}{fl:Bool}(hp:PrOk fns)(hK:∀(cs:List CodeD) (H':Heap),Upd H H' []→0<cs.length→(∀c∈cs,c.fits)→K (.ag [.sl false 3 (Qj cs)]) H') :
  Qs prog Q97 [.ag [.sl fl 3 (Qca fns)]] H K:=by
 refine Qx ?_;refine Qc Qaj Qblz ?_;refine Qa ?_;simp only[go_sem];intro x2 hx2 H1 h1;have kn:=(Kn.start0 H).al hx2 h1;refine Qa ?_;simp only[go_sem];intro x3 hx3 H2 h2;have kn:=kn.al hx3 h2;have hx32:=kn.l 1 rfl;simp only[go_sem,Qagp,hx32];intro H3 h3;have kn:Kn H H3 [] [(x2,.st [.sl true 3 []]),(x3,.st [.sl true 3 []])]:=kn.stL 1 rfl h3;refine Qy ?_;refine Qa ?_;simp only[go_sem];refine Qh (Qf (Qw (fun n e1 H1=>∃(i:Nat) (cs:List CodeD) (c:C) (Lg:List (Nat×Obj)),n=fns.length-i∧i≤fns.length∧cs.length=i∧(∀c∈cs,c.fits)∧Gr Lg 3 (Qj cs) c∧Kn H H1 [] ([(x2,.st [.sl true 3 []]),(x3,.st [c])]++Lg)∧
  e1=[(1,.c (.pp [.sl fl 3 (Qca fns)])),(2,.c (.ptr x2 0)),(3,.c (.ptr x3 0)),(4,.c (.int .i64 i))]) fns.length ?_ ?_))
 ·exact⟨0,[],_,[],by omega,by omega,rfl,by simp,.nil 3,kn,rfl⟩
 ·rintro n e1 H1 ⟨i,cs,c,Lg,hn1,hi,hcl,hfit,hgr,kn,rfl⟩;refine Qy ?_;refine Qa ?_;simp only[go_sem,Qbk];intro hl;simp only[LIM]at hl;have hcow:=hgr.isOw;have hx31:=kn.l 1 rfl;refine Qh (Qe rfl ?_ ?_)
  ·intro hc;have hlt:i<fns.length:=by simpa using hc
   have hm:=Jb hlt;refine Qi ?_;simp only[go_sem];refine Qh (Qf (Qa2 ?_));simp only[go_sem,hx31,hcow];refine Qbsc hlt (hp.par _ hm) (hp.ok _ hm) (by have:=Qpl hm;have:=hp.size;omega) fun x H4 hu hxf=>?_;have kn:=kn.call0 hu;have hx34:=kn.l 1 rfl;simp only[go_sem,Qagr,hx34,hcow,CodeD.cells];refine kn.grow (B:=[_,_]) (new:=[x.cells]) hgr (.mk' _ _ _ _) (by intro r hr;simp only[Ja]at hr;subst hr;rfl) (by simp only[Q4,LIM,Ji,Jn];omega) fun y' H5 kn=>?_;have hx35:=kn.l 1 rfl;simp only[go_sem,Qagq,hx35];intro H6 h6;have kn:=kn.stL 1 rfl h6;refine Qq ?_;simp only[go_sem,X.next];refine⟨Qr (by omega) (by omega),fns.length-(i+1),by omega,i+1,cs++[x],_,_,rfl,by omega,by simp[hcl],fun c' hc'=>by
    rcases Jm.1 hc' with h|h
    ·exact hfit c' h
    ·simp at h;subst h;exact hxf,?_,kn,rfl⟩
   rw[Qarn];exact .mk _ _ _ (by simp[Q4])
  ·intro hc;have hge:fns.length≤i:=by simpa using hc
   have hx21:=kn.l 0 rfl;refine Qv ?_;simp only[go_sem,X.next];refine Qa ?_;simp only[go_sem,hx31,hx21,hcow];intro H2 h2;have kn:=kn.stL 0 rfl h2;have hx22:=kn.l 0 rfl;refine Qk ?_;simp only[go_sem,Q3,Qab,Qa9b,reduceIte,Ja,forall_eq,RS.op,hx22,hcow];exact⟨.ag [.sl false 3 (Qj cs)],FrzL.ag (.cons (hgr.frz (B:=[_,_]) kn (Qa9 _)) .nil),hK _ _ kn.fin (by have:=hp.pos;omega) hfit⟩
attribute [local instance] Classical.propDecidable
def Qpf (q:CodeD):Bool:=decide (0≤q.params∧q.params≤3)&&decide (q.params≤q.regs∧q.regs≤300)&&decide (1≤(q.blocks.length:Int)∧(q.blocks.length:Int)≤160)
def Qx7 (y:BlkD):Nat:=y.ins.length+y.phis.length
def Qoo {α:Type}(f:α→Nat)(l:List α):Nat:=(l.map f).sum
theorem Qlm {α:Type}{f:α→Nat}{l:List α}{i:Nat}(h:i<l.length):Qoo f (l.take (i+1))=Qoo f (l.take i)+f l[i]:=by
 rw[Qoo,Qoo,Jh h,Jt,Jal];simp
theorem Qa76 {α:Type}{f:α→Nat}{l:List α}(i:Nat):Qoo f (l.take i)≤Qoo f l:=by
 have:Qoo f l=Qoo f (l.take i)+Qoo f (l.drop i):=by rw[Qoo,Qoo,Qoo,←Jal,←Jt,Jx]
 omega
def Q9p (q:CodeD):Nat:=Qoo Qx7 q.blocks
def Qag3 (cs:List CodeD)(k:Nat)(hk:k<cs.length):Prop:=Qpf cs[k]=true∧∀(b:Nat) (h:b<cs[k].blocks.length),Q84 cs k b cs[k] cs[k].blocks[b]=true
def Qbrf (cs:List CodeD):Prop:=(1≤(cs.length:Int)∧(cs.length:Int)≤4)∧(∀(k:Nat) (h:k<cs.length),Qag3 cs k h)∧Qoo Q9p cs≤800
noncomputable def Qbw (cs:List CodeD):Bool:=decide (Qbrf cs)
theorem Q9e {cs:List CodeD}(hfit:∀c∈cs,c.fits)(h:Qbw cs=true):cs.length≤4∧0<cs.length∧∀c∈cs,c.gd:=by
 obtain⟨h1,h2,_⟩:=of_decide_eq_true h;refine⟨by omega,by omega,fun c hc=>?_⟩;obtain⟨k,hk,rfl⟩:=Jad hc;obtain⟨g1,g2⟩:=h2 k hk;simp only[Qpf,Jv,decide_eq_true_eq]at g1;refine⟨by omega,by omega,fun b hb=>?_,fun b hb=>hfit _ (Jb hk) b hb⟩;obtain⟨i,hi,rfl⟩:=Jad hb;exact Qbea (g2 i hi)
theorem Qtu {cs:List CodeD}(h:¬Qbrf cs):Qbw cs=false:=decide_eq_false h
theorem Qbny {cs:List CodeD}{k j:Nat}(hk:k<cs.length)(hj:j<cs[k].blocks.length)(h:800<Qoo Q9p (cs.take k)+Qoo Qx7 (cs[k].blocks.take j)+Qx7 cs[k].blocks[j]):¬Qbrf cs:=by
 rintro⟨_,_,h3⟩;have a1:=Qa76 (f:=Q9p) (l:=cs) (k+1);rw[Qlm hk]at a1;have a2:=Qa76 (f:=Qx7) (l:=cs[k].blocks) (j+1);rw[Qlm hj]at a2;simp only[Q9p]at *;omega
set_option maxHeartbeats 2000000 in
theorem Qfi {cs:List CodeD}{fl:Bool}(hfit:∀c∈cs,c.fits)(hK:∀(H':Heap),Upd H H' []→K (.c (.bool (Qbw cs))) H') :
  Qs prog Qb6 [.ag [.sl fl 3 (Qj cs)]] H K:=by
 refine Qx ?_;refine Qc Qaj Qahm ?_;have retf:∀(b:Bool) (e:Env) (H':Heap) (L:List (Nat×Obj)),Qbw cs=b→Kn H H' [] L→lk 2 e=.c (.bool b)→Q3 Qdb (unK H K) .ret e H':=by
  intro b e H' L hb kn h3;simp only[go_sem,Q3,Qab,Qdb,Ja,forall_eq,RS.op,h3];rw[←hb];exact⟨_,.c _ _ (Qg rfl),hK _ kn.fin⟩
 have kn:=Kn.start0 H;refine Qa ?_;simp only[go_sem];refine Qy ?_;refine Qa ?_;simp only[go_sem,Q4];intro hcl;refine Qc9 ?_;simp only[go_sem,Qli];refine Qh (Qe rfl ?_ ?_)
 ·intro hc;refine Qa ?_;simp only[go_sem];refine Qk ?_;simp only[go_sem];exact retf false _ _ _ (Qtu fun hu=>by have:=of_decide_eq_false (Qt3 hc);exact this hu.1) kn (by simp[lk])
 intro hc;have hc4:cs.length≤4∧0<cs.length:=by
  have:1≤(cs.length:Int)∧(cs.length:Int)≤4:=by simpa using hc
  omega
 refine Qi ?_;simp only[go_sem];refine Qa ?_;simp only[go_sem];refine Qy ?_;refine Qa ?_;simp only[go_sem];refine Qh (Qf (Qw (fun m e1 H1=>∃(k n:Nat),m=cs.length-k∧k≤cs.length∧n=Qoo Q9p (cs.take k)∧n≤800∧(∀(i:Nat) (hi:i<cs.length),i<k→Qag3 cs i hi)∧Kn H H1 [] []∧e1=[(1,.c (.pp [.sl fl 3 (Qj cs)])),(3,.c (.int .i64 n)),(4,.c (.int .i64 k))]) cs.length ?_ ?_))
 ·exact⟨0,0,by omega,by omega,rfl,by omega,fun _ _ h=>by omega,kn,rfl⟩
 ·rintro m e1 H1 ⟨k,n,hm,hk,hns,hn,hgd,kn,rfl⟩;refine Qy ?_;refine Qa ?_;simp only[go_sem,Q4];intro hcl;refine Qh (Qe rfl ?_ ?_)
  ·intro hc;have hlt:k<cs.length:=by simpa using hc
   refine Qi ?_;simp only[go_sem];refine Qh (Qf ?_);refine Qa ?_;simp only[go_sem,hlt,Q4,Qam _ _ hlt,CodeD.cells];obtain⟨q,hq⟩:∃q,cs[k]=q:=⟨_,rfl⟩;rw[hq];intro x5 hx5 H2 h2;have kn:=kn.al hx5 h2;have hx52:=kn.l 0 rfl;simp only[go_sem,Qlj,hx52];intro H3 h3;have kn:Kn H H3 [] [(x5,.st [.int .i64 q.params,.int .i64 q.regs,.sl false 5 (Qm q.blocks)])]:=kn.stL 0 rfl h3;have hx53:=kn.l 0 rfl;refine Qy ?_;refine Qa ?_;simp only[go_sem,hx53];refine Qc9 ?_;simp only[go_sem,Qlk,hx53];have rest:∀(b:Bool) (E1:Env),lk 1 E1=.c (.pp [.sl fl 3 (Qj cs)])→lk 3 E1=.c (.int .i64 n)→lk 4 E1=.c (.int .i64 k)→lk 5 E1=.c (.ptr x5 0)→lk 42 E1=.c (.bool b)→Qpf q=(!b)→
     Qah prog (s_sp_UnitValid_6.seq Qlh) (X.inBlock 1 (X.sq prog Qe2 (X.next (fun e2 H2=>∃m_1,m_1<m∧∃(k n:Nat),m_1=cs.length-k∧k≤cs.length∧n=Qoo Q9p (cs.take k)∧n≤800∧(∀(i:Nat) (hi:i<cs.length),i<k→Qag3 cs i hi)∧Kn H H2 [] []∧e2=[(1,.c (.pp [.sl fl 3 (Qj cs)])),(3,.c (.int .i64 n)),(4,.c (.int .i64 k))])
      (X.inBlock 0 (X.sq prog Qe3 (Q3 Qdb (unK H K))))))) E1 H3:=by
    intro b E1 l1 l3 l4 l5 l42 hb;refine Qh (Qe l42 ?_ ?_)
    ·intro hc2;refine Qa ?_;simp only[go_sem];refine Qk ?_;simp only[go_sem,X.next];exact retf false _ _ _ (Qtu fun hu=>by have:=(hu.2.1 k hlt).1;rw[hq,hb,hc2]at this;simp at this) kn (by simp[lk])
    intro hc2;rw[hc2]at hb;have hb':=hb;simp only[Qpf,Jab,Jv,decide_eq_true_eq]at hb';obtain⟨hr0,hr1,hb0,hbl⟩:0≤q.regs∧q.regs≤300∧0<q.blocks.length∧q.blocks.length≤160:=(by omega);refine Qi ?_;simp only[go_sem];refine Qa ?_;simp only[go_sem,l1,l3,l4,l5];refine Qf (Qw (fun m e1 H1=>∃(j n2:Nat),m=q.blocks.length-j∧j≤q.blocks.length∧n2=n+Qoo Qx7 (q.blocks.take j)∧n2≤800∧(∀(i:Nat) (hi:i<q.blocks.length),i<j→Q84 cs k i q q.blocks[i]=true)∧Kn H H1 [] [(x5,.st [.int .i64 q.params,.int .i64 q.regs,.sl false 5 (Qm q.blocks)])]∧
     e1=[(1,.c (.pp [.sl fl 3 (Qj cs)])),(3,.c (.int .i64 n2)),(4,.c (.int .i64 k)),(5,.c (.ptr x5 0)),(6,.c (.int .i64 j))]) q.blocks.length ?_ ?_)
    ·exact⟨0,n,by omega,by omega,rfl,hn,fun _ _ h=>by omega,kn,rfl⟩
    ·rintro m2 e1 H4 ⟨j,n2,hm2,hj,hn2s,hn2,hnx,kn,rfl⟩;have hx54:=kn.l 0 rfl;refine Qy ?_;refine Qa ?_;simp only[go_sem,hx54,Qo];intro hbl2;refine Qh (Qe rfl ?_ ?_)
     ·intro hc3;have hjl:j<q.blocks.length:=(by simpa using hc3);refine Qi ?_;simp only[go_sem];refine Qh (Qf ?_);have hqf:=hfit _ (Jb hlt);rw[hq]at hqf;have hbf:=hqf _ (Jb hjl);have hss:=Qlm (f:=Qx7) hjl;have hcy:Qx7 q.blocks[j]=q.blocks[j].ins.length+q.blocks[j].phis.length:=rfl;refine Qag ?_;simp only[go_sem,hx54,hjl,Qo,Qaa _ _ hjl,BlkD.cells,Qal,Q0];refine⟨Qr (by omega) (by omega),Qr (by omega) (by omega),?_⟩;refine Qa ?_;simp only[go_sem];have fin:∀(b3:Bool) (E1:Env) (H5:Heap),(decide (n2+Qx7 q.blocks[j]≤800)&&Q84 cs k j q q.blocks[j])=(!b3)→Kn H H5 [] [(x5,.st [.int .i64 q.params,.int .i64 q.regs,.sl false 5 (Qm q.blocks)])]→lk 1 E1=.c (.pp [.sl fl 3 (Qj cs)])→
        lk 3 E1=.c (.int .i64 ((n2+q.blocks[j].ins.length+q.blocks[j].phis.length:Nat):Int))→lk 4 E1=.c (.int .i64 k)→lk 5 E1=.c (.ptr x5 0)→lk 6 E1=.c (.int .i64 j)→lk 75 E1=.c (.bool b3)→
        Qah prog Qon (X.inBlock 3 (X.sq prog Qlg (X.next (fun e2 H2=>∃m,m<m2∧∃(j n2:Nat),m=q.blocks.length-j∧j≤q.blocks.length∧n2=n+Qoo Qx7 (q.blocks.take j)∧n2≤800∧(∀(i:Nat) (hi:i<q.blocks.length),i<j→Q84 cs k i q q.blocks[i]=true)∧Kn H H2 [] [(x5,.st [.int .i64 q.params,.int .i64 q.regs,.sl false 5 (Qm q.blocks)])]∧
         e2=[(1,.c (.pp [.sl fl 3 (Qj cs)])),(3,.c (.int .i64 n2)),(4,.c (.int .i64 k)),(5,.c (.ptr x5 0)),(6,.c (.int .i64 j))])
         (X.inBlock 2 (X.inBlock 1 (X.sq prog Qe2 (X.next (fun e2 H2=>∃m_1,m_1<m∧∃(k n:Nat),m_1=cs.length-k∧k≤cs.length∧n=Qoo Q9p (cs.take k)∧n≤800∧(∀(i:Nat) (hi:i<cs.length),i<k→Qag3 cs i hi)∧Kn H H2 [] []∧e2=[(1,.c (.pp [.sl fl 3 (Qj cs)])),(3,.c (.int .i64 n)),(4,.c (.int .i64 k))])
         (X.inBlock 0 (X.sq prog Qe3 (Q3 Qdb (unK H K))))))))))) E1 H5:=by
       intro b3 E1 H5 hb3 kn l1 l3 l4 l5 l6 l75;refine Qe l75 ?_ ?_
       ·intro hc4;refine Qa ?_;simp only[go_sem];refine Qk ?_;simp only[go_sem,X.next];refine retf false _ _ _ (Qtu fun hu=>?_) kn (by simp[lk]);rw[hc4]at hb3;have hblk:=(hu.2.1 k hlt).2 j (by rw[hq];exact hjl);subst hq;have hov:¬800<n2+Qx7 cs[k].blocks[j]:=fun ho=>Qbny hlt hjl (by omega) hu;rw[hblk]at hb3;simp at hb3;omega
       ·intro hc4;rw[hc4]at hb3;simp only[Jab,Jv,decide_eq_true_eq]at hb3;refine Qi ?_;simp only[go_sem];refine Qq ?_;simp only[go_sem,X.next,l1,l3,l4,l5,l6];refine⟨Qr (by omega) (by omega),q.blocks.length-(j+1),by omega,j+1,_,rfl,by omega,?_,?_,?_,kn,rfl⟩
        ·rw[hss];omega
        ·omega
        ·intro i hi hij;by_cases hij2:i<j
         ·exact hnx i hi hij2
         ·have:i=j:=(by omega);subst this;exact hb3.2
      refine⟨fun hb1=>?_,fun hb1=>?_⟩
      ·refine Qbfw hlt (by rw[hq];exact hjl) (by rw[hq];exact hr0) (by rw[hq];exact hr1) (by omega) (by rw[hq];omega) fun H5 hu=>?_;have kn:=kn.call0 hu;simp only[go_sem,Qe5];refine fin _ _ _ ?_ kn (by simp[lk]) (by simp[lk]) (by simp[lk]) (by simp[lk]) (by simp[lk]) (by simp[lk];rfl);subst hq;by_cases ho:n2+Qx7 cs[k].blocks[j]≤800
       ·have ho':¬800<(n2:Int)+cs[k].blocks[j].ins.length+cs[k].blocks[j].phis.length:=(by simp only[Qx7]at ho;omega);simp[ho,ho']
       ·have ho':800<(n2:Int)+cs[k].blocks[j].ins.length+cs[k].blocks[j].phis.length:=(by simp only[Qx7]at ho;omega);simp[ho,ho']
      ·replace hb1:=Qez hb1;simp only[go_sem,Qe5,hb1];exact fin true _ _ (by simp at hb1;simp[hcy];omega) kn (by simp[lk]) (by simp[lk]) (by simp[lk]) (by simp[lk]) (by simp[lk]) (by simp[lk])
     ·intro hc3;refine Qv ?_;simp only[go_sem,X.next];refine Qq ?_;simp only[go_sem,X.next];have hjq:q.blocks.length≤j:=(by simpa using hc3);have hjq:j=q.blocks.length:=(by omega);refine⟨Qr (by omega) (by omega),cs.length-(k+1),by omega,k+1,n2,rfl,by omega,?_,hn2,?_,kn.drop (A:=[]),rfl⟩
      ·rw[Qlm hlt,hq,hn2s,hns,hjq,J9];rfl
      ·intro i hi hik;by_cases hik2:i<k
       ·exact hgd i hi hik2
       ·have:i=k:=(by omega);subst this;subst hq;exact⟨by rw[hb];rfl,fun b hbl=>hnx b hbl (by omega)⟩
   refine⟨fun hb1=>?_,fun hb1=>?_⟩
   ·refine Qc9 ?_;simp only[go_sem,Qe4,hx53,Qo];intro hblim;refine⟨fun hb2=>?_,fun hb2=>?_⟩
    ·replace hb2:=Qt3 hb2;refine Qc9 ?_;simp only[go_sem,Qcz];refine rest _ _ (by simp[lk]) (by simp[lk]) (by simp[lk]) (by simp[lk]) (by simp[lk];rfl) ?_;simp[Qpf]
    ·replace hb2:=Qez hb2;simp only[go_sem,Qcz,hb2];exact rest true _ (by simp[lk]) (by simp[lk]) (by simp[lk]) (by simp[lk]) (by simp[lk]) (by simp at hb2;simp[Qpf];omega)
   ·replace hb1:=Qez hb1;simp only[go_sem,Qe4,Qcz,hb1,hx53,Qo,cond_true];exact rest true _ (by simp[lk]) (by simp[lk]) (by simp[lk]) (by simp[lk]) (by simp[lk]) (by simp at hb1;simp[Qpf];omega)
  ·intro hc;refine Qv ?_;simp only[go_sem,X.next];refine Qa ?_;simp only[go_sem];refine Qk ?_;have hkc:cs.length≤k:=by simpa using hc
   refine retf true _ _ _ (decide_eq_true ⟨by omega,fun i hi=>hgd i hi (by omega),?_⟩) kn (by simp[lk]);rw[Jc hkc]at hns;omega
theorem Qa0m {cs:List CodeD}{fl:Bool}(hfit:∀c∈cs,c.fits)(hK:∀(b:Bool) (H':Heap),(b=true→cs.length≤4∧0<cs.length∧∀c∈cs,c.gd)→Upd H H' []→K (.c (.bool b)) H') :
  Qs prog Qb6 [.ag [.sl fl 3 (Qj cs)]] H K:=Qfi hfit fun H' hu=>hK _ H' (Q9e hfit) hu
end Go.AE.Y
namespace Go.AE.Y
open Go.Proofs.Tryz
variable {H:Heap}{K:V→Heap→Prop}
def UnitOk (cs:List CodeD):Prop:=0<cs.length∧cs.length≤4∧∀c∈cs,c.gd
theorem Qar0 {R:Rdr}{k:Nat}(hH:H R.l=R.o k)(hk:k+7100000≤2^30)
  (hK:∀(cs:List CodeD) (H':Heap) (k':Nat),k<k'→k'≤k+7050000→Upd H H' [(R.l,R.o k')]→UnitOk cs→K (.ag [.sl false 3 (Qj cs)]) H') :
  Qs prog Qtn [.c (.ptr R.l 0)] H K:=by
 refine Qx ?_;refine Qc Qaj Qbf5 ?_;refine Qa ?_;simp only[go_sem];intro x2 hx2 H1 h1;have kn:=(Kn.start1 hH (R.o_ne k)).al hx2 h1;have tail:∀(E1:Env) (H2:Heap) (k1:Nat) (L:List (Nat×Obj)),k<k1→k1≤k+7000500→Kn H H2 [(R.l,R.o k1)] ([(x2,.st [.sl true 3 []])]++L)→lk 0 E1=.c (.ptr R.l 0)→lk 2 E1=.c (.ptr x2 0)→
   Qah prog Qab8 (Q3 Qyr (unK H K)) E1 H2:=by
  intro E1 H2 k1 L hk1 hk2 kn l0 l2;refine Qa ?_;simp only[go_sem,l0,l2];refine Qa8x (kn.e 0 rfl) (by omega) fun cs H3 k2 hk3 hk4 hu hcs0 hcs3 hsm=>?_;have kn:=kn.callE 0 rfl hu (R.o_ne _);have hx2:=kn.l 0 rfl;simp only[go_sem,Q36,hx2,l2];intro H4 h4;have kn:=kn.stL 0 rfl h4;have hx2:=kn.l 0 rfl;refine Qk ?_;simp only[go_sem,Q3,Qab,Qyr,reduceIte,Ja,forall_eq,RS.op,hx2];exact⟨_,FrzL.ag (.cons (FrzR.same (Qa9 cs)).sl .nil),hK cs _ k2 (by omega) (by omega) kn.fin ⟨hcs0,by omega,fun c hc=>(hsm c hc).gd⟩⟩
 refine Qy ?_;refine Qa ?_;simp only[go_sem];refine Qba (kn.e 0 rfl) (by omega) fun v H2 hv hu=>?_;have kn:=kn.callE 0 rfl hu (R.o_ne _);simp only[go_sem,Q32];refine Qh (Qe rfl ?_ ?_)
 ·intro hc;refine Qa ?_;simp only[go_sem];refine Qbk8 (kn.e 0 rfl) (by omega) fun l H3 k1 hk1 hk2 hu hp=>?_;have kn:=kn.callE 0 rfl hu (R.o_ne _);simp only[go_sem,Q35];refine Qblf hp fun cs H4 hu hcs0 hfit=>?_;have kn:=kn.call0 hu;simp only[go_sem,Q34];intro x3 hx3 H5 h5;have kn:=kn.al hx3 h5;have hx3:=kn.l 1 rfl;simp only[go_sem,Q33,hx3];intro H6 h6;have kn:=kn.stL 1 rfl h6;have hx3:=kn.l 1 rfl;refine Qa ?_;simp only[go_sem,hx3];refine Qa0m hfit fun b H7 hb hu=>?_;have kn:=kn.call0 hu;have hx3:=kn.l 1 rfl;have hx2:=kn.l 0 rfl;refine Qe rfl ?_ ?_
  ·intro hb1;refine Qa ?_;simp only[go_sem,hx3,hx2];intro H8 h8;have kn:=kn.stL 0 rfl h8;have hx2:=kn.l 0 rfl;refine Qk ?_;simp only[go_sem,Q3,Qab,Qyr,reduceIte,Ja,forall_eq,RS.op,hx2];obtain⟨g1,g2,g3⟩:=hb hb1;exact⟨_,FrzL.ag (.cons (FrzR.same (Qa9 cs)).sl .nil),hK cs _ k1 (by omega) (by omega) kn.fin ⟨g2,g1,g3⟩⟩
  ·intro hb1;refine Qi ?_;simp only[go_sem];exact tail _ _ k1 [(x3,.st [.sl false 3 (Qj cs)])] (by omega) (by omega) kn (by simp[lk]) (by simp[lk])
 ·intro hc;refine Qi ?_;simp only[go_sem];exact tail _ _ (k+1) [] (by omega) (by omega) kn (by simp[lk]) (by simp[lk])
theorem Qarz {R:Rdr}{k:Nat}(hH:H R.l=R.o k)(hk:k+7200000≤2^30)
  (hK:∀(cs:List CodeD) (H':Heap) (k':Nat),k<k'→k'≤k+7100000→Upd H H' [(R.l,R.o k')]→UnitOk cs→K (.ag [.sl false 3 (Qj cs)]) H') :
  Qs prog Qtk [.c (.ptr R.l 0)] H K:=by
 refine Qx ?_;refine Qc Qaj Qbf1 ?_;refine Qa ?_;simp only[go_sem];intro x2 hx2 H1 h1;have kn:=(Kn.start1 hH (R.o_ne k)).al hx2 h1;refine Qy ?_;refine Qa ?_;simp only[go_sem];refine Qba (kn.e 0 rfl) (by omega) fun v H2 hv hu=>?_;have kn:=kn.callE 0 rfl hu (R.o_ne _);simp only[go_sem,Q3o];refine Qh (Qe rfl ?_ ?_)
 ·intro hc;refine Qa ?_;simp only[go_sem];refine Qbk9 (kn.e 0 rfl) (by omega) fun cs H3 k2 hk3 hk4 hu hcs0 hcs3 hgd=>?_;have kn:=kn.callE 0 rfl hu (R.o_ne _);have hx2:=kn.l 0 rfl;simp only[go_sem,Q3p,hx2];intro H4 h4;have kn:=kn.stL 0 rfl h4;have hx2:=kn.l 0 rfl;refine Qk ?_;simp only[go_sem,Q3,Qab,Qaau,reduceIte,Ja,forall_eq,RS.op,hx2];exact⟨_,FrzL.ag (.cons (FrzR.same (Qa9 cs)).sl .nil),hK cs _ k2 (by omega) (by omega) kn.fin ⟨hcs0,by omega,hgd⟩⟩
 ·intro hc;refine Qi ?_;simp only[go_sem];refine Qa ?_;simp only[go_sem];refine Qar0 (kn.e 0 rfl) (by omega) fun cs H3 k2 hk3 hk4 hu hok=>?_;have kn:=kn.callE 0 rfl hu (R.o_ne _);have hx2:=kn.l 0 rfl;simp only[go_sem,Q3q,hx2];intro H4 h4;have kn:=kn.stL 0 rfl h4;have hx2:=kn.l 0 rfl;refine Qk ?_;simp only[go_sem,Q3,Qab,Qaau,reduceIte,Ja,forall_eq,RS.op,hx2];exact⟨_,FrzL.ag (.cons (FrzR.same (Qa9 cs)).sl .nil),hK cs _ k2 (by omega) (by omega) kn.fin hok⟩
theorem Qbfs {fl:Bool}{bs:List UInt8}(hK:∀(R:Rdr) (H':Heap),H R.l=.none→H'=H.set R.l (R.o 0)→K (.c (.ptr R.l 0)) H'):Qs prog Q1g [.c (.sl fl 1 (Qbp bs))] H K:=by
 refine Qc Qaj Qbgj ?_;refine Qa ?_;simp only[go_sem];refine Qy ?_;refine Qa ?_;simp only[go_sem,Qav];intro _;have tail:∀(fl:Bool) (bs:List UInt8) (E1:Env),lk 0 E1=.c (.sl fl 1 (Qbp bs))→Qah prog Qacx (Q3 Qaa4 K) E1 H:=by
  intro fl bs E1 l0;refine Qa ?_;simp only[go_sem,l0];intro l hl H' h';simp only[go_sem,Q5b];refine Qk ?_;simp only[go_sem,Q3,Qab,Qaa4,reduceIte,Ja,forall_eq,RS.op];exact hK ⟨l,fl,bs⟩ H' hl h'
 refine Qh (Qe rfl ?_ ?_)
 ·intro hc;have h2:(2000:Int)<bs.length:=by simpa using hc
  refine Qq ?_;simp only[go_sem,Qav];refine⟨⟨by omega,by omega,by omega⟩,?_⟩;have ht:List.take 2000 (Qbp bs)=Qbp (bs.take 2000):=by simp[Qbp,Jao]
  rw[ht];exact tail _ (bs.take 2000) _ (by simp[lk];rfl)
 ·intro hc;refine Qi ?_;exact tail fl bs _ (by simp[lk])
end Go.AE.Y
namespace Go.AE.Y
def Qoq (n:Nat)(nx:Nat→List Int):Bool:=(List.range n).all (fun i=>(nx i).all fun x=>decide (0≤x∧x≤(n:Int)-1))&&decide (0<n)
def nxN (nx:Nat→List Int)(b:Nat):List Nat:=(nx b).map Int.toNat
theorem Q9w {n:Nat}{nx:Nat→List Int}(h:Qoq n nx=true){b:Nat}(hb:b<n){x:Int}(hx:x∈nx b):0≤x∧x≤(n:Int)-1:=by
 simp only[Qoq,Jv,J6,List.mem_range,decide_eq_true_eq]at h;exact h.1 b hb x hx
theorem Qo2 {n:Nat}{nx:Nat→List Int}(h:Qoq n nx=true):0<n:=by
 simp only[Qoq,Jv,decide_eq_true_eq]at h;exact h.2
theorem Qall {n:Nat}{nx:Nat→List Int}(h:Qoq n nx=true){b:Nat}(hb:b<n){x:Nat}(hx:x∈nxN nx b):x<n:=by
 obtain⟨y,hy,rfl⟩:=List.mem_map.1 hx;have:=Q9w h hb hy;omega
inductive Dfs (g:Nat→List Nat):List Nat→List Bool→List Nat→List Bool→List Nat→Prop
 |nil (S:List Bool) (o:List Nat):Dfs g [] S o S o
 |skip {x:Nat} {xs:List Nat} {S S':List Bool} {o o':List Nat}:S.getD x false=true→Dfs g xs S o S' o'→Dfs g (x::xs) S o S' o'
 |go {x:Nat} {xs:List Nat} {S S1 S':List Bool} {o o1 o':List Nat}:S.getD x false=false→Dfs g (g x) (S.set x true) o S1 o1→Dfs g xs S1 (o1++[x]) S' o'→Dfs g (x::xs) S o S' o'
variable {g:Nat→List Nat}{xs:List Nat}{S S' S1:List Bool}{o o' o1:List Nat}
theorem Dfs.app (h:Dfs g xs S o S1 o1):∀{ys:List Nat},Dfs g ys S1 o1 S' o'→Dfs g (xs++ys) S o S' o':=by
 induction h with
 |nil S o=>exact fun h=>h
 |skip h1 h2 ih=>exact fun h=>.skip h1 (ih h)
 |go h1 h2 h3 ih1 ih2=>exact fun h=>.go h1 h2 (ih2 h)
theorem Dfs.one {x:Nat}(h1:S.getD x false=false)(h:Dfs g (g x) (S.set x true) o S1 o1):Dfs g [x] S o S1 (o1++[x]):=.go h1 h (.nil _ _)
theorem Dfs.len (h:Dfs g xs S o S' o'):S'.length=S.length:=by
 induction h with
 |nil=>rfl
 |skip _ _ ih=>exact ih
 |go _ _ _ ih1 ih2=>rw[ih2,ih1,J0]
theorem Ql5 (S:List Bool)(x y:Nat):(S.set x true).getD y false=(if y=x∧x<S.length then true else S.getD y false):=by
 simp only[Jd,List.getElem?_set];by_cases h:x=y
 ·subst h;by_cases h2:x<S.length
  ·simp[h2]
  ·simp[h2]
 ·have h':¬y=x:=fun hh=>h hh.symm;simp[h,h']
theorem Dfs.mono (h:Dfs g xs S o S' o'):∀x,S.getD x false=true→S'.getD x false=true:=by
 induction h with
 |nil=>exact fun _ h=>h
 |skip _ _ ih=>exact ih
 |go _ _ _ ih1 ih2=>
  intro x hx;refine ih2 x (ih1 x ?_);rw[Ql5];split
  ·rfl
  ·exact hx
def cnt (S:List Bool):Nat:=S.count true
theorem Qamm {x:Nat}(hx:x<S.length)(h:S.getD x false=false):cnt (S.set x true)=cnt S+1:=by
 induction S generalizing x with
 |nil=>simp at hx
 |cons a S ih=>
  cases x with
  |zero=>
   simp at h;subst h;simp[cnt]
  |succ x=>
   have:=ih (x:=x) (by simpa using hx) (by simpa using h);simp only[cnt,J4,List.count_cons]at this⊢;omega
theorem Qarl (S:List Bool):cnt S≤S.length:=List.count_le_length
theorem Dfs.count (h:Dfs g xs S o S' o'):(∀x,x<S.length→∀y∈g x,y<S.length)→(∀x∈xs,x<S.length)→o'.length+cnt S=o.length+cnt S':=by
 induction h with
 |nil=>intros;rfl
 |skip _ _ ih=>exact fun h1 h2=>ih h1 fun x hx=>h2 x (Jy _ hx)
 |@go x xs S S1 S' o o1 o' h1 h2 h3 ih1 ih2=>
  intro hg hxs;have hx:=hxs x Jae;have e1:=ih1 (by simpa using hg) (by simpa using hg x hx);have hl:=h2.len;rw[J0]at hl;have e2:=ih2 (by rw[hl];exact hg) (by rw[hl];exact fun y hy=>hxs y (Jy _ hy));rw[Qamm hx h1]at e1;simp only[J3,Ji,Jn]at e2;omega
theorem Dfs.olen (h:Dfs g xs S o S' o'):o.length≤o'.length:=by
 induction h with
 |nil=>exact Je _
 |skip _ _ ih=>exact ih
 |go _ _ _ ih1 ih2=>rw[J3]at ih2;omega
theorem Dfs.all (h:Dfs g xs S o S' o'):∀P:Nat→Prop,(∀x,P x→∀y∈g x,P y)→(∀x∈xs,P x)→(∀x∈o,P x)→∀x∈o',P x:=by
 induction h with
 |nil=>exact fun P _ _ h=>h
 |skip _ _ ih=>exact fun P h1 h2 h3=>ih P h1 (fun x hx=>h2 x (Jy _ hx)) h3
 |go h1 h2 h3 ih1 ih2=>
  intro P hg hxs ho;have hx:=hxs _ Jae;refine ih2 P hg (fun y hy=>hxs y (Jy _ hy)) fun y hy=>?_;rcases Jm.1 hy with hy|hy
  ·exact ih1 P hg (hg _ hx) ho y hy
  ·simp at hy;subst hy;exact hx
end Go.AE.Y
