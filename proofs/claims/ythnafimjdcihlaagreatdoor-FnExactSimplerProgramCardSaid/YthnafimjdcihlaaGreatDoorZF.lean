/- Part 6 of the proof: the engine, codes, walks and plain laws, each named where it stands. -/
import Derived.Test.YthnafimjdcihlaaGreatDoorZE
import Derived.Below
import Derived.OpenShut
import Derived.WideKeyElems2
open Nat (reduceEqDiff reduceAdd reduceLeDiff reduceLT)
set_option linter.unusedVariables false
set_option linter.unusedSimpArgs false
set_option maxRecDepth 4000
set_option maxHeartbeats 4000000
namespace Go.AE.Y
attribute [local go_sem] cond_true cond_false Bool.not_true Bool.not_false
open Go.Proofs.Tryz
variable {H H0 F:Heap}{K:V→Heap→Prop}{E B Lg:List (Nat×Obj)}{fns:List Fn}
theorem Qasm:∀(n:Nat) (x y:Ex) {H:Heap} {K:V→Heap→Prop},x.size≤n→(∀r,(r=true↔x=y)→K (.c (.bool r)) H)→Ql prog Qiy [.ag x.cells,.ag y.cells] H K:=by
 intro n
 induction n with
 |zero=>intro x y H K h;have:=x.size_pos;omega
 |succ n ih=>
 intro x y H K hn hK
 have hsz:=x.size_kids
 have no:¬x=y→K (.c (.bool false)) H:=fun h=>hK _ (fiff h)
 refine Qc Qah Qap0 ?_
 refine Qa ?_
 simp only[go_sem,x.cells_eq,y.cells_eq]
 refine Qu ?_
 by_cases eop:x.op=y.op
 rotate_left
 ·have dop:decide (x.op=y.op)=false:=decide_eq_false eop
  refine Qa ?_
  simp only[go_sem,Qh,dop]
  try intro _
  try intro _
  try intro _
  refine Qe (Qb rfl (fun _=>?_) (fun hc=>by simp at hc))
  refine Qa ?_
  simp only[go_sem]
  refine Qg ?_
  simp only[go_sem,X.next,Qq,Qz,Qat4,List.mem_singleton,forall_eq,RS.op]
  exact no (fun h=>eop (by rw[h]))
 have dop:decide (x.op=y.op)=true:=decide_eq_true eop
 by_cases en:x.n=y.n
 rotate_left
 ·have dn:decide (x.n=y.n)=false:=decide_eq_false en
  refine Qa ?_
  simp only[go_sem,Qh,dop,dn]
  try intro _
  try intro _
  try intro _
  refine Qe (Qb rfl (fun _=>?_) (fun hc=>by simp at hc))
  refine Qa ?_
  simp only[go_sem]
  refine Qg ?_
  simp only[go_sem,X.next,Qq,Qz,Qat4,List.mem_singleton,forall_eq,RS.op]
  exact no (fun h=>en (by rw[h]))
 have dn:decide (x.n=y.n)=true:=decide_eq_true en
 by_cases ename:x.name=y.name
 rotate_left
 ·have dname:decide (x.name=y.name)=false:=decide_eq_false ename
  refine Qa ?_
  simp only[go_sem,Qh,dop,dn,dname]
  try intro _
  try intro _
  try intro _
  refine Qe (Qb rfl (fun _=>?_) (fun hc=>by simp at hc))
  refine Qa ?_
  simp only[go_sem]
  refine Qg ?_
  simp only[go_sem,X.next,Qq,Qz,Qat4,List.mem_singleton,forall_eq,RS.op]
  exact no (fun h=>ename (by rw[h]))
 have dname:decide (x.name=y.name)=true:=decide_eq_true ename
 by_cases elen:x.kids.length=y.kids.length
 rotate_left
 ·have dlen:decide (((x.kids.length:Int)=(y.kids.length:Int)))=false:=decide_eq_false (fun h=>elen (by omega))
  refine Qa ?_
  simp only[go_sem,Qh,dop,dn,dname,dlen]
  try intro _
  try intro _
  try intro _
  refine Qe (Qb rfl (fun _=>?_) (fun hc=>by simp at hc))
  refine Qa ?_
  simp only[go_sem]
  refine Qg ?_
  simp only[go_sem,X.next,Qq,Qz,Qat4,List.mem_singleton,forall_eq,RS.op]
  exact no (fun h=>elen (by rw[h]))
 have dlen:decide (((x.kids.length:Int)=(y.kids.length:Int)))=true:=decide_eq_true (by omega)
 refine Qa ?_
 simp only[go_sem,Qh,dop,dn,dname,dlen]
 try intro _
 try intro _
 try intro _
 refine Qe (Qb rfl (fun h=>by simp at h) (fun _=>?_))
 refine Qd ?_
 try simp only[go_sem]
 refine Qu ?_
 refine Qa ?_
 simp only[go_sem]
 refine Qe (Qf (Qy (fun m e1 H1=>∃(i:Nat),m=x.kids.length-i∧i≤x.kids.length∧x.kids.take i=y.kids.take i∧H1=H∧e1=[(2,.c (.pp [.int .i64 x.op,.int .i64 x.n,.str x.name,.sl false 4 (Qm x.kids)])),(3,.c (.pp [.int .i64 y.op,.int .i64 y.n,.str y.name,.sl false 4 (Qm y.kids)])),(5,.c (.int .i64 i))]) x.kids.length ?_ ?_))
 ·exact⟨0,by omega,by omega,by simp,rfl,rfl⟩
 ·rintro m e1 H1 ⟨i,hm,hi,hpp,rfl,rfl⟩
  refine Qu ?_
  refine Qa ?_
  simp only[go_sem,Qh]
  intro hl
  simp only[LIM]at hl
  refine Qe (Qb rfl ?_ ?_)
  ·intro hc
   have hlt:i<x.kids.length:=by simpa using hc
   have hlt2:i<y.kids.length:=by omega
   have hms:=Qac (List.getElem_mem hlt)
   obtain⟨z,hz⟩:∃z,x.kids[i]=z:=⟨_,rfl⟩
   obtain⟨w,hw⟩:∃z,y.kids[i]=z:=⟨_,rfl⟩
   rw[hz]at hms
   refine Qd ?_
   try simp only[go_sem]
   refine Qe (Qf ?_)
   refine Qbg ?_
   simp only[go_sem,hlt,hlt2,Qh,Q6 _ _ hlt,Q6 _ _ hlt2,hz,hw,Ex.take4,Ex.allOw,Ex.cells_len]
   refine ih z w (by omega) fun rr hrr=>?_
   simp only[go_sem,Qst]
   refine Qb rfl (fun hc2=>?_) (fun hc2=>?_)
   ·have hne:¬x.kids[i]=y.kids[i]:=fun h=>(by rw[hz,hw]at h;rw[hrr.2 h]at hc2;simp at hc2)
    refine Qa ?_
    simp only[go_sem]
    refine Qg ?_
    simp only[go_sem,X.next,Qq,Qz,Qat4,List.mem_singleton,forall_eq,RS.op]
    exact no fun h=>Qapd hlt hlt2 hne (by rw[h])
   have hee:x.kids[i]=y.kids[i]:=by rw[hz,hw];exact hrr.1 (by simpa using hc2)
   refine Qd ?_
   simp only[go_sem,AE.X.next]
   refine Qp ?_
   simp only[go_sem,AE.X.next]
   exact⟨Qr (by omega) (by omega),x.kids.length-(i+1),by omega,i+1,rfl,by omega,Qr4 hpp hlt hlt2 hee,rfl⟩
  ·intro hc
   have hie:x.kids.length≤i:=by simpa using hc
   refine Qt ?_
   simp only[go_sem,AE.X.next]
   refine Qa ?_
   simp only[go_sem]
   refine Qg ?_
   simp only[go_sem,Qq,Qz,Qat4,List.mem_singleton,forall_eq,RS.op]
   exact hK _ (tiff (Ex.ext4 eop en ename (Q41 hpp hie elen)))
theorem Qa41 {f g:Bool}{ns ms:List (List UInt8)}(hK:∀r,(r=true↔ns=ms)→K (.c (.bool r)) H):Ql prog Q5f [.c (.sl f 1 (Q1 ns)),.c (.sl g 1 (Q1 ms))] H K:=by
 refine Qc Qah Qa9w ?_
 refine Qa ?_
 simp only[go_sem]
 refine Qu ?_
 refine Qa ?_
 simp only[go_sem,Qv]
 intro hl hl2
 try intro _
 simp only[LIM]at hl hl2
 refine Qe (Qb rfl (fun hc=>?_) (fun hc=>?_))
 ·have hne:¬ns.length=ms.length:=fun h=>by rw[h]at hc;simp at hc
  refine Qa ?_
  simp only[go_sem]
  refine Qg ?_
  simp only[go_sem,Qq,Qz,Qat4,List.mem_singleton,forall_eq,RS.op]
  exact hK _ (fiff (Qax7 hne))
 have hle:ns.length=ms.length:=(by have:(ns.length:Int)=ms.length:=(by simpa using hc);omega)
 refine Qd ?_
 try simp only[go_sem]
 refine Qu ?_
 refine Qa ?_
 simp only[go_sem,Qv]
 try intro _
 refine Qe (Qf (Qy (fun m e1 H1=>∃(i:Nat),m=ns.length-i∧i≤ns.length∧ns.take i=ms.take i∧H1=H∧e1=[(0,.c (.sl f 1 (Q1 ns))),(1,.c (.sl g 1 (Q1 ms))),(5,.c (.int .i64 i))]) ns.length ?_ ?_))
 ·exact⟨0,by omega,by omega,by simp,rfl,rfl⟩
 ·rintro m e1 H1 ⟨i,hm,hi,hp,rfl,rfl⟩
  refine Qu ?_
  refine Qa ?_
  simp only[go_sem,Qv]
  try intro _
  refine Qe (Qb rfl ?_ ?_)
  ·intro hc
   have hlt:i<ns.length:=by simpa using hc
   have hlt2:i<ms.length:=by omega
   refine Qd ?_
   try simp only[go_sem]
   refine Qe (Qf ?_)
   refine Qbg ?_
   simp only[go_sem,hlt,hlt2,Qv,Qbc _ _ hlt,Qbc _ _ hlt2]
   refine Qb rfl (fun hc2=>?_) (fun hc2=>?_)
   ·have hne:¬ns[i]=ms[i]:=by simpa[List.getElem?_eq_getElem hlt,List.getElem?_eq_getElem hlt2]using hc2
    refine Qa ?_
    simp only[go_sem]
    refine Qg ?_
    simp only[go_sem,X.next,Qq,Qz,Qat4,List.mem_singleton,forall_eq,RS.op]
    exact hK _ (fiff (Qapd hlt hlt2 hne))
   have hee:ns[i]=ms[i]:=by simpa[List.getElem?_eq_getElem hlt,List.getElem?_eq_getElem hlt2]using hc2
   refine Qd ?_
   try simp only[go_sem]
   refine Qp ?_
   simp only[go_sem,AE.X.next]
   exact⟨Qr (by omega) (by omega),ns.length-(i+1),by omega,i+1,rfl,by omega,Qr4 hp hlt hlt2 hee,rfl⟩
  ·intro hc
   have hie:ns.length≤i:=by simpa using hc
   refine Qt ?_
   simp only[go_sem,AE.X.next]
   refine Qa ?_
   simp only[go_sem]
   refine Qg ?_
   simp only[go_sem,Qq,Qz,Qat4,List.mem_singleton,forall_eq,RS.op]
   exact hK _ (tiff (Q41 hp hie hle))
theorem Qapj:∀(n:Nat) (l l':List St) {f g:Bool} {H:Heap} {K:V→Heap→Prop},Qj l≤n→(∀r,(r=true↔l=l')→K (.c (.bool r)) H)→Ql prog Qgf [.c (.sl f 5 (Qk l)),.c (.sl g 5 (Qk l'))] H K:=by
 intro n
 induction n using Nat.strongRecOn with
 |_ n ih=>
 intro l l' f g H K hn hK
 have no:¬l=l'→K (.c (.bool false)) H:=fun h=>hK _ (fiff h)
 refine Qc Qah Qatp ?_
 refine Qa ?_
 simp only[go_sem]
 refine Qu ?_
 refine Qa ?_
 simp only[go_sem,Qo]
 intro hl hl2
 try intro _
 simp only[LIM]at hl hl2
 refine Qe (Qb rfl (fun hc=>?_) (fun hc=>?_))
 ·have hne:¬l.length=l'.length:=fun h=>by rw[h]at hc;simp at hc
  refine Qa ?_
  simp only[go_sem]
  refine Qg ?_
  simp only[go_sem,X.next,Qq,Qz,Qat4,List.mem_singleton,forall_eq,RS.op]
  exact no (Qax7 hne)
 have hle:l.length=l'.length:=(by have:(l.length:Int)=l'.length:=(by simpa using hc);omega)
 refine Qd ?_
 try simp only[go_sem]
 refine Qu ?_
 refine Qa ?_
 simp only[go_sem]
 refine Qe (Qf (Qy (fun m e1 H1=>∃(i:Nat),m=l.length-i∧i≤l.length∧l.take i=l'.take i∧H1=H∧e1=[(0,.c (.sl f 5 (Qk l))),(1,.c (.sl g 5 (Qk l'))),(5,.c (.int .i64 i))]) l.length ?_ ?_))
 ·exact⟨0,by omega,by omega,by simp,rfl,rfl⟩
 ·rintro m e1 H1 ⟨i,hm,hi,hpp,rfl,rfl⟩
  refine Qu ?_
  refine Qa ?_
  simp only[go_sem,Qo]
  try intro _
  refine Qe (Qb rfl ?_ ?_)
  ·intro hc
   have hlt:i<l.length:=by simpa using hc
   have hlt2:i<l'.length:=by omega
   have hms:=Qak (List.getElem_mem hlt)
   obtain⟨x,hx⟩:∃x,l[i]=x:=⟨_,rfl⟩
   obtain⟨y,hy⟩:∃x,l'[i]=x:=⟨_,rfl⟩
   rw[hx]at hms
   have hse:=x.size_eq
   have no2:¬x=y→K (.c (.bool false)) H1:=fun h=>no (Qapd hlt hlt2 (by rw[hx,hy];exact h))
   refine Qd ?_
   try simp only[go_sem]
   refine Qe (Qf ?_)
   refine Qu ?_
   by_cases eop:x.op=y.op
   rotate_left
   ·have dop:decide (x.op=y.op)=false:=decide_eq_false eop
    refine Qbg ?_
    simp only[go_sem,hlt,hlt2,Qo,Q4 _ _ hlt,Q4 _ _ hlt2,hx,hy,x.cells_eq,y.cells_eq,Qh,dop]
    try intro _
    try intro _
    try intro _
    refine Qe (Qb rfl (fun _=>?_) (fun hc=>by simp at hc))
    refine Qa ?_
    simp only[go_sem]
    refine Qg ?_
    simp only[go_sem,X.next,Qq,Qz,Qat4,List.mem_singleton,forall_eq,RS.op]
    exact no2 (fun h=>eop (by rw[h]))
   have dop:decide (x.op=y.op)=true:=decide_eq_true eop
   by_cases ename:x.name=y.name
   rotate_left
   ·have dname:decide (x.name=y.name)=false:=decide_eq_false ename
    refine Qbg ?_
    simp only[go_sem,hlt,hlt2,Qo,Q4 _ _ hlt,Q4 _ _ hlt2,hx,hy,x.cells_eq,y.cells_eq,Qh,dop,dname]
    try intro _
    try intro _
    try intro _
    refine Qe (Qb rfl (fun _=>?_) (fun hc=>by simp at hc))
    refine Qa ?_
    simp only[go_sem]
    refine Qg ?_
    simp only[go_sem,X.next,Qq,Qz,Qat4,List.mem_singleton,forall_eq,RS.op]
    exact no2 (fun h=>ename (by rw[h]))
   have dname:decide (x.name=y.name)=true:=decide_eq_true ename
   by_cases elen:x.args.length=y.args.length
   rotate_left
   ·have dlen:decide (((x.args.length:Int)=(y.args.length:Int)))=false:=decide_eq_false (fun h=>elen (by omega))
    refine Qbg ?_
    simp only[go_sem,hlt,hlt2,Qo,Q4 _ _ hlt,Q4 _ _ hlt2,hx,hy,x.cells_eq,y.cells_eq,Qh,dop,dname,dlen]
    try intro _
    try intro _
    try intro _
    refine Qe (Qb rfl (fun _=>?_) (fun hc=>by simp at hc))
    refine Qa ?_
    simp only[go_sem]
    refine Qg ?_
    simp only[go_sem,X.next,Qq,Qz,Qat4,List.mem_singleton,forall_eq,RS.op]
    exact no2 (fun h=>elen (by rw[h]))
   have dlen:decide (((x.args.length:Int)=(y.args.length:Int)))=true:=decide_eq_true (by omega)
   refine Qbg ?_
   simp only[go_sem,hlt,hlt2,Qo,Q4 _ _ hlt,Q4 _ _ hlt2,hx,hy,x.cells_eq,y.cells_eq,Qh,dop,dname,dlen]
   try intro _
   try intro _
   try intro _
   refine Qe (Qb rfl (fun h=>by simp at h) (fun _=>?_))
   refine Qd ?_
   try simp only[go_sem]
   refine Qu ?_
   refine Qa ?_
   simp only[go_sem]
   refine Qe (Qf (Qy (fun m2 e2 H2=>∃(j:Nat),m2=x.args.length-j∧j≤x.args.length∧x.args.take j=y.args.take j∧H2=H1∧e2=[(0,.c (.sl f 5 (Qk l))),(1,.c (.sl g 5 (Qk l'))),(5,.c (.int .i64 i)),(6,.c (.int .i64 j))]) x.args.length ?_ ?_))
   ·exact⟨0,by omega,by omega,by simp,rfl,rfl⟩
   ·rintro m2 e2 H2 ⟨j,hm2,hj,hpp2,rfl,rfl⟩
    refine Qu ?_
    refine Qa ?_
    simp only[go_sem,hlt,hlt2,Qo,Q4 _ _ hlt,Q4 _ _ hlt2,hx,hy,x.cells_eq,y.cells_eq,Qh]
    intro hl3
    simp only[LIM]at hl3
    refine Qe (Qb rfl ?_ ?_)
    ·intro hc2
     have jlt:j<x.args.length:=by simpa using hc2
     have jlt2:j<y.args.length:=by omega
     obtain⟨z,hz⟩:∃y,x.args[j]=y:=⟨_,rfl⟩
     obtain⟨w,hw⟩:∃z,y.args[j]=z:=⟨_,rfl⟩
     refine Qd ?_
     try simp only[go_sem]
     refine Qe (Qf ?_)
     refine Qbg ?_
     simp only[go_sem,hlt,hlt2,Qo,Q4 _ _ hlt,Q4 _ _ hlt2,hx,hy,x.cells_eq,y.cells_eq,jlt,jlt2,Qh,Q6 _ _ jlt,Q6 _ _ jlt2,hz,hw,Ex.take4,Ex.allOw,Ex.cells_len]
     refine Qasm z.size z w (Nat.le_refl _) fun rr hrr=>?_
     simp only[go_sem,Qvi]
     refine Qb rfl (fun hc3=>?_) (fun hc3=>?_)
     ·have hne:¬x.args[j]=y.args[j]:=fun h=>(by rw[hz,hw]at h;rw[hrr.2 h]at hc3;simp at hc3)
      refine Qa ?_
      simp only[go_sem]
      refine Qg ?_
      simp only[go_sem,X.next,Qq,Qz,Qat4,List.mem_singleton,forall_eq,RS.op]
      exact no2 fun h=>Qapd jlt jlt2 hne (by rw[h])
     have hee:x.args[j]=y.args[j]:=by rw[hz,hw];exact hrr.1 (by simpa using hc3)
     refine Qd ?_
     simp only[go_sem,AE.X.next]
     refine Qp ?_
     simp only[go_sem,AE.X.next]
     exact⟨Qr (by omega) (by omega),x.args.length-(j+1),by omega,j+1,rfl,by omega,Qr4 hpp2 jlt jlt2 hee,rfl⟩
    ·intro hc2
     have hje:x.args.length≤j:=by simpa using hc2
     have eargs:=Q41 hpp2 hje elen
     refine Qt ?_
     simp only[go_sem,AE.X.next]
     refine Qbg ?_
     simp only[go_sem,hlt,hlt2,Qo,Q4 _ _ hlt,Q4 _ _ hlt2,hx,hy,x.cells_eq,y.cells_eq]
     refine ih (Qj x.body) (by omega) x.body y.body (Nat.le_refl _) fun r1 h1=>?_
     cases r1 with
     |false=>
      simp only[go_sem,Qm1,Qm0]
      refine Qb rfl (fun _=>?_) (fun hc=>by simp at hc)
      refine Qa ?_
      simp only[go_sem]
      refine Qg ?_
      simp only[go_sem,X.next,Qq,Qz,Qat4,List.mem_singleton,forall_eq,RS.op]
      exact no2 fun h=>by simpa using h1.2 (by rw[h])
     |true=>
      simp only[go_sem,Qm1,hlt,hlt2,Qo,Q4 _ _ hlt,Q4 _ _ hlt2,hx,hy,x.cells_eq,y.cells_eq]
      refine ih (Qj x.els) (by omega) x.els y.els (Nat.le_refl _) fun r2 h2=>?_
      simp only[go_sem,Qm0]
      refine Qb rfl (fun hc3=>?_) (fun hc3=>?_)
      ·have hne:¬x.els=y.els:=fun h=>(by rw[h2.2 h]at hc3;simp at hc3)
       refine Qa ?_
       simp only[go_sem]
       refine Qg ?_
       simp only[go_sem,X.next,Qq,Qz,Qat4,List.mem_singleton,forall_eq,RS.op]
       exact no2 fun h=>hne (by rw[h])
      have hee:l[i]=l'[i]:=by
       rw[hx,hy];exact St.ext5 eop ename eargs (h1.1 rfl) (h2.1 (by simpa using hc3))
      refine Qd ?_
      simp only[go_sem,AE.X.next]
      refine Qp ?_
      simp only[go_sem,AE.X.next]
      exact⟨Qr (by omega) (by omega),l.length-(i+1),by omega,i+1,rfl,by omega,Qr4 hpp hlt hlt2 hee,rfl⟩
  ·intro hc
   have hie:l.length≤i:=by simpa using hc
   refine Qt ?_
   simp only[go_sem,AE.X.next]
   refine Qa ?_
   simp only[go_sem]
   refine Qg ?_
   simp only[go_sem,Qq,Qz,Qat4,List.mem_singleton,forall_eq,RS.op]
   exact hK _ (tiff (Q41 hpp hie hle))
theorem Q8f {f g:Bool}{gns:List Fn}(hK:∀r,(r=true↔fns=gns)→K (.c (.bool r)) H):Ql prog Qgq [.ag [.sl f 3 (Qn fns)],.ag [.sl g 3 (Qn gns)]] H K:=by
 have no:¬fns=gns→K (.c (.bool false)) H:=fun h=>hK _ (fiff h)
 refine Qc Qah Q53 ?_
 refine Qa ?_
 simp only[go_sem]
 refine Qu ?_
 refine Qa ?_
 simp only[go_sem,Qw]
 intro hl hl2
 try intro _
 simp only[LIM]at hl hl2
 refine Qe (Qb rfl (fun hc=>?_) (fun hc=>?_))
 ·have hne:¬fns.length=gns.length:=fun h=>by rw[h]at hc;simp at hc
  refine Qa ?_
  simp only[go_sem]
  refine Qg ?_
  simp only[go_sem,X.next,Qq,Qz,Qat4,List.mem_singleton,forall_eq,RS.op]
  exact no (Qax7 hne)
 have hle:fns.length=gns.length:=(by have:(fns.length:Int)=gns.length:=(by simpa using hc);omega)
 refine Qd ?_
 try simp only[go_sem]
 refine Qu ?_
 refine Qa ?_
 simp only[go_sem]
 refine Qe (Qf (Qy (fun m e1 H1=>∃(i:Nat),m=fns.length-i∧i≤fns.length∧fns.take i=gns.take i∧H1=H∧e1=[(2,.c (.pp [.sl f 3 (Qn fns)])),(3,.c (.pp [.sl g 3 (Qn gns)])),(5,.c (.int .i64 i))]) fns.length ?_ ?_))
 ·exact⟨0,by omega,by omega,by simp,rfl,rfl⟩
 ·rintro m e1 H1 ⟨i,hm,hi,hpp,rfl,rfl⟩
  refine Qu ?_
  refine Qa ?_
  simp only[go_sem,Qw]
  try intro _
  refine Qe (Qb rfl ?_ ?_)
  ·intro hc
   have hlt:i<fns.length:=by simpa using hc
   have hlt2:i<gns.length:=by omega
   obtain⟨x,hx⟩:∃x,fns[i]=x:=⟨_,rfl⟩
   obtain⟨y,hy⟩:∃x,gns[i]=x:=⟨_,rfl⟩
   have no2:¬x=y→K (.c (.bool false)) H1:=fun h=>no (Qapd hlt hlt2 (by rw[hx,hy];exact h))
   refine Qd ?_
   try simp only[go_sem]
   refine Qe (Qf ?_)
   by_cases ename:x.name=y.name
   rotate_left
   ·have dname:decide (x.name=y.name)=false:=decide_eq_false ename
    refine Qbg ?_
    simp only[go_sem,hlt,hlt2,Qw,Qal _ _ hlt,Qal _ _ hlt2,hx,hy,Fn.cells,dname,Qce,Qcd]
    refine Qb rfl (fun _=>?_) (fun hc=>by simp at hc)
    refine Qa ?_
    simp only[go_sem]
    refine Qg ?_
    simp only[go_sem,X.next,Qq,Qz,Qat4,List.mem_singleton,forall_eq,RS.op]
    exact no2 fun h=>ename (by rw[h])
   have dname:decide (x.name=y.name)=true:=decide_eq_true ename
   refine Qbg ?_
   simp only[go_sem,hlt,hlt2,Qw,Qal _ _ hlt,Qal _ _ hlt2,hx,hy,Fn.cells,dname]
   refine Qa41 fun r1 h1=>?_
   cases r1 with
   |false=>
    simp only[go_sem,Qce,Qcd]
    refine Qb rfl (fun _=>?_) (fun hc=>by simp at hc)
    refine Qa ?_
    simp only[go_sem]
    refine Qg ?_
    simp only[go_sem,X.next,Qq,Qz,Qat4,List.mem_singleton,forall_eq,RS.op]
    exact no2 fun h=>by simpa using h1.2 (by rw[h])
   |true=>
    simp only[go_sem,Qce,hlt,hlt2,Qw,Qal _ _ hlt,Qal _ _ hlt2,hx,hy,Fn.cells]
    refine Qapj (Qj x.body) x.body y.body (Nat.le_refl _) fun r2 h2=>?_
    simp only[go_sem,Qcd]
    refine Qb rfl (fun hc3=>?_) (fun hc3=>?_)
    ·have hne:¬x.body=y.body:=fun h=>(by rw[h2.2 h]at hc3;simp at hc3)
     refine Qa ?_
     simp only[go_sem]
     refine Qg ?_
     simp only[go_sem,X.next,Qq,Qz,Qat4,List.mem_singleton,forall_eq,RS.op]
     exact no2 fun h=>hne (by rw[h])
    have hee:fns[i]=gns[i]:=by
     rw[hx,hy];exact Fn.ext3 ename (h1.1 rfl) (h2.1 (by simpa using hc3))
    refine Qd ?_
    simp only[go_sem,AE.X.next]
    refine Qp ?_
    simp only[go_sem,AE.X.next]
    exact⟨Qr (by omega) (by omega),fns.length-(i+1),by omega,i+1,rfl,by omega,Qr4 hpp hlt hlt2 hee,rfl⟩
  ·intro hc
   have hie:fns.length≤i:=by simpa using hc
   refine Qt ?_
   simp only[go_sem,AE.X.next]
   refine Qa ?_
   simp only[go_sem]
   refine Qg ?_
   simp only[go_sem,Qq,Qz,Qat4,List.mem_singleton,forall_eq,RS.op]
   exact hK _ (tiff (Q41 hpp hie hle))
end Go.AE.Y

namespace Go.AE
variable {P:Program}{H H':Heap}
theorem FrzO.vecF {S:Nat→Bool}{sz:Nat}{rows rows':List (List C)}(h:Y.FrzR H S rows rows')(hn:∀r∈rows,noOw r=true):FrzO H S (.vec sz rows) (.vec sz rows'):=by
 have hp:∀(i:Nat) (r r':List C),rows[i]? = some r→rows'[i]? = some r'→FrzL H S r r':=by
  induction h with
  |nil=>intro i r r' h1;simp at h1
  |cons h1 h2 ih=>
   intro i r r' g1 g2
   cases i with
   |zero=>cases g1;cases g2;exact h1
   |succ i=>exact ih (fun r hr=>hn r (List.mem_cons_of_mem _ hr)) i r r' g1 g2
 have hl:rows'.length=rows.length:=by
  clear hp hn
  induction h with
  |nil=>rfl
  |cons h1 h2 ih=>simp[ih]
 refine .vec sz rows rows' hl (fun i r r' h1 h2=>(hp i r r' h1 h2).spec.1) fun i r r' j c c' h1 h2 h3 h4=>.inr ⟨?_,?_⟩
 ·have:=List.all_eq_true.1 (hn r (List.mem_of_getElem? h1)) c (List.mem_of_getElem? h3)
  simpa using this
 ·exact (hp i r r' h1 h2).spec.2 j c c' h3 h4
theorem Qa4d {f:Nat}{args:List V}{K:V→Heap→Prop}(h:Ql P f args H (fun x H'=>(∀v,x≠.pn v)∧∃S x' H2,FrzV H' S x x'∧FrzH H' S H2∧K x' H2)):Ql P f args H K:=by
 refine⟨h.1,fun g w vs hs hl hv=>?_⟩
 refine Calls.mono (h.2 g w vs hs hl hv) ?_
 rintro e w' (⟨v,x,H',g',he,⟨_,S,x',H2,hf,hh,hk⟩,hst,hr⟩|⟨v,H',g',he,⟨hn,_⟩,_⟩)
 ·exact .inl ⟨v,x',H2,g'.frz H' S,he,hk,hst.trans (Qaso hst.sat hh),Qxk hst.sat hf v hr⟩
 ·exact absurd rfl (hn v)
end Go.AE

namespace Go.AE.Y
attribute [local go_sem] cond_true cond_false Bool.not_true Bool.not_false
open Go.Proofs.Tryz
variable {H H' H0:Heap}{K:V→Heap→Prop}{fns:List Fn}
theorem Qa9f {l:List Fn}{c:C}(how:c.isOw=false)(hs:Slc H 3 (Qn l) c)(hb:Qs l≤2^38)(hp:∀f∈l,f.params.length≤2^38)
  (hK:∀Lz t H',Gr Lz 3 (Qn l) t→t.isOw=false→Kn H H' [] Lz→K (.ag [t]) H'):Ql prog Q22 [.ag [c]] H K:=by
 refine Qa4d (Qa9g how hs hb hp fun us t Lz H' hux hu hz hto kn=>?_)
 refine⟨by simp,?_⟩
 rcases hz with ⟨rfl,hrows,rfl⟩|⟨y,rfl,rfl⟩
 ·have hus:us=[]:=List.map_eq_nil_iff.1 hrows
  subst hus
  simp only[List.map_nil]at hux
  subst hux
  exact⟨fun _=>false,.ag [.sl true 3 []],H',(FrzL.cons (Qi rfl) .nil).ag,fun m=>.inr ⟨rfl,.same _⟩,hK [] _ H' (.nil 3) rfl (by simpa using kn)⟩
 ·have kn2:Kn H H' [] ([(y,.vec 3 (us.map OFn.row))]++us.flatMap OFn.lg):=kn.perm List.perm_append_comm
  have hy:H' y=.vec 3 (us.map OFn.row):=(kn2.get (y,.vec 3 (us.map OFn.row)) (by simp)).1
  have hS:∀p∈us.flatMap OFn.lg,H' p.1=p.2∧(fun m=>((us.flatMap OFn.lg).map Prod.fst).contains m) p.1=true:=fun p hp=>⟨(kn2.get p (by simp[hp])).1,Qa8u hp⟩
  have hrows:FrzR H' (fun m=>((us.flatMap OFn.lg).map Prod.fst).contains m) (us.map OFn.row) (Qn l):=by
   rw[←hux]
   exact Qaxw us fun o hoo=>OFn.frz (hu o hoo) fun p hp=>hS p (List.mem_flatMap.2 ⟨o,hoo,hp⟩)
  have hno:∀r∈us.map OFn.row,Go.AE.noOw r=true:=fun r hr=>by
   obtain⟨o,ho,rfl⟩:=List.mem_map.1 hr
   exact OFn.noOw (hu o ho)
  have hout:=kn2.frzS_out (p:=(y,.vec 3 (us.map OFn.row))) (by simp)
  have hl:(us.map OFn.row).length=(Qn l).length:=by rw[←hux];simp[Qn]
  rw[hl]
  refine⟨_,.ag [.vsl y 3 0 (Qn l).length],_,(FrzL.cons (.same _ rfl) .nil).ag,(Qapb H' _).set (o:=.vec 3 (Qn l)) hout (by rw[hy];exact .vecF hrows hno),?_⟩
  refine hK [(y,.vec 3 (Qn l))] _ _ (.mk y 3 _ rfl) rfl ?_
  exact kn2.frzN.setL (o':=.vec 3 (Qn l)) 0 rfl (by simp)
def cfF (b:Bool)(f:Fn):Fn:=if b then f.cutF else f.foldF
theorem Qa70 (b:Bool)(f:Fn):(cfF b f).name=f.name∧(cfF b f).params=f.params:=by cases b <;> exact⟨rfl,rfl⟩
theorem Qa3i {b fl:Bool}(hb:Qs fns≤2^38)(hp:∀f∈fns,f.params.length≤2^38)(hf:∀f∈fns,Q2 f.body 4=true)(hK:∀H',Upd H H' []→K (.ag [.sl false 3 (Qn (fns.map (cfF b)))]) H') :
  Ql prog Qi2 [.ag [.sl fl 3 (Qn fns)],.c (.bool b)] H K:=by
 refine Qab ?_
 refine Qc Qah Qbes ?_
 refine Qa ?_
 simp only[go_sem]
 intro x4 hx4 H1 h1
 have kn:=(Kn.start0 H).al hx4 h1
 refine Qa ?_
 simp only[go_sem]
 refine Qa9f rfl (.mk' _ fl 3 _) hb hp fun Lz t H2 hz hto k2=>?_
 have kn:=kn.comp0 k2
 simp only[go_sem,Qah9,hto]
 intro x5 hx5 H3 h3
 have kn:=(kn.al hx5 h3).swap
 have g5:=kn.l 1 rfl
 simp only[go_sem,Qah8,g5,hto]
 intro H4 h4
 have kn:Kn H H4 [] ([(x4,.st [.sl true 3 []]),(x5,.st [t])]++Lz):=kn.stL 1 rfl h4
 refine Qu ?_
 refine Qa ?_
 simp only[go_sem]
 refine Qe (Qf (Qy (fun m e1 H1=>∃(i:Nat) (Lz:List (Nat×Obj)) (t:C),m=fns.length-i∧i≤fns.length∧Gr Lz 3 (Qn ((fns.take i).map (cfF b)++fns.drop i)) t∧
  Kn H H1 [] ([(x4,.st [.sl true 3 []]),(x5,.st [t])]++Lz)∧e1=[(1,.c (.bool b)),(4,.c (.ptr x4 0)),(5,.c (.ptr x5 0)),(6,.c (.int .i64 i))]) fns.length ?_ ?_))
 ·exact⟨0,Lz,t,by omega,by omega,by simpa using hz,kn,rfl⟩
 ·clear kn g5 h4 h3 h1 hz hto k2
  rintro m e1 H1 ⟨i,Lz,t,hm,hi,hz,kn,rfl⟩
  have hto:=hz.isOw
  have g5:=kn.l 1 rfl
  have hrl:(Qn ((fns.take i).map (cfF b)++fns.drop i)).length=fns.length:=by simp[Qn];omega
  have hlen:lenC t=fns.length:=by rw[hz.lenC,hrl]
  have hok:=eq_true (hz.slc kn).ok
  refine Qu ?_
  refine Qa ?_
  simp only[go_sem,g5,hto,hok,hlen]
  intro hl
  simp only[LIM]at hl
  refine Qe (Qb rfl ?_ ?_)
  ·intro hc
   have hlt:i<fns.length:=by simpa using hc
   obtain⟨f,hfi⟩:∃f,fns[i]=f:=⟨_,rfl⟩
   have hfm:f∈fns:=by rw[←hfi];exact List.getElem_mem hlt
   have hdr:fns.drop i=f::fns.drop (i+1):=by rw[←hfi];exact (List.getElem_cons_drop hlt).symm
   have hbs:=Qco hfm
   obtain⟨R,hR⟩:∃R,Qn ((fns.take i).map (cfF b)++fns.drop i)=R:=⟨_,rfl⟩
   have hgi:R.getD i []=[.str f.name,.sl false 1 (Q1 f.params),.sl false 5 (Qk f.body)]:=by
    rw[←hR,hdr]
    simp only[Qn,List.map_append,List.map_cons]
    rw[List.getD_eq_getElem?_getD,List.getElem?_append_right (by simp;omega)]
    simp[Nat.min_eq_left (Nat.le_of_lt hlt)]
    rfl
   have hst:R.set i [.str f.name,.sl false 1 (Q1 f.params),.sl false 5 (Qk (cfF b f).body)]=Qn ((fns.take (i+1)).map (cfF b)++fns.drop (i+1)):=by
    rw[←hR,hdr,List.take_succ_eq_append_getElem hlt,hfi]
    simp only[Qn,List.map_append,List.map_cons,List.map_nil,List.append_assoc,List.cons_append,List.nil_append]
    rw[List.set_append_right _ _ (by simp;omega)]
    simp[Nat.min_eq_left (Nat.le_of_lt hlt)]
    rw[Fn.cells,(Qa70 b f).1,(Qa70 b f).2]
   rw[hR]at hz hrl
   rcases hz with ⟨_,hrn,_⟩|⟨y,rfl,rfl⟩
   ·rw[hrn]at hrl;simp at hrl;omega
   have gy:=kn.l 2 rfl
   have htk:R.take fns.length=R:=List.take_of_length_le (by omega)
   refine Qd ?_
   try simp only[go_sem]
   refine Qe (Qf ?_)
   refine Qa ?_
   simp only[go_sem]
   have hfb:=hf f hfm
   have hst':=hst
   cases b
   ·refine Qb rfl (fun h=>by simp[lk]at h) (fun _=>?_)
    simp only[cfF,Bool.false_eq_true,if_false,Fn.foldF]at hst
    refine Qaeg ?_
    simp only[go_sem,g5,gy,hrl,hlt,hgi,htk,Nat.zero_add,Nat.le_refl]
    refine Qa9i (Qj f.body) f.body (Nat.le_refl _) hfb fun H6 hu=>?_
    have kn:=kn.call0 hu
    have gy:=kn.l 2 rfl
    have g5:=kn.l 1 rfl
    simp only[go_sem,Qaib,g5,gy,hrl,hlt,hgi,htk,Nat.zero_add,Nat.le_refl]
    intro H7 h7
    rw[hst]at h7
    have kn:=kn.stL 2 rfl h7
    refine Qp ?_
    simp only[go_sem,AE.X.next]
    refine⟨Qr (by omega) (by omega),fns.length-(i+1),by omega,i+1,[(y,.vec 3 (Qn ((fns.take (i+1)).map (cfF false)++fns.drop (i+1))))],.vsl y 3 0 R.length,rfl,by omega,?_,kn,rfl⟩
    exact Gr.mk (n:=R.length) y 3 _ (by rw[hrl];simp[Qn];omega)
   ·refine Qb rfl (fun _=>?_) (fun h=>by simp[lk]at h)
    simp only[cfF,if_true,Fn.cutF]at hst
    refine Qaeg ?_
    simp only[go_sem,g5,gy,hrl,hlt,hgi,htk,Nat.zero_add,Nat.le_refl]
    refine Qbee (Qj f.body) f.body (Nat.le_refl _) hfb fun H6 hu=>?_
    have kn:=kn.call0 hu
    have gy:=kn.l 2 rfl
    have g5:=kn.l 1 rfl
    simp only[go_sem,Qaia,g5,gy,hrl,hlt,hgi,htk,Nat.zero_add,Nat.le_refl]
    intro H7 h7
    rw[hst]at h7
    have kn:=kn.stL 2 rfl h7
    refine Qp ?_
    simp only[go_sem,AE.X.next]
    refine⟨Qr (by omega) (by omega),fns.length-(i+1),by omega,i+1,[(y,.vec 3 (Qn ((fns.take (i+1)).map (cfF true)++fns.drop (i+1))))],.vsl y 3 0 R.length,rfl,by omega,?_,kn,rfl⟩
    exact Gr.mk (n:=R.length) y 3 _ (by rw[hrl];simp[Qn];omega)
  ·intro hc
   have hge:fns.length≤i:=by simpa using hc
   rw[List.take_of_length_le hge,List.drop_eq_nil_of_le hge,List.append_nil]at hz
   have g4:=kn.l 0 rfl
   refine Qt ?_
   simp only[go_sem,AE.X.next]
   refine Qa ?_
   simp only[go_sem,g4,g5,hto]
   intro H3 h3
   have kn:Kn H H3 [] ([(x4,.st [t]),(x5,.st [t])]++Lz):=kn.stL 0 rfl h3
   have g4:=kn.l 0 rfl
   refine Qg ?_
   simp only[go_sem,Qq,Qz,Qa3x,List.mem_singleton,forall_eq,RS.op,g4,hto]
   exact⟨_,(FrzL.cons (hz.frz kn (Qor _)) .nil).ag,hK _ kn.fin⟩
theorem Qbev (l:List Fn):l.map (cfF false)=foldA l:=rfl
theorem Qbie (l:List Fn):l.map (cfF true)=cutA l:=rfl
theorem FineP.par (h:FineP fns):∀f∈fns,f.params.length≤2^38:=fun f hf=>(Qxc h f hf).2
theorem Qbdh (h:FineP fns):Qs (foldA fns)≤Qs fns:=by
 have h1:=Q3f (F:=Fn.foldF) (fun f=>⟨rfl,rfl⟩) fns fun f hf=>Qef _ _ (h.bodies f hf)
 rcases h1 with h1|h1
 ·rw[show foldA fns=fns from h1];exact Nat.le_refl _
 ·exact Nat.le_of_lt h1
def simP (fns:List Fn):List Fn:=if Qz3 fns then simX fns else []
theorem Qa3h {fl:Bool}(h:FineP fns)(hb:Qs fns≤2^38)(hK:∀H',Upd H H' []→K (.ag [.sl false 3 (Qn (foldA fns))]) H'):Ql prog Qi2 [.ag [.sl fl 3 (Qn fns)],.c (.bool false)] H K:=
 Qa3i hb h.par h.bodies fun H' hu=>by rw[Qbev];exact hK _ hu
theorem Qate {fl:Bool}(h:FineP fns)(hb:Qs fns≤2^38)(hK:∀H',Upd H H' []→K (.ag [.sl false 3 (Qn (Q4v fns))]) H'):Ql prog Qi2 [.ag [.sl fl 3 (Qn (foldA fns))],.c (.bool true)] H K:=
 Qa3i (Nat.le_trans (Qbdh h) hb) (Qxj h).par (Qxj h).bodies fun H' hu=>by rw[Qbie];exact hK _ hu
theorem Qa2q {fl:Bool}(hsz:Qs fns≤2^36)(hK:∀H',Upd H H' []→K (.tup [.ag [.sl false 3 (Qn (simP fns))],.c (.bool (Qz3 fns))]) H') :
  Ql prog Qez [.ag [.sl fl 3 (Qn fns)]] H K:=by
 refine Qab ?_
 refine Qc Qah Q0c ?_
 refine Qa ?_
 simp only[go_sem]
 intro x1 hx1 H1 h1
 have kn:=(Kn.start0 H).al hx1 h1
 simp only[go_sem,Qhw]
 intro x2 hx2 H2 h2
 have kn:=kn.al hx2 h2
 have g1:=kn.l 0 rfl
 simp only[go_sem,Qhv]
 refine Qu ?_
 refine Qa ?_
 simp only[go_sem,g1]
 refine Qbfq hsz fun H3 hu=>?_
 have kn:=kn.call0 hu
 have g1:=kn.l 0 rfl
 have g2:=kn.l 1 rfl
 simp only[go_sem,Qhx]
 refine Qe (Qb rfl ?_ ?_)
 ·intro hc
  have hb:Qz3 fns=false:=by simpa using hc
  simp only[simP,hb]at hK
  refine Qa ?_
  simp only[go_sem,g2]
  intro H3 h3
  have kn:=kn.stL 1 rfl h3
  have g2:=kn.l 1 rfl
  simp only[go_sem,Qhy]
  refine Qg ?_
  simp only[go_sem,AE.X.next,Qq,Qz,Qfh,List.forall_mem_cons,List.not_mem_nil,RS.op,g2]
  exact⟨fun _=>trivial,_,Qa36 (rows:=[]) (by simp) _,hK _ kn.fin⟩
 intro hc
 have hb:Qz3 fns=true:=by simpa using hc
 have hg:=fine_iff.1 hb
 simp only[simP,hb,if_true]at hK
 refine Qd ?_
 try simp only[go_sem]
 refine Qa ?_
 simp only[go_sem,g1]
 refine Qa3h hg (by omega) fun H4 hu=>?_
 have kn:=kn.call0 hu
 simp only[go_sem,Qh1]
 refine Qate hg (by omega) fun H4 hu=>?_
 have kn:=kn.call0 hu
 simp only[go_sem,Qh0]
 intro x4 hx4 H4 h4
 have kn:=kn.al hx4 h4
 have g4:=kn.l 2 rfl
 simp only[go_sem,Qhz,g4]
 intro H5 h5
 have kn:Kn H H5 [] [(x1,.st [.sl fl 3 (Qn fns)]),(x2,.st [.sl true 3 []]),(x4,.st [.sl false 3 (Qn (Q4v fns))])]:=kn.stL 2 rfl h5
 refine Qe (Qf (Qy (fun m e1 H1=>∃(now:List Fn) (f2:Bool),m=Qs now∧FineP now∧Qs now≤Qs fns∧simX now=simX fns∧
  Kn H H1 [] [(x1,.st [.sl f2 3 (Qn now)]),(x2,.st [.sl true 3 []]),(x4,.st [.sl false 3 (Qn (Q4v now))])]∧e1=[(1,.c (.ptr x1 0)),(2,.c (.ptr x2 0)),(4,.c (.ptr x4 0))]) (Qs fns) ?_ ?_))
 ·exact⟨fns,fl,rfl,hg,Nat.le_refl _,rfl,kn,rfl⟩
 ·clear kn g1 g2 g4
  rintro m e1 H1 ⟨now,f2,rfl,hn,hns,hnx,kn,rfl⟩
  have g1:=kn.l 0 rfl
  have g2:=kn.l 1 rfl
  have g4:=kn.l 2 rfl
  refine Qu ?_
  refine Qa ?_
  simp only[go_sem,g1,g4]
  refine Q8f fun r hr=>?_
  simp only[go_sem,Qh2]
  refine Qe (Qb rfl ?_ ?_)
  ·intro hc
   have hr0:r=false:=by simpa using hc
   have he:¬Q4v now=now:=fun h=>by rw[hr.2 h]at hr0;simp at hr0
   have hlt:=(Qwy hn).resolve_left he
   have hsf:=Qwx hn
   refine Qd ?_
   try simp only[go_sem]
   refine Qf ?_
   refine Qa ?_
   simp only[go_sem,g1,g4]
   intro H6 h6
   have kn:Kn H H6 [] [(x1,.st [.sl false 3 (Qn (Q4v now))]),(x2,.st [.sl true 3 []]),(x4,.st [.sl false 3 (Qn (Q4v now))])]:=kn.stL 0 rfl h6
   have g1:=kn.l 0 rfl
   refine Qp ?_
   simp only[go_sem,g1]
   refine Qa3h hsf (by omega) fun H7 hu=>?_
   have kn:=kn.call0 hu
   simp only[go_sem,Qg7]
   refine Qate hsf (by omega) fun H7 hu=>?_
   have kn:=kn.call0 hu
   have g4:=kn.l 2 rfl
   simp only[go_sem,Qh3,g4]
   intro H8 h8
   have kn:Kn H H8 [] [(x1,.st [.sl false 3 (Qn (Q4v now))]),(x2,.st [.sl true 3 []]),(x4,.st [.sl false 3 (Qn (Q4v (Q4v now)))])]:=kn.stL 2 rfl h8
   try simp only[AE.X.next]
   exact⟨Qs (Q4v now),hlt,Q4v now,false,rfl,hsf,by omega,by rw[Qaw3 hn,hnx],kn,trivial⟩
  ·intro hc
   have hr1:r=true:=by simpa using hc
   have he:Q4v now=now:=hr.1 hr1
   have hx:simX fns=now:=by rw[←hnx];exact Qrv he _
   refine Qt ?_
   simp only[go_sem,AE.X.next]
   refine Qa ?_
   simp only[go_sem,g4,g2]
   intro H6 h6
   have kn:=kn.stL 1 rfl h6
   have g2:=kn.l 1 rfl
   simp only[go_sem,Qg8]
   refine Qg ?_
   simp only[go_sem,AE.X.next,Qq,Qz,Qfh,List.forall_mem_cons,List.not_mem_nil,RS.op,g2]
   rw[hx]at hK
   rw[he]
   exact⟨fun _=>trivial,_,Qa36 (Qor _) _,hK _ kn.fin⟩
end Go.AE.Y

namespace Go.AE.Y
attribute [local go_sem] cond_true cond_false Bool.not_true Bool.not_false
open Go.Proofs.Tryz
variable {H H' H0 F:Heap}{K:V→Heap→Prop}{fns:List Fn}{L:List (Nat×Obj)}
theorem Qaex {F:Fn→Fn}(hn:∀f,(F f).params=f.params):∀l:List Fn,(∀f∈l,Qj (F f).body≤Qj f.body)→Qi3 (l.map F)≤Qi3 l
 |[],_=>Nat.le_refl _
 |f::r,h=>by
  have h1:=h f (by simp)
  have h2:=Qaex hn r fun g hg=>h g (by simp[hg])
  simp only[List.map_cons,Qi3,hn]
  omega
theorem Qa3j {α:Type}{a b:α}{f:α→Nat}(h:a=b∨f a<f b):f a≤f b:=by
 rcases h with rfl|h
 ·exact Nat.le_refl _
 ·exact Nat.le_of_lt h
theorem Qbfo (h:FineP fns):Qi3 (Q4v fns)≤Qi3 fns:=
 Nat.le_trans (Qaex (F:=Fn.cutF) (fun f=>rfl) (foldA fns) fun f hf=>Qa3j (Ql7 _).2) (Qaex (F:=Fn.foldF) (fun f=>rfl) fns fun f hf=>Qa3j (Qef _ _ (h.bodies f hf)))
theorem Qa30:∀(n:Nat) {fns:List Fn},FineP fns→Qi3 (simN n fns)≤Qi3 fns
 |0,fns,h=>Nat.le_refl _
 |n+1,fns,h=>Nat.le_trans (Qa30 n (Qwx h)) (Qbfo h)
theorem Qa8o (fns:List Fn):Qi3 (simP fns)≤Qi3 fns:=by
 rw[simP]
 split
 ·exact Qa30 _ (fine_iff.1 (by assumption))
 ·exact Nat.zero_le _
theorem Qax2 {fl:Bool}(hps:Qs fns≤2 ^ 36)(g:GK H)(hK:∀H',Upd H H' []→K (.tup [.ag [.sl false 3 (Qn (simP fns))],.c (.bool (Qz3 fns))]) H') :
  Ql prog Qbe [.ag [.sl fl 3 (Qn fns)]] H K:=
 Qab (Q8o hps g fun H' L x kn hx=>by
  obtain⟨t,rfl,ho⟩:=hx.tup1
  refine⟨.tup [.ag [.sl false 3 (Qn (simP fns))],.c (.bool (Qz3 fns))],.tup _ _ rfl fun j a b h1 h2=>?_,hK _ kn.fin⟩
  have hf:=ho.one.frz (H:=H') (S:=un H) fun p hp=>⟨(kn.get p (by simpa using hp)).1,Qw6 (kn.loc p hp)⟩
  match j with
  |0=>cases h1;cases h2;exact hf.ag
  |1=>cases h1;cases h2;exact .c _ _ (Qi rfl)
  |j+2=>simp at h1)
theorem Qqd {c:C}(hc:c.isOw=false)(g:GK H)(hs:SzE Qd7 (.ag [c]) (okFs c))(hK:∀H',K (.c (.bool true)) H'):Ql prog Qbu [.ag [c]] H K:=by
 refine Qc Qah Qm8 ?_
 refine Qa ?_
 simp only[go_sem,hc]
 refine Qa ?_
 simp only[go_sem,hc]
 refine Qa ?_
 simp only[go_sem,hc]
 refine hs 1048576 H _ (by omega) (by omega) fun r h1 h2 hr=>?_
 simp only[go_sem,Qdf,List.getD_cons_zero,List.getD_cons_succ]
 refine Qu ?_
 refine Qa ?_
 simp only[go_sem]
 refine Qe (Qb rfl (fun hn=>?_) (fun hn=>?_))
 ·refine Qa ?_
  simp only[go_sem]
  refine Qg ?_
  simp only[go_sem,Qq,Qz,Qic,List.mem_singleton,forall_eq,RS.op]
  exact hK _
 have h0:0≤r:=by have:=of_decide_eq_false hn;omega
 obtain⟨n,⟨fns,rfl,hsz⟩,hle⟩:=hr h0
 have hz:Qi3 fns≤2 ^ 20:=by omega
 have hps:Qs fns≤2 ^ 36:=by have:=Qafg fns;omega
 have hdz:Qaj (simP fns)≤2 ^ 22:=by have:=Q5g (simP fns);have:=Qa8o fns;omega
 have hfz:Qaj fns≤2 ^ 22:=by have:=Q5g fns;omega
 obtain⟨D,hD⟩:∃D,simP fns=D:=⟨_,rfl⟩
 obtain⟨B,hB⟩:∃B,Qz3 fns=B:=⟨_,rfl⟩
 rw[hD]at hdz
 refine Qd ?_
 try simp only[go_sem]
 refine Qa ?_
 simp only[go_sem]
 refine Qw5 fun H1 hu=>?_
 have kn:=(Kn.start0 H).call0 hu
 simp only[go_sem,Qdj,List.getD_cons_zero,List.getD_cons_succ]
 refine Qa2q hps fun H1 hu=>?_
 rw[hD,hB]
 have kn:=kn.call0 hu
 simp only[go_sem,Qdi,List.getD_cons_zero,List.getD_cons_succ]
 intro x4 hx4 H1 h1
 have kn:=kn.al hx4 h1
 have g4:=kn.l 0 rfl
 simp only[go_sem,Qdh,List.getD_cons_zero,List.getD_cons_succ,g4]
 intro H1 h1
 have kn:Kn H H1 [] [(x4,.st [.sl false 3 (Qn D)])]:=kn.stL 0 rfl h1
 simp only[go_sem,Qdg,List.getD_cons_zero,List.getD_cons_succ]
 refine Qa ?_
 simp only[go_sem]
 refine Qajk fun H1 L6 cs k6 hoa=>?_
 obtain⟨t6,rfl,ho6⟩:=hoa.inv_one
 have ht6:=ho6.isOw
 have kn:=kn.comp0 k6
 simp only[go_sem,Qdl,List.getD_cons_zero,List.getD_cons_succ,ht6]
 intro x6 hx6 H1 h1
 have kn:=(kn.al hx6 h1).swap
 have g6:=kn.l 1 rfl
 simp only[go_sem,Qdk,List.getD_cons_zero,List.getD_cons_succ,g6,ht6]
 intro H1 h1
 have kn:Kn H H1 [] ([(x4,.st [.sl false 3 (Qn D)]),(x6,.st [t6])]++L6):=kn.stL 1 rfl h1
 have g6:=kn.l 1 rfl
 refine Qa ?_
 simp only[go_sem,g6,ht6]
 refine Qqe (x':=.tup [.ag [.sl false 3 (Qn D)],.c (.bool B)]) (lntL L6) (args':=[.ag [.sl false 3 (Qn fns)]]) rfl (Qax5 (ho6.lend fun p hp=>(kn.get p (by simp[hp])).1)) (fun K' hk=>Q8o hps (g.kn kn).hideG (by rw[show simR fns=Qn D from congrArg Qn hD,hB];exact hk)) fun H1 L7 x k7 hx=>?_
 obtain⟨t7,rfl,ho7⟩:=hx.tup1
 have ht7:=ho7.isOw
 have kn:=kn.comp0 k7
 simp only[go_sem,Qcp,List.getD_cons_zero,List.getD_cons_succ,ht7]
 intro x7 hx7 H1 h1
 have kn:=(kn.al hx7 h1).swap2
 have g7:=kn.l 2 rfl
 simp only[go_sem,Qdn,List.getD_cons_zero,List.getD_cons_succ,g7,ht7]
 intro H1 h1
 have kn:Kn H H1 [] (([(x4,.st [.sl false 3 (Qn D)]),(x6,.st [t6]),(x7,.st [t7])]++L6)++L7):=kn.stL 2 rfl h1
 have g4:=kn.l 0 rfl
 have g6:=kn.l 1 rfl
 have g7:=kn.l 2 rfl
 have hm7:∀p∈L7,H1 p.1=p.2:=fun p hp=>(kn.get p (by simp[hp])).1
 have hm6:∀p∈L6,H1 p.1=p.2:=fun p hp=>(kn.get p (by simp[hp])).1
 simp only[go_sem,Qdm,List.getD_cons_zero,List.getD_cons_succ]
 refine Qu ?_
 refine Qa ?_
 simp only[go_sem,g4,g7,ht7]
 refine Qeh (lntL L7) (args':=[.ag [.sl false 3 (Qn D)],.ag [.sl false 3 (Qn D)]]) rfl (Qax6 (ho7.lend hm7) (Qbht (Qor _))) rfl (fun K' hk=>Qqg (hk _ (Q42 _))) ?_
 simp only[go_sem,Qcq,List.getD_cons_zero,List.getD_cons_succ]
 have hbb:(!B == B)=false∨True:=.inr trivial
 have hB1:(!(B == B))=false:=by simp
 try simp only[hB1]
 refine Qe (Qb rfl (fun h=>by simp[lk]at h) (fun _=>?_))
 refine Qd ?_
 try simp only[go_sem]
 refine Qu ?_
 refine Qbg ?_
 simp only[go_sem,g6,ht6]
 refine Qw5 fun H2 hu=>?_
 have kn:=kn.call0 hu
 have g4:=kn.l 0 rfl
 have g6:=kn.l 1 rfl
 have g7:=kn.l 2 rfl
 have hm6:∀p∈L6,H2 p.1=p.2:=fun p hp=>(kn.get p (by simp[hp])).1
 simp only[go_sem,Qcs,List.getD_cons_zero,List.getD_cons_succ,g6,ht6]
 refine Qeh (lntL L6) (args':=[.ag [.sl false 3 (Qn fns)],.ag [.sl false 3 (Qn fns)]]) rfl (Qax6 (ho6.lend hm6) (Qbht (Qor _))) rfl (fun K' hk=>Qqg (hk _ (Q42 _))) ?_
 simp only[go_sem,Qcr,List.getD_cons_zero,List.getD_cons_succ]
 refine Qe (Qb rfl (fun h=>by simp[lk]at h) (fun _=>?_))
 refine Qd ?_
 try simp only[go_sem]
 refine Qa ?_
 simp only[go_sem]
 refine Qa ?_
 simp only[go_sem,g6,ht6]
 have kn:Kn H H2 [] (L6++([(x4,.st [.sl false 3 (Qn D)]),(x6,.st [t6]),(x7,.st [t7])]++L7)):=kn.perm (by
  simp only[List.append_assoc]
  rw[←List.append_assoc,←List.append_assoc]
  exact List.Perm.append_right L7 List.perm_append_comm)
 refine Q3g (k:=1) ho6 (fun p hp=>(kn.get p (by simp[hp])).1) (by have:=kn.dL;rw[List.map_append]at this;exact (List.nodup_append.1 this).1) (by omega) fun H3 L6m hf6 ho6m hu=>?_
 have kn:=(kn.callLs hu hf6 ho6m.vecs).sub (List.sublist_append_right _ _)
 have g4:=kn.l 0 rfl
 have g7:=kn.l 2 rfl
 have hm7:∀p∈L7,H3 p.1=p.2:=fun p hp=>(kn.get p (by simp[hp])).1
 simp only[go_sem,Qct,List.getD_cons_zero,List.getD_cons_succ]
 refine Qu ?_
 refine Qa ?_
 have hk9:decide (((1+Qaj fns:Nat):Int)<0)=false:=decide_eq_false (by omega)
 simp only[go_sem,hk9,g4,g7,ht7]
 refine Qeh (lntL L7) (args':=[.ag [.sl false 3 (Qn D)],.ag [.sl false 3 (Qn D)]]) rfl (Qax6 (ho7.lend hm7) (Qbht (Qor _))) rfl (fun K' hk=>Qqg (hk _ (Q42 _))) ?_
 simp only[go_sem,Qcu,List.getD_cons_zero,List.getD_cons_succ,hB1]
 try simp only[hB1]
 refine Qe (Qb rfl (fun h=>by simp[lk]at h) (fun _=>?_))
 refine Qd ?_
 try simp only[go_sem]
 refine Qa ?_
 simp only[go_sem]
 refine Qa ?_
 simp only[go_sem,g7,ht7]
 have kn:Kn H H3 [] (L7++[(x4,.st [.sl false 3 (Qn D)]),(x6,.st [t6]),(x7,.st [t7])]):=kn.perm List.perm_append_comm
 refine Q3g (k:=1) ho7 (fun p hp=>(kn.get p (by simp[hp])).1) (by have:=kn.dL;rw[List.map_append]at this;exact (List.nodup_append.1 this).1) (by omega) fun H4 L7m hf7 ho7m hu=>?_
 have kn:Kn H H4 [] ([(x4,.st [.sl false 3 (Qn D)]),(x6,.st [t6]),(x7,.st [t7])]++L7m):=(kn.callLs hu hf7 ho7m.vecs).perm List.perm_append_comm
 have g4:=kn.l 0 rfl
 have g7:=kn.l 2 rfl
 have hm7:∀p∈L7m,H4 p.1=p.2:=fun p hp=>(kn.get p (by simp[hp])).1
 simp only[go_sem,Qcv,List.getD_cons_zero,List.getD_cons_succ]
 refine Qa ?_
 simp only[go_sem]
 refine Qa ?_
 simp only[go_sem,g7,ht7]
 refine Qeh (v:=.c (.int .i64 ((1+Qaj D:Nat):Int))) (lntL L7m) (args':=[.ag [.sl false 3 (Qn (Qbk D 1))],.c (.int .i64 ((1:Nat):Int))]) rfl (Qax6 (ho7m.lend hm7) (.c _ _ (.same _ rfl))) rfl (fun K' hk=>Q27 (k:=1) (by omega) (hk _ (Q42 _))) ?_
 simp only[go_sem,Qcw,List.getD_cons_zero,List.getD_cons_succ]
 refine Qu ?_
 refine Qa ?_
 simp only[go_sem]
 refine Qe (Qb rfl (fun h=>by have:=of_decide_eq_true h;omega) (fun _=>?_))
 refine Qd ?_
 try simp only[go_sem]
 refine Qu ?_
 refine Qa ?_
 simp only[go_sem]
 refine Qe (Qb rfl (fun h=>by simp[lk]at h) (fun _=>?_))
 refine Qd ?_
 try simp only[go_sem]
 refine Qa ?_
 simp only[go_sem]
 refine Qw5 fun H5 hu=>?_
 have kn:=kn.call0 hu
 simp only[go_sem,Qc0,List.getD_cons_zero,List.getD_cons_succ]
 refine Qax2 hps (g.kn kn) fun H5 hu=>?_
 rw[hD,hB]
 have kn:=kn.call0 hu
 simp only[go_sem,Qcz,List.getD_cons_zero,List.getD_cons_succ]
 intro x12 hx12 H5 h5
 have kn:=(kn.al hx12 h5).swap
 have g12:=kn.l 3 rfl
 simp only[go_sem,Qcy,List.getD_cons_zero,List.getD_cons_succ,g12]
 intro H5 h5
 have kn:Kn H H5 [] ([(x4,.st [.sl false 3 (Qn D)]),(x6,.st [t6]),(x7,.st [t7]),(x12,.st [.sl false 3 (Qn D)])]++L7m):=kn.stL 3 rfl h5
 have g4:=kn.l 0 rfl
 have g7:=kn.l 2 rfl
 have g12:=kn.l 3 rfl
 have hm7:∀p∈L7m,H5 p.1=p.2:=fun p hp=>(kn.get p (by simp[hp])).1
 simp only[go_sem,Qcx,List.getD_cons_zero,List.getD_cons_succ]
 refine Qu ?_
 refine Qa ?_
 simp only[go_sem,g4,g12]
 refine Qqg ?_
 simp only[go_sem,Qc1,List.getD_cons_zero,List.getD_cons_succ,hB1]
 try simp only[hB1]
 refine Qe (Qb rfl (fun h=>by simp[lk]at h) (fun _=>?_))
 refine Qd ?_
 try simp only[go_sem]
 refine Qa ?_
 simp only[go_sem]
 refine Qa ?_
 simp only[go_sem,g7,ht7]
 refine Qeh (v:=.c (.int .i64 ((1+Qaj D:Nat):Int))) (lntL L7m) (args':=[.ag [.sl false 3 (Qn (Qbk D 1))],.c (.int .i64 ((1:Nat):Int))]) rfl (Qax6 (ho7m.lend hm7) (.c _ _ (.same _ rfl))) rfl (fun K' hk=>Q27 (k:=1) (by omega) (hk _ (Q42 _))) ?_
 simp only[go_sem,Qc2,List.getD_cons_zero,List.getD_cons_succ]
 refine Qu ?_
 refine Qa ?_
 simp only[go_sem]
 refine Qe (Qb rfl (fun h=>by have:=of_decide_eq_true h;omega) (fun _=>?_))
 refine Qd ?_
 try simp only[go_sem]
 refine Qu ?_
 refine Qa ?_
 simp only[go_sem]
 refine Qe (Qb rfl (fun h=>by simp[lk]at h) (fun _=>?_))
 refine Qd ?_
 try simp only[go_sem]
 refine Qa ?_
 simp only[go_sem]
 refine Qg ?_
 simp only[go_sem,Qq,Qz,Qic,List.mem_singleton,forall_eq,RS.op]
 exact hK _
theorem FnExactSimplerProgram_ty {cells:List C}(h:TyC prog Qasu cells)(g:GK H):Ql prog Qbu [.ag cells] H fun v _=>v=.c (.bool true):=by
 obtain⟨c,rfl,h1,h2⟩:=Qa7m h
 exact Qqd h1 g h2 fun _=>rfl
end Go.AE.Y

namespace Go.AE.Y
open Go.ChangeShapes Go.WideShapes Go.ChangeAt Go.RowKit
def signL:List (Int×List UInt8×Int):=[(3,[43],3),(4,[45],3),(5,[42],4),(6,[47],4),(7,[37],4),(8,[60],2),(9,[61],2),(10,[38],1)]
def kC (t:Int×List UInt8×Int):C:=.int .i64 t.1
def rC (t:Int×List UInt8×Int):List C:=[.str t.2.1,.int .i64 t.2.2]
def kvV (t:Int×List UInt8×Int):Value×Value:=(.int .i64 t.1,.agg #[.string ⟨t.2.1.toArray⟩,.int .i64 t.2.2])
def eC (t:Int×List UInt8×Int):C×V:=(kC t,.ag (rC t))
structure Tabs (w:World):Prop where
 keys:∀(j:Nat) (s:List UInt8),keysL[j]? = some s→w.cell? ⟨Qgr,j,none⟩=some (.string ⟨s.toArray⟩)
 sign:∃b ms clock ts,w.cell? ⟨Qa5,0,none⟩=some (.map (some b))∧w.heap[b]? = some (.map ms clock)∧Go.MapKept.Stamped ms clock∧List.Perm ts signL∧
  ms.toList.map (fun m=>(m.key,m.val))=ts.map kvV
def gh5 (w:World):G:=⟨fun b=>decide (b<w.heap.size),fun _=>none,fun l=>if l=Qgr then some (Qgr,9,0)else if l=Qa5 then some (Qa5,1,0)else none⟩
def hp5 (ts:List (Int×List UInt8×Int)):Heap:=fun l=>if l=Qgr then .gl Qgr (keysL.map C.str)else if l=Qa5 then .gl Qa5 [.cm true (ts.map kC) (ts.map rC)]else .none
theorem Qa4p {op:Int}:∀{l1 l2:List (Int×List UInt8×Int)},l1.Perm l2→(l2.map (·.1)).Nodup→Qf5 (.int .i64 op) (l1.map eC)=Qf5 (.int .i64 op) (l2.map eC):=by
 intro l1 l2 hp
 induction hp with
 |nil=>intro _;rfl
 |cons x h ih=>
  intro hn
  simp only[List.map_cons,List.nodup_cons]at hn
  simp only[List.map_cons,Qf5,ih hn.2]
 |swap x y l=>
  intro hn
  simp only[List.map_cons,List.nodup_cons,List.mem_cons,not_or]at hn
  simp only[List.map_cons,Qf5,eC,kC,Qgs,decide_eq_true_eq]
  by_cases h1:op=y.1
  ·have h2:¬op=x.1:=fun e=>hn.1.1 (e.symm.trans h1)
   rw[if_pos h1,if_neg h2,if_pos h1]
  ·by_cases h2:op=x.1
   ·rw[if_neg h1,if_pos h2,if_pos h2]
   ·rw[if_neg h1,if_neg h2,if_neg h2,if_neg h1]
 |trans h1 h2 ih1 ih2=>
  intro hn
  exact (ih1 ((h2.map _).nodup_iff.2 hn)).trans (ih2 hn)
theorem Qbdq {ts:List (Int×List UInt8×Int)}(hp:ts.Perm signL):GK (hp5 ts):=by
 refine⟨rfl,ts.map kC,ts.map rC,rfl,fun op=>?_⟩
 have e:((ts.map kC).zip (ts.map rC)).map (fun e=>(e.1,V.ag e.2))=ts.map eC:=by
  rw[List.zip_map',List.map_map];rfl
 rw[e]
 refine⟨?_,?_⟩
 ·intro x hx
  obtain⟨t,_,rfl⟩:=List.mem_map.1 hx
  exact⟨_,rfl⟩
 ·rw[Qa4p hp (by decide)]
  simp only[signL,List.map_cons,List.map_nil,Qf5,eC,kC,rC,Qgs,decide_eq_true_eq,levN]
  by_cases h3:op=3
  ·subst h3;exact⟨_,rfl⟩
  by_cases h4:op=4
  ·subst h4;exact⟨_,rfl⟩
  by_cases h5:op=5
  ·subst h5;exact⟨_,rfl⟩
  by_cases h6:op=6
  ·subst h6;exact⟨_,rfl⟩
  by_cases h7:op=7
  ·subst h7;exact⟨_,rfl⟩
  by_cases h8:op=8
  ·subst h8;exact⟨_,rfl⟩
  by_cases h9:op=9
  ·subst h9;exact⟨_,rfl⟩
  by_cases h10:op=10
  ·subst h10;exact⟨_,rfl⟩
  exact⟨[],by simp[h3,h4,h5,h6,h7,h8,h9,h10]⟩
theorem Qa7f {w:World}{ts:List (Int×List UInt8×Int)}{b:Nat}{ms:Array MapEntry}{clock:Nat}(hk:∀(j:Nat) (s:List UInt8),keysL[j]? = some s→w.cell? ⟨Qgr,j,none⟩=some (.string ⟨s.toArray⟩))
  (hc:w.cell? ⟨Qa5,0,none⟩=some (.map (some b))) (hb:w.heap[b]? = some (.map ms clock)) (hst:Go.MapKept.Stamped ms clock) (hp:ts.Perm signL)
  (hm:ms.toList.map (fun m=>(m.key,m.val))=ts.map kvV):Sat (hp5 ts) (gh5 w) w:=by
 have szof:∀{a:Addr} {v:Value},w.cell? a=some v→a.block<w.heap.size:=by
  intro a v h
  rcases Nat.lt_or_ge a.block w.heap.size with h'|h'
  ·exact h'
  ·simp[World.cell?,Array.getElem?_eq_none h']at h
 have h1:Qgr<w.heap.size:=szof (hk 0 _ rfl)
 have h2:Qa5<w.heap.size:=szof hc
 have h3:b<w.heap.size:=by
  rcases Nat.lt_or_ge b w.heap.size with h'|h'
  ·exact h'
  ·simp[Array.getElem?_eq_none h']at hb
 have hlen:ms.size=ts.length:=by
  have:=congrArg List.length hm
  simpa using this
 have hl8:ts.length=8:=hp.length_eq
 have hget:∀(i:Nat) (m:MapEntry),ms[i]? = some m→∃t,ts[i]? = some t∧t∈signL∧m.key=.int .i64 t.1∧m.val=.agg #[.string ⟨t.2.1.toArray⟩,.int .i64 t.2.2]:=by
  intro i m h
  have h':(ms.toList.map (fun m=>(m.key,m.val)))[i]? = some (m.key,m.val):=by
   rw[List.getElem?_map,Array.getElem?_toList,h];rfl
  rw[hm,List.getElem?_map]at h'
  cases ht:ts[i]? with
  |none=>rw[ht]at h';cases h'
  |some t=>
   rw[ht]at h'
   simp only[Option.map_some,Option.some.injEq,kvV,Prod.mk.injEq]at h'
   exact⟨t,rfl,(hp.mem_iff).1 (List.mem_of_getElem? ht),h'.1.symm,h'.2.symm⟩
 refine⟨fun b hb=>⟨by simp[gh5];omega,rfl⟩,⟨3,fun l hl=>by simp only[gh5];rw[if_neg (by simp only[Qgr];omega),if_neg (by simp only[Qa5];omega)]⟩,fun b x h=>by simp[gh5]at h,fun b l p h=>by simp[gh5]at h,fun l=>?_⟩
 by_cases e1:l=Qgr
 ·subst e1
  refine⟨9,fun j=>.string ⟨(keysL.getD j []).toArray⟩,by simp[gh5],by simpa[gh5]using h1,fun j c h=>?_,fun j c h=>?_⟩
  ·rw[List.getElem?_map]at h
   cases hs:keysL[j]? with
   |none=>rw[hs]at h;cases h
   |some s=>
    show _=some (Value.string ⟨(keysL.getD j []).toArray⟩)
    rw[hk j s hs,List.getD_eq_getElem?_getD,hs];rfl
  ·rw[List.getElem?_map]at h
   cases hs:keysL[j]? with
   |none=>rw[hs]at h;cases h
   |some s=>
    rw[hs]at h
    obtain rfl:=Option.some.inj h
    have hle:s.length≤4:=by
     have:∀s∈keysL,s.length≤4:=by decide
     exact this s (List.mem_of_getElem? hs)
    show RepC _ _ _ (Value.string ⟨(keysL.getD j []).toArray⟩)
    rw[List.getD_eq_getElem?_getD,hs]
    exact .str _ (by simp only[LIM];omega)
 ·by_cases e2:l=Qa5
  ·subst e2
   refine⟨1,fun _=>.map (some b),by simp[gh5],by simpa[gh5]using h2,fun j c h=>?_,fun j c h=>?_⟩
   ·obtain rfl:j=0:=by
     rcases Nat.eq_zero_or_pos j with h'|h'
     ·exact h'
     ·rw[List.getElem?_eq_none (by simp;omega)]at h;cases h
    exact hc
   ·obtain rfl:j=0:=by
     rcases Nat.eq_zero_or_pos j with h'|h'
     ·exact h'
     ·rw[List.getElem?_eq_none (by simp;omega)]at h;cases h
    obtain rfl:=Option.some.inj h
    obtain⟨_,s2,s3⟩:=hst
    refine .cm true (ts.map kC) (ts.map rC) b ms clock (fun i j=>match ts[i]? with|some t=>if j=0 then .string ⟨t.2.1.toArray⟩else .int .i64 t.2.2|none=>.int .i64 0) (by simpa[gh5]using h3) hb (by simpa using hlen) (by simp) (by simp[hl8,LIM]) ?_ ?_ ?_ ?_
    ·intro i j m m' hi hj he
     have gi:ms.toList[i]? = some m:=by rw[Array.getElem?_toList];exact hi
     have gj:ms.toList[j]? = some m':=by rw[Array.getElem?_toList];exact hj
     rcases he with he|he
     ·have:=List.getElem?_inj (l:=ms.toList.map (·.born)) (i:=i) (j:=j) (by simpa using (Array.getElem?_eq_some_iff.1 hi).1) s2
      exact this.1 (by rw[List.getElem?_map,List.getElem?_map,gi,gj];simp[he])
     ·have:=List.getElem?_inj (l:=ms.toList.map (·.key)) (i:=i) (j:=j) (by simpa using (Array.getElem?_eq_some_iff.1 hi).1) s3
      exact this.1 (by rw[List.getElem?_map,List.getElem?_map,gi,gj];simp[he])
    ·intro i row m hr hi
     obtain⟨t,ht,_,_,hv⟩:=hget i m hi
     rw[List.getElem?_map,ht]at hr
     obtain rfl:=Option.some.inj hr
     refine⟨?_,fun h=>by cases h⟩
     rw[hv]
     simp[rC,ht,List.range_succ]
    ·intro i k m hk' hi
     obtain⟨t,ht,_,hkey,_⟩:=hget i m hi
     rw[List.getElem?_map,ht]at hk'
     obtain rfl:=Option.some.inj hk'
     rw[hkey]
     exact .int _ _
    ·intro i row j c hr hj
     rw[List.getElem?_map]at hr
     cases ht:ts[i]? with
     |none=>rw[ht]at hr;cases hr
     |some t=>
      rw[ht]at hr
      obtain rfl:=Option.some.inj hr
      have hmem:t∈signL:=(hp.mem_iff).1 (List.mem_of_getElem? ht)
      have hle:t.2.1.length≤1:=by
       have:∀t∈signL,t.2.1.length≤1:=by decide
       exact this t hmem
      match j,hj with
      |0,hj=>
       obtain rfl:=Option.some.inj hj
       exact .str _ (by simp only[LIM];omega)
      |1,hj=>
       obtain rfl:=Option.some.inj hj
       exact .int _ _
      |j+2,hj=>simp[rC]at hj
  ·show SatObj _ _ _ _ (hp5 ts l)
   rw[hp5,if_neg e1,if_neg e2];trivial
theorem Qaez {H:Type}(x:Lit×DataW H):∀l,(DataW.insert x l).Perm (x::l)
 |[]=>.refl _
 |y::r=>by
  rw[DataW.insert]
  split
  ·exact .refl _
  ·exact ((Qaez x r).cons y).trans (.swap x y r)
theorem Qany {H:Type}:∀l:List (Lit×DataW H),(l.foldr DataW.insert []).Perm l
 |[]=>.refl _
 |x::r=>(Qaez x _).trans ((Qany r).cons x)
def litD (t:Int×List UInt8×Int):Lit×DataW Unit:=(.int .i64 t.1,.agg [.lit (.string t.2.1),.lit (.int .i64 t.2.2)])
def decD:Lit×DataW Unit→Int×List UInt8×Int
 |(.int _ n,.agg [.lit (.string s),.lit (.int _ l)])=>(n,s,l)
 |_=>(0,[],0)
theorem sign_entries {l:List MapEntry}{f:MapEntry→Lit×DataW Unit}(hp:((l.map f).foldr DataW.insert [])=signL.map litD)(hf:∀m∈l,∀t,f m=litD t→(m.key,m.val)=kvV t) :
  ∃ts,List.Perm ts signL∧l.map (fun m=>(m.key,m.val))=ts.map kvV:=by
 have h1:(l.map f).Perm (signL.map litD):=(Qany _).symm.trans (by rw[hp])
 refine⟨(l.map f).map decD,?_,?_⟩
 ·have:=h1.map decD
  rw[List.map_map (g:=decD) (f:=litD)]at this
  exact this
 ·rw[List.map_map,List.map_map]
  refine List.map_congr_left fun m hm=>?_
  have hmem:f m∈signL.map litD:=(h1.mem_iff).1 (List.mem_map.2 ⟨m,hm,rfl⟩)
  obtain⟨t,_,ht⟩:=List.mem_map.1 hmem
  have e:decD (f m)=t:=by rw[←ht];rfl
  simp only[Function.comp,e]
  exact hf m hm t ht.symm
end Go.AE.Y

namespace Go.AE.Y
open Go.ChangeShapes Go.WideShapes Go.ChangeAt Go.RowKit
theorem Qaeh {P:Program}{f:Nat}{H0:Heap}{g0:G}{w:World}{xs:List V}{vs:List Value}(h:Ql P f xs H0 fun v _=>v=.c (.bool true))(hg:∀b,b<w.heap.size→g0.per b=true)(hs:Sat H0 g0 w)
  (hl:vs.length=xs.length) (hv:∀(j:Nat) (x:V) (u:Value),xs[j]? = some x→vs[j]? = some u→RepV w g0 x u) :
  Calls P f vs.toArray w fun e w'=>e=.returned (.bool true)∧Below w.heap.size w w':=by
 refine (h.2 _ w vs hs hl hv).mono fun e w'=>?_
 rintro (⟨v,x,H',g',rfl,rfl,hst,hv⟩|⟨v,H',g',_,h,_⟩)
 rotate_left
 ·cases h
 have:v=.bool true:=by cases hv with|c _ _ h=>cases h;rfl
 subst this
 exact⟨rfl,hst.le.os,hst.le.tape,hst.le.output,hst.le.size,fun k hk=>(hst.le.per k (hg _ hk)).2⟩
theorem calls_of_acall6 {P:Program}{f:Nat}{cells:List C}(h:∀H:Heap,GK H→Ql P f [.ag cells] H fun v _=>v=.c (.bool true))
  {w:World} {cs:Array Value} (ht:Tabs w) (hl:cs.toList.length=cells.length) (hr:∀(j:Nat) (c:C) (v:Value),cells[j]? = some c→cs.toList[j]? = some v→RepC w (gh5 w) c v) :
  Calls P f #[.agg cs] w fun e w'=>e=.returned (.bool true)∧Below w.heap.size w w':=by
 obtain⟨hk,b,ms,clock,ts,h1,h2,h3,h4,h5⟩:=ht
 refine Qaeh (xs:=[.ag cells]) (vs:=[.agg cs]) (g0:=gh5 w) (h (hp5 ts) (Qbdq h4)) (fun b hb=>by simpa[gh5]using hb) (Qa7f hk h1 h2 h3 h4 h5) rfl fun j x u hj hu=>?_
 cases j with
 |zero=>
  simp at hj hu;subst hj;subst hu
  have:=RepV.ag (w:=w) (g:=gh5 w) cells cs.toList hl hr
  simpa using this
 |succ j=>simp at hj
end Go.AE.Y

