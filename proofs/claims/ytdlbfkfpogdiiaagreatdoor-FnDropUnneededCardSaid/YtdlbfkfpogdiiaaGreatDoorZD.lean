/- Part 4 of the proof: the engine, codes, walks and plain laws, each named where it stands. -/
import Derived.Test.YtdlbfkfpogdiiaaGreatDoorZC
import Derived.Shelf.Sort.Plain
import Derived.Shelf.Sort.So_math_bits_LenIn
open Nat (reduceEqDiff reduceAdd reduceLeDiff reduceLT)
set_option linter.unusedVariables false
set_option linter.unusedSimpArgs false
set_option maxRecDepth 4000
namespace Go.AE
variable {H0 H H' F:Heap}{E L B A M:List (Nat×Obj)}{sz:Nat}{rows:List (List C)}{c:C}{Lg:List (Nat×Obj)}
def Gp (Lg:List (Nat×Obj))(sz:Nat)(rows:List (List C))(c:C):Prop:=
 (c=.sl true sz []∧rows=[]∧Lg=[])∨∃y R,c=.vsl y sz 0 rows.length∧Lg=[(y,.vec sz R)]∧R.take rows.length=rows
theorem Gp.nil (sz:Nat):Gp [] sz [] (.sl true sz []):=.inl ⟨rfl,rfl,rfl⟩
theorem Gp.isOw (h:Gp Lg sz rows c):c.isOw=false:=by rcases h with ⟨rfl,_⟩|⟨y,R,rfl,_⟩ <;> rfl
theorem Gp.slc (h:Gp Lg sz rows c)(hg:∀p∈Lg,H p.1=p.2):Slc H sz rows c:=by
 rcases h with ⟨rfl,rfl,rfl⟩|⟨y,R,rfl,rfl,hR⟩
 ·exact .mk' H true sz []
 ·have hy:H y=.vec sz R:=hg (y,.vec sz R) (by simp)
  have hle:rows.length≤R.length:=by
   have:=congrArg List.length hR
   rw[List.length_take]at this;omega
  exact⟨by simp[okSl,hy,hle],rfl,by simp[rowsOf,hy,hR],rfl⟩
theorem Gp.ne (h:Gp Lg sz rows c):∀p∈Lg,p.2≠.none:=by
 rcases h with ⟨_,_,rfl⟩|⟨y,R,_,rfl,_⟩
 ·simp
 ·intro p hp;simp only[List.mem_singleton]at hp;subst hp;nofun
theorem Kn.growP {K:V→Heap→Prop}{new:List (List C)}{b:C}(kn:Kn H0 H E (B++Lg))(hc:Gp Lg sz rows c)(hb:Slc H sz new b)
  (h1:∀r∈new,noOw r=true) (h2:rows.length+new.length≤LIM)
  (h:∀t Lg' H',Gp Lg' sz (rows++new) t→Kn H0 H' E (B++Lg')→K (.c t) H'):appQ H sz c b K:=by
 refine⟨hb.ok,hb.sz,?_⟩
 rcases hc with ⟨rfl,rfl,rfl⟩|⟨y,R,rfl,rfl,hR⟩
 ·simp only[hb.rows,hb.len,List.nil_append,List.length_nil,Nat.zero_add]
  refine⟨trivial,.inl trivial,h1,by simpa using h2,fun l hl H' hH'=>?_⟩
  rw[List.append_nil]at kn
  exact h _ _ H' (.inr ⟨l,new,by simp,rfl,List.take_length⟩) (kn.al hl hH')
 ·have hle:rows.length≤R.length:=by
   have:=congrArg List.length hR
   rw[List.length_take]at this;omega
  have hy:H y=.vec sz R:=(kn.get (y,.vec sz R) (by simp)).1
  simp only[hy,hb.rows,hb.len,List.drop_zero,hR]
  refine⟨trivial,trivial,by omega,h1,h2,fun l' hl' H' hH'=>?_⟩
  refine h _ [(l',.vec sz (rows++new))] H' (.inr ⟨l',rows++new,by simp,rfl,List.take_length⟩) ?_
  have:=kn.ap B.length (y:=y) (o:=.vec sz R) (by simp) hl' hH'
  simpa using this
theorem Gp.cut (h:Gp Lg sz rows c){k:Nat}(hk:k≤rows.length):Gp Lg sz (rows.take k) (sliC none (some (k:Int)) c):=by
 rcases h with ⟨rfl,rfl,rfl⟩|⟨y,R,rfl,rfl,hR⟩
 ·refine .inl ⟨?_,by simp,rfl⟩
  simp[sliC]
 ·refine .inr ⟨y,R,?_,rfl,?_⟩
  ·simp only[sliC,Option.getD_none,Option.getD_some,List.length_take,Int.toNat_natCast,Int.toNat_zero,Nat.zero_add,Nat.sub_zero]
   rw[Nat.min_eq_left hk]
  ·rw[List.length_take,Nat.min_eq_left hk,←hR,List.take_take,Nat.min_eq_left hk]
theorem Kn.side (kn:Kn F H [] (A++M)):∃F',Kn F' H [] A∧∀(A':List (Nat×Obj)) (H':Heap),Kn F' H' [] A'→Kn F H' [] (A'++M):=by
 have hnd:=kn.dL
 rw[List.map_append]at hnd
 obtain⟨d1,d2,d3⟩:=List.nodup_append.1 hnd
 obtain⟨F',hF'⟩:∃F':Heap,F'=fun m=>if m∈M.map Prod.fst then H m else F m:=⟨_,rfl⟩
 have hin:∀m,m∈M.map Prod.fst→F' m=H m:=fun m hm=>by rw[hF'];exact if_pos hm
 have hout:∀m,m∉M.map Prod.fst→F' m=F m:=fun m hm=>by rw[hF'];exact if_neg hm
 have hM:∀p∈M,F' p.1=p.2∧p.2≠.none:=fun p hp=>by
  have:=kn.get p (by simp[hp])
  rw[hin p.1 (Qbi hp)];exact this
 refine⟨F',⟨fun p hp=>kn.get p (by simp only[List.nil_append]at hp⊢;exact List.mem_append_left _ hp),by simp,fun p hp=>?_,by simp,d1,fun m hm _=>?_⟩,fun A' H' k=>?_⟩
 ·rw[hout p.1 fun h=>d3 _ (Qbi hp) _ h rfl]
  exact kn.loc p (List.mem_append_left _ hp)
 ·by_cases h:m∈M.map Prod.fst
  ·rw[hin m h]
  ·rw[hout m h]at hm⊢
   exact kn.chg m hm (by simp)
 ·have hA:∀p∈A',p.1∉M.map Prod.fst:=fun p hp h=>by
   obtain⟨q,hq,e⟩:=List.mem_map.1 h
   have h1:=k.loc p hp
   rw[←e,(hM q hq).1]at h1
   exact (hM q hq).2 h1
  refine⟨fun p hp=>?_,by simp,fun p hp=>?_,by simp,?_,fun m hm _=>?_⟩
  ·simp only[List.nil_append]at hp
   rcases List.mem_append.1 hp with hp|hp
   ·exact k.get p (by simpa using hp)
   ·obtain⟨h1,h2⟩:=hM p hp
    refine⟨?_,h2⟩
    rw[k.chg p.1 (by rw[h1];exact h2) (by simp),h1]
  ·rcases List.mem_append.1 hp with hp|hp
   ·rw[←hout p.1 (hA p hp)];exact k.loc p hp
   ·exact kn.loc p (List.mem_append_right _ hp)
  ·rw[List.map_append]
   refine List.nodup_append.2 ⟨k.dL,d2,fun a ha b hb hab=>?_⟩
   obtain⟨p,hp,rfl⟩:=List.mem_map.1 ha
   exact hA p hp (hab▸hb)
  ·have hmM:m∉M.map Prod.fst:=fun h=>by
    obtain⟨q,hq,rfl⟩:=List.mem_map.1 h
    exact hm (kn.loc q (List.mem_append_right _ hq))
   have:=k.chg m (by rw[hout m hmM];exact hm) (by simp)
   rw[this,hout m hmM]
end Go.AE
namespace Go.AE.Y
attribute [local go_sem] cond_true cond_false Bool.not_true Bool.not_false
open Go.Proofs.Tryz
variable {H H0:Heap}{K:V→Heap→Prop}{E E' L:List (Nat×Obj)}
abbrev wO (fl:Bool)(fns:List Fn)(k:Nat)(vc:C)(cnt:Nat)(code:Int):Obj:=.st [.sl fl 3 (Qr fns),.int .i64 k,vc,.int .i64 cnt,.int .i64 code]
theorem Qast {n:Nat}(hK:∀s,K (.c (.str s)) H):Qp prog Q0w [.c (.int .i64 n)] H K:=by
 refine Qb Qah Qa2q ?_
 have e1:((n:Int).tmod 26)=((n % 26:Nat):Int):=rfl
 have h1:n % 26<26:=Nat.mod_lt _ (by omega)
 refine Qa ?_
 simp only[go_sem]
 refine Qa ?_
 simp only[go_sem,e1]
 generalize n % 26=q at *
 refine⟨by decide,?_⟩
 refine Qa ?_
 simp only[go_sem]
 refine⟨Qu (by omega) (by omega),⟨by omega,by omega⟩,?_,?_⟩
 ·simp only[LIM,List.length_drop,List.length_take,List.length_cons,List.length_nil];omega
 refine Qi ?_
 simp only[go_sem,Qy,Q7,Qatc,List.mem_singleton,forall_eq,RS.op]
 exact hK _
theorem Q1y {w k cnt:Nat}{fl:Bool}{fns:List Fn}{vc:C}{code n:Int}(how:vc.isOw=false)(hH:H w=wO fl fns k vc cnt code)(hK:∀H',Upd H H' [(w,wO fl fns k vc cnt (Qb8 code n))]→K (.tup []) H') :
  Qp prog Qbw [.c (.ptr w 0),.c (.int .i64 n)] H K:=by
 refine Qb Qah Qaie ?_
 have kn:=Kn.start1 hH (by nofun)
 refine Qa ?_
 simp only[go_sem,hH,how]
 refine Qc rfl (fun hc=>?_) (fun hc=>?_)
 ·have h0:code=0:=by simpa using hc
  refine Qs ?_
  simp only[go_sem,hH,how]
  intro H1 h1
  have kn:=kn.stE 0 rfl h1
  simp only[Qy,Q7,Qne,go_sem]
  refine hK _ ⟨fun p hp=>?_,fun m h1 h2=>kn.chg m h1 h2⟩
  rw[Qb8,if_pos h0]at hp
  exact (kn.get p (List.mem_append_left _ hp)).1
 ·have h0:¬code=0:=by simpa using hc
  refine Qe ?_
  simp only[Qy,Q7,Qne,go_sem]
  refine hK _ ⟨fun p hp=>?_,fun m h1 h2=>rfl⟩
  rw[Qb8,if_neg h0]at hp
  simp only[List.mem_singleton]at hp
  rw[hp];exact hH
def Qa6u (v:Vars)(s:List UInt8)(r:Int):Prop:=
 (r=-1∧((vT v).find? fun x=>decide (x.1=s))=none)∨∃(i:Nat) (x:List UInt8×Nat×Nat),r=i∧i<(vT v).length∧(Qa6 v).getD i []=row3 x∧((vT v).find? fun x=>decide (x.1=s))=some x
set_option maxHeartbeats 1000000 in
theorem Qatk {w k cnt:Nat}{fl:Bool}{fns:List Fn}{vc:C}{code:Int}{v:Vars}{s:List UInt8}(how:vc.isOw=false)(hH:H w=wO fl fns k vc cnt code)(hg:Slc H 3 (Qa6 v) vc)
  (hK:∀r,Qa6u v s r→K (.c (.int .i64 r)) H):Qp prog Qgy [.c (.ptr w 0),.c (.str s)] H K:=by
 have hok:=eq_true hg.ok
 have hrw:=hg.rows
 have hln:=hg.len
 have hsz:=hg.sz
 rw[Qu6]at hln
 refine Qb Qah Qaif ?_
 have retf:∀(n:Int) (e:Env),Qa6u v s n→lk 4 e=.c (.int .i64 n)→Qy Qnf K .ret e H:=by
  intro b e hf h1
  simp only[go_sem,Qy,Q7,Qnf,List.mem_singleton,forall_eq,RS.op,h1]
  exact hK _ hf
 refine Qa ?_
 simp only[go_sem]
 refine Q4 ?_
 refine Qa ?_
 simp only[go_sem,hH,how,hok,hln]
 intro hl
 simp only[LIM]at hl
 refine⟨Qu (by omega) (by omega),?_⟩
 refine Qf (Qd (Q0 (fun n e1 H1=>∃(j:Nat),n=j∧j≤(vT v).length∧H1=H∧(∀x∈(vT v).take ((vT v).length-j),¬decide (x.1=s)=true)∧e1=[(0,.c (.ptr w 0)),(1,.c (.str s)),(5,.c (.int .i64 ((j:Int)-1)))]) (vT v).length ?_ ?_))
 ·exact⟨(vT v).length,rfl,by omega,rfl,by simp,rfl⟩
 ·rintro n e1 H1 ⟨j,hnj,hj,rfl,hall,rfl⟩
  refine Q4 ?_
  refine Qa ?_
  simp only[go_sem]
  refine Qf (Qc rfl ?_ ?_)
  ·intro hc
   have hj1:1≤j:=by simp at hc;omega
   obtain⟨i,rfl⟩:∃i,j=i+1:=⟨j-1,by omega⟩
   have e1:(((i+1:Nat):Int)-1)=(i:Int):=by omega
   have hlt:i<(vT v).length:=by omega
   have hk:(vT v).length-1-i<(vT v).length:=by omega
   have hr:=Qahn v hlt
   have ek:(vT v).length-(i+1)=(vT v).length-1-i:=by omega
   obtain⟨x,hx⟩:∃x,(vT v)[(vT v).length-1-i]=x:=⟨_,rfl⟩
   rw[hx]at hr
   have hr2:=hr
   rw[row3]at hr2
   rw[e1]at hc⊢
   refine Qe ?_
   simp only[go_sem]
   refine Qf (Qd ?_)
   refine Qa ?_
   simp only[go_sem,hH,how,hok,hln,hrw,hsz,hlt,hr2]
   refine Qc rfl ?_ ?_
   ·intro hc2
    refine Qa ?_
    simp only[go_sem]
    refine Qi ?_
    simp only[go_sem,AE.X.next]
    refine retf _ _ (.inr ⟨i,x,rfl,hlt,hr,?_⟩) rfl
    have:=Qa49 (p:=fun x:List UInt8×Nat×Nat=>decide (x.1=s)) hk (by rw[hx];exact hc2) (by rw[←ek];exact hall)
    rw[this,hx]
   ·intro hc2
    refine Qe ?_
    simp only[go_sem]
    refine Qs ?_
    simp only[go_sem,AE.X.next]
    refine⟨Qu (by omega) (by omega),i,by omega,i,rfl,by omega,?_,rfl⟩
    have e2:(vT v).length-i=(vT v).length-1-i+1:=by omega
    rw[e2,List.take_succ_eq_append_getElem hk]
    intro y hy
    rcases List.mem_append.1 hy with hy|hy
    ·rw[←ek]at hy;exact hall y hy
    ·simp only[List.mem_singleton]at hy
     rw[hy,hx]
     intro h;rw[h]at hc2;cases hc2
  ·intro hc
   have hj0:j=0:=by simp at hc;omega
   subst hj0
   refine Q1 ?_
   simp only[go_sem,AE.X.next]
   refine Qa ?_
   simp only[go_sem]
   refine Qi ?_
   refine retf (-1) _ (.inl ⟨rfl,?_⟩) rfl
   rw[List.find?_eq_none]
   simpa using hall
theorem Qa05 {w k cnt:Nat}{fl:Bool}{fns:List Fn}{vc:C}{code:Int}{v:Vars}{s:List UInt8}(how:vc.isOw=false)(hH:H w=wO fl fns k vc cnt code)(hg:Slc H 3 (Qa6 v) vc)
  (hK:∀t H',Upd H H' [(w,wO fl fns k vc cnt (Qb8 code (if (v.find s).isSome then 0 else 3)))]→K (.c (.str t)) H'):Qp prog Qi4 [.c (.ptr w 0),.c (.str s)] H K:=by
 have hok:=eq_true hg.ok
 have hrw:=hg.rows
 have hln:=hg.len
 have hsz:=hg.sz
 rw[Qu6]at hln
 refine Qb Qah Qak3 ?_
 have retf:∀(t:List UInt8) (e:Env) (H':Heap),Upd H H' [(w,wO fl fns k vc cnt (Qb8 code (if (v.find s).isSome then 0 else 3)))]→lk 4 e=.c (.str t)→Qy Qrx K .ret e H':=by
  intro b e H' hu h1
  simp only[go_sem,Qy,Q7,Qrx,List.mem_singleton,forall_eq,RS.op,h1]
  exact hK _ _ hu
 refine Qa ?_
 simp only[go_sem]
 refine Qa ?_
 simp only[go_sem]
 refine Qatk how hH hg fun r hr=>?_
 simp only[go_sem,Qtz]
 refine Q4 ?_
 refine Qa ?_
 simp only[go_sem]
 have hvf:=Qa6p v s
 rcases hr with ⟨rfl,hf⟩|⟨i,x,rfl,hlt,hrow,hf⟩
 ·rw[hf]at hvf
  rw[hvf]at retf
  refine Qf (Qc rfl (fun _=>?_) (fun h=>by cases h))
  refine Qa ?_
  simp only[go_sem]
  refine Q1y how hH fun H1 hu=>?_
  simp only[go_sem]
  refine Qa ?_
  simp only[go_sem]
  refine Qi ?_
  simp only[go_sem,AE.X.next]
  exact retf _ _ _ hu rfl
 ·rw[hf]at hvf
  rw[hvf]at retf
  have hr2:=hrow
  rw[row3]at hr2
  refine Qf (Qc rfl (fun h=>by have:=of_decide_eq_true h;omega) (fun _=>?_))
  refine Qe ?_
  try simp only[go_sem]
  refine Qa ?_
  simp only[go_sem,hH,how,hok,hln,hrw,hsz,hlt,hr2]
  refine Qast fun t=>?_
  simp only[go_sem,Qt0]
  refine Qi ?_
  refine retf t _ _ ⟨fun q hq=>?_,fun m h1 h2=>rfl⟩ rfl
  simp only[List.mem_singleton]at hq
  rw[hq]
  have e0:Qb8 code (if (Option.map (fun x:List UInt8×Nat×Nat=>x.2.1) (some x)).isSome=true then 0 else 3)=code:=Qagn code
  rw[e0];exact hH
theorem Qa03 {F:Heap}{w k cnt:Nat}{fl:Bool}{fns:List Fn}{vc:C}{code:Int}{b:List (List UInt8×Nat)}{r:Vars}{s:List UInt8}{Lg:List (Nat×Obj)}(hg:Gp Lg 3 (Qa6 (b::r)) vc)
  (kn:Kn F H [] ((w,wO fl fns k vc cnt code)::Lg)) (hc:cnt≤2^40) (hl:(Qa6 (b::r)).length+1≤LIM)
  (hK:∀t H' vc' Lg',Gp Lg' 3 (Qa6 (((s,cnt)::b)::r)) vc'→Kn F H' [] ((w,wO fl fns k vc' (cnt+1) (Qb8 code (if Qgf (b::r) s then 2 else 0)))::Lg')→K (.c (.str t)) H') :
  Qp prog Qi3 [.c (.ptr w 0),.c (.str s),.c (.int .i64 r.length)] H K:=by
 have how:=hg.isOw
 have hH:=kn.l 0 rfl
 have hs:=hg.slc fun p hp=>(kn.get p (by simp[hp])).1
 have hok:=eq_true hs.ok
 have hrw:=hs.rows
 have hln:=hs.len
 have hsz:=hs.sz
 rw[Qu6]at hln
 refine Qb Qah Qak2 ?_
 have tail:∀(code':Int) (H1:Heap) (e1:Env),code'=Qb8 code (if Qgf (b::r) s then 2 else 0)→Kn F H1 [] ((w,wO fl fns k vc cnt code')::Lg)→lk 0 e1=.c (.ptr w 0)→lk 1 e1=.c (.str s)→lk 2 e1=.c (.int .i64 r.length)→
   Q8 prog Qxm (Qy Qrw K) e1 H1:=by
  intro code' H1 e1 hcode kn f0 f1 f2
  subst hcode
  have hH:=kn.l 0 rfl
  refine Qaz ?_
  simp only[go_sem,f0,f1,f2,hH,how]
  refine Kn.growP (B:=[(w,wO fl fns k vc cnt (Qb8 code (if Qgf (b::r) s then 2 else 0)))]) kn hg (.mk' _ true 3 _) (by simp[noOw,C.isOw]) (by simpa using hl) fun t Lg' H2 hg' kn=>?_
  have how':=hg'.isOw
  have hH:=kn.l 0 rfl
  simp only[go_sem,Qtx,hH,how',f0,f1,f2]
  intro H3 h3
  have kn:=kn.stL 0 rfl h3
  have hH:=kn.l 0 rfl
  refine Qa ?_
  simp only[go_sem,hH,how',f0,f1,f2]
  refine⟨Qu (by omega) (by omega),?_⟩
  intro H4 h4
  have kn:=kn.stL 0 rfl h4
  have hH:=kn.l 0 rfl
  refine Qa ?_
  simp only[go_sem,hH,how',f0,f1,f2]
  refine⟨Qu (by omega) (by omega),?_⟩
  have en:((cnt:Int)+1-1)=((cnt:Nat):Int):=by omega
  try rw[en]
  refine Qast fun t'=>?_
  simp only[go_sem,Qty]
  refine Qi ?_
  simp only[go_sem,Qy,Q7,Qrw,List.mem_singleton,forall_eq,RS.op]
  exact hK t' _ t Lg' (by rw[Qadx];exact hg') kn
 refine Qa ?_
 simp only[go_sem]
 refine Qa ?_
 simp only[go_sem]
 refine Qatk how hH hs fun n hn=>?_
 simp only[go_sem,Qtw]
 refine Q4 ?_
 have htop:=Qa8f b r s
 rcases hn with ⟨rfl,hf⟩|⟨i,x,rfl,hlt,hrow,hf⟩
 ·rw[hf]at htop
  have hm1:decide ((0:Int)≤-1)=false:=by decide
  have tn:Int.toNat (-1)=0:=rfl
  have ht0:Qgf (b::r) s=false:=by rw[htop];rfl
  rw[ht0]at tail
  obtain⟨ro,hro,hcase⟩:∃ro,(Qa6 (b::r)).getD 0 []=ro∧(ro=[]∨∃a m n,ro=[.str a,.int .i64 m,.int .i64 n]):=by
   refine⟨_,rfl,?_⟩
   rcases Nat.eq_zero_or_pos (vT (b::r)).length with h0|h0
   ·refine .inl ?_
    have:Qa6 (b::r)=[]:=List.eq_nil_of_length_eq_zero (by rw[Qu6];exact h0)
    rw[this];rfl
   ·exact .inr ⟨_,_,_,Qahn _ h0⟩
  refine Qa ?_
  rcases hcase with rfl|⟨a,m,n,rfl⟩
  ·simp only[go_sem,hm1,hH,how,hok,hln,hrw,hsz,hro,tn,List.headD_nil]
   refine Qf (Qc rfl (fun h=>by cases h) (fun _=>?_))
   refine Qe ?_
   simp only[go_sem]
   exact tail code _ _ (Qagn code).symm kn rfl rfl rfl
  ·simp only[go_sem,hm1,hH,how,hok,hln,hrw,hsz,hro,tn]
   refine Qf (Qc rfl (fun h=>by cases h) (fun _=>?_))
   refine Qe ?_
   simp only[go_sem]
   exact tail code _ _ (Qagn code).symm kn rfl rfl rfl
 ·rw[hf]at htop
  have hr2:=hrow
  rw[row3]at hr2
  have hge:decide ((0:Int)≤(i:Int))=true:=decide_eq_true (by omega)
  refine Qa ?_
  simp only[go_sem,hge,hH,how,hok,hln,hrw,hsz,hlt,hr2]
  have he:decide (((x.2.2:Nat):Int)=((r.length:Nat):Int))=decide (x.2.2=r.length):=by rw[decide_eq_decide];omega
  simp only[Option.map_some,Option.getD_some]at htop
  rw[←htop]at he
  rw[he]
  refine Qf (Qc rfl (fun hc2=>?_) (fun hc2=>?_))
  ·refine Qs ?_
   simp only[go_sem]
   refine Q1y how hH fun H1 hu=>?_
   have kn:=kn.callL 0 rfl hu (by nofun)
   simp only[go_sem,AE.X.next]
   refine tail _ _ _ ?_ kn rfl rfl rfl
   have:Qgf (b::r) s=true:=by simpa using hc2
   rw[this];rfl
  ·refine Qe ?_
   simp only[go_sem,AE.X.next]
   refine tail code _ _ ?_ kn rfl rfl rfl
   have:Qgf (b::r) s=false:=by simpa using hc2
   rw[this];exact (Qagn code).symm
end Go.AE.Y

namespace Go.AE.Y
attribute [local go_sem] cond_true cond_false Bool.not_true Bool.not_false
open Go.Proofs.Tryz
variable {H H0:Heap}{K:V→Heap→Prop}{E E' L:List (Nat×Obj)}
theorem Qatf {l:List Fn}{fl:Bool}{name:List UInt8}(hK:K (.c (.int .i64 (ixI (Qkh l name)))) H):Qp prog Qvd [.ag [.sl fl 3 (Qr l)],.c (.str name)] H K:=by
 refine Qb Qah Qayr ?_
 have retf:∀(n:Int) (e:Env),n=ixI (Qkh l name)→lk 4 e=.c (.int .i64 n)→Qy Q9o K .ret e H:=by
  intro b e hn h1
  simp only[go_sem,Qy,Q7,Q9o,List.mem_singleton,forall_eq,RS.op,h1]
  rw[hn];exact hK
 refine Qa ?_
 simp only[go_sem]
 refine Q4 ?_
 refine Qa ?_
 simp only[go_sem]
 refine Qf (Qd (Q0 (fun n e1 H1=>∃(i:Nat),n=l.length-i∧i≤l.length∧H1=H∧(∀f∈l.take i,¬f.name=name)∧e1=[(1,.c (.str name)),(2,.c (.pp [.sl fl 3 (Qr l)])),(5,.c (.int .i64 i))]) l.length ?_ ?_))
 ·exact⟨0,by omega,by omega,rfl,by simp,rfl⟩
 ·rintro n e1 H1 ⟨i,hn1,hi,rfl,hall,rfl⟩
  refine Q4 ?_
  refine Qa ?_
  simp only[go_sem,Qm]
  intro hl
  simp only[LIM]at hl
  refine Qf (Qc rfl ?_ ?_)
  ·intro hc
   have hlt:i<l.length:=by simpa using hc
   refine Qe ?_
   simp only[go_sem]
   refine Qf (Qd ?_)
   refine Qa ?_
   simp only[go_sem,hlt,Qm,Q6 _ _ hlt,Fn.cells]
   refine Qc rfl ?_ ?_
   ·intro hc2
    have hnm:l[i].name=name:=by simpa using hc2
    refine Qa ?_
    simp only[go_sem]
    refine Qi ?_
    simp only[go_sem,AE.X.next]
    exact retf i _ (by rw[Qaxn hlt hnm hall];rfl) rfl
   ·intro hc2
    have hnm:¬l[i].name=name:=by simpa using hc2
    refine Qe ?_
    simp only[go_sem]
    refine Qs ?_
    simp only[go_sem,AE.X.next]
    refine⟨Qu (by omega) (by omega),l.length-(i+1),by omega,i+1,rfl,by omega,?_,rfl⟩
    rw[List.take_succ_eq_append_getElem hlt]
    intro x hx
    rcases List.mem_append.1 hx with hx|hx
    ·exact hall x hx
    ·simp only[List.mem_singleton]at hx;subst hx;exact hnm
  ·intro hc
   have hge:l.length≤i:=by simpa using hc
   rw[List.take_of_length_le hge]at hall
   refine Q1 ?_
   simp only[go_sem,AE.X.next]
   refine Qa ?_
   simp only[go_sem]
   refine Qi ?_
   exact retf (-1) _ (by rw[Qaxo hall];rfl) rfl
abbrev exO (op n:Int)(nm:List UInt8)(kc:C):Obj:=.st [.int .i64 op,.int .i64 n,.str nm,kc]
set_option maxHeartbeats 4000000 in
theorem Qa30 {w k cnt:Nat}{fl:Bool}{fns:List Fn}{vc:C}{Lg:List (Nat×Obj)}{v:Vars}(hg:Gp Lg 3 (Qa6 v) vc):∀(n:Nat) (x:Ex) (code:Int) (H:Heap) (K:V→Heap→Prop),
  x.size≤n→x.size≤2^38→((w::Lg.map Prod.fst).Nodup)→(∀p∈(w,wO fl fns k vc cnt code)::Lg,H p.1=p.2)→
  (∀(y:Ex) H',Upd H H' ((w,wO fl fns k vc cnt (Qao fns k v x.pre code))::Lg)→K (.ag y.cells) H')→Qp prog Qgx [.c (.ptr w 0),.ag x.cells] H K:=by
 have how:=hg.isOw
 intro n
 induction n with
 |zero=>intro x code H K h;have:=x.size_pos;omega
 |succ n ih=>
 intro x code H K hn hb hnd hh hK
 have hsz:=x.size_kids
 have hne:∀c,∀p∈(w,wO fl fns k vc cnt c)::Lg,p.2≠.none:=by
  intro c p hp
  rcases List.mem_cons.1 hp with rfl|hp
  ·nofun
  ·exact hg.ne p hp
 have kn:Kn H H ((w,wO fl fns k vc cnt code)::Lg) []:=.startE (fun p hp=>⟨hh p hp,hne _ p hp⟩) hnd
 refine Qw ?_
 refine Qb Qah Qaid ?_
 refine Qa ?_
 simp only[go_sem,x.cells_eq]
 intro x3 hx3 H1 h1
 have kn:=kn.al hx3 h1
 simp only[go_sem,Qo7]
 intro x4 hx4 H2 h2
 have kn:Kn H H2 ((w,wO fl fns k vc cnt code)::Lg) [(x3,exO x.op x.n x.name (.sl false 4 (Qv x.kids))),(x4,exO 0 0 [] (.sl true 4 []))]:=kn.al hx4 h2
 try simp only[go_sem]
 have three:∀(H1:Heap) (e1:Env) (nm:List UInt8),Kn H H1 ((w,wO fl fns k vc cnt (Qb8 code (Qda fns k v x)))::Lg) [(x3,exO x.op x.n nm (.sl false 4 (Qv x.kids))),(x4,exO 0 0 [] (.sl true 4 []))]→
   lk 0 e1=.c (.ptr w 0)→lk 3 e1=.c (.ptr x3 0)→lk 4 e1=.c (.ptr x4 0)→Q8 prog Qhr (Qy Qfc (unK H K)) e1 H1:=by
  intro H1 e1 nm kn f0 f3 f4
  refine Qa ?_
  simp only[go_sem,f0,f3,f4]
  refine Q4 ?_
  refine Qa ?_
  simp only[go_sem]
  refine Qf (Qd (Q0 (fun m e2 H2=>∃(j:Nat) (ks:List Ex) (Lk:List (Nat×Obj)) (t:C),m=x.kids.length-j∧j≤x.kids.length∧Gr Lk 4 (Qv ks) t∧ks.length=j∧
   Kn H H2 ((w,wO fl fns k vc cnt (Qao fns k v (Qad (x.kids.take j)) (Qb8 code (Qda fns k v x))))::Lg) ([(x3,exO x.op x.n nm (.sl false 4 (Qv x.kids))),(x4,exO 0 0 [] (.sl true 4 []))]++Lk)∧
   e2=[(0,.c (.ptr w 0)),(3,.c (.ptr x3 0)),(4,.c (.ptr x4 0)),(6,.c t),(7,.c (.int .i64 j))]) x.kids.length ?_ ?_))
  ·exact⟨0,[],[],.sl true 4 [],by omega,by omega,.nil 4,rfl,by simpa[Qad,Qao]using kn,rfl⟩
  ·clear kn f0 f3 f4
   rintro m e2 H2 ⟨j,ks,Lk,t,hm,hj,hgk,hks,kn,rfl⟩
   have hto:=hgk.isOw
   have g3:=kn.l 0 rfl
   refine Q4 ?_
   refine Qa ?_
   simp only[go_sem,g3,hto,Qj]
   intro hl
   simp only[LIM]at hl
   refine Qf (Qc rfl ?_ ?_)
   ·intro hc
    have hlt:j<x.kids.length:=by simpa using hc
    have hms:=Qaf (List.getElem_mem hlt)
    obtain⟨y,hy⟩:∃y,x.kids[j]=y:=⟨_,rfl⟩
    have htk:=Qcv hlt
    rw[hy]at hms htk
    refine Qe ?_
    try simp only[go_sem]
    refine Qf (Qd ?_)
    refine Qs ?_
    simp only[go_sem,g3,hto,hlt,Qj,Qac _ _ hlt,hy,y.cells_eq]
    have hih:=fun K=>ih y (Qao fns k v (Qad (x.kids.take j)) (Qb8 code (Qda fns k v x))) H2 K
    rw[y.cells_eq]at hih
    refine hih _ (by omega) (by omega) hnd (fun p hp=>(kn.get p (List.mem_append_left _ hp)).1) fun z H5 hu=>?_
    have kn:=kn.callAll hu rfl (hne _)
    simp only[go_sem,Qpb,hto,z.cells_len]
    refine kn.growR hgk (.mk' _ true 4 _) (by simpa using z.noOw) (by simp only[Qj,List.length_cons,List.length_nil,LIM];omega) fun t' Lk' H6 hg' hto' kn=>?_
    rw[Qd7]at hg'
    simp only[go_sem,Qpa,hto']
    refine Qs ?_
    simp only[go_sem,AE.X.next,hto']
    refine⟨Qu (by omega) (by omega),x.kids.length-(j+1),by omega,j+1,ks++[z],Lk',t',rfl,by omega,hg',by simp[hks],?_,rfl⟩
    rw[htk,Q2v]
    exact kn
   ·intro hc
    have hge:x.kids.length≤j:=by simpa using hc
    rw[List.take_of_length_le hge]at kn
    refine Q1 ?_
    simp only[go_sem,AE.X.next]
    refine Qa ?_
    simp only[go_sem,g3,hto]
    intro H3 h3
    have kn:=kn.stL 0 rfl h3
    have g3:=kn.l 0 rfl
    have g4:=kn.l 1 rfl
    refine Qa ?_
    simp only[go_sem,g3,g4,hto]
    intro H4 h4
    have kn:=kn.stL 1 rfl h4
    have g4:=kn.l 1 rfl
    refine Qi ?_
    simp only[go_sem,Qy,Q7,Qfc,List.mem_singleton,forall_eq,RS.op,g4,hto]
    refine⟨.ag (Ex.mk x.op x.n nm ks).cells,?_,hK (Ex.mk x.op x.n nm ks) _ ?_⟩
    ·rw[Ex.cells_eq]
     exact (FrzL.cons (Qg rfl) (.cons (Qg rfl) (.cons (Qg rfl) (.cons (hgk.frz (B:=[_,_]) kn (Qap _)) .nil)))).ag
    ·rw[x.pre_eq]
     exact kn.fin
 have two:∀(H1:Heap) (e1:Env) (nm:List UInt8) (code1:Int),(x.op=2→code1=Qb8 code (Qda fns k v x))→(¬x.op=2→code1=code∧nm=x.name)→Kn H H1 ((w,wO fl fns k vc cnt code1)::Lg) [(x3,exO x.op x.n nm (.sl false 4 (Qv x.kids))),(x4,exO 0 0 [] (.sl true 4 []))]→
   lk 0 e1=.c (.ptr w 0)→lk 3 e1=.c (.ptr x3 0)→lk 4 e1=.c (.ptr x4 0)→Q8 prog Qo6 (Qy Qfc (unK H K)) e1 H1:=by
  intro H1 e1 nm code1 hc1 hc2 kn f0 f3 f4
  have g3:=kn.l 0 rfl
  have gw:=kn.e 0 rfl
  refine Q4 ?_
  refine Qa ?_
  simp only[go_sem,f0,f3,f4,g3]
  refine Qf (Qc rfl ?_ ?_)
  ·intro hc
   have h13:x.op=13:=by simpa using hc
   have h2:¬x.op=2:=by omega
   obtain⟨ec,en⟩:=hc2 h2
   rw[ec,en]at kn
   rw[ec]at gw
   rw[en]at g3
   have hpc:=Qas6 fns k v x
   rw[if_neg h2,if_pos h13]at hpc
   refine Qaz ?_
   simp only[go_sem,g3,gw,how]
   refine Qatf ?_
   simp only[go_sem,Qo9]
   have bad:∀(e2:Env),Qda fns k v x=4→lk 0 e2=.c (.ptr w 0)→lk 3 e2=.c (.ptr x3 0)→lk 4 e2=.c (.ptr x4 0)→lk 35 e2=.c (.bool true)→Q8 prog Qtv (X.sq prog Qhr (Qy Qfc (unK H K))) e2 H1:=by
    intro e2 hp f0 f3 f4 f35
    refine Qc (c:=true) f35 (fun _=>?_) (fun h=>by cases h)
    refine Qs ?_
    simp only[go_sem,f0,f3,f4]
    refine Q1y how gw fun H3 hu=>?_
    have kn:=kn.callE 0 rfl hu (by nofun)
    rw[←hp]at kn
    simp only[go_sem,AE.X.next]
    exact three _ _ _ kn rfl rfl rfl
   cases hx:Qkh fns x.name with
   |none=>
    rw[hx]at hpc
    refine Qa ?_
    simp only[go_sem,ixI,gw,how]
    exact bad _ hpc rfl rfl rfl rfl
   |some j=>
    rw[hx]at hpc
    obtain⟨hj,_,_⟩:=Q0q hx
    simp only[hj,List.getElem?_eq_getElem,Option.map_some,Option.getD_some]at hpc
    have hd0:decide ((j:Int)<0)=false:=decide_eq_false (by omega)
    refine Qa ?_
    simp only[go_sem,ixI,gw,how,hd0]
    by_cases hkj:k≤j
    ·have hd:decide ((k:Int)≤(j:Int))=true:=decide_eq_true (by omega)
     rw[if_pos hkj]at hpc
     refine bad _ hpc rfl rfl rfl ?_
     simp[lk,hkj]
    ·have hd:decide ((k:Int)≤(j:Int))=false:=decide_eq_false (by omega)
     rw[if_neg hkj]at hpc
     refine Qc (c:=false) (by simp[Opd.raw,lk];omega) (fun h=>by cases h) (fun _=>?_)
     refine Qaz ?_
     simp only[go_sem,g3,gw,how,hj,Qm,Q6 _ _ hj,Fn.cells,Qq,Qj]
     refine Qc rfl ?_ ?_
     ·intro hc4
      have hne:¬fns[j].params.length=x.kids.length:=by
       have h:=Qvs hc4
       rw[decide_eq_false_iff_not]at h;omega
      rw[if_neg hne]at hpc
      refine Qs ?_
      simp only[go_sem]
      refine Q1y how gw fun H3 hu=>?_
      have kn:=kn.callE 0 rfl hu (by nofun)
      rw[←hpc]at kn
      simp only[go_sem,AE.X.next]
      exact three _ _ _ kn rfl rfl rfl
     ·intro hc4
      have he:fns[j].params.length=x.kids.length:=by
       have h:=Qkj hc4
       rw[decide_eq_true_eq]at h;omega
      rw[if_pos he]at hpc
      refine Qe ?_
      simp only[go_sem,AE.X.next]
      refine three _ _ x.name ?_ rfl rfl rfl
      rw[hpc,Qagn];exact kn
  ·intro hc
   have h13:¬x.op=13:=by simpa using hc
   refine Qe ?_
   simp only[go_sem,AE.X.next]
   refine three _ _ nm ?_ rfl rfl rfl
   by_cases h2:x.op=2
   ·rw[←hc1 h2];exact kn
   ·obtain⟨ec,_⟩:=hc2 h2
    rw[ec]at kn
    have hpc:=Qas6 fns k v x
    rw[if_neg h2,if_neg h13]at hpc
    rw[hpc,Qagn];exact kn
 have g3:=kn.l 0 rfl
 have gw:=kn.e 0 rfl
 refine Q4 ?_
 refine Qa ?_
 simp only[go_sem,g3]
 refine Qf (Qc rfl ?_ ?_)
 ·intro hc
  have h2:x.op=2:=by simpa using hc
  have hpc:Qda fns k v x=if (v.find x.name).isSome then 0 else 3:=by rw[Qda,if_pos h2]
  refine Qs ?_
  simp only[go_sem,g3]
  refine Qa05 how gw (hg.slc fun p hp=>(kn.get p (by simp[hp])).1) fun t H3 hu=>?_
  have kn:=kn.callE 0 rfl hu (by nofun)
  have g3:=kn.l 0 rfl
  simp only[go_sem,Qo8,g3]
  intro H4 h4
  have kn:=kn.stL 0 rfl h4
  try simp only[go_sem,AE.X.next]
  exact two _ _ t _ (fun _=>by rw[hpc]) (fun h=>absurd h2 h) kn rfl rfl rfl
 ·intro hc
  have h2:¬x.op=2:=by simpa using hc
  refine Qe ?_
  simp only[go_sem,AE.X.next]
  exact two _ _ x.name code (fun h=>absurd h h2) (fun _=>⟨rfl,rfl⟩) kn rfl rfl rfl
end Go.AE.Y

namespace Go.AE.Y
structure Blk where
 ic:C
 irows:List (List C)
 lg:List (Nat×Obj)
 jump:Int
 on:Int
 nfl:Bool
 next:List Int
def Blk.row (b:Blk):List C:=[.sl true 2 [],b.ic,.int .i64 b.jump,.int .i64 b.on,.sl b.nfl 1 (Qx b.next)]
structure LS where
 fns:List Fn
 pfl:Bool
 params:Int
 regs:Int
 bc:C
 lb:List (Nat×Obj)
 blocks:List Blk
 at_:Nat
 vc:C
 lv:List (Nat×Obj)
 vars:List (List C)
 next:Int
def LS.o (s:LS):Obj:=.st [.sl s.pfl 3 (Qr s.fns),.int .i64 s.params,.int .i64 s.regs,s.bc,.int .i64 s.at_,s.vc,.int .i64 s.next,.sl true 1 []]
structure LS.ok (s:LS)(N:Nat):Prop where
 r0:0≤s.regs
 r1:s.regs≤N
 n0:0≤s.next
 n1:s.next≤N
 b1:s.blocks.length≤N
 i1:∀b∈s.blocks,b.irows.length≤N
 v1:s.vars.length≤N
theorem LS.ok.mono {s:LS}{N M:Nat}(h:s.ok N)(hm:N≤M):s.ok M:=
 ⟨h.r0,by have:=h.r1;omega,h.n0,by have:=h.n1;omega,by have:=h.b1;omega,fun b hb=>by have:=h.i1 b hb;omega,by have:=h.v1;omega⟩
variable {F H H':Heap}{w:Nat}{s:LS}
end Go.AE.Y

namespace Go.AE
variable {H0 H H' F:Heap}{E L B A:List (Nat×Obj)}
theorem Kn.frz1 {z:Nat}{o:Obj}(kn:Kn H0 H E (B++[(z,o)])):Kn H0 (H.frz fun m=>m == z) E B:=by
 have hzf:H0 z=.none:=kn.loc (z,o) (by simp)
 have hnd:=kn.dL
 rw[List.map_append]at hnd
 have hne:∀p∈B,p.1≠z:=fun p hp hh=>(List.nodup_append.1 hnd).2.2 _ (Qbi hp) z (by simp) hh
 have hneE:∀p∈E,p.1≠z:=fun p hp hh=>kn.ext p hp (hh▸hzf)
 refine⟨fun p hp=>?_,kn.ext,fun p hp=>kn.loc p (List.mem_append_left _ hp),kn.dE,(List.nodup_append.1 hnd).1,fun m hm hx=>?_⟩
 ·have:p.1≠z:=by
   rcases List.mem_append.1 hp with h|h
   ·exact hneE p h
   ·exact hne p h
  have h2:(H.frz fun m=>m == z) p.1=H p.1:=by simp[Heap.frz,this]
  rw[h2]
  refine kn.get p ?_
  rcases List.mem_append.1 hp with h|h
  ·exact List.mem_append_left _ h
  ·exact List.mem_append_right _ (List.mem_append_left _ h)
 ·have:m≠z:=fun h=>hm (h▸hzf)
  have h2:(H.frz fun m=>m == z) m=H m:=by simp[Heap.frz,this]
  rw[h2];exact kn.chg m hm hx
theorem Gr.freeze {Lg:List (Nat×Obj)}{sz:Nat}{rows:List (List C)}{c:C}(h:Gr Lg sz rows c)(kn:Kn H0 H E (B++Lg))(hr:∀r∈rows,noOw r=true) :
  ∃S H2,FrzC H S c (.sl false sz rows)∧FrzH H S H2∧Kn H0 H2 E B:=by
 rcases h with ⟨rfl,rfl,rfl⟩|⟨y,rfl,rfl⟩
 ·refine⟨fun _=>false,H,Y.FrzR.nil.sl,fun m=>.inr ⟨rfl,.same _⟩,by simpa using kn⟩
 ·exact⟨fun m=>m == y,_,(Y.FrzR.same hr).vsl (by simp) (kn.get (y,.vec sz rows) (by simp)).1 rfl,Qvf _ _,kn.frz1⟩
end Go.AE
namespace Go.AE.Y
variable {F H H':Heap}{w:Nat}{s:LS}{Lg:List (Nat×Obj)}{sz:Nat}{rows:List (List C)}{c:C}
end Go.AE.Y

namespace Go.AE
variable {H0 H H' F:Heap}{E L B A M:List (Nat×Obj)}{S:Nat→Bool}
theorem Kn.sub {L':List (Nat×Obj)}(kn:Kn H0 H E L)(hs:L'.Sublist L):Kn H0 H E L':=
 ⟨fun p hp=>kn.get p (by
   rcases List.mem_append.1 hp with h|h
   ·exact List.mem_append_left _ h
   ·exact List.mem_append_right _ (hs.subset h)),kn.ext,fun p hp=>kn.loc p (hs.subset hp),kn.dE,kn.dL.sublist (hs.map _),kn.chg⟩
theorem Kn.stM {x:Nat}{o o':Obj}(kn:Kn H0 H E (A++(x,o)::B))(h1:H'=H.set x o')(ho:o'≠.none:=by nofun):Kn H0 H' E (A++(x,o')::B):=by
 have:=kn.stL A.length (x:=x) (o:=o) (by simp) h1 ho
 simpa using this
theorem Kn.getM {x:Nat}{o:Obj}(kn:Kn H0 H E (A++(x,o)::B)):H x=o:=(kn.get (x,o) (by simp)).1
theorem Qaxq {e e':Env}(h:∀p∈e',FrzV H S (lk p.1 e) p.2):∀t,FrzV H S (lk t e) (lk t e'):=fun t=>by
 induction e' with
 |nil=>exact .unk _
 |cons p e' ih=>
  obtain⟨s,v⟩:=p
  by_cases ht:t=s
  ·subst ht
   have:=h (t,v) List.mem_cons_self
   simpa[lk]using this
  ·have:=ih fun p hp=>h p (List.mem_cons_of_mem _ hp)
   simpa[lk,ht]using this
end Go.AE
namespace Go.AE.Y
attribute [local go_sem] cond_true cond_false Bool.not_true Bool.not_false
open Go.Proofs.Tryz
variable {H H0 F:Heap}{K:V→Heap→Prop}{E E' L:List (Nat×Obj)}
def StsW (w k:Nat)(fl:Bool)(fns:List Fn)(n:Nat):Prop:=∀(sts:List St) (f5:Bool) (b:List (List UInt8×Nat)) (r:Vars) (s:Ck) (vc:C) (Lg:List (Nat×Obj)) (F H:Heap) (K:V→Heap→Prop),
 Qh sts≤n→s.v=b::r→(r≠[]→b=[])→Gp Lg 3 (Qa6 (b::r)) vc→Kn F H [] ((w,wO fl fns k vc s.n s.c)::Lg)→(Qa6 (b::r)).length≤s.n→s.n+Qh sts≤2^38→r.length+Qh sts≤2^38→
 (∀out H' vc' Lg',(r=[]→Gp Lg' 3 (Qa6 (Qam fns k sts s).v) vc')→(r≠[]→Gp Lg' 3 (Qa6 r) vc')→Kn F H' [] ((w,wO fl fns k vc' (Qam fns k sts s).n (Qam fns k sts s).c)::Lg')→K (.c (.sl false 5 (Qk out))) H')→
 Qp prog Qc1 [.c (.ptr w 0),.c (.sl f5 5 (Qk sts)),.c (.int .i64 r.length)] H K
abbrev stX (op:Int)(nm:List UInt8)(a b c:C):Obj:=.st [.int .i64 op,.str nm,a,b,c]
set_option maxHeartbeats 4000000 in
theorem Qa02 {w k x10 i many:Nat}{fl f5:Bool}{fns:List Fn}{x:St}{sts:List St}{outs:List St}{ars:List Ex}{nm:List UInt8}{t vc:C}{Lz Lg:List (Nat×Obj)}{e:Env}{Q:X→Env→Heap→Prop}{s1:Ck}{b1:List (List UInt8×Nat)}{r:Vars}
  (hN:∀n,n<x.size→StsW w k fl fns n) (hv:s1.v=b1::r) (hg:Gp Lg 3 (Qa6 (b1::r)) vc) (hz:Gr Lz 5 (Qk outs) t) (ho:outs.length<2^38)
  (kn:Kn F H [] (((w,wO fl fns k vc s1.n s1.c)::Lg)++((x10,stX x.op nm (.sl false 4 (Qv ars)) (.sl false 5 (Qk x.body)) (.sl false 5 (Qk x.els)))::Lz)))
  (hrow:(Qa6 (b1::r)).length≤s1.n) (hn:s1.n+Qh x.body+Qh x.els≤2^38) (hr:r.length+x.size≤2^38)
  (f0:lk 0 e=.c (.ptr w 0)) (f1:lk 1 e=.c (.sl f5 5 (Qk sts))) (f2:lk 2 e=.c (.int .i64 r.length)) (f7:lk 7 e=.c t) (f8:lk 8 e=.c (.int .i64 many)) (f9:lk 9 e=.c (.int .i64 i)) (f10:lk 10 e=.c (.ptr x10 0))
  (hQ:∀(s2 s3:Ck) H' out vc' Lg' Lz' t',Qam fns k x.body ⟨[]::s1.v,s1.c,s1.n⟩=s2→Qam fns k x.els ⟨[]::s1.v,s2.c,s2.n⟩=s3→Gp Lg' 3 (Qa6 (b1::r)) vc'→Gr Lz' 5 (Qk (outs++[out])) t'→
   Kn F H' [] (((w,wO fl fns k vc' s3.n s3.c)::Lg')++Lz')→Q .nrm [(0,.c (.ptr w 0)),(1,.c (.sl f5 5 (Qk sts))),(2,.c (.int .i64 r.length)),(7,.c t'),(8,.c (.int .i64 many)),(9,.c (.int .i64 i))] H') :
  Q8 prog Qgr Q e H:=by
 have hto:=hz.isOw
 have hse:=x.size_eq
 have g10:=kn.getM
 have elen:((r.length:Int)+1)=(((b1::r).length:Nat):Int):=by simp
 obtain⟨s2,hs2⟩:∃s2,Qam fns k x.body ⟨[]::s1.v,s1.c,s1.n⟩=s2:=⟨_,rfl⟩
 obtain⟨s3,hs3⟩:∃s3,Qam fns k x.els ⟨[]::s1.v,s2.c,s2.n⟩=s3:=⟨_,rfl⟩
 have hn2:=Q0l fns k x.body ⟨[]::s1.v,s1.c,s1.n⟩
 rw[hs2]at hn2
 simp only at hn2
 refine Qa ?_
 simp only[go_sem,f0,f1,f2,f7,f8,f9,f10,g10,hto]
 refine⟨Qu (by omega) (by omega),?_⟩
 rw[elen]
 obtain⟨F',kn',back⟩:=kn.side
 refine hN (Qh x.body) (by omega) x.body false [] (b1::r) ⟨[]::s1.v,s1.c,s1.n⟩ vc Lg F' H _ (Nat.le_refl _) (by rw[hv]) (fun _=>rfl) (by rw[Qmu];exact hg) kn' (by rw[Qmu];exact hrow) (by show s1.n+_≤_;omega) (by simp only[List.length_cons];omega) fun out1 H1 vc1 Lg1 _ hg1 kn=>?_
 have hg1:=hg1 (by simp)
 rw[hs2]at kn
 have kn:=back _ _ kn
 clear back kn'
 have g10:=kn.getM
 simp only[go_sem,Qk1,f0,f1,f2,f7,f8,f9,f10,g10,hto]
 intro H2 h2
 have kn:=kn.stM h2
 have g10:=kn.getM
 refine Qa ?_
 simp only[go_sem,g10,hto]
 refine⟨Qu (by omega) (by omega),?_⟩
 rw[elen]
 obtain⟨F',kn',back⟩:=kn.side
 refine hN (Qh x.els) (by omega) x.els false [] (b1::r) ⟨[]::s1.v,s2.c,s2.n⟩ vc1 Lg1 F' H2 _ (Nat.le_refl _) (by rw[hv]) (fun _=>rfl) (by rw[Qmu];exact hg1) kn' (by rw[Qmu];show _≤s2.n;omega) (by show s2.n+_≤_;omega) (by simp only[List.length_cons];omega) fun out2 H3 vc2 Lg2 _ hg2 kn=>?_
 have hg2:=hg2 (by simp)
 rw[hs3]at kn
 have kn:=back _ _ kn
 clear back kn'
 have g10:=kn.getM
 simp only[go_sem,Qk2,g10,hto]
 intro H4 h4
 have kn:=kn.stM h4
 have g10:=kn.getM
 refine Qs ?_
 simp only[go_sem,g10,hto]
 have kn:Kn F H4 [] ((((w,wO fl fns k vc2 s3.n s3.c)::Lg2)++[(x10,stX x.op nm (.sl false 4 (Qv ars)) (.sl false 5 (Qk out1)) (.sl false 5 (Qk out2)))])++Lz):=by
  rw[List.append_assoc];exact kn
 refine kn.growR hz (new:=[(St.mk x.op nm ars out1 out2).cells]) (.mk' _ true 5 _) (by simpa using (St.mk x.op nm ars out1 out2).noOw) (by simp only[Qn,List.length_cons,List.length_nil,LIM];omega) fun t' Lz' H5 hz' hto' kn=>?_
 rw[Qahl]at hz'
 simp only[go_sem,Qk3,hto']
 refine hQ s2 s3 H5 (St.mk x.op nm ars out1 out2) vc2 Lg2 Lz' t' hs2 hs3 hg2 hz' ?_
 refine kn.sub ?_
 rw[List.append_assoc]
 exact List.Sublist.append (List.Sublist.refl _) (List.sublist_append_right _ _)
set_option maxHeartbeats 4000000 in
theorem Qa6q {w k x10 i many:Nat}{fl f5:Bool}{fns:List Fn}{x:St}{sts:List St}{outs:List St}{ars:List Ex}{t vc:C}{Lz Lg:List (Nat×Obj)}{e:Env}{Q:X→Env→Heap→Prop}{s:Ck}{b:List (List UInt8×Nat)}{r:Vars}
  (hN:∀n,n<x.size→StsW w k fl fns n) (hv:s.v=b::r) (hg:Gp Lg 3 (Qa6 (b::r)) vc) (hz:Gr Lz 5 (Qk outs) t) (ho:outs.length<2^38)
  (kn:Kn F H [] (((w,wO fl fns k vc s.n (Qao fns k (b::r) (Qad x.args) s.c))::Lg)++((x10,stX x.op x.name (.sl false 4 (Qv ars)) (.sl false 5 (Qk x.body)) (.sl false 5 (Qk x.els)))::Lz)))
  (hrow:(Qa6 (b::r)).length≤s.n) (hn:s.n+x.size≤2^38) (hr:r.length+x.size≤2^38)
  (f0:lk 0 e=.c (.ptr w 0)) (f1:lk 1 e=.c (.sl f5 5 (Qk sts))) (f2:lk 2 e=.c (.int .i64 r.length)) (f7:lk 7 e=.c t) (f8:lk 8 e=.c (.int .i64 many)) (f9:lk 9 e=.c (.int .i64 i)) (f10:lk 10 e=.c (.ptr x10 0))
  (hQ:∀H' out vc' Lg' Lz' t' b1,(x.ck fns k s).v=b1::r→Gp Lg' 3 (Qa6 (b1::r)) vc'→(Qa6 (b1::r)).length≤(x.ck fns k s).n→Gr Lz' 5 (Qk (outs++[out])) t'→
   Kn F H' [] (((w,wO fl fns k vc' (x.ck fns k s).n (x.ck fns k s).c)::Lg')++Lz')→Q .nrm [(0,.c (.ptr w 0)),(1,.c (.sl f5 5 (Qk sts))),(2,.c (.int .i64 r.length)),(7,.c t'),(8,.c (.int .i64 many)),(9,.c (.int .i64 i))] H') :
  Q8 prog Qmi Q e H:=by
 have hto:=hz.isOw
 have hse:=x.size_eq
 have how:=hg.isOw
 have g10:=kn.getM
 obtain⟨s1,hs1⟩:∃s1,stC fns k x.op x.name x.args s=s1:=⟨_,rfl⟩
 have hn1:=Qa76 fns k x.op x.name x.args s
 have hr1:=Qa3i fns k x.op x.name x.args s hv hrow
 obtain⟨b1,hv1⟩:=Qa3j fns k x.op x.name x.args s hv
 have hc1:=Qa4b fns k x.op x.name x.args s
 rw[hs1]at hn1 hr1 hv1 hc1
 rw[hv1]at hr1
 rw[hv]at hc1
 have hck:=x.ck_eq fns k s
 rw[hs1]at hck
 have tail:∀(H1:Heap) (e1:Env) (nm:List UInt8) (vc1:C) (Lg1:List (Nat×Obj)),Gp Lg1 3 (Qa6 (b1::r)) vc1→
   Kn F H1 [] (((w,wO fl fns k vc1 s1.n s1.c)::Lg1)++((x10,stX x.op nm (.sl false 4 (Qv ars)) (.sl false 5 (Qk x.body)) (.sl false 5 (Qk x.els)))::Lz))→
   lk 0 e1=.c (.ptr w 0)→lk 1 e1=.c (.sl f5 5 (Qk sts))→lk 2 e1=.c (.int .i64 r.length)→lk 7 e1=.c t→lk 8 e1=.c (.int .i64 many)→lk 9 e1=.c (.int .i64 i)→lk 10 e1=.c (.ptr x10 0)→
   Q8 prog Qgr Q e1 H1:=by
  intro H1 e1 nm vc1 Lg1 hg1 kn f0 f1 f2 f7 f8 f9 f10
  refine Qa02 hN hv1 hg1 hz ho kn hr1 (by omega) hr f0 f1 f2 f7 f8 f9 f10 fun s2 s3 H' out vc' Lg' Lz' t' e2 e3 hg' hz' kn=>?_
  rw[e2,e3]at hck
  refine hQ H' out vc' Lg' Lz' t' b1 (by rw[hck];exact hv1) hg' ?_ hz' (by rw[hck];exact kn)
  have:=(St.ck_n fns k x s).1
  rw[hck]at this⊢
  have h2:=Q0l fns k x.body ⟨[]::s1.v,s1.c,s1.n⟩
  have h3:=Q0l fns k x.els ⟨[]::s1.v,s2.c,s2.n⟩
  rw[e2]at h2
  rw[e3]at h3
  simp only at h2 h3⊢
  omega
 refine Q4 ?_
 refine Qa ?_
 simp only[go_sem,f0,f1,f2,f7,f8,f9,f10,g10,hto]
 refine Qf (Qc rfl ?_ ?_)
 ·intro hc
  have h1:x.op=1:=by simpa using hc
  have es1:s1=⟨((x.name,s.n)::b)::r,Qb8 (Qao fns k (b::r) (Qad x.args) s.c) (if Qgf (b::r) x.name then 2 else 0),s.n+1⟩:=by
   rw[←hs1,stC,if_pos h1,hv];rfl
  rw[es1]at tail hv1
  simp only[List.cons.injEq]at hv1
  obtain⟨hb1,_⟩:=hv1
  subst hb1
  refine Qs ?_
  simp only[go_sem,g10,hto]
  obtain⟨F',kn',back⟩:=kn.side
  refine Qa03 hg kn' (by omega) (by simp only[LIM];omega) fun t2 H1 vc1 Lg1 hg1 kn=>?_
  have kn:=back _ _ kn
  have g10:=kn.getM
  simp only[go_sem,Qmn,g10,hto]
  intro H2 h2
  have kn:=kn.stM h2
  have g10:=kn.getM
  try simp only[go_sem,AE.X.next,hto]
  refine Q4 ?_
  refine Qa ?_
  simp only[go_sem,g10,hto]
  refine Qf (Qc rfl (fun h=>?_) (fun _=>?_))
  ·have:=of_decide_eq_true h;omega
  ·refine Qe ?_
   try simp only[go_sem,AE.X.next,hto]
   exact tail _ _ t2 vc1 Lg1 hg1 kn rfl rfl rfl rfl rfl rfl rfl
 ·intro hc
  have h1:¬x.op=1:=by simpa using hc
  refine Qe ?_
  try simp only[go_sem,AE.X.next,hto]
  refine Q4 ?_
  refine Qa ?_
  simp only[go_sem,g10,hto]
  refine Qf (Qc rfl ?_ ?_)
  ·intro hc2
   have h2:x.op=2:=by simpa using hc2
   have es1:s1=⟨b::r,Qb8 (Qao fns k (b::r) (Qad x.args) s.c) (if (Vars.find (b::r) x.name).isSome then 0 else 3),s.n⟩:=by
    rw[←hs1,stC,if_neg h1,if_pos h2,hv]
   rw[es1]at tail hv1
   simp only[List.cons.injEq]at hv1
   obtain⟨hb1,_⟩:=hv1
   subst hb1
   refine Qs ?_
   simp only[go_sem,g10,hto]
   refine Qa05 how (kn.l 0 rfl) (hg.slc fun p hp=>(kn.get p (by simp[hp])).1) fun t2 H1 hu=>?_
   have kn:Kn F H1 [] (((w,wO fl fns k vc s.n (Qb8 (Qao fns k (b::r) (Qad x.args) s.c) (if (Vars.find (b::r) x.name).isSome then 0 else 3)))::Lg)++((x10,stX x.op x.name (.sl false 4 (Qv ars)) (.sl false 5 (Qk x.body)) (.sl false 5 (Qk x.els)))::Lz)):=kn.callL 0 rfl hu (by nofun)
   have g10:=kn.getM
   simp only[go_sem,Qmo,g10,hto]
   intro H2 h2
   have kn:=kn.stM h2
   try simp only[go_sem,AE.X.next,hto]
   exact tail _ _ t2 vc Lg hg kn rfl rfl rfl rfl rfl rfl rfl
  ·intro hc2
   have h2:¬x.op=2:=by simpa using hc2
   have es1:s1=⟨b::r,Qao fns k (b::r) (Qad x.args) s.c,s.n⟩:=by
    rw[←hs1,stC,if_neg h1,if_neg h2,hv]
   rw[es1]at tail hv1
   simp only[List.cons.injEq]at hv1
   obtain⟨hb1,_⟩:=hv1
   subst hb1
   refine Qe ?_
   try simp only[go_sem,AE.X.next,hto]
   exact tail _ _ x.name vc Lg hg kn rfl rfl rfl rfl rfl rfl rfl
set_option maxHeartbeats 4000000 in
theorem Qa04 (w k:Nat)(fl:Bool)(fns:List Fn):∀n,StsW w k fl fns n:=by
 intro n
 induction n using Nat.strongRecOn with
 |_ n ih=>
 intro sts f5 b r s vc Lg F H K hn hsv hbr hg kn hrow hsn hrl hK
 have how:=hg.isOw
 have hslen:=Qby sts
 refine Q8b ?_
 refine Qb Qah Qad6 ?_
 refine Qa ?_
 simp only[go_sem]
 refine Qa ?_
 simp only[go_sem]
 have gw:=kn.l 0 rfl
 have hs0:=hg.slc fun p hp=>(kn.get p (by simp[hp])).1
 have hok0:=eq_true hs0.ok
 have hln0:=hs0.len
 refine Qa ?_
 simp only[go_sem,gw,how,hok0,hln0]
 intro hl0
 simp only[LIM]at hl0
 refine Q4 ?_
 refine Qa ?_
 simp only[go_sem]
 refine Qf (Qd (Q0 (fun m e1 H1=>∃(i:Nat) (outs:List St) (Lz Lgi:List (Nat×Obj)) (t vci:C) (bi:List (List UInt8×Nat)),m=sts.length-i∧i≤sts.length∧(Qam fns k (sts.take i) s).v=bi::r∧Gr Lz 5 (Qk outs) t∧outs.length=i∧
   Gp Lgi 3 (Qa6 (bi::r)) vci∧(Qa6 (bi::r)).length≤(Qam fns k (sts.take i) s).n∧Kn F H1 [] (((w,wO fl fns k vci (Qam fns k (sts.take i) s).n (Qam fns k (sts.take i) s).c)::Lgi)++Lz)∧
   e1=[(0,.c (.ptr w 0)),(1,.c (.sl f5 5 (Qk sts))),(2,.c (.int .i64 r.length)),(7,.c t),(8,.c (.int .i64 (Qa6 (b::r)).length)),(9,.c (.int .i64 i))]) sts.length ?_ ?_))
 ·exact⟨0,[],[],Lg,.sl true 5 [],vc,b,by omega,by omega,by simpa[Qam]using hsv,.nil 5,rfl,hg,by simpa[Qam]using hrow,by simpa[Qam]using kn,rfl⟩
 ·clear kn gw hs0 hok0 hln0
  rintro m e1 H1 ⟨i,outs,Lz,Lgi,t,vci,bi,hm,hi,hvi,hz,hol,hgi,hri,kn,rfl⟩
  have hni:=Q0l fns k (sts.take i) s
  have hsl:=Qa3 sts i
  obtain⟨si,hsi⟩:∃si,Qam fns k (sts.take i) s=si:=⟨_,rfl⟩
  rw[hsi]at hvi kn hri hni
  have hto:=hz.isOw
  have howi:=hgi.isOw
  refine Q4 ?_
  refine Qa ?_
  simp only[go_sem,hto,Qn]
  intro hl
  simp only[LIM]at hl
  refine Qf (Qc rfl ?_ ?_)
  ·intro hc
   have hlt:i<sts.length:=by simpa using hc
   have hms:=Qak (List.getElem_mem hlt)
   obtain⟨x,hx⟩:∃x,sts[i]=x:=⟨_,rfl⟩
   have htk:=Qahk fns k hlt s
   have hst:=Qhn hlt
   have hsl2:=Qa3 sts (i+1)
   rw[hx]at hms hst
   rw[hsi,hx]at htk
   have hse:=x.size_eq
   refine Qe ?_
   try simp only[go_sem]
   refine Qf (Qd ?_)
   refine Qa ?_
   simp only[go_sem,hto,hlt,Qn,Qae _ _ hlt,hx,x.cells_eq]
   intro x10 hx10 H3 h3
   have kn:Kn F H3 [] (((w,wO fl fns k vci si.n si.c)::Lgi)++((x10,stX 0 [] (.sl true 4 []) (.sl true 5 []) (.sl true 5 []))::Lz)):=(kn.al hx10 h3).perm (by
    rw[List.append_assoc]
    exact List.Perm.append_left _ (List.perm_append_comm (l₁:=Lz) (l₂:=[(x10,_)])))
   have g10:=kn.getM
   simp only[go_sem,Qmk,g10,hto]
   intro H4 h4
   have kn:Kn F H4 [] (((w,wO fl fns k vci si.n si.c)::Lgi)++((x10,stO x)::Lz)):=kn.stM h4
   have g10:=kn.getM
   refine Qa ?_
   simp only[go_sem,hto]
   refine Q4 ?_
   refine Qa ?_
   simp only[go_sem,hto]
   refine Qf (Qd (Q0 (fun m e2 H5=>∃(j:Nat) (ars:List Ex) (La:List (Nat×Obj)) (ta:C),m=x.args.length-j∧j≤x.args.length∧Gr La 4 (Qv ars) ta∧ars.length=j∧
    Kn F H5 [] ((((w,wO fl fns k vci si.n (Qao fns k (bi::r) (Qad (x.args.take j)) si.c))::Lgi)++((x10,stO x)::Lz))++La)∧
    e2=[(0,.c (.ptr w 0)),(1,.c (.sl f5 5 (Qk sts))),(2,.c (.int .i64 r.length)),(7,.c t),(8,.c (.int .i64 (Qa6 (b::r)).length)),(9,.c (.int .i64 i)),(10,.c (.ptr x10 0)),(11,.c ta),(12,.c (.int .i64 j))]) x.args.length ?_ ?_))
   ·exact⟨0,[],[],.sl true 4 [],by omega,by omega,.nil 4,rfl,by simpa[Qad,Qao]using kn,rfl⟩
   ·clear kn g10 h4 h3
    rintro m2 e2 H5 ⟨j,ars,La,ta,hm2,hj,hga,hars,kn,rfl⟩
    have hao:=hga.isOw
    have kn2:Kn F H5 [] (((w,wO fl fns k vci si.n (Qao fns k (bi::r) (Qad (x.args.take j)) si.c))::Lgi)++((x10,stO x)::(Lz++La))):=by
     rw[List.append_assoc]at kn;exact kn
    have g10:=kn2.getM
    refine Q4 ?_
    refine Qa ?_
    simp only[go_sem,hto,hao,g10,Qj]
    intro hl2
    simp only[LIM]at hl2
    refine Qf (Qc rfl ?_ ?_)
    ·intro hc2
     have hlt2:j<x.args.length:=by simpa using hc2
     have hms2:=Qaf (List.getElem_mem hlt2)
     obtain⟨y,hy⟩:∃y,x.args[j]=y:=⟨_,rfl⟩
     have htk2:=Qcv hlt2
     rw[hy]at hms2 htk2
     refine Qe ?_
     try simp only[go_sem]
     refine Qf (Qd ?_)
     refine Qs ?_
     simp only[go_sem,hto,hao,g10,hlt2,Qj,Qac _ _ hlt2,hy,y.cells_eq]
     have hE:=fun K=>Qa30 (k:=k) (w:=w) (cnt:=si.n) (fl:=fl) (fns:=fns) hgi y.size y (Qao fns k (bi::r) (Qad (x.args.take j)) si.c) H5 K
     rw[y.cells_eq]at hE
     have hnd:(w::Lgi.map Prod.fst).Nodup:=by
      have:=kn2.dL
      rw[List.map_append]at this
      exact (List.nodup_append.1 this).1
     refine hE _ (Nat.le_refl _) (by omega) hnd (fun p hp=>(kn2.get p (by simp only[List.nil_append];exact List.mem_append_left _ hp)).1) fun z H6 hu=>?_
     have kn:=Kn.callLs (L:=(w,wO fl fns k vci si.n (Qao fns k (bi::r) (Qad (x.args.take j)) si.c))::Lgi) (M:=(x10,stO x)::(Lz++La)) kn2 hu rfl (by
      intro p hp
      rcases List.mem_cons.1 hp with rfl|hp
      ·nofun
      ·exact hgi.ne p hp)
     simp only[go_sem,Qmm,hto,hao,z.cells_len]
     have kn:Kn F H6 [] ((((w,wO fl fns k vci si.n (Qao fns k (bi::r) y.pre (Qao fns k (bi::r) (Qad (x.args.take j)) si.c)))::Lgi)++((x10,stO x)::Lz))++La):=by
      rw[List.append_assoc];exact kn
     refine kn.growR hga (.mk' _ true 4 _) (by simpa using z.noOw) (by simp only[Qj,List.length_cons,List.length_nil,LIM];omega) fun ta' La' H7 hga' hao' kn=>?_
     rw[Qd7]at hga'
     simp only[go_sem,Qml,hto,hao']
     refine Qs ?_
     simp only[go_sem,AE.X.next,hto,hao']
     refine⟨Qu (by omega) (by omega),x.args.length-(j+1),by omega,j+1,ars++[z],La',ta',rfl,by omega,hga',by simp[hars],?_,rfl⟩
     rw[htk2,Q2v]
     exact kn
    ·intro hc2
     have hge2:x.args.length≤j:=by simpa using hc2
     rw[List.take_of_length_le hge2]at kn
     refine Q1 ?_
     simp only[go_sem,AE.X.next]
     obtain⟨S,H6,f1,f2,kn⟩:=hga.freeze kn (Qap _)
     refine Q4 ?_
     refine c_gh (Qvg S (Qaxq ?_) f2) (e':=[(0,.c (.ptr w 0)),(1,.c (.sl f5 5 (Qk sts))),(2,.c (.int .i64 r.length)),(7,.c t),(8,.c (.int .i64 (Qa6 (b::r)).length)),(9,.c (.int .i64 i)),(10,.c (.ptr x10 0)),(11,.c (.sl false 4 (Qv ars)))]) ?_
     ·intro p hp
      simp only[List.mem_cons,List.not_mem_nil,or_false]at hp
      rcases hp with rfl|rfl|rfl|rfl|rfl|rfl|rfl|rfl
      ·exact .c _ _ (.same _ rfl)
      ·exact .c _ _ (.same _ rfl)
      ·exact .c _ _ (.same _ rfl)
      ·exact .c _ _ (.same _ hto)
      ·exact .c _ _ (.same _ rfl)
      ·exact .c _ _ (.same _ rfl)
      ·exact .c _ _ (.same _ rfl)
      ·exact .c _ _ f1
     have g10:=kn.getM
     refine Qa ?_
     simp only[go_sem,hto,g10]
     intro H7 h7
     have kn:=kn.stM h7
     refine Qa6q (fun n' hn'=>ih n' (by omega)) hvi hgi hz (by omega) kn hri (by omega) (by omega) rfl rfl rfl rfl rfl rfl rfl fun H8 out vc8 Lg8 Lz8 t8 b8 hv8 hg8 hr8 hz8 kn=>?_
     have hto8:=hz8.isOw
     simp only[go_sem,AE.X.next,hto8]
     refine Qs ?_
     simp only[go_sem,AE.X.next,hto8]
     refine⟨Qu (by omega) (by omega),sts.length-(i+1),by omega,i+1,outs++[out],Lz8,Lg8,t8,vc8,b8,rfl,by omega,?_,hz8,by simp[hol],hg8,?_,?_,rfl⟩
     ·rw[htk];exact hv8
     ·rw[htk];exact hr8
     ·rw[htk];exact kn
  ·intro hc
   have hge:sts.length≤i:=by simpa using hc
   rw[List.take_of_length_le hge]at hsi
   have gw:=kn.l 0 rfl
   have hsi2:=hgi.slc fun p hp=>(kn.get p (by simp[hp])).1
   have hoki:=eq_true hsi2.ok
   have hlni:=hsi2.len
   have hszi:=hsi2.sz
   refine Q1 ?_
   simp only[go_sem,AE.X.next]
   have fin:∀(H':Heap) (e':Env) (vc':C),(r=[]→Gp Lgi 3 (Qa6 si.v) vc')→(r≠[]→Gp Lgi 3 (Qa6 r) vc')→Kn F H' [] (((w,wO fl fns k vc' si.n si.c)::Lgi)++Lz)→lk 7 e'=.c t→Q8 prog Qmj (Qy Qlf (finK K)) e' H':=by
    intro H' e' vc' h1 h2 kn f7
    refine Qa ?_
    simp only[go_sem,f7,hto]
    refine Qi ?_
    simp only[go_sem,Qy,Q7,Qlf,List.mem_singleton,forall_eq,RS.op,hto]
    obtain⟨S,H6,f1,f2,kn⟩:=hz.freeze kn (Qan _)
    refine⟨S,_,H6,.c _ _ f1,f2,?_⟩
    rw[hsi]at hK
    exact hK outs H6 vc' Lgi h1 h2 kn
   refine Q4 ?_
   refine Qa ?_
   simp only[go_sem,hto]
   refine Qf (Qc rfl ?_ ?_)
   ·intro hc2
    have hr0:r≠[]:=by
     intro h;rw[h]at hc2;simp at hc2
    have hb0:=hbr hr0
    rw[hb0,Qmu]
    have hle:=Qa3z bi r
    have hcut:=hgi.cut hle
    rw[Qawr]at hcut
    refine Qs ?_
    simp only[go_sem,gw,howi,hto,hoki,hlni,hszi,bnds,Option.map_none,Option.map_some,Option.getD_none,Option.getD_some]
    refine⟨⟨by omega,by omega⟩,?_⟩
    intro H7 h7
    have hco:=hcut.isOw
    have kn:=kn.stL 0 rfl h7
    try simp only[go_sem,AE.X.next,hto]
    exact fin _ _ _ (fun h=>absurd h hr0) (fun _=>hcut) kn rfl
   ·intro hc2
    have hr0:r=[]:=by
     cases hr:r with
     |nil=>rfl
     |cons a q=>rw[hr]at hc2;simp only[List.length_cons,decide_eq_false_iff_not]at hc2;omega
    refine Qe ?_
    try simp only[go_sem,AE.X.next,hto]
    exact fin _ _ vci (fun _=>by rw[hvi];exact hgi) (fun h=>absurd hr0 h) kn rfl
end Go.AE.Y

namespace Go.AE
variable {H0 H H' F:Heap}{E L B A M:List (Nat×Obj)}{p:Nat×Obj}
theorem Kn.stM2 {x:Nat}{o o':Obj}(kn:Kn H0 H E (A++p::(x,o)::B))(h1:H'=H.set x o')(ho:o'≠.none:=by nofun):Kn H0 H' E (A++p::(x,o')::B):=by
 have k2:Kn H0 H E ((A++[p])++(x,o)::B):=by rw[List.append_assoc];exact kn
 have k3:=k2.stM h1 ho
 rw[List.append_assoc]at k3
 exact k3
theorem Kn.getM2 {x:Nat}{o:Obj}(kn:Kn H0 H E (A++p::(x,o)::B)):H x=o:=(kn.get (x,o) (by simp)).1
end Go.AE
namespace Go.AE.Y
attribute [local go_sem] cond_true cond_false Bool.not_true Bool.not_false
open Go.Proofs.Tryz
variable {H H0 F:Heap}{K:V→Heap→Prop}{E E' L:List (Nat×Obj)}
theorem Qa7g (l:List Fn)(s:List UInt8)(k:Nat):decide (ixI (Qkh l s)=(k:Int))=decide (Qkh l s=some k):=by
 rw[decide_eq_decide]
 cases Qkh l s with
 |none=>simp only[ixI];constructor
        ·intro h;omega
        ·intro h;cases h
 |some j=>simp only[ixI,Option.some.injEq];omega
set_option maxHeartbeats 4000000 in
theorem Qa7i {fns:List Fn}{fl:Bool}{k:Nat}(hk:k<fns.length)(hb:Qh fns[k].body≤2^36)(hp:fns[k].params.length≤2^30)
  (hK:∀(f':Fn) (cnt:Nat) H',Upd H H' []→K (.tup [.ag f'.cells,.c (.int .i64 (fnCk fns k).c),.c (.int .i64 cnt)]) H'):Qp prog Qan9 [.ag [.sl fl 3 (Qr fns)],.c (.int .i64 k)] H K:=by
 obtain⟨f,hfe⟩:∃f,fns[k]=f:=⟨_,rfl⟩
 have hfc:fnCk fns k=Qam fns k f.body (Qxz f.params ⟨[[]],ixC fns k f.name,0⟩):=by
  rw[fnCk,List.getElem?_eq_getElem hk,hfe];rfl
 rw[hfe]at hb hp
 obtain⟨s0,hs0⟩:∃s0:Ck,(⟨[[]],ixC fns k f.name,0⟩:Ck)=s0:=⟨_,rfl⟩
 rw[hs0]at hfc
 have hs0v:s0.v=[[]]:=by rw[←hs0]
 have hs0n:s0.n=0:=by rw[←hs0]
 have hs0c:s0.c=ixC fns k f.name:=by rw[←hs0]
 refine Qw ?_
 refine Qb Qah Qa7n ?_
 refine Qa ?_
 simp only[go_sem]
 intro x4 hx4 H1 h1
 have kn:=(Kn.start0 H).al hx4 h1
 simp only[go_sem,Qamz]
 refine Qa ?_
 simp only[go_sem]
 intro w hw H2 h2
 have kn:=kn.al hw h2
 simp only[go_sem,Qam0]
 refine Qa ?_
 simp only[go_sem,hk,Qm,Q6 _ _ hk,hfe,Fn.cells]
 intro x8 hx8 H3 h3
 have kn:=kn.al hx8 h3
 have g8:=kn.l 2 rfl
 simp only[go_sem,Qam1,g8]
 intro H4 h4
 have kn:=kn.stL 2 rfl h4
 have kn:Kn H H4 [] (((w,wO fl fns k (.sl true 3 []) 0 0)::[])++(x4,.st [.str [],.sl true 1 [],.sl true 5 []])::(x8,fnO f)::[]):=kn.perm (.swap _ _ _)
 have g8:=kn.getM2
 refine Q4 ?_
 refine Qa ?_
 simp only[go_sem,g8]
 refine Qatf ?_
 have hix:=Qa7g fns f.name k
 simp only[go_sem,Qam2,hix]
 have two:∀(H1:Heap) (e1:Env),Kn H H1 [] (((w,wO fl fns k (.sl true 3 []) 0 (ixC fns k f.name))::[])++(x4,.st [.str [],.sl true 1 [],.sl true 5 []])::(x8,fnO f)::[])→lk 4 e1=.c (.ptr x4 0)→lk 7 e1=.c (.ptr w 0)→lk 8 e1=.c (.ptr x8 0)→
   Q8 prog Qamy (Qy Qay7 (unK H K)) e1 H1:=by
  intro H1 e1 kn f4 f7 f8
  have kn:Kn H H1 [] (((w,wO fl fns k (.sl true 3 []) s0.n s0.c)::[])++(x4,.st [.str [],.sl true 1 [],.sl true 5 []])::(x8,fnO f)::[]):=by rw[hs0n,hs0c];exact kn
  refine Qa ?_
  simp only[go_sem,f4,f7,f8]
  refine Q4 ?_
  refine Qa ?_
  simp only[go_sem]
  refine Qf (Qd (Q0 (fun m e2 H2=>∃(j:Nat) (ps:List (List UInt8)) (Lg Lp:List (Nat×Obj)) (vc t:C) (bj:List (List UInt8×Nat)),m=f.params.length-j∧j≤f.params.length∧(Qxz (f.params.take j) s0).v=[bj]∧(Qxz (f.params.take j) s0).n=j∧(Qa6 [bj]).length≤j∧
   Gp Lg 3 (Qa6 [bj]) vc∧Gr Lp 1 (Q2 ps) t∧ps.length=j∧
   Kn H H2 [] (((w,wO fl fns k vc (Qxz (f.params.take j) s0).n (Qxz (f.params.take j) s0).c)::Lg)++(x4,.st [.str [],.sl true 1 [],.sl true 5 []])::(x8,fnO f)::Lp)∧
   e2=[(4,.c (.ptr x4 0)),(7,.c (.ptr w 0)),(8,.c (.ptr x8 0)),(9,.c t),(10,.c (.int .i64 j))]) f.params.length ?_ ?_))
  ·exact⟨0,[],[],[],.sl true 3 [],.sl true 1 [],[],by omega,by omega,hs0v,hs0n,by simp[Qa6,vT],.nil 3,.nil 1,rfl,kn,rfl⟩
  ·clear kn
   rintro m e2 H2 ⟨j,ps,Lg,Lp,vc,t,bj,hm,hj,hvj,hnj,hrj,hg,hgp,hps,kn,rfl⟩
   obtain⟨sj,hsj⟩:∃sj,Qxz (f.params.take j) s0=sj:=⟨_,rfl⟩
   rw[hsj]at hvj kn hnj
   have hto:=hgp.isOw
   have g8:=kn.getM2
   refine Q4 ?_
   refine Qa ?_
   simp only[go_sem,g8,hto,Qq]
   intro hl
   simp only[LIM]at hl
   refine Qf (Qc rfl ?_ ?_)
   ·intro hc
    have hlt:j<f.params.length:=by simpa using hc
    obtain⟨p,hpe⟩:∃p,f.params[j]=p:=⟨_,rfl⟩
    have hpd:f.params.getD j []=p:=by simp[List.getD_eq_getElem?_getD,hlt,hpe]
    have htk:=Qalb hlt s0
    rw[hsj,hpe,hvj]at htk
    refine Qe ?_
    try simp only[go_sem]
    refine Qf (Qd ?_)
    refine Qs ?_
    simp only[go_sem,g8,hto,hlt,Qq,Qaw _ _ hlt,hpd]
    obtain⟨F',kn',back⟩:=kn.side
    refine Qa03 (r:=[]) hg kn' (by omega) (by simp only[LIM];omega) fun t2 H5 vc' Lg' hg' kn=>?_
    have kn:=back _ _ kn
    simp only[go_sem,Qam4,hto]
    have kn:Kn H H5 [] ((((w,wO fl fns k vc' (sj.n+1) (Qb8 sj.c (if Qgf [bj] p then 2 else 0)))::Lg')++[(x4,.st [.str [],.sl true 1 [],.sl true 5 []]),(x8,fnO f)])++Lp):=by rw[List.append_assoc];exact kn
    refine kn.growR hgp (.mk' _ true 1 _) (by simp[noOw,C.isOw]) (by simp only[Qq,List.length_cons,List.length_nil,LIM];omega) fun t' Lp' H6 hgp' hto' kn=>?_
    rw[Qob]at hgp'
    simp only[go_sem,Qam3,hto']
    refine Qs ?_
    simp only[go_sem,AE.X.next,hto']
    refine⟨Qu (by omega) (by omega),f.params.length-(j+1),by omega,j+1,ps++[t2],Lg',Lp',vc',t',(p,sj.n)::bj,rfl,by omega,?_,?_,?_,hg',hgp',by simp[hps],?_,rfl⟩
    ·rw[htk];simp[Qrp]
    ·rw[htk];simp[hnj]
    ·rw[Qadx];simp only[List.length_append,List.length_singleton];omega
    ·rw[htk];rw[List.append_assoc]at kn;exact kn
   ·intro hc
    have hge:f.params.length≤j:=by simpa using hc
    rw[List.take_of_length_le hge]at hsj
    rw[hsj]at hfc
    refine Q1 ?_
    simp only[go_sem,AE.X.next]
    refine Qa ?_
    simp only[go_sem,g8,hto]
    intro H5 h5
    have kn:=kn.stM2 h5
    have g8:=kn.getM2
    refine Qa ?_
    simp only[go_sem,g8,hto]
    obtain⟨F',kn',back⟩:=kn.side
    refine Qa04 w k fl fns (Qh f.body) f.body false bj [] sj vc Lg F' H5 _ (Nat.le_refl _) hvj (fun h=>absurd rfl h) hg kn' (by omega) (by omega) (by simp only[List.length_nil];omega) fun out H6 vc' Lg' _ _ kn=>?_
    have kn:=back _ _ kn
    rw[←hfc]at kn
    have g8:=kn.getM2
    simp only[go_sem,Qag6,g8,hto]
    intro H7 h7
    have kn:=kn.stM2 h7
    have g8:=kn.getM2
    have g4:=kn.getM
    have gw:=kn.l 0 rfl
    refine Qaz ?_
    simp only[go_sem,g8,g4,gw,hto]
    intro H8 h8
    have kn:=kn.stM h8
    have g8:=kn.getM2
    have g4:=kn.getM
    have gw:=kn.l 0 rfl
    simp only[go_sem,Qag7,g8,g4,gw,hto]
    refine Qi ?_
    simp only[go_sem,Qy,Q7,Qay7,List.forall_mem_cons,List.not_mem_nil,RS.op,g4,hto]
    have kn2:Kn H H8 [] ((((w,wO fl fns k vc' (fnCk fns k).n (fnCk fns k).c)::Lg')++[(x4,.st [.str f.name,t,.sl false 5 (Qk out)]),(x8,.st [.str f.name,t,.sl false 5 (Qk out)])])++Lp):=by rw[List.append_assoc];exact kn
    refine⟨fun _=>trivial,.tup [.ag (Fn.cells ⟨f.name,ps,out⟩),.c (.int .i64 (fnCk fns k).c),.c (.int .i64 (fnCk fns k).n)],.tup _ _ rfl (fun j x x' h1 h2=>?_),hK ⟨f.name,ps,out⟩ _ _ kn.fin⟩
    rcases j with _|_|_|j
    ·simp only[List.getElem?_cons_zero,Option.some.injEq]at h1 h2
     subst h1 h2
     exact (FrzL.cons (Qg rfl) (.cons (hgp.frz kn2 (Qax _)) (.cons (Qg rfl) .nil))).ag
    ·simp only[List.getElem?_cons_succ,List.getElem?_cons_zero,Option.some.injEq]at h1 h2
     subst h1 h2
     exact .c _ _ (Qg rfl)
    ·simp only[List.getElem?_cons_succ,List.getElem?_cons_zero,Option.some.injEq]at h1 h2
     subst h1 h2
     exact .c _ _ (Qg rfl)
    ·simp at h1
 refine Qf (Qc rfl ?_ ?_)
 ·intro hc
  have hne:¬Qkh fns f.name=some k:=by simpa using hc
  rw[ixC,if_neg hne]at two
  refine Qs ?_
  simp only[go_sem]
  refine Q1y rfl (kn.l 0 rfl) fun H5 hu=>?_
  have kn:=kn.callL 0 rfl hu (by nofun)
  simp only[go_sem,AE.X.next]
  exact two _ _ kn rfl rfl rfl
 ·intro hc
  have he:Qkh fns f.name=some k:=by simpa using hc
  rw[ixC,if_pos he]at two
  refine Qe ?_
  simp only[go_sem,AE.X.next]
  exact two _ _ kn rfl rfl rfl
set_option maxHeartbeats 1000000 in
theorem Qa0p {l:List Fn}{fl:Bool}(hf:Qo l≤2^36)(hK:∀H',Upd H H' []→K (.c (.int .i64 (Q2w l))) H'):Qp prog Qe3 [.ag [.sl fl 3 (Qr l)]] H K:=by
 refine Qw ?_
 refine Qb Qah Q2r ?_
 have retf:∀(b:Int) (e:Env) (H':Heap) (L:List (Nat×Obj)),Q2w l=b→Kn H H' [] L→lk 2 e=.c (.int .i64 b)→Qy Qgo (unK H K) .ret e H':=by
  intro b e H' L hf kn h4
  simp only[go_sem,Qy,Q7,Qgo,List.mem_singleton,forall_eq,RS.op,h4]
  refine⟨_,.c _ _ (Qg rfl),?_⟩
  rw[←hf];exact hK _ kn.fin
 have kn:=Kn.start0 H
 refine Qa ?_
 simp only[go_sem]
 refine Q4 ?_
 refine Qa ?_
 simp only[go_sem]
 refine Q8a (by omega) ?_
 simp only[go_sem,Qiq]
 refine Qf (Qc rfl ?_ ?_)
 ·intro hc
  have hb:Qle l=false:=by simpa using hc
  refine Qa ?_
  simp only[go_sem]
  refine Qi ?_
  simp only[go_sem,AE.X.next]
  exact retf 1 _ _ _ (by rw[Q2w,hb];rfl) kn rfl
 intro hc
 have hb:Qle l=true:=by simpa using hc
 have hpc:Q2w l=ckK l l.length:=by rw[Q2w,if_pos hb]
 have hv:=hb
 simp only[Qle,Bool.and_eq_true,decide_eq_true_eq,List.all_eq_true]at hv
 refine Qe ?_
 try simp only[go_sem]
 refine Q4 ?_
 refine Qa ?_
 simp only[go_sem]
 refine Qf (Qd (Q0 (fun m e1 H1=>∃(i:Nat),m=l.length-i∧i≤l.length∧Kn H H1 [] []∧ckK l i=0∧e1=[(1,.c (.pp [.sl fl 3 (Qr l)])),(3,.c (.int .i64 i))]) l.length ?_ ?_))
 ·exact⟨0,by omega,by omega,kn,rfl,rfl⟩
 ·clear kn
  rintro m e1 H1 ⟨i,hm,hi,kn,hc0,rfl⟩
  refine Q4 ?_
  refine Qa ?_
  simp only[go_sem,Qm]
  intro hl
  simp only[LIM]at hl
  refine Qf (Qc rfl ?_ ?_)
  ·intro hc
   have hlt:i<l.length:=by simpa using hc
   have hms:=Qaq (List.getElem_mem hlt)
   have hfm:=hv.1.2 _ (List.getElem_mem hlt)
   have hpl:l[i].params.length≤3:=by
    rw[Fn.form]at hfm
    simp only[Bool.and_eq_true,decide_eq_true_eq]at hfm
    exact hfm.1.2
   have hsu:=Qahs l i
   rw[hc0]at hsu
   refine Qe ?_
   try simp only[go_sem]
   refine Qf (Qd ?_)
   refine Qa ?_
   simp only[go_sem]
   refine Qa7i hlt (by omega) (by omega) fun f' cnt H2 hu=>?_
   have kn:=kn.call0 hu
   simp only[go_sem,Qit,List.getD_cons_zero,List.getD_cons_succ,Fn.cells]
   intro x4 hx4 H3 h3
   have kn:=kn.al hx4 h3
   have g4:=kn.l 0 rfl
   simp only[go_sem,Qis,g4,Fn.cells]
   intro H4 h4
   have kn:=kn.stL 0 rfl h4
   simp only[go_sem,Qir]
   refine Qa ?_
   simp only[go_sem]
   refine Qc rfl ?_ ?_
   ·intro hc2
    have hne:(fnCk l i).c≠0:=by simpa using hc2
    refine Qa ?_
    simp only[go_sem]
    refine Qi ?_
    simp only[go_sem,AE.X.next]
    refine retf _ _ _ _ ?_ kn rfl
    rw[hpc]
    exact Qa1b l (by rw[hsu,Qb8,if_pos rfl]) hne _ (by omega)
   ·intro hc2
    have he:(fnCk l i).c=0:=by simpa using hc2
    refine Qe ?_
    try simp only[go_sem]
    refine Qs ?_
    simp only[go_sem,AE.X.next]
    refine⟨Qu (by omega) (by omega),l.length-(i+1),by omega,i+1,rfl,by omega,Kn.drop (A:=[]) kn,?_,rfl⟩
    rw[hsu,he];rfl
  ·intro hc
   have hge:l.length≤i:=by simpa using hc
   have hil:i=l.length:=by omega
   subst hil
   refine Q1 ?_
   simp only[go_sem,AE.X.next]
   refine Qa ?_
   simp only[go_sem]
   refine Qi ?_
   exact retf 0 _ _ _ (by rw[hpc,hc0]) kn rfl
theorem Qate {l:List Fn}{fl:Bool}(hf:Qo l≤2^36)(hK:∀H',Upd H H' []→K (.c (.bool (Qlm l))) H'):Qp prog Q0v [.ag [.sl fl 3 (Qr l)]] H K:=by
 refine Qb Qah Qa2p ?_
 refine Qa ?_
 simp only[go_sem]
 refine Qa ?_
 simp only[go_sem]
 refine Qa0p hf fun H1 hu=>?_
 simp only[go_sem,Qacr]
 refine Qi ?_
 simp only[go_sem,Qy,Q7,Qatb,List.mem_singleton,forall_eq,RS.op]
 exact hK _ hu
end Go.AE.Y

namespace Go.AE.Y
structure InsD where
 op:Int
 to:Int
 args:List Int
 n:Int
def InsD.cells (x:InsD):List C:=[.int .i64 x.op,.int .i64 x.to,.sl false 1 (Qx x.args),.int .i64 x.n]
structure PhiD where
 to:Int
 args:List Int
def PhiD.cells (x:PhiD):List C:=[.int .i64 x.to,.sl false 1 (Qx x.args)]
def Qa5i (l:List InsD):List (List C):=l.map InsD.cells
def Qa7s (l:List PhiD):List (List C):=l.map PhiD.cells
structure BlkD where
 phis:List PhiD
 ins:List InsD
 jump:Int
 on:Int
 next:List Int
def BlkD.cells (x:BlkD):List C:=[.sl false 2 (Qa7s x.phis),.sl false 4 (Qa5i x.ins),.int .i64 x.jump,.int .i64 x.on,.sl false 1 (Qx x.next)]
def Qa6y (l:List BlkD):List (List C):=l.map BlkD.cells
structure CodeD where
 params:Int
 regs:Int
 blocks:List BlkD
def CodeD.cells (x:CodeD):List C:=[.int .i64 x.params,.int .i64 x.regs,.sl false 5 (Qa6y x.blocks)]
def Qaxf (l:List CodeD):List (List C):=l.map CodeD.cells
theorem Qat5 (l:List InsD):∀r∈Qa5i l,noOw r=true:=by intro r hr;obtain⟨x,_,rfl⟩:=List.mem_map.1 hr;rfl
variable {H:Heap}{S:Nat→Bool}
theorem Gr.frzM {Lg:List (Nat×Obj)}{sz:Nat}{rows rows':List (List C)}{c:C}(h:Gr Lg sz rows c)(hm:∀p∈Lg,H p.1=p.2∧S p.1=true)(hr:FrzR H S rows rows'):FrzC H S c (.sl false sz rows'):=by
 rcases h with ⟨rfl,rfl,rfl⟩|⟨y,rfl,rfl⟩
 ·cases hr;exact FrzR.nil.sl
 ·obtain⟨h1,h2⟩:=hm (y,.vec sz rows) (by simp)
  exact hr.vsl h2 h1 rfl
def CodeD.fits (c:CodeD):Prop:=∀b∈c.blocks,b.ins.length≤2^38∧b.phis.length≤2^38
end Go.AE.Y

namespace Go.AE
variable {H0 H H':Heap}{E L N B:List (Nat×Obj)}
end Go.AE
namespace Go.AE.Y
structure OInts where
 ns:List Int
 y:Nat
def OInts.c (x:OInts):C:=.vsl x.y 1 0 x.ns.length
def OInts.lg (x:OInts):List (Nat×Obj):=[(x.y,.vec 1 (Qx x.ns))]
structure OPhi where
 to:Int
 ns:List Int
 ac:C
 lg:List (Nat×Obj)
def OPhi.row (x:OPhi):List C:=[.int .i64 x.to,x.ac]
def OPhi.ok (x:OPhi):Prop:=(∃y,x.ac=.vsl y 1 0 x.ns.length∧x.lg=[(y,.vec 1 (Qx x.ns))])∨(∃fl,x.ac=.sl fl 1 (Qx x.ns)∧x.lg=[])
def OPhi.own (x:OPhi):Prop:=∃y,x.ac=.vsl y 1 0 x.ns.length∧x.lg=[(y,.vec 1 (Qx x.ns))]
structure OIns where
 op:Int
 to:Int
 a:OInts
 n:Int
def OIns.row (x:OIns):List C:=[.int .i64 x.op,.int .i64 x.to,x.a.c,.int .i64 x.n]
def OIns.lg (x:OIns):List (Nat×Obj):=x.a.lg
structure OBlk where
 phis:List OPhi
 pc:C
 pl:List (Nat×Obj)
 ins:List OIns
 ic:C
 il:List (Nat×Obj)
 jump:Int
 on:Int
 nx:OInts
def OBlk.row (x:OBlk):List C:=[x.pc,x.ic,.int .i64 x.jump,.int .i64 x.on,x.nx.c]
def OBlk.lg (x:OBlk):List (Nat×Obj):=x.nx.lg++(x.phis.flatMap OPhi.lg++(x.pl++(x.ins.flatMap OIns.lg++x.il)))
structure OBlk.ok (x:OBlk):Prop where
 p:Gr x.pl 2 (x.phis.map OPhi.row) x.pc
 i:Gr x.il 4 (x.ins.map OIns.row) x.ic
 a:∀p∈x.phis,p.ok
structure OCode where
 params:Int
 regs:Int
 blocks:List OBlk
 bc:C
 bl:List (Nat×Obj)
def OCode.row (x:OCode):List C:=[.int .i64 x.params,.int .i64 x.regs,x.bc]
def OCode.lg (x:OCode):List (Nat×Obj):=x.blocks.flatMap OBlk.lg++x.bl
structure OCode.ok (x:OCode):Prop where
 b:Gr x.bl 5 (x.blocks.map OBlk.row) x.bc
 bs:∀b∈x.blocks,b.ok
def OPhi.d (x:OPhi):PhiD:=⟨x.to,x.ns⟩
def OIns.d (x:OIns):InsD:=⟨x.op,x.to,x.a.ns,x.n⟩
def OBlk.d (x:OBlk):BlkD:=⟨x.phis.map OPhi.d,x.ins.map OIns.d,x.jump,x.on,x.nx.ns⟩
def OCode.d (x:OCode):CodeD:=⟨x.params,x.regs,x.blocks.map OBlk.d⟩
theorem OPhi.noOw (x:OPhi)(h:x.ok):Go.AE.noOw x.row=true:=by
 rcases h with ⟨y,h,_⟩|⟨fl,h,_⟩ <;> simp only[Go.AE.noOw,OPhi.row,h] <;> rfl
theorem OIns.noOw (x:OIns):Go.AE.noOw x.row=true:=rfl
theorem OBlk.noOw (x:OBlk)(h:x.ok):Go.AE.noOw x.row=true:=by
 simp only[Go.AE.noOw,OBlk.row,OInts.c,List.all_cons,List.all_nil,h.p.isOw,h.i.isOw];rfl
theorem OCode.noOw (x:OCode)(h:x.ok):Go.AE.noOw x.row=true:=by
 simp only[Go.AE.noOw,OCode.row,List.all_cons,List.all_nil,h.b.isOw];rfl
variable {H:Heap}{S:Nat→Bool}
def Held (H:Heap)(S:Nat→Bool)(l:List (Nat×Obj)):Prop:=∀p∈l,H p.1=p.2∧S p.1=true
theorem Held.l {a b:List (Nat×Obj)}(h:Held H S (a++b)):Held H S a:=fun p hp=>h p (List.mem_append_left _ hp)
theorem Held.r {a b:List (Nat×Obj)}(h:Held H S (a++b)):Held H S b:=fun p hp=>h p (List.mem_append_right _ hp)
theorem Held.m {α:Type}{f:α→List (Nat×Obj)}{l:List α}(h:Held H S (l.flatMap f)){x:α}(hx:x∈l):Held H S (f x):=fun p hp=>h p (List.mem_flatMap.2 ⟨x,hx,hp⟩)
theorem OInts.frz (x:OInts)(h:Held H S x.lg):FrzC H S x.c (.sl false 1 (Qx x.ns)):=by
 obtain⟨h1,h2⟩:=h (x.y,.vec 1 (Qx x.ns)) (by simp[OInts.lg])
 exact (FrzR.same (Qc4 _)).vsl h2 h1 (by simp[Qx])
theorem OPhi.frz (x:OPhi)(hok:x.ok)(h:Held H S x.lg):FrzL H S x.row (PhiD.mk x.to x.ns).cells:=by
 refine .cons (Qg rfl) (.cons ?_ .nil)
 rcases hok with ⟨y,h1,h2⟩|⟨fl,h1,h2⟩
 ·obtain⟨h3,h4⟩:=h (y,.vec 1 (Qx x.ns)) (by rw[h2];simp)
  rw[h1];exact (FrzR.same (Qc4 _)).vsl h4 h3 (by simp[Qx])
 ·rw[h1];exact (FrzR.same (Qc4 _)).sl
theorem OIns.frz (x:OIns)(h:Held H S x.lg):FrzL H S x.row (InsD.mk x.op x.to x.a.ns x.n).cells:=.cons (Qg rfl) (.cons (Qg rfl) (.cons (x.a.frz h) (.cons (Qg rfl) .nil)))
theorem Qaob {α β:Type}{f:α→List C}{g:β→List C}:∀(l:List α),(∀x∈l,∃y,FrzL H S (f x) (g y))→∃l':List β,FrzR H S (l.map f) (l'.map g)∧l'.length=l.length
 |[],_=>⟨[],.nil,rfl⟩
 |x::l,h=>by
  obtain⟨y,hy⟩:=h x List.mem_cons_self
  obtain⟨l',hl',hn⟩:=Qaob l fun z hz=>h z (List.mem_cons_of_mem _ hz)
  exact⟨y::l',.cons hy hl',by simp[hn]⟩
theorem Q0x {α β:Type}{P:β→Prop}{f:α→List C}{g:β→List C}:∀(l:List α),(∀x∈l,∃y,FrzL H S (f x) (g y)∧P y)→∃l':List β,FrzR H S (l.map f) (l'.map g)∧l'.length=l.length∧∀y∈l',P y
 |[],_=>⟨[],.nil,rfl,by simp⟩
 |x::l,h=>by
  obtain⟨y,hy,hp⟩:=h x List.mem_cons_self
  obtain⟨l',hl',hn,hps⟩:=Q0x l fun z hz=>h z (List.mem_cons_of_mem _ hz)
  refine⟨y::l',.cons hy hl',by simp[hn],fun z hz=>?_⟩
  rcases List.mem_cons.1 hz with rfl|hz
  ·exact hp
  ·exact hps z hz
theorem OBlk.frz (x:OBlk)(hok:x.ok)(h:Held H S x.lg):∃d:BlkD,FrzL H S x.row d.cells∧d.next=x.nx.ns∧d.ins.length=x.ins.length∧d.phis.length=x.phis.length:=by
 obtain⟨ps,hps,hpn⟩:=Qaob (H:=H) (S:=S) (f:=OPhi.row) (g:=PhiD.cells) x.phis fun p hp=>⟨_,p.frz (hok.a p hp) (h.r.l.m hp)⟩
 obtain⟨is,his,hin⟩:=Qaob (H:=H) (S:=S) (f:=OIns.row) (g:=InsD.cells) x.ins fun p hp=>⟨_,p.frz (h.r.r.r.l.m hp)⟩
 exact⟨⟨ps,is,x.jump,x.on,x.nx.ns⟩,.cons (Gr.frzM hok.p h.r.r.l hps) (.cons (Gr.frzM hok.i h.r.r.r.r his) (.cons (Qg rfl) (.cons (Qg rfl) (.cons (x.nx.frz h.l) .nil)))),rfl,hin,hpn⟩
end Go.AE.Y

namespace Go.AE.Y
structure BlkD.sm (b:BlkD):Prop where
 n:b.next.length≤2
 i:b.ins.length≤1000
 p:b.phis.length≤1000
 ia:∀x∈b.ins,x.args.length≤1000
 pa:∀x∈b.phis,x.args.length≤1000
structure CodeD.sm (c:CodeD):Prop where
 b0:0<c.blocks.length
 b:c.blocks.length≤160
 bs:∀b∈c.blocks,b.sm
 p0:0≤c.params
 p1:c.params≤1000
structure OBlk.sm (b:OBlk)(N:Nat):Prop where
 n:b.nx.ns.length≤2
 i:b.ins.length≤1000
 p:b.phis.length≤N
 ia:∀x∈b.ins,x.a.ns.length≤N
 pa:∀x∈b.phis,x.ns.length≤N
structure OCode.sm (c:OCode)(N:Nat):Prop where
 b0:0<c.blocks.length
 b:c.blocks.length≤160
 bs:∀b∈c.blocks,b.sm N
 p0:0≤c.params
 p1:c.params≤1000
theorem OBlk.sm.mono {b:OBlk}{N M:Nat}(h:b.sm N)(hm:N≤M):b.sm M:=⟨h.n,h.i,by have:=h.p;omega,fun x hx=>by have:=h.ia x hx;omega,fun x hx=>by have:=h.pa x hx;omega⟩
theorem OCode.sm.mono {c:OCode}{N M:Nat}(h:c.sm N)(hm:N≤M):c.sm M:=⟨h.b0,h.b,fun b hb=>(h.bs b hb).mono hm,h.p0,h.p1⟩
structure BlkD.sg (b:BlkD):Prop where
 n:b.next.length≤1000000
 i:b.ins.length≤1000000
 p:b.phis.length≤1000000
 ia:∀x∈b.ins,x.args.length≤1000000
 pa:∀x∈b.phis,x.args.length≤1000000
structure CodeD.sg (c:CodeD):Prop where
 b:c.blocks.length≤1000000
 bs:∀b∈c.blocks,b.sg
theorem BlkD.sm.sg {b:BlkD}(h:b.sm):b.sg:=⟨by have:=h.n;omega,by have:=h.i;omega,by have:=h.p;omega,fun x hx=>by have:=h.ia x hx;omega,fun x hx=>by have:=h.pa x hx;omega⟩
theorem CodeD.sm.sg {c:CodeD}(h:c.sm):c.sg:=⟨by have:=h.b;omega,fun b hb=>(h.bs b hb).sg⟩
structure CodeD.gd (c:CodeD):Prop where
 b0:0<c.blocks.length
 b1:c.blocks.length≤160
 n:∀b∈c.blocks,b.next.length≤2
 f:c.fits
 s:c.sg
theorem CodeD.sm.fits {c:CodeD}(h:c.sm):c.fits:=fun b hb=>⟨by have:=(h.bs b hb).i;omega,by have:=(h.bs b hb).p;omega⟩
theorem CodeD.sm.gd {c:CodeD}(h:c.sm):c.gd:=⟨h.b0,h.b,fun b hb=>(h.bs b hb).n,h.fits,h.sg⟩
theorem BlkD.sm.o {o:OBlk}(h:o.d.sm):o.sm 1000:=
 ⟨h.n,by have:=h.i;simp only[OBlk.d,List.length_map]at this;exact this,by have:=h.p;simp only[OBlk.d,List.length_map]at this;exact this,fun x hx=>h.ia x.d (List.mem_map.2 ⟨x,hx,rfl⟩),fun x hx=>h.pa x.d (List.mem_map.2 ⟨x,hx,rfl⟩)⟩
theorem CodeD.sm.o {o:OCode}(h:o.d.sm):o.sm 1000:=
 ⟨by have:=h.b0;simp only[OCode.d,List.length_map]at this;exact this,by have:=h.b;simp only[OCode.d,List.length_map]at this;exact this,fun b hb=>(h.bs b.d (List.mem_map.2 ⟨b,hb,rfl⟩)).o,h.p0,h.p1⟩
variable {H:Heap}{S:Nat→Bool}
theorem Q73 {α β:Type}{f:α→List C}{g:β→List C}{d:α→β}:∀(l:List α),(∀x∈l,FrzL H S (f x) (g (d x)))→FrzR H S (l.map f) ((l.map d).map g)
 |[],_=>.nil
 |x::l,h=>.cons (h x List.mem_cons_self) (Q73 l fun z hz=>h z (List.mem_cons_of_mem _ hz))
theorem OBlk.frzD (x:OBlk)(hok:x.ok)(h:Held H S x.lg):FrzL H S x.row x.d.cells:=by
 have hps:=Q73 (H:=H) (S:=S) (f:=OPhi.row) (g:=PhiD.cells) (d:=OPhi.d) x.phis fun p hp=>p.frz (hok.a p hp) (h.r.l.m hp)
 have his:=Q73 (H:=H) (S:=S) (f:=OIns.row) (g:=InsD.cells) (d:=OIns.d) x.ins fun p hp=>p.frz (h.r.r.r.l.m hp)
 exact .cons (Gr.frzM hok.p h.r.r.l hps) (.cons (Gr.frzM hok.i h.r.r.r.r his) (.cons (Qg rfl) (.cons (Qg rfl) (.cons (x.nx.frz h.l) .nil))))
theorem OCode.frz (x:OCode){N:Nat}(hN:N≤100000)(hok:x.ok)(hs:x.sm N)(h:Held H S x.lg):∃d:CodeD,FrzL H S x.row d.cells∧d.gd:=by
 have hbs:=Q73 (H:=H) (S:=S) (f:=OBlk.row) (g:=BlkD.cells) (d:=OBlk.d) x.blocks fun b hb=>b.frzD (hok.bs b hb) (h.l.m hb)
 have hb0:=hs.b0
 have hb1:=hs.b
 have hd:∀d∈x.blocks.map OBlk.d,d.next.length≤2∧d.ins.length≤1000∧d.phis.length≤N∧(∀i∈d.ins,i.args.length≤N)∧∀i∈d.phis,i.args.length≤N:=fun d hd=>by
  obtain⟨b,hb,rfl⟩:=List.mem_map.1 hd
  have hsb:=hs.bs b hb
  refine⟨hsb.n,by simpa[OBlk.d]using hsb.i,by simpa[OBlk.d]using hsb.p,fun i hi=>?_,fun i hi=>?_⟩
  ·obtain⟨y,hy,rfl⟩:=List.mem_map.1 hi
   exact hsb.ia y hy
  ·obtain⟨y,hy,rfl⟩:=List.mem_map.1 hi
   exact hsb.pa y hy
 refine⟨⟨x.params,x.regs,x.blocks.map OBlk.d⟩,.cons (Qg rfl) (.cons (Qg rfl) (.cons (Gr.frzM hok.b h.r hbs) .nil)),by simpa using hb0,by simpa using hb1,fun b hb=>(hd b hb).1,fun b hb=>?_,by simp only[List.length_map];omega,fun b hb=>?_⟩
 ·obtain⟨h1,h2,h3,h4,h5⟩:=hd b hb
  omega
 ·obtain⟨h1,h2,h3,h4,h5⟩:=hd b hb
  exact⟨by omega,by omega,by omega,fun i hi=>by have:=h4 i hi;omega,fun i hi=>by have:=h5 i hi;omega⟩
theorem OCodes.frz {N:Nat}(hN:N≤100000){us:List OCode}{cc:C}{cl:List (Nat×Obj)}(hg:Gr cl 3 (us.map OCode.row) cc)(hu:∀u∈us,u.ok∧u.sm N)(h:Held H S (us.flatMap OCode.lg++cl)) :
  ∃cs:List CodeD,FrzC H S cc (.sl false 3 (Qaxf cs))∧cs.length=us.length∧∀c∈cs,c.gd:=by
 obtain⟨cs,h1,h2,h3⟩:=Q0x (H:=H) (S:=S) (P:=CodeD.gd) (f:=OCode.row) (g:=CodeD.cells) us fun u hu2=>u.frz hN (hu u hu2).1 (hu u hu2).2 (h.l.m hu2)
 exact⟨cs,Gr.frzM hg h.r h1,h2,h3⟩
end Go.AE.Y

namespace Go.AE
variable {P:Program}
theorem Qa8j {a b:SC}{Q:X→Env→Heap→Prop}{e:Env}{H:Heap}(T:Env→Heap→Prop)(h1:∀Q':X→Env→Heap→Prop,(∀e H,T e H→Q' .nrm e H)→(∀e H,Q .ret e H→Q' .ret e H)→(∀i e H,Q (.exit i) e H→Q' (.exit i) e H)→Q8 P a Q' e H)
  (h2:∀e H,T e H→Q8 P b Q e H):Q8 P (.seq a b) Q e H:=h1 (X.sq P b Q) h2 (fun _ _ h=>h) (fun _ _ _ h=>h)
end Go.AE
namespace Go.AE.Y
structure UPhi where
 to:Int
 ns:List Int
 ac:C
 al:List (Nat×Obj)
def UPhi.row (x:UPhi):List C:=[.int .i64 x.to,x.ac]
structure UBlk where
 phis:List UPhi
 pc:C
 pl:List (Nat×Obj)
 ins:List InsD
 ic:C
 il:List (Nat×Obj)
 jump:Int
 on:Int
 nfl:Bool
 next:List Int
def UBlk.row (x:UBlk):List C:=[x.pc,x.ic,.int .i64 x.jump,.int .i64 x.on,.sl x.nfl 1 (Qx x.next)]
def UBlk.lg (x:UBlk):List (Nat×Obj):=x.il++(x.phis.flatMap UPhi.al++x.pl)
structure UBlk.ok (x:UBlk):Prop where
 p:Gr x.pl 2 (x.phis.map UPhi.row) x.pc
 i:Gr x.il 4 (Qa5i x.ins) x.ic
 a:∀p∈x.phis,Gr p.al 1 (Qx p.ns) p.ac
structure UBlk.sm (b:UBlk)(N:Nat):Prop where
 n:b.next.length≤2
 i:b.ins.length≤1000
 p:b.phis.length≤N
 ia:∀x∈b.ins,x.args.length≤1000
 pa:∀x∈b.phis,x.ns.length≤1000
structure UCode where
 params:Int
 regs:Int
 blocks:List UBlk
 bc:C
 bl:List (Nat×Obj)
def UCode.row (x:UCode):List C:=[.int .i64 x.params,.int .i64 x.regs,x.bc]
def UCode.lg (x:UCode):List (Nat×Obj):=x.blocks.flatMap UBlk.lg++x.bl
structure UCode.ok (x:UCode):Prop where
 b:Gr x.bl 5 (x.blocks.map UBlk.row) x.bc
 bs:∀b∈x.blocks,b.ok
 p0:0≤x.params
 p1:x.params≤3
structure UCode.sm (c:UCode)(N:Nat):Prop where
 b0:0<c.blocks.length
 b:c.blocks.length≤160
 bs:∀b∈c.blocks,b.sm N
theorem UPhi.noOw (x:UPhi)(h:Gr x.al 1 (Qx x.ns) x.ac):Go.AE.noOw x.row=true:=by
 simp only[Go.AE.noOw,UPhi.row,List.all_cons,List.all_nil,h.isOw];rfl
theorem UBlk.noOw (x:UBlk)(h:x.ok):Go.AE.noOw x.row=true:=by
 simp only[Go.AE.noOw,UBlk.row,List.all_cons,List.all_nil,h.p.isOw,h.i.isOw];rfl
theorem UCode.noOw (x:UCode)(h:x.ok):Go.AE.noOw x.row=true:=by
 simp only[Go.AE.noOw,UCode.row,List.all_cons,List.all_nil,h.b.isOw];rfl
theorem UBlk.sm.mono {b:UBlk}{N M:Nat}(h:b.sm N)(hm:N≤M):b.sm M:=⟨h.n,h.i,by have:=h.p;omega,h.ia,h.pa⟩
theorem UCode.sm.mono {c:UCode}{N M:Nat}(h:c.sm N)(hm:N≤M):c.sm M:=⟨h.b0,h.b,fun b hb=>(h.bs b hb).mono hm⟩
variable {H:Heap}{S:Nat→Bool}
theorem UBlk.frz (x:UBlk){N:Nat}(hN:N≤1000)(hok:x.ok)(hs:x.sm N)(h:Held H S x.lg):∃d:BlkD,FrzL H S x.row d.cells∧d.sm:=by
 obtain⟨ps,hps,hpn,hpp⟩:=Q0x (H:=H) (S:=S) (P:=fun p:PhiD=>p.args.length≤1000) (f:=UPhi.row) (g:=PhiD.cells) x.phis fun p hp=>
  ⟨⟨p.to,p.ns⟩,.cons (Qg rfl) (.cons (Gr.frzM (hok.a p hp) (h.r.l.m hp) (FrzR.same (Qc4 _))) .nil),hs.pa p hp⟩
 have h1:=hs.n
 have h2:=hs.i
 have h3:=hs.p
 exact⟨⟨ps,x.ins,x.jump,x.on,x.next⟩,.cons (Gr.frzM hok.p h.r.r hps) (.cons (Gr.frzM hok.i h.l (FrzR.same (Qat5 _))) (.cons (Qg rfl) (.cons (Qg rfl) (.cons (FrzR.same (Qc4 _)).sl .nil)))),
  h1,h2,by show ps.length≤_;omega,hs.ia,hpp⟩
theorem UCode.frz (x:UCode){N:Nat}(hN:N≤1000)(hok:x.ok)(hs:x.sm N)(h:Held H S x.lg):∃d:CodeD,FrzL H S x.row d.cells∧d.sm:=by
 obtain⟨bs,hbs,hbn,hbp⟩:=Q0x (H:=H) (S:=S) (P:=BlkD.sm) (f:=UBlk.row) (g:=BlkD.cells) x.blocks fun b hb=>b.frz hN (hok.bs b hb) (hs.bs b hb) (h.l.m hb)
 have hb0:=hs.b0
 have hb1:=hs.b
 exact⟨⟨x.params,x.regs,bs⟩,.cons (Qg rfl) (.cons (Qg rfl) (.cons (Gr.frzM hok.b h.r hbs) .nil)),by show 0<bs.length;omega,by show bs.length≤_;omega,hbp,hok.p0,by have:=hok.p1;show x.params≤_;omega⟩
theorem UCodes.frz {us:List UCode}{N:Nat}(hN:N≤1000){cc:C}{cl:List (Nat×Obj)}(hg:Gr cl 3 (us.map UCode.row) cc)(hu:∀u∈us,u.ok∧u.sm N)(h:Held H S (us.flatMap UCode.lg++cl)) :
  ∃cs:List CodeD,FrzC H S cc (.sl false 3 (Qaxf cs))∧cs.length=us.length∧∀c∈cs,c.sm:=by
 obtain⟨cs,h1,h2,h3⟩:=Q0x (H:=H) (S:=S) (P:=CodeD.sm) (f:=UCode.row) (g:=CodeD.cells) us fun u hu2=>u.frz hN (hu u hu2).1 (hu u hu2).2 (h.l.m hu2)
 exact⟨cs,Gr.frzM hg h.r h1,h2,h3⟩
end Go.AE.Y

namespace Go.AE.Y
def UCode.put (u:UCode)(bi:Nat)(b:UBlk)(bl:List (Nat×Obj)):UCode:={ u with blocks:=u.blocks.set bi b,bl:=bl }
end Go.AE.Y

namespace Go.AE.Y
open Go.Proofs.Tryz
variable {H:Heap}{K:V→Heap→Prop}
end Go.AE.Y
namespace Go.AE
open Go.AE.Y
open Go.Proofs.Tryz
variable {H:Heap}{K:V→Heap→Prop}
theorem Slc.keep {H':Heap}{sz:Nat}{rows:List (List C)}{b:C}{E L:List (Nat×Obj)}(h:Slc H sz rows b)(kn:Kn H H' E L)(hE:∀l a c d,b=.vsl l a c d→l∉E.map Prod.fst):Slc H' sz rows b:=by
 obtain⟨h1,h2,h3,h4⟩:=h
 cases b with
 |sl fl z rs=>exact⟨trivial,h2,h3,h4⟩
 |vsl l z st n=>
  simp only[Go.AE.okSl]at h1
  cases ho:H l with
  |vec y rs=>
   have:=kn.chg l (by rw[ho];simp) (hE l z st n rfl)
   refine⟨?_,h2,?_,h4⟩
   ·simp only[Go.AE.okSl,this];exact h1
   ·simp only[Go.AE.rowsOf,this];exact h3
  |_=>rw[ho]at h1;exact h1.elim
 |_=>exact h1.elim
end Go.AE
namespace Go.AE.Y
open Go.Proofs.Tryz
variable {H:Heap}{K:V→Heap→Prop}
end Go.AE.Y

namespace Go.AE.Y
open Go.Proofs.Tryz
variable {H:Heap}{K:V→Heap→Prop}
end Go.AE.Y

namespace Go.AE.Y
open Go.Proofs.Tryz
variable {H:Heap}{K:V→Heap→Prop}
end Go.AE.Y

namespace Go.AE.Y
open Go.Proofs.Tryz
variable {H:Heap}{K:V→Heap→Prop}
end Go.AE.Y

namespace Go.AE.Y
open Go.Proofs.Tryz
variable {H:Heap}{K:V→Heap→Prop}
end Go.AE.Y

namespace Go.AE.Y
open Go.Proofs.Tryz
variable {H:Heap}{K:V→Heap→Prop}
end Go.AE.Y

namespace Go.AE.Y
open Go.Proofs.Tryz
variable {H:Heap}{K:V→Heap→Prop}
end Go.AE.Y

namespace Go.AE.Y
open Go.Proofs.Tryz
variable {H:Heap}{K:V→Heap→Prop}
end Go.AE.Y
namespace Go.AE
open Go.AE.Y
open Go.Proofs.Tryz
variable {H:Heap}{K:V→Heap→Prop}
theorem Gr.slc {H0 H:Heap}{E B Lg:List (Nat×Obj)}{sz:Nat}{rows:List (List C)}{c:C}(h:Gr Lg sz rows c)(kn:Kn H0 H E (B++Lg)):Slc H sz rows c:=by
 obtain⟨h1,h2⟩:=h.get kn
 exact⟨h1,h.elemSz,h2,h.lenC⟩
end Go.AE
namespace Go.AE.Y
open Go.Proofs.Tryz
variable {H:Heap}{K:V→Heap→Prop}
end Go.AE.Y
namespace Go.AE
open Go.AE.Y
open Go.Proofs.Tryz
variable {H:Heap}{K:V→Heap→Prop}
theorem Gr.ne {H0 H:Heap}{E B Lg:List (Nat×Obj)}{sz:Nat}{rows:List (List C)}{c:C}{r:Nat}{o:Obj}(h:Gr Lg sz rows c)(kn:Kn H0 H E (B++Lg))(hr:(r,o)∈E):∀l a d n,c=.vsl l a d n→l≠r:=by
 intro l a d n hc hh
 rcases h with ⟨h1,_⟩|⟨y,h1,h2⟩
 ·rw[h1]at hc;simp at hc
 ·rw[h1]at hc
  have hy:y=l:=by injection hc
  have:=kn.loc (y,.vec sz rows) (by rw[h2];simp)
  exact kn.ext (r,o) hr (by rw[←hh,←hy];exact this)
end Go.AE
namespace Go.AE.Y
open Go.Proofs.Tryz
variable {H:Heap}{K:V→Heap→Prop}
end Go.AE.Y

namespace Go.AE.Y
open Go.Proofs.Tryz
variable {H:Heap}{K:V→Heap→Prop}
end Go.AE.Y

namespace Go.AE.Y
open Go.Proofs.Tryz
def Qbu (S:List Bool):List (List C):=S.map fun b=>[.bool b]
theorem Qdx (S:List Bool):(Qbu S).length=S.length:=by simp[Qbu]
theorem Qd6 (S:List Bool)(i:Nat)(h:i<S.length):(Qbu S).getD i []=[.bool (S.getD i false)]:=by
 simp[Qbu,List.getD_eq_getElem?_getD,h]
theorem Q8c (S:List Bool)(i:Nat)(b:Bool):(Qbu S).set i [.bool b]=Qbu (S.set i b):=by simp[Qbu,List.map_set]
def Qa9 (l:List Nat):List (List C):=Qx (l.map Int.ofNat)
theorem Qas (l:List Nat):(Qa9 l).length=l.length:=by simp[Qa9,Qaa]
theorem Q86 (l:List Nat)(n:Nat):Qa9 l++[[.int .i64 (n:Int)]]=Qa9 (l++[n]):=by simp[Qa9,Qx]
theorem Qjo (l:List Nat):∀r∈Qa9 l,noOw r=true:=Qc4 _
end Go.AE.Y

namespace Go.AE.Y
open Go.Proofs.Tryz
variable {H:Heap}{K:V→Heap→Prop}
end Go.AE.Y

namespace Go.AE.Y
open Go.Proofs.Tryz
variable {H:Heap}{K:V→Heap→Prop}
end Go.AE.Y

namespace Go.AE.Y
open Go.Proofs.Tryz
variable {H H0:Heap}{K:V→Heap→Prop}
theorem Q16 (n:Nat):List.replicate n [C.bool false]=Qbu (List.replicate n false):=by simp[Qbu]
theorem Qgh (l:List Nat)(i:Nat)(h:i<l.length):(Qa9 l).getD i []=[.int .i64 ((l.getD i 0:Nat):Int)]:=by
 simp[Qa9,Qx,List.getD_eq_getElem?_getD,h]
theorem Qaug (a b:List Nat):Qa9 (a++b)=Qa9 a++Qa9 b:=by simp[Qa9,Qx]
end Go.AE.Y

namespace Go.AE.Y
open Go.Proofs.Tryz
variable {H H0:Heap}{K:V→Heap→Prop}
end Go.AE.Y

namespace Go.AE.Y
open Go.Proofs.Tryz
variable {H H0:Heap}{K:V→Heap→Prop}
end Go.AE.Y

namespace Go.AE.Y
attribute [local instance] Classical.propDecidable
variable {g:Nat→List Nat}{n h:Nat}
variable {O W:List Nat}{b:Nat}
end Go.AE.Y

namespace Go.AE.Y
open Go.Proofs.Tryz
variable {H H0:Heap}{K:V→Heap→Prop}
end Go.AE.Y

namespace Go.AE.Y
open Go.Proofs.Tryz
variable {H H0:Heap}{K:V→Heap→Prop}
end Go.AE.Y

namespace Go.AE.Y
open Go.Proofs.Tryz
variable {H H0:Heap}{K:V→Heap→Prop}
end Go.AE.Y

namespace Go.AE.Y
variable {P:Program}{H:Heap}{g:G}{w:World}
theorem Qa3s (hs:Sat H g w)(os:Array Go.Obj):∃g',Stp H g w H g' (Go.Sort.grow w os):=by
 obtain⟨l⟩:=os
 induction l generalizing g w with
 |nil=>exact⟨g,by rw[Go.Sort.grow_empty];exact .refl hs⟩
 |cons x l ih=>
  have h1:=Q4o hs x
  obtain⟨g',h2⟩:=ih h1.sat
  refine⟨g',?_⟩
  have e:Go.Sort.grow w ⟨x::l⟩=Go.Sort.grow (w.alloc x) ⟨l⟩:=by
   rw[Go.Sort.alloc_eq_grow,Go.Sort.grow_grow]
   congr 1
   simp
  rw[e];exact h1.trans h2
theorem Qay6 {b off:Nat}{cs:Array Value}{T:TypeId}{d:Array Int}(h:w.heap[b]? = some (.cells cs T (0,0))) :
  Go.Sort.putRow (Value.int .i64) w b off d=World.putCells w b (Go.Sort.putCells (Value.int .i64) off d cs) T:=by
 simp only[Go.Sort.putRow,Go.Sort.mapBlock,World.putCells]
 congr 1
 apply Array.ext_getElem?
 intro i
 simp only[Array.getElem?_modify]
 by_cases hi:b=i
 ·subst hi
  have hlt:b<w.heap.size:=Qkm h
  rw[if_pos rfl,h]
  simp[hlt,Go.Sort.onCells]
 ·rw[if_neg hi,Array.getElem?_setIfInBounds_ne hi]
theorem Qatq {f:Nat}(hf:fnOk P f=true)
  (hc:∀(blk off cap:Nat) (zs:List Int) (w:World),Go.Sort.Holds (Value.int .i64) w blk off zs.toArray→blk<w.heap.size→zs.length<4611686018427387904→
   Calls P f #[.slice (some ⟨blk,off,none⟩) zs.length cap] w fun e w'=>
    e=.returned (.tuple #[])∧∃n os,w'=Go.Sort.grow (Go.Sort.putRow (Value.int .i64) (Go.Sort.ahead w n) blk off (zs.mergeSort fun x y=>decide (x≤y)).toArray) os)
  {z n:Nat} {ns:List Int} {K:V→Heap→Prop} (hz:H z=.vec 1 (Qx ns)) (hn:n=ns.length) (h0:0<n)
  (hK:∀H',Upd H H' [(z,.vec 1 (Qx (ns.mergeSort fun x y=>decide (x≤y))))]→K (.tup []) H'):Qp P f [.c (.vsl z 1 0 n)] H K:=by
 refine⟨hf,fun g w vs hs hl hv=>?_⟩
 obtain⟨v,rfl⟩:∃v,vs=[v]:=by
  match vs,hl with
  |[v],_=>exact⟨v,rfl⟩
 have hr:=hv 0 _ v rfl rfl
 have ho:=hs.objs z
 rw[hz]at ho
 cases hr with
 |c _ _ hr=>
  cases hr with
  |vslnil=>omega
  |vsl l sz st n cap b base T m hio hnc hsh hm=>
   obtain⟨b',base',T',cs,val,hio',hown,hblk,hsz,hlim,hrow,hcell,hrep⟩:=SatVec.of ho hio
   rw[hio]at hio'
   simp only[Option.some.injEq,Prod.mk.injEq,true_and]at hio'
   obtain⟨rfl,rfl⟩:=hio'
   have hlt:=Qkm hblk
   rw[Qaa]at hsz hlim
   have hel:∀j (hj:j<ns.length),cs[base+j]? = some (.int .i64 ns[j]):=by
    intro j hj
    have h1:(Qx ns)[j]? = some [.int .i64 ns[j]]:=by simp[Qx,hj]
    have h2:=hcell j _ 0 _ h1 rfl
    have h3:=hrep j _ 0 _ h1 rfl
    have h4:val j 0=.int .i64 ns[j]:=by
     exact (fun vv (h:RepC w g (.int .i64 ns[j]) vv)=>by cases h;rfl:∀vv,RepC w g (.int .i64 ns[j]) vv→vv=.int .i64 ns[j]) _ (h3.toC rfl)
    simpa[h4]using h2
   have hH:Go.Sort.Holds (Value.int .i64) w b base ns.toArray:=by
    intro j hj
    have hj':j<ns.length:=by simpa using hj
    refine⟨?_,?_⟩
    ·rw[Qcu hblk,hel j hj']
     simp[getElem!_pos,hj']
    ·simp[World.frozen?,hblk]
   subst hn
   simp only[Nat.zero_mul,Nat.add_zero]
   refine (hc b base cap ns w hH hlt (by simp only[LIM]at hlim;omega)).mono fun e w'=>?_
   rintro⟨rfl,nn,os,rfl⟩
   have s1:Stp H g w H g (Go.Sort.ahead w nn):=Qanp hs (w.drawn+nn)
   have hblk1:(Go.Sort.ahead w nn).heap[b]? = some (.cells cs T' (0,0)):=hblk
   have hel2:∀i (c:C),((Qx (ns.mergeSort fun x y=>decide (x≤y)))[i]? = some [c])→∃x:Int,c=.int .i64 x∧(Go.Sort.putCells (Value.int .i64) base (ns.mergeSort fun x y=>decide (x≤y)).toArray cs)[base+i]? = some (.int .i64 x):=by
    intro i c hi
    have hlen:(ns.mergeSort fun x y=>decide (x≤y)).length=ns.length:=List.length_mergeSort _
    have hil:i<(ns.mergeSort fun x y=>decide (x≤y)).length:=by
     rcases Nat.lt_or_ge i (ns.mergeSort fun x y=>decide (x≤y)).length with h|h
     ·exact h
     ·rw[List.getElem?_eq_none (by rw[Qaa];exact h)]at hi;simp at hi
    refine⟨(ns.mergeSort fun x y=>decide (x≤y))[i],?_,?_⟩
    ·simp only[Qx,List.getElem?_map,List.getElem?_eq_getElem hil,Option.map_some,Option.some.injEq,List.cons.injEq,and_true]at hi
     exact hi.symm
    ·simp only[Go.Sort.putCells,Array.getElem?_mapIdx]
     rw[Array.getElem?_eq_getElem (by omega)]
     simp only[Option.map_some,Option.some.injEq]
     rw[if_pos ⟨by omega,by simp only[List.size_toArray];omega⟩]
     congr 1
     simp[getElem!_pos]
     rw[List.getElem?_eq_getElem hil];rfl
   have s2:=Qg4 s1.sat hown hblk1 (cs':=Go.Sort.putCells (Value.int .i64) base (ns.mergeSort fun x y=>decide (x≤y)).toArray cs) (by simp[Go.Sort.putCells])
    (.vec 1 (Qx (ns.mergeSort fun x y=>decide (x≤y)))) (by rw[hz];simp) (fun hle hb2=>.inr ⟨b,base,T',_,fun i _=>.int .i64 ((ns.mergeSort fun x y=>decide (x≤y)).getD i 0),hio,hown,hb2,by
      rw[Qaa,List.length_mergeSort];simp[Go.Sort.putCells];omega,by rw[Qaa,List.length_mergeSort];exact hlim,fun i row hi=>by
       simp only[Qx,List.getElem?_map,Option.map_eq_some_iff]at hi;obtain⟨x,_,rfl⟩:=hi;rfl,fun i row j c hi hj=>by
       have hi':=hi
       simp only[Qx,List.getElem?_map,Option.map_eq_some_iff]at hi'
       obtain⟨y,hy,rfl⟩:=hi'
       have hj0:j=0:=by
        rcases Nat.eq_zero_or_pos j with h|h
        ·exact h
        ·rw[List.getElem?_eq_none (by simp;omega)]at hj;simp at hj
       subst hj0
       obtain⟨x,hx,he⟩:=hel2 i _ hi
       simp only[C.int.injEq,true_and]at hx
       subst hx
       simp only[Nat.mul_one,Nat.add_zero]
       rw[he,List.getD_eq_getElem?_getD,hy];rfl,fun i row j c hi hj=>by
       have hi':=hi
       simp only[Qx,List.getElem?_map,Option.map_eq_some_iff]at hi'
       obtain⟨y,hy,rfl⟩:=hi'
       have hj0:j=0:=by
        rcases Nat.eq_zero_or_pos j with h|h
        ·exact h
        ·rw[List.getElem?_eq_none (by simp;omega)]at hj;simp at hj
       subst hj0
       simp at hj;subst hj
       show RepO _ _ _ _ _ (Value.int .i64 ((ns.mergeSort fun x y=>decide (x≤y)).getD i 0))
       rw[List.getD_eq_getElem?_getD,hy]
       exact .plain _ _ _ _ (.int _ _)⟩) (by simp)
   rw[←Qay6 hblk1]at s2
   obtain⟨g',s3⟩:=Qa3s s2.sat os
   refine .inl ⟨.tuple #[],.tup [],_,g',rfl,hK _ ⟨by simp[Heap.set_same],fun m _ hm=>Heap.set_other _ _ (by simpa using hm)⟩,s1.trans (s2.trans s3),?_⟩
   exact .tup [] [] rfl (by simp)
theorem Qaw2 {f:Nat}(hf:fnOk P f=true){k:IntKind}{x r:Int}(hc:∀w,Calls P f #[.int k x] w fun e w'=>e=.returned (.int .i64 r)∧w'=w){K:V→Heap→Prop}(hK:K (.c (.int .i64 r)) H) :
  Qp P f [.c (.int k x)] H K:=by
 refine⟨hf,fun g w vs hs hl hv=>?_⟩
 obtain⟨v,rfl⟩:∃v,vs=[v]:=by
  match vs,hl with
  |[v],_=>exact⟨v,rfl⟩
 have hr:=hv 0 _ v rfl rfl
 cases hr with
 |c _ _ hr=>
  cases hr
  refine (hc w).mono fun e w'=>?_
  rintro⟨rfl,rfl⟩
  exact .inl ⟨_,_,H,g,rfl,hK,.refl hs,.c _ _ (.int _ _)⟩
end Go.AE.Y

namespace Go.Proofs
open Go.Shelf
def Tryz.lays189_ren:Go.Shelf.Ren:=⟨fun|189=>159|125=>239|257=>238|128=>314|129=>315|294=>305|295=>306|296=>307|297=>308|298=>309|299=>310|216=>311|300=>312|301=>313|328=>344|329=>345|330=>346|331=>347|332=>348|215=>349|343=>367|n=>n,fun|28=>31|3=>3|46=>273|0=>0|51=>333|53=>335|4=>4|183=>327|182=>326|131=>106|5=>5|9=>9|218=>344|222=>238|228=>356|229=>64|n=>n,fun|n=>n⟩
theorem Tryz.lays189:Go.Proofs.Lays.n189 Tryz.prog Tryz.lays189_ren:={
 mixed:=by kernel_rfl
 f125:=Tryz.func239.trans (congrArg some (by kernel_rfl))
 f128:=Tryz.func314.trans (congrArg some (by kernel_rfl))
 f129:=Tryz.func315.trans (congrArg some (by kernel_rfl))
 f189:=Tryz.func159.trans (congrArg some (by kernel_rfl))
 f215:=Tryz.func349.trans (congrArg some (by kernel_rfl))
 f216:=Tryz.func311.trans (congrArg some (by kernel_rfl))
 f257:=Tryz.func238.trans (congrArg some (by kernel_rfl))
 f294:=Tryz.func305.trans (congrArg some (by kernel_rfl))
 f295:=Tryz.func306.trans (congrArg some (by kernel_rfl))
 f296:=Tryz.func307.trans (congrArg some (by kernel_rfl))
 f297:=Tryz.func308.trans (congrArg some (by kernel_rfl))
 f298:=Tryz.func309.trans (congrArg some (by kernel_rfl))
 f299:=Tryz.func310.trans (congrArg some (by kernel_rfl))
 f300:=Tryz.func312.trans (congrArg some (by kernel_rfl))
 f301:=Tryz.func313.trans (congrArg some (by kernel_rfl))
 f328:=Tryz.func344.trans (congrArg some (by kernel_rfl))
 f329:=Tryz.func345.trans (congrArg some (by kernel_rfl))
 f330:=Tryz.func346.trans (congrArg some (by kernel_rfl))
 f331:=Tryz.func347.trans (congrArg some (by kernel_rfl))
 f332:=Tryz.func348.trans (congrArg some (by kernel_rfl))
 f343:=Tryz.func367.trans (congrArg some (by kernel_rfl))
 t0:=Tryz.underlying0
 a0:=Tryz.isAgg0
 z0:=Tryz.sizeOf0
 v0:=Tryz.zeroValue0
 t3:=Tryz.underlying3
 a3:=Tryz.isAgg3
 z3:=Tryz.sizeOf3
 v3:=Tryz.zeroValue3
 t4:=Tryz.underlying4
 a4:=Tryz.isAgg4
 z4:=Tryz.sizeOf4
 v4:=Tryz.zeroValue4
 t5:=Tryz.underlying5
 a5:=Tryz.isAgg5
 z5:=Tryz.sizeOf5
 v5:=Tryz.zeroValue5
 t9:=Tryz.underlying9
 a9:=Tryz.isAgg9
 z9:=Tryz.sizeOf9
 v9:=Tryz.zeroValue9
 t28:=Tryz.underlying31
 a28:=Tryz.isAgg31
 z28:=Tryz.sizeOf31
 v28:=Tryz.zeroValue31
 t46:=Tryz.underlying273
 a46:=Tryz.isAgg273
 z46:=Tryz.sizeOf273
 v46:=Tryz.zeroValue273
 t51:=Tryz.underlying333
 a51:=Tryz.isAgg333
 z51:=Tryz.sizeOf333
 v51:=Tryz.zeroValue333
 t53:=Tryz.underlying335
 a53:=Tryz.isAgg335
 z53:=Tryz.sizeOf335
 v53:=Tryz.zeroValue335
 t131:=Tryz.underlying106
 a131:=Tryz.isAgg106
 z131:=Tryz.sizeOf106
 v131:=Tryz.zeroValue106
 t182:=Tryz.underlying326
 a182:=Tryz.isAgg326
 z182:=Tryz.sizeOf326
 v182:=Tryz.zeroValue326
 t183:=Tryz.underlying327
 a183:=Tryz.isAgg327
 z183:=Tryz.sizeOf327
 v183:=Tryz.zeroValue327
 t218:=Tryz.underlying344
 a218:=Tryz.isAgg344
 z218:=Tryz.sizeOf344
 v218:=Tryz.zeroValue344
 t222:=Tryz.underlying238
 a222:=Tryz.isAgg238
 z222:=Tryz.sizeOf238
 v222:=Tryz.zeroValue238
 t228:=Tryz.underlying356
 a228:=Tryz.isAgg356
 z228:=Tryz.sizeOf356
 v228:=Tryz.zeroValue356
 t229:=Tryz.underlying64
 a229:=Tryz.isAgg64
 z229:=Tryz.sizeOf64
 v229:=Tryz.zeroValue64 }
end Go.Proofs

namespace Go.AE.Y
open Go.Proofs.Tryz
variable {H H0:Heap}{K:V→Heap→Prop}{E B Lg:List (Nat×Obj)}
theorem Qaw4 {x:Int}(h0:0≤x)(h1:x≤18446744073709551615)(hK:∀n:Int,K (.c (.int .i64 n)) H):Qp prog Q8l [.c (.int .u64 x)] H K:=
 Qaw2 (by kernel_rfl) (fun w=>calls_of_every_depth fun D=>Go.Proofs.AnyS.bits_LenIn (ρ:=lays189_ren) { lays189 with } D x w h0 h1) (hK _)
theorem Qa7e {c:C}(how:c.isOw=false)(hK:K (.tup []) H):Qp prog Qbm [.c c,.c (.int .i64 0),.c (.int .i64 0)] H K:=by
 refine Qb Qah Qlc ?_
 refine Qa ?_
 simp only[go_sem]
 refine⟨Qu (by omega) (by omega),?_⟩
 refine Qd (Q0 (fun m e1 H1=>H1=H∧e1=[(0,.c c),(1,.c (.int .i64 0)),(2,.c (.int .i64 0)),(6,.c (.int .i64 1))]) 0 ⟨rfl,rfl⟩ ?_)
 rintro m e1 H1 ⟨rfl,rfl⟩
 refine Q4 ?_
 refine Qa ?_
 simp only[go_sem]
 refine Qf (Qc rfl (fun h=>by simp at h) fun _=>?_)
 refine Q1 ?_
 simp only[go_sem,X.next,Qy,Q7,Qdq,List.not_mem_nil]
 exact⟨fun _=>trivial,hK⟩
theorem Qa7q {c:C}{l:Int}(how:c.isOw=false)(hK:K (.tup []) H):Qp prog Qa8 [.c c,.c (.int .i64 0),.c (.int .i64 0),.c (.int .i64 l)] H K:=by
 refine Qb Qah Qxw ?_
 refine Qa ?_
 simp only[go_sem]
 refine Qa ?_
 simp only[go_sem]
 refine Qd (Q0 (fun m e1 H1=>H1=H∧e1=[(0,.c c),(1,.c (.int .i64 0)),(2,.c (.int .i64 0)),(3,.c (.int .i64 l)),(8,.c (.bool true)),(9,.c (.bool true))]) 0 ⟨rfl,rfl⟩ ?_)
 rintro m e1 H1 ⟨rfl,rfl⟩
 refine Qd ?_
 refine Qa ?_
 simp only[go_sem]
 refine⟨Qu (by omega) (by omega),?_⟩
 refine Q4 ?_
 refine Qa ?_
 simp only[go_sem]
 refine Qf (Qc rfl (fun _=>?_) (fun h=>by simp at h))
 refine Qa ?_
 simp only[go_sem]
 refine Qa7e how ?_
 simp only[Qanm]
 refine Qi ?_
 simp only[go_sem,X.next,Qy,Q7,Qjv,List.not_mem_nil]
 exact⟨fun _=>trivial,hK⟩
theorem Qa4j {c:C}(hok:okSl H c)(hl:lenC c=0)(how:c.isOw=false)(hK:K (.tup []) H):Qp prog Qlp [.c c] H K:=by
 have hok:=eq_true hok
 refine Qb Qah Qayq ?_
 refine Qa ?_
 simp only[go_sem,hok,hl]
 have e0:((0:Nat):Int)=0:=rfl
 refine Qs ?_
 simp only[go_sem,e0]
 refine⟨⟨by decide,by decide⟩,?_⟩
 refine Qaw4 (by omega) (by omega) fun n=>?_
 simp only[go_sem,Q6a]
 refine Qa7q how ?_
 simp only[go_sem,Qy,Q7,Qall,List.not_mem_nil]
 exact⟨fun _=>trivial,hK⟩
theorem Qa32 {c:C}{ns:List Int}(kn:Kn H0 H E (B++Lg))(hgr:Gr Lg 1 (Qx ns) c)
  (hK:∀Lg' H',Gr Lg' 1 (Qx (srt ns)) c→Kn H0 H' E (B++Lg')→K (.tup []) H'):Qp prog Qlp [.c c] H K:=by
 by_cases h0:ns=[]
 ·subst h0
  refine Qa4j (hgr.okSl kn) (by rw[hgr.lenC];rfl) hgr.isOw (hK Lg H ?_ kn)
  have:srt []=[]:=by simp[srt]
  rw[this];exact hgr
 ·rcases hgr with ⟨_,h,_⟩|⟨y,rfl,rfl⟩
  ·cases ns with
   |nil=>exact absurd rfl h0
   |cons a b=>simp[Qx]at h
  ·have hy:=kn.l B.length (l:=y) (o:=.vec 1 (Qx ns)) (by simp)
   have hpos:0<ns.length:=List.length_pos_iff.2 h0
   refine Qatq (by kernel_rfl) (fun blk off cap zs w h1 h2 h3=>Go.Proofs.Any.slices_Sort_int lays189 blk off cap zs w h1 h2 h3) hy (by rw[Qaa]) (by rw[Qaa];exact hpos) fun H' hu=>?_
   refine hK [(y,.vec 1 (Qx (srt ns)))] H' (.inr ⟨y,by rw[Qaa,Qaa,Qa0q],rfl⟩) ?_
   have:=kn.callL B.length (l:=y) (o:=.vec 1 (Qx ns)) (by simp) hu (by simp)
   simpa[srt]using this
def Qld (ks:List Nat):List (C×V):=ks.map fun k:Nat=>(.int .i64 (k:Int),.c (.bool true))
theorem Qayt (ks:List Nat):(Qld ks).length=ks.length:=by simp[Qld]
theorem Q89 (ks:List Nat)(n:Int):Qjq 0 (.int .i64 n) (Qld ks)=True:=by
 refine eq_true ?_
 simp only[Qjq,Qld,List.mem_map]
 rintro e ⟨k,_,rfl⟩
 exact⟨k,rfl⟩
theorem Qan7 (ks:List Nat)(b:Nat):(Qdm (.int .i64 (b:Int)) (Qld ks)).getD (.c (.bool false))=.c (.bool (decide (b∈ks))):=by
 induction ks with
 |nil=>simp[Qld,Qdm]
 |cons k ks ih=>
  simp only[Qld,List.map_cons,Qdm,Qd0]at ih⊢
  by_cases h:b=k
  ·subst h;simp
  ·have:¬(b:Int)=(k:Int):=by omega
   simp only[this,decide_false,Bool.false_eq_true,if_false]
   rw[ih];simp[h]
theorem Qawq (ks:List Nat)(b:Nat)(h:b∉ks):Q1z (.int .i64 (b:Int)) (.c (.bool true)) (Qld ks)=Qld (ks++[b]):=by
 induction ks with
 |nil=>simp[Qld,Q1z]
 |cons k ks ih=>
  simp only[List.mem_cons,not_or]at h
  have hk:¬(b:Int)=(k:Int):=by omega
  have ih:=ih h.2
  simp only[Qld,List.map_cons,Q1z,Qd0,hk,decide_false,Bool.false_eq_true,if_false,List.cons_append]at ih⊢
  rw[ih]
theorem Q84 {ks:List Nat}(h:ks.Nodup):(Qld ks).Nodup:=by
 rw[Qld,List.Nodup,List.pairwise_map]
 refine List.Pairwise.imp (fun {a b} hab he=>?_) h
 simp only[Prod.mk.injEq,C.int.injEq,true_and,and_true]at he
 exact hab (by omega)
set_option maxHeartbeats 1000000 in
theorem Qajq {M ver:Nat}{ks:List Nat}(hM:H M=.map ver (Qld ks))(hnd:ks.Nodup)(hl:ks.length≤LIM)
  (hK:∀l H',Upd H H' []→l.Pairwise (· < ·)→(∀x,x∈l↔x∈ks)→K (.c (.sl false 1 (Qa9 l))) H') :
  Qp prog Qbr [.c (.mp M)] H K:=by
 refine Qw ?_
 refine Qb Qah Qvq ?_
 have hMn:H M≠.none:=by rw[hM];simp
 have kn0:=Kn.start1 hM (by simp)
 refine Qa ?_
 simp only[go_sem]
 refine Qa ?_
 simp only[go_sem]
 refine Q4 ?_
 refine Qa ?_
 simp only[go_sem,hM]
 refine⟨Q84 hnd,fun it hit H1 h1=>?_⟩
 have kn:=kn0.al hit h1
 refine Qf (Qd (Q0 (fun m e1 H1=>∃(left:List (C×V)) (cur:Option (C×V)) (os:List Nat) (c:C) (Lg:List (Nat×Obj)),m=left.length∧os.Nodup∧(∀x,x∈os→x∈ks)∧(∀x∈ks,x∈os∨(C.int .i64 (x:Int),V.c (.bool true))∈left)∧
  (∀y∈left,∃x∈ks,x∉os∧y=(C.int .i64 (x:Int),V.c (.bool true)))∧left.Nodup∧os.length+left.length=ks.length∧
  Gr Lg 1 (Qa9 os) c∧Kn H H1 [(M,.map ver (Qld ks))] ([(it,.iter (some (M,ver)) left cur)]++Lg)∧e1=[(3,.c c),(6,.c (.itr it))]) (Qld ks).length ?_ ?_))
 ·refine⟨Qld ks,none,[],_,[],rfl,by simp,by simp,fun x hx=>.inr ?_,fun y hy=>?_,Q84 hnd,by simp[Qld],.nil 1,kn,rfl⟩
  ·exact List.mem_map.2 ⟨x,hx,rfl⟩
  ·obtain⟨x,hx,rfl⟩:=List.mem_map.1 hy
   exact⟨x,hx,by simp,rfl⟩
 ·rintro m e1 H2 ⟨left,cur,os,c,Lg,rfl,hond,hosub,hall,hleft,hlnd,hlen,hgr,kn,rfl⟩
  have hM2:=kn.e 0 rfl
  have hit2:=kn.l 0 rfl
  have hcw:=hgr.isOw
  refine Qa ?_
  simp only[go_sem,hcw,hit2,hM2]
  refine⟨⟨_,rfl⟩,fun hnil=>?_,fun y left' hy hl' hnd' hlen' H3 h3=>?_⟩
  ·subst hnil
   simp only[go_sem,Qcf,List.getD_cons_zero]
   refine Qf (Qc rfl (fun h=>by simp at h) fun _=>?_)
   refine Q1 ?_
   simp only[go_sem,X.next]
   refine Qa ?_
   simp only[go_sem,hcw]
   refine Qa32 kn hgr fun Lg2 H3 hgr kn=>?_
   refine Qa ?_
   simp only[go_sem,hcw]
   refine Qi ?_
   simp only[go_sem,Qy,Q7,Qh0,List.mem_singleton,forall_eq,RS.op,hcw]
   have hmem:∀x,x∈os↔x∈ks:=fun x=>⟨hosub x,fun hx=>(hall x hx).resolve_right (by simp)⟩
   have hni:(os.map Int.ofNat).Nodup:=by
    rw[List.Nodup,List.pairwise_map]
    exact List.Pairwise.imp (fun {a b} hab he=>hab (Int.ofNat.inj he)) hond
   have hsn:=Qa0r hni
   obtain⟨l,hl1,hl2,hl3⟩:∃l:List Nat,srt (os.map Int.ofNat)=l.map Int.ofNat∧l.Pairwise (· < ·)∧∀x,x∈l↔x∈ks:=by
    refine⟨(srt (os.map Int.ofNat)).map Int.toNat,?_,?_,fun x=>?_⟩
    ·rw[List.map_map]
     conv=>lhs;rw[←List.map_id (srt (os.map Int.ofNat))]
     refine List.map_congr_left fun x hx=>?_
     rw[Qadr]at hx
     obtain⟨y,_,rfl⟩:=List.mem_map.1 hx
     simp
    ·rw[List.pairwise_map]
     refine List.Pairwise.imp_of_mem (fun {a b} ha hb hab=>?_) hsn
     rw[Qadr]at ha hb
     obtain⟨x,_,rfl⟩:=List.mem_map.1 ha
     obtain⟨y,_,rfl⟩:=List.mem_map.1 hb
     simpa using hab
    ·rw[←hmem]
     constructor
     ·intro hx
      obtain⟨y,hy,rfl⟩:=List.mem_map.1 hx
      rw[Qadr]at hy
      obtain⟨z,hz,rfl⟩:=List.mem_map.1 hy
      simpa using hz
     ·intro hx
      exact List.mem_map.2 ⟨(x:Int),by rw[Qadr];exact List.mem_map.2 ⟨x,hx,rfl⟩,by simp⟩
   have:=hgr.frz kn (Qc4 _)
   rw[hl1]at this
   exact⟨_,.c _ _ this,hK l _ (kn.fin.drop1 hM) hl2 hl3⟩
  ·obtain⟨k,hk,hkos,rfl⟩:=hleft y hy
   have kn:=kn.stL 0 rfl h3
   have hM3:=kn.e 0 rfl
   have hit3:=kn.l 0 rfl
   simp only[go_sem,Qcf,List.getD_cons_zero]
   refine Qf (Qc rfl (fun _=>?_) (fun h=>by simp at h))
   refine Qe ?_
   simp only[go_sem]
   refine Qd ?_
   refine Qa ?_
   simp only[go_sem,hcw,hit3,hM3]
   refine⟨⟨_,rfl⟩,?_⟩
   simp only[go_sem,Qfj,List.getD_cons_zero]
   refine Qs ?_
   simp only[go_sem,hcw]
   have hol:os.length+1≤LIM:=by omega
   refine kn.growR (B:=[_]) (new:=Qa9 [k]) hgr (.mk' _ _ _ _) (Qjo _) (by simp only[Qas,List.length_cons,List.length_nil];omega) fun t Lg' H4 hgr ht kn=>?_
   simp only[go_sem,Qfk,X.next]
   refine⟨left'.length,by omega,left',_,os++[k],t,Lg',rfl,?_,fun x hx=>?_,fun x hx=>?_,fun y hy'=>?_,hnd',?_,?_,kn,rfl⟩
   ·refine List.nodup_append.2 ⟨hond,by simp,fun a ha b hb=>?_⟩
    simp at hb;subst hb;exact fun e=>hkos (e▸ha)
   ·rcases List.mem_append.1 hx with hx|hx
    ·exact hosub x hx
    ·simp at hx;subst hx;exact hk
   ·rcases hall x hx with h|h
    ·exact .inl (List.mem_append_left _ h)
    ·by_cases hxk:x=k
     ·subst hxk;exact .inl (List.mem_append_right _ (by simp))
     ·refine .inr ((hl' _).2 ⟨h,fun he=>hxk ?_⟩)
      simp only[Prod.mk.injEq,C.int.injEq,true_and,and_true]at he
      omega
   ·obtain⟨h1,h2⟩:=(hl' y).1 hy'
    obtain⟨x,hx,hxo,rfl⟩:=hleft y h1
    refine⟨x,hx,fun hh=>?_,rfl⟩
    rcases List.mem_append.1 hh with hh|hh
    ·exact hxo hh
    ·simp at hh;subst hh;exact h2 rfl
   ·simp;omega
   ·rw[Qaug];exact hgr
theorem Q4n {M ver:Nat}{ks:List Nat}(hM:H M=.map ver (Qld ks))(hnd:ks.Nodup)(hl:ks.length≤LIM)
  (hK:∀fl l H',Upd H H' []→l.Pairwise (· < ·)→(∀x,x∈l↔x∈ks)→K (.c (.sl fl 1 (Qa9 l))) H') :
  Qp prog Qbr [.c (.mp M)] H K:=Qajq hM hnd hl fun l H'=>hK false l H'
end Go.AE.Y

namespace Go.AE.Y
open Go.Proofs.Tryz
variable {H H0:Heap}{K:V→Heap→Prop}
end Go.AE.Y

namespace Go.AE.Y
open Go.Proofs.Tryz
variable {H H0:Heap}{K:V→Heap→Prop}{E B Lg:List (Nat×Obj)}
def Gw (Lg:List (Nat×Obj))(sz:Nat)(rows:List (List C))(c:C):Prop:=
 (c=.sl true sz []∧rows=[]∧Lg=[])∨∃y R,c=.vsl y sz 0 rows.length∧Lg=[(y,.vec sz R)]∧R.take rows.length=rows
end Go.AE.Y
namespace Go.AE
open Go.AE.Y
open Go.Proofs.Tryz
variable {H H0:Heap}{K:V→Heap→Prop}{E B Lg:List (Nat×Obj)}
theorem Gr.gw {sz:Nat}{rows:List (List C)}{c:C}(h:Gr Lg sz rows c):Gw Lg sz rows c:=by
 rcases h with h|⟨y,h1,h2⟩
 ·exact .inl h
 ·exact .inr ⟨y,rows,h1,h2,List.take_length⟩
end Go.AE
namespace Go.AE.Y
open Go.Proofs.Tryz
variable {H H0:Heap}{K:V→Heap→Prop}{E B Lg:List (Nat×Obj)}
theorem Gw.isOw {sz:Nat}{rows:List (List C)}{c:C}(h:Gw Lg sz rows c):c.isOw=false:=by rcases h with ⟨rfl,_⟩|⟨y,R,rfl,_⟩ <;> rfl
theorem Gw.frz {ns:List Int}{c:C}(h:Gw Lg 1 (Qx ns) c)(kn:Kn H0 H E (B++Lg)):FrzC H (un H0) c (.sl false 1 (Qx ns)):=by
 rcases h with ⟨rfl,h2,_⟩|⟨y,R,rfl,rfl,hR⟩
 ·rw[h2];exact FrzR.nil.sl
 ·have hle:(Qx ns).length≤R.length:=by
   have:=congrArg List.length hR
   rw[List.length_take]at this
   omega
  have h:=FrzR.same (H:=H) (S:=un H0) (Qc4 ns)
  exact .vsl y 1 0 _ R (Qx ns) (Qx ns) (Qod (kn.loc (y,.vec 1 R) (by simp))) (kn.get (y,.vec 1 R) (by simp)).1 (by omega) (by simpa using hR.symm) h.spec.1 (fun i r r' h1 h2=>(h.spec.2 i r r' h1 h2).spec.1) fun i r r' j c c' h1 h2 h3 h4=>(h.spec.2 i r r' h1 h2).spec.2 j c c' h3 h4
theorem Qat6 (ns:List Int)(i:Nat)(x:Int):(Qx ns).set i [.int .i64 x]=Qx (ns.set i x):=by simp[Qx,List.map_set]
theorem Qaof (ns:List Int)(k:Nat):(Qx ns).take k=Qx (ns.take k):=by simp[Qx,List.map_take]
set_option maxHeartbeats 2000000 in
theorem Qawv {c:C}{ns:List Int}(kn:Kn H0 H E (B++Lg))(hgr:Gr Lg 1 (Qx ns) c)(hs:ns.Pairwise (·≤·))(hL:ns.length≤2 ^ 38)
  (hK:∀t Lg' ns' H',Gw Lg' 1 (Qx ns') t→t.isOw=false→Kn H0 H' E (B++Lg')→ns'.Pairwise (· < ·)→(∀x,x∈ns'↔x∈ns)→ns'.length≤ns.length→K (.c t) H') :
  Qp prog Qm7 [.c c] H K:=by
 have how:=hgr.isOw
 have hok:=eq_true (hgr.okSl kn)
 have hlen:=hgr.lenC
 have hrw:=hgr.rowsOf kn
 have hsz:=hgr.elemSz
 refine Qb Qah Qak4 ?_
 refine Qa ?_
 simp only[go_sem]
 refine Q4 ?_
 refine Qa ?_
 simp only[go_sem,hok,hlen,Qaa]
 intro _
 refine Qf (Qc rfl ?_ ?_)
 ·intro hc
  have h2:ns.length<2:=by have:=of_decide_eq_true hc;omega
  refine Qa ?_
  simp only[go_sem]
  refine Qi ?_
  simp only[go_sem,Qy,Q7,Qkv,List.mem_singleton,forall_eq,RS.op]
  exact hK c Lg ns H hgr.gw how kn (Qajw hs fun i h0 hi=>by omega) (fun _=>Iff.rfl) (Nat.le_refl _)
 ·intro hc
  have h2:2≤ns.length:=by have:=of_decide_eq_false hc;omega
  obtain⟨z,rfl,rfl⟩:∃z,c=.vsl z 1 0 ns.length∧Lg=[(z,.vec 1 (Qx ns))]:=by
   rcases hgr with ⟨_,h,_⟩|⟨y,h1,h2⟩
   ·have:ns.length=0:=by rw[←Qaa,h];rfl
    omega
   ·exact⟨y,by rw[h1,Qaa],h2⟩
  have hz:=kn.l B.length (l:=z) (o:=.vec 1 (Qx ns)) (by simp)
  refine Qe ?_
  simp only[go_sem]
  refine Q4 ?_
  refine Qa ?_
  simp only[go_sem]
  refine Qf (Qd (Q0 (fun m e1 H1=>∃(k:Nat),m=ns.length-k∧0<k∧k≤ns.length∧H1=H∧(∀i,0<i→i<k→ns.getD i 0≠ns.getD (i-1) 0)∧e1=[(0,.c (.vsl z 1 0 ns.length)),(3,.c (.int .i64 k))]) (ns.length-1) ?_ ?_))
  ·exact⟨1,rfl,by omega,by omega,rfl,fun i h0 h1=>by omega,rfl⟩
  ·rintro m e1 H1 ⟨k,hm,hk0,hk,rfl,hne,rfl⟩
   refine Q4 ?_
   refine Qa ?_
   simp only[go_sem,hz,Qaa,Nat.zero_add,Nat.le_refl]
   intro hlim
   simp only[LIM]at hlim
   refine Qf (Qc rfl ?_ ?_)
   ·intro hc2
    have hlt:k<ns.length:=by simpa using hc2
    have hlt1:k-1<ns.length:=by omega
    have e1:((k:Int)-1)=((k-1:Nat):Int):=by omega
    have htk:(Qx ns).take ns.length=Qx ns:=List.take_of_length_le (by rw[Qaa];exact Nat.le_refl _)
    refine Qe ?_
    simp only[go_sem]
    refine Qf (Qd ?_)
    refine Qaz ?_
    simp only[go_sem,hz,e1,hlt,hlt1,htk,Qaa,Qgg _ _ hlt,Qgg _ _ hlt1,Nat.zero_add,Nat.le_refl]
    refine⟨Qu (by omega) (by omega),?_⟩
    refine Qc rfl ?_ ?_
    ·intro hc3
     have heq:ns.getD k 0=ns.getD (k-1) 0:=by simpa using hc3
     refine Qa ?_
     simp only[go_sem,hz,Qaa,Nat.zero_add,Nat.le_refl]
     refine⟨by omega,?_⟩
     refine Q4 ?_
     refine Qa ?_
     simp only[go_sem]
     refine Qf (Qd (Q0 (fun m e1 H2=>∃(j kk:Nat) (R:List Int),m=ns.length-j∧k<j∧j≤ns.length∧Cmp ns R kk j∧Kn H0 H2 E (B++[(z,.vec 1 (Qx R))])∧
      e1=[(0,.c (.vsl z 1 0 ns.length)),(3,.c (.int .i64 kk)),(4,.c (.vsl z 1 k (ns.length-k))),(5,.c (.int .i64 ((j-k:Nat):Int)))]) (ns.length-(k+1)) ?_ ?_))
     ·refine⟨k+1,k,ns,rfl,by omega,by omega,.start hs hk0 hlt hne heq,kn,?_⟩
      have:k+1-k=1:=by omega
      rw[this];rfl
     ·rintro m2 e1 H2 ⟨j,kk,R,hm2,hkj,hj,hcm,kn,rfl⟩
      have hz:=kn.l B.length (l:=z) (o:=.vec 1 (Qx R)) (by simp)
      have hRl:=hcm.len
      have hkkj:=hcm.kj
      refine Q4 ?_
      refine Qa ?_
      have e3:k+(ns.length-k)=ns.length:=by omega
      simp only[go_sem,hz,Qaa,hRl,e3,Nat.le_refl]
      intro _
      refine Qf (Qc rfl ?_ ?_)
      ·intro hc4
       have hjl:j<ns.length:=by have:=of_decide_eq_true hc4;omega
       have hjR:j<R.length:=by omega
       have hjR1:j-1<R.length:=by omega
       have hjk:j-k<ns.length-k:=by omega
       have hjk1:j-k-1<ns.length-k:=by omega
       have e4:(((j-k:Nat):Int)-1)=((j-k-1:Nat):Int):=by omega
       have hr1:(((Qx R).drop k).take (ns.length-k)).getD (j-k) []=[.int .i64 (ns.getD j 0)]:=by
        rw[←hcm.same j (by omega),←Qgg _ _ hjR]
        simp only[List.getD_eq_getElem?_getD,List.getElem?_take,List.getElem?_drop]
        rw[if_pos hjk]
        have:k+(j-k)=j:=by omega
        rw[this]
       have hr2:(((Qx R).drop k).take (ns.length-k)).getD (j-k-1) []=[.int .i64 (ns.getD (j-1) 0)]:=by
        rw[←hcm.same (j-1) (by omega),←Qgg _ _ hjR1]
        simp only[List.getD_eq_getElem?_getD,List.getElem?_take,List.getElem?_drop]
        rw[if_pos hjk1]
        have:k+(j-k-1)=j-1:=by omega
        rw[this]
       refine Qe ?_
       simp only[go_sem]
       refine Qa8j (fun e2 H3=>∃(kk:Nat) (R:List Int),Cmp ns R kk (j+1)∧Kn H0 H3 E (B++[(z,.vec 1 (Qx R))])∧
        lk 0 e2=.c (.vsl z 1 0 ns.length)∧lk 3 e2=.c (.int .i64 kk)∧lk 4 e2=.c (.vsl z 1 k (ns.length-k))∧lk 5 e2=.c (.int .i64 ((j-k:Nat):Int))) ?_ ?_
       ·intro Q hnr _ _
        refine Qd ?_
        refine Qaz ?_
        simp only[go_sem,hz,e3,e4,hr1,hr2,hjk,hjk1,Qaa,hRl,Nat.le_refl]
        refine⟨Qu (by omega) (by omega),?_⟩
        refine Qc rfl ?_ ?_
        ·intro hc5
         have hne5:ns.getD j 0≠ns.getD (j-1) 0:=by simpa using hc5
         have hkkl:kk<ns.length:=by omega
         have hkkR:kk<R.length:=by omega
         have htk:(Qx R).take ns.length=Qx R:=List.take_of_length_le (by rw[Qaa];omega)
         refine Qa ?_
         simp only[go_sem,hz,e3,hr1,hjk,hkkl,Qgg _ _ hkkR,Qat6,Qaa,hRl,Nat.zero_add,Nat.le_refl]
         intro H3 h3
         have kn3:=kn.stL B.length (x:=z) (o:=.vec 1 (Qx R)) (by simp) h3
         have kn:Kn H0 H3 E (B++[(z,.vec 1 (Qx (R.set kk (ns.getD j 0))))]):=by simpa using kn3
         refine Qs ?_
         simp only[go_sem]
         refine⟨Qu (by omega) (by omega),?_⟩
         exact hnr _ _ ⟨kk+1,_,hcm.ne hs hjl hne5,kn,rfl,rfl,rfl,rfl⟩
        ·intro hc5
         have heq5:ns.getD j 0=ns.getD (j-1) 0:=by simpa using hc5
         refine Qe ?_
         simp only[go_sem]
         exact hnr _ _ ⟨kk,R,hcm.eq hjl heq5,kn,rfl,rfl,rfl,rfl⟩
       ·rintro e2 H3 ⟨kk,R,hcm,kn,l0,l3,l4,l5⟩
        refine Qs ?_
        simp only[go_sem,X.next,l0,l3,l4,l5]
        refine⟨Qu (by omega) (by omega),ns.length-(j+1),by omega,j+1,kk,R,rfl,by omega,by omega,hcm,kn,?_⟩
        have:(((j-k:Nat):Int)+1)=((j+1-k:Nat):Int):=by omega
        rw[this]
      ·intro hc4
       have hje:j=ns.length:=by have:=of_decide_eq_false hc4;omega
       subst hje
       have hkkl:kk≤R.length:=by omega
       refine Q1 ?_
       simp only[go_sem,X.next]
       refine Qa ?_
       have e5:kk+(ns.length-kk)=ns.length:=by omega
       simp only[go_sem,hz,e5,Qaa,hRl,Nat.zero_add,Nat.le_refl]
       refine⟨by omega,fun H3 h3=>?_⟩
       have kn3:=kn.stL B.length (x:=z) (o:=.vec 1 (Qx R)) (by simp) h3
       have htk2:((Qx R).take kk++List.replicate (ns.length-kk) [C.int .i64 0]++(Qx R).drop ns.length).take kk=Qx (R.take kk):=by
        rw[List.append_assoc,List.take_append_of_le_length (by rw[List.length_take,Qaa];omega),List.take_take,Nat.min_self,Qaof]
       have hl2:ns.length≤((Qx R).take kk++List.replicate (ns.length-kk) [C.int .i64 0]++(Qx R).drop ns.length).length:=by
        simp only[List.length_append,List.length_take,List.length_replicate,List.length_drop,Qaa];omega
       generalize (Qx R).take kk++List.replicate (ns.length-kk) [C.int .i64 0]++(Qx R).drop ns.length=R2 at *
       have kn:Kn H0 H3 E (B++[(z,.vec 1 R2)]):=by simpa using kn3
       have hz3:=kn.l B.length (l:=z) (o:=.vec 1 R2) (by simp)
       refine Qa ?_
       simp only[go_sem,hz3,hl2,Nat.zero_add,Nat.sub_zero]
       refine⟨by omega,?_⟩
       refine Qi ?_
       simp only[go_sem,X.next,Qy,Q7,Qkv,List.mem_singleton,forall_eq,RS.op]
       have hrl:(Qx (R.take kk)).length=kk:=by rw[Qaa,List.length_take];omega
       refine hK (.vsl z 1 0 kk) _ (R.take kk) H3 (.inr ⟨z,R2,?_,rfl,?_⟩) rfl kn hcm.asc (fun x=>?_) (by rw[List.length_take];omega)
       ·rw[hrl]
       ·rw[hrl];exact htk2
       ·rw[hcm.mem,List.take_length]
    ·intro hc3
     have hneq:¬ns.getD k 0=ns.getD (k-1) 0:=by simpa using hc3
     refine Qe ?_
     simp only[go_sem]
     refine Qs ?_
     simp only[go_sem,X.next]
     refine⟨Qu (by omega) (by omega),ns.length-(k+1),by omega,k+1,rfl,by omega,by omega,fun i h0 h1=>?_,rfl⟩
     by_cases h:i<k
     ·exact hne i h0 h
     ·have:i=k:=by omega
      subst this;exact hneq
   ·intro hc2
    have hge:ns.length≤k:=by simpa using hc2
    refine Q1 ?_
    simp only[go_sem,X.next]
    refine Qa ?_
    simp only[go_sem]
    refine Qi ?_
    simp only[go_sem,Qy,Q7,Qkv,List.mem_singleton,forall_eq,RS.op]
    exact hK _ _ ns H1 hgr.gw rfl kn (Qajw hs fun i h0 hi=>hne i h0 (by omega)) (fun _=>Iff.rfl) (Nat.le_refl _)
end Go.AE.Y

namespace Go.AE.Y
attribute [local go_sem] cond_true cond_false Bool.not_true Bool.not_false
open Go.Proofs.Tryz
variable {H H0 F:Heap}{K:V→Heap→Prop}{E E' L:List (Nat×Obj)}
abbrev Qagf (x5:Nat)(fl:Bool)(fns:List Fn):List C:=[.ptr x5 0,.pp [.sl fl 3 (Qr fns)]]
theorem Qa60 {x5:Nat}{fl:Bool}{fns:List Fn}{e:Ex}{ns:List Int}{t:C}{Lg:List (Nat×Obj)}(hgr:Gr Lg 1 (Qx ns) t)(kn:Kn F H [] ((x5,.st [t])::Lg))(hl:ns.length<2^38)
  (hK:∀H' t' Lg',Gr Lg' 1 (Qx (ns++clI fns e)) t'→Kn F H' [] ((x5,.st [t'])::Lg')→K (.tup []) H'):Qp prog Qbg ([.ag e.cells]++(Qagf x5 fl fns).map .c) H K:=by
 have hto:=hgr.isOw
 have g5:=kn.l 0 rfl
 refine Qb Qah Q03 ?_
 refine Qa ?_
 simp only[go_sem,e.cells_eq]
 refine Qa ?_
 simp only[go_sem]
 refine Qc rfl ?_ ?_
 ·intro hc
  have h13:e.op=13:=by simpa using hc
  rw[clI,if_pos h13]at hK
  refine Qeo ?_
  simp only[go_sem,g5,hto]
  refine Qah1 ?_
  simp only[go_sem,Qhc,g5,hto]
  refine Kn.growR (B:=[(x5,.st [t])]) kn hgr (.mk' _ true 1 _) (by simp[noOw,C.isOw]) (by simp only[Qaa,List.length_cons,List.length_nil,LIM];omega) fun t' Lg' H1 hgr' hto' kn=>?_
  have g5:=kn.l 0 rfl
  simp only[go_sem,Qhb,g5,hto']
  intro H2 h2
  have kn:=kn.stL 0 rfl h2
  simp only[go_sem,Qy,Q7,Qe9]
  rw[Qaoe]at hgr'
  exact hK _ _ _ hgr' kn
 ·intro hc
  have h13:¬e.op=13:=by simpa using hc
  rw[clI,if_neg h13,List.append_nil]at hK
  refine Qe ?_
  simp only[go_sem,Qy,Q7,Qe9]
  exact hK _ _ _ hgr kn
set_option maxHeartbeats 2000000 in
theorem Qaxd {x5:Nat}{fl:Bool}{fns:List Fn}:∀(n:Nat) (x:Ex) (ns:List Int) (t:C) (Lg:List (Nat×Obj)) (F H:Heap) (K:V→Heap→Prop),x.size≤n→Gr Lg 1 (Qx ns) t→Kn F H [] ((x5,.st [t])::Lg)→ns.length+x.size≤2^38→
  (∀H' t' Lg',Gr Lg' 1 (Qx (ns++clL fns x.pre)) t'→Kn F H' [] ((x5,.st [t'])::Lg')→K (.tup []) H')→Qp prog Qgd [.ag x.cells,.c (.fn Qbg (Qagf x5 fl fns))] H K:=by
 intro n
 induction n with
 |zero=>intro x ns t Lg F H K h;have:=x.size_pos;omega
 |succ n ih=>
 intro x ns t Lg F H K hn hgr kn hb hK
 have hsz:=x.size_kids
 have hone:(clI fns x).length≤1:=by rw[clI];split <;> simp
 refine Qb Qah Qags ?_
 refine Qa ?_
 simp only[go_sem,x.cells_eq]
 refine Qa ?_
 simp only[go_sem]
 have hvc:=fun K=>Qa60 (K:=K) (fl:=fl) (fns:=fns) (e:=x) hgr kn (by omega)
 rw[x.cells_eq]at hvc
 refine hvc _ fun H1 t1 Lg1 hgr1 kn=>?_
 simp only[go_sem]
 refine Qa ?_
 simp only[go_sem,Qj]
 intro hl
 simp only[LIM]at hl
 refine Qd (Q0 (fun m e1 H1=>∃(i:Nat) (t2:C) (Lg2:List (Nat×Obj)),m=x.kids.length-i∧i≤x.kids.length∧Gr Lg2 1 (Qx (ns++clI fns x++clL fns (Qad (x.kids.take i)))) t2∧Kn F H1 [] ((x5,.st [t2])::Lg2)∧
  e1=[(1,.c (.fn Qbg (Qagf x5 fl fns))),(10,.c (.sl false 4 (Qv x.kids))),(11,.c (.int .i64 x.kids.length)),(12,.c (.int .i64 i))]) x.kids.length ?_ ?_)
 ·exact⟨0,t1,Lg1,by omega,by omega,by simpa[Qad,clL]using hgr1,kn,rfl⟩
 ·clear kn hgr1
  rintro m e1 H2 ⟨i,t2,Lg2,hm1,hi,hgr,kn,rfl⟩
  refine Qa ?_
  simp only[go_sem]
  refine Qf (Qc rfl ?_ ?_)
  ·intro hc
   have hlt:i<x.kids.length:=by simpa using hc
   have hms:=Qaf (List.getElem_mem hlt)
   obtain⟨y,hy⟩:∃y,x.kids[i]=y:=⟨_,rfl⟩
   have htk:=Qcv hlt
   have hlen:(clL fns (Qad (x.kids.take i))).length+y.size≤Ql x.kids:=by
    have h1:=Q17 fns (Qad (x.kids.take i))
    rw[Qd8]at h1
    have h2:Ql x.kids=Ql (x.kids.take i)+Ql (x.kids.drop i):=by rw[←Qcc,List.take_append_drop]
    have h3:x.kids.drop i=y::x.kids.drop (i+1):=by rw[←hy];exact (List.getElem_cons_drop hlt).symm
    rw[h3]at h2
    simp only[Ql]at h2
    omega
   rw[hy]at hms htk
   refine Qe ?_
   try simp only[go_sem]
   refine Qf (Qd ?_)
   refine Qa ?_
   simp only[go_sem,hlt,Qj,Qac _ _ hlt,hy,y.cells_eq]
   intro xk hxk H3 h3
   have kn:Kn F H3 [] (((x5,.st [t2])::Lg2)++[(xk,.st [.int .i64 0,.int .i64 0,.str [],.sl true 4 []])]):=kn.al hxk h3
   have g5:=kn.getM
   simp only[go_sem,Qnx,g5]
   intro H4 h4
   have kn:=kn.stM h4
   have g5:=kn.getM
   refine Qs ?_
   simp only[go_sem,g5]
   obtain⟨F',kn',back⟩:=kn.side
   have hih:=fun K=>ih y (ns++clI fns x++clL fns (Qad (x.kids.take i))) t2 Lg2 F' H4 K
   rw[y.cells_eq]at hih
   refine hih _ (by omega) hgr kn' (by simp only[List.length_append];omega) fun H5 t3 Lg3 hgr3 kn=>?_
   have kn:=Kn.drop (back _ _ kn)
   simp only[go_sem]
   refine Qs ?_
   simp only[go_sem,AE.X.next]
   refine⟨Qu (by omega) (by omega),x.kids.length-(i+1),by omega,i+1,t3,Lg3,rfl,by omega,?_,kn,rfl⟩
   rw[htk,Q8f,←List.append_assoc]
   exact hgr3
  ·intro hc
   have hge:x.kids.length≤i:=by simpa using hc
   rw[List.take_of_length_le hge]at hgr
   refine Q1 ?_
   simp only[go_sem,AE.X.next,Qy,Q7,Q2z]
   refine hK _ t2 Lg2 ?_ kn
   rw[x.pre_eq,clL,List.flatMap_cons,←List.append_assoc]
   exact hgr
set_option maxHeartbeats 2000000 in
theorem Qa8l {x5:Nat}{fl:Bool}{fns:List Fn}{x:St}{nest:Int}{ns:List Int}{t:C}{Lg:List (Nat×Obj)}(hgr:Gr Lg 1 (Qx ns) t)(kn:Kn F H [] ((x5,.st [t])::Lg))(hb:ns.length+Ql x.args≤2^38)
  (hK:∀H' t' Lg',Gr Lg' 1 (Qx (ns++clL fns (Qad x.args))) t'→Kn F H' [] ((x5,.st [t'])::Lg')→K (.tup []) H'):Qp prog Qcg ([.ag x.cells,.c (.int .i64 nest)]++(Qagf x5 fl fns).map .c) H K:=by
 refine Qb Qah Q8y ?_
 refine Qa ?_
 simp only[go_sem,x.cells_eq]
 refine Qa ?_
 simp only[go_sem,Qj]
 intro hl
 simp only[LIM]at hl
 refine Qd (Q0 (fun m e1 H1=>∃(i:Nat) (t2:C) (Lg2:List (Nat×Obj)),m=x.args.length-i∧i≤x.args.length∧Gr Lg2 1 (Qx (ns++clL fns (Qad (x.args.take i)))) t2∧Kn F H1 [] ((x5,.st [t2])::Lg2)∧
  e1=[(2,.c (.ptr x5 0)),(3,.c (.pp [.sl fl 3 (Qr fns)])),(9,.c (.sl false 4 (Qv x.args))),(10,.c (.int .i64 x.args.length)),(11,.c (.int .i64 i))]) x.args.length ?_ ?_)
 ·exact⟨0,t,Lg,by omega,by omega,by simpa[Qad,clL]using hgr,kn,rfl⟩
 ·clear kn hgr
  rintro m e1 H2 ⟨i,t2,Lg2,hm1,hi,hgr,kn,rfl⟩
  refine Qa ?_
  simp only[go_sem]
  refine Qf (Qc rfl ?_ ?_)
  ·intro hc
   have hlt:i<x.args.length:=by simpa using hc
   have hms:=Qaf (List.getElem_mem hlt)
   obtain⟨y,hy⟩:∃y,x.args[i]=y:=⟨_,rfl⟩
   have htk:=Qcv hlt
   have hlen:(clL fns (Qad (x.args.take i))).length+y.size≤Ql x.args:=by
    have h1:=Q17 fns (Qad (x.args.take i))
    rw[Qd8]at h1
    have h2:Ql x.args=Ql (x.args.take i)+Ql (x.args.drop i):=by rw[←Qcc,List.take_append_drop]
    have h3:x.args.drop i=y::x.args.drop (i+1):=by rw[←hy];exact (List.getElem_cons_drop hlt).symm
    rw[h3]at h2
    simp only[Ql]at h2
    omega
   rw[hy]at hms htk
   refine Qe ?_
   try simp only[go_sem]
   refine Qf (Qd ?_)
   refine Qa ?_
   simp only[go_sem,hlt,Qj,Qac _ _ hlt,hy,y.cells_eq]
   intro xk hxk H3 h3
   have kn:Kn F H3 [] (((x5,.st [t2])::Lg2)++[(xk,.st [.int .i64 0,.int .i64 0,.str [],.sl true 4 []])]):=kn.al hxk h3
   have g5:=kn.getM
   simp only[go_sem,Qky,g5]
   intro H4 h4
   have kn:=kn.stM h4
   have g5:=kn.getM
   refine Qs ?_
   simp only[go_sem,g5]
   obtain⟨F',kn',back⟩:=kn.side
   have hih:=fun K=>Qaxd (x5:=x5) (fl:=fl) (fns:=fns) y.size y (ns++clL fns (Qad (x.args.take i))) t2 Lg2 F' H4 K
   rw[y.cells_eq]at hih
   refine hih _ (Nat.le_refl _) hgr kn' (by simp only[List.length_append];omega) fun H5 t3 Lg3 hgr3 kn=>?_
   have kn:=Kn.drop (back _ _ kn)
   simp only[go_sem]
   refine Qs ?_
   simp only[go_sem,AE.X.next]
   refine⟨Qu (by omega) (by omega),x.args.length-(i+1),by omega,i+1,t3,Lg3,rfl,by omega,?_,kn,rfl⟩
   rw[htk,Q8f,←List.append_assoc]
   exact hgr3
  ·intro hc
   have hge:x.args.length≤i:=by simpa using hc
   rw[List.take_of_length_le hge]at hgr
   refine Q1 ?_
   simp only[go_sem,AE.X.next,Qy,Q7,Qrr]
   exact hK _ t2 Lg2 hgr kn
set_option maxHeartbeats 4000000 in
theorem Qaxe {x5:Nat}{fl:Bool}{fns:List Fn}:∀(n:Nat) (l:List St) (nest:Int) (f5:Bool) (ns:List Int) (t:C) (Lg:List (Nat×Obj)) (F H:Heap) (K:V→Heap→Prop),Qh l≤n→0≤nest→nest+n≤2^41→Gr Lg 1 (Qx ns) t→Kn F H [] ((x5,.st [t])::Lg)→ns.length+Qh l≤2^38→
  (∀H' t' Lg',Gr Lg' 1 (Qx (ns++clL fns (Qa4 l))) t'→Kn F H' [] ((x5,.st [t'])::Lg')→K (.tup []) H')→Qp prog Qdz [.c (.sl f5 5 (Qk l)),.c (.int .i64 nest),.c (.fn Qcg (Qagf x5 fl fns))] H K:=by
 intro n
 induction n using Nat.strongRecOn with
 |_ n ih=>
 intro l nest f5 ns t Lg F H K hn h0 hm hgr kn hb hK
 refine Qb Qah Qagt ?_
 refine Qa ?_
 simp only[go_sem,Qn]
 intro hl
 simp only[LIM]at hl
 refine Qd (Q0 (fun m e1 H1=>∃(i:Nat) (t2:C) (Lg2:List (Nat×Obj)),m=l.length-i∧i≤l.length∧Gr Lg2 1 (Qx (ns++clL fns (Qa4 (l.take i)))) t2∧Kn F H1 [] ((x5,.st [t2])::Lg2)∧
  e1=[(1,.c (.int .i64 nest)),(2,.c (.fn Qcg (Qagf x5 fl fns))),(8,.c (.sl f5 5 (Qk l))),(9,.c (.int .i64 l.length)),(10,.c (.int .i64 i))]) l.length ?_ ?_)
 ·exact⟨0,t,Lg,by omega,by omega,by simpa[Qa4,clL]using hgr,kn,rfl⟩
 ·clear kn hgr
  rintro m e1 H1 ⟨i,t2,Lg2,hm1,hi,hgr,kn,rfl⟩
  refine Qa ?_
  simp only[go_sem]
  refine Qf (Qc rfl ?_ ?_)
  ·intro hc
   have hlt:i<l.length:=by simpa using hc
   have hms:=Qak (List.getElem_mem hlt)
   have htk:=Qadv hlt
   have hst:=Qhn hlt
   have hsl2:=Qa3 l (i+1)
   have hcl:=Q17 fns (Qa4 (l.take i))
   have hpl:=Qem (l.take i)
   obtain⟨x,hx⟩:∃x,l[i]=x:=⟨_,rfl⟩
   rw[hx]at hms hst htk
   have hse:=x.size_eq
   have hca:=Q17 fns (Qad x.args)
   rw[Qd8]at hca
   have hcb:=Q17 fns (Qa4 x.body)
   have hpb:=Qem x.body
   refine Qe ?_
   try simp only[go_sem]
   refine Qf (Qd ?_)
   refine Qa ?_
   simp only[go_sem,hlt,Qn,Qae _ _ hlt,hx,x.cells_eq]
   intro x7 hx7 H3 h3
   have kn:Kn F H3 [] (((x5,.st [t2])::Lg2)++[(x7,.st [.int .i64 0,.str [],.sl true 4 [],.sl true 5 [],.sl true 5 []])]):=kn.al hx7 h3
   have g7:=kn.getM
   simp only[go_sem,Qnz,g7]
   intro H4 h4
   have kn:=kn.stM h4
   have g7:=kn.getM
   refine Qa ?_
   simp only[go_sem,g7]
   obtain⟨F',kn',back⟩:=kn.side
   have hvc:=fun K=>Qa8l (K:=K) (fl:=fl) (fns:=fns) (x:=x) (nest:=nest) hgr kn' (by simp only[List.length_append];omega)
   rw[x.cells_eq]at hvc
   refine hvc _ fun H5 t3 Lg3 hgr kn=>?_
   have kn:=back _ _ kn
   clear back kn' hvc
   have g7:=kn.getM
   simp only[go_sem]
   refine Qa ?_
   simp only[go_sem,g7]
   refine⟨Qu (by omega) (by omega),?_⟩
   obtain⟨F',kn',back⟩:=kn.side
   refine ih (Qh x.body) (by omega) x.body (nest+1) false _ _ _ F' _ _ (Nat.le_refl _) (by omega) (by omega) hgr kn' (by simp only[List.length_append];omega) fun H6 t4 Lg4 hgr kn=>?_
   have kn:=back _ _ kn
   clear back kn'
   have g7:=kn.getM
   simp only[go_sem]
   refine Qs ?_
   simp only[go_sem,g7]
   refine⟨Qu (by omega) (by omega),?_⟩
   obtain⟨F',kn',back⟩:=kn.side
   refine ih (Qh x.els) (by omega) x.els (nest+1) false _ _ _ F' _ _ (Nat.le_refl _) (by omega) (by omega) hgr kn' (by simp only[List.length_append];omega) fun H7 t5 Lg5 hgr kn=>?_
   have kn:=Kn.drop (back _ _ kn)
   simp only[go_sem]
   refine Qs ?_
   simp only[go_sem,AE.X.next]
   refine⟨Qu (by omega) (by omega),l.length-(i+1),by omega,i+1,t5,Lg5,rfl,by omega,?_,kn,rfl⟩
   rw[htk,x.pre_eq,Q8f,Q8f,Q8f]
   simpa only[List.append_assoc]using hgr
  ·intro hc
   have hge:l.length≤i:=by simpa using hc
   rw[List.take_of_length_le hge]at hgr
   refine Q1 ?_
   simp only[go_sem,AE.X.next,Qy,Q7,Q20]
   exact hK _ t2 Lg2 hgr kn
theorem Qaw6 {fl:Bool}{fns:List Fn}{k:Nat}(h:FineP fns)(hk:k<fns.length)(hb:Qh fns[k].body≤2^36)(hK:∀H',Upd H H' []→K (.c (.sl false 1 (Qa9 (Qll fns k)))) H') :
  Qp prog Qmz [.ag [.sl fl 3 (Qr fns)],.c (.int .i64 k)] H K:=by
 obtain⟨f,hfe⟩:∃f,fns[k]=f:=⟨_,rfl⟩
 have hcalls:=fun ns h1 h2=>Qaxa h hk (ns:=ns) h1 h2
 rw[hfe]at hb hcalls
 have hcl:=Q17 fns (Qa4 f.body)
 have hpl:=Qem f.body
 refine Qw ?_
 refine Qb Qah Qako ?_
 refine Qa ?_
 simp only[go_sem]
 refine Qa ?_
 simp only[go_sem]
 intro x5 hx5 H1 h1
 have kn:=(Kn.start0 H).al hx5 h1
 refine Qa ?_
 simp only[go_sem,hk,Qm,Q6 _ _ hk,hfe,Fn.cells]
 refine Qaxe (x5:=x5) (fl:=fl) (fns:=fns) (Qh f.body) f.body 1 false [] (.sl true 1 []) [] H H1 _ (Nat.le_refl _) (by omega) (by omega) (.nil 1) kn (by simp only[List.length_nil];omega) fun H2 t Lg hgr kn=>?_
 rw[List.nil_append]at hgr
 have hto:=hgr.isOw
 have g5:=kn.l 0 rfl
 simp only[go_sem]
 refine Qa ?_
 simp only[go_sem,g5,hto]
 refine Qa32 (B:=[(x5,.st [t])]) kn hgr fun Lg2 H3 hgr kn=>?_
 have g5:=kn.l 0 rfl
 simp only[go_sem]
 refine Qa ?_
 simp only[go_sem,g5,hto]
 refine Qawv kn hgr (Qahi _) (by rw[Qa0q];omega) fun t2 Lg3 ns' H4 hgw how2 kn h1 h2 h3=>?_
 simp only[go_sem,Qr4,how2]
 refine Qi ?_
 simp only[go_sem,Qy,Q7,Q40,List.mem_singleton,forall_eq,RS.op,how2]
 have he:=hcalls ns' h1 (fun x=>by rw[h2,Qadr])
 refine⟨_,.c _ _ (hgw.frz kn),?_⟩
 rw[he]
 exact hK _ kn.fin
end Go.AE.Y

namespace Go.AE.Y
open Go.Proofs.Tryz
def Qsh:List Item:=[sJ 1 5 9]
def Qsi:List Item:=eI 5 (.alloc [.mnil])::Qsh
def Qaek:SC:=.reg [lJ 17 6,mJ 18 8,eI 19 (.callv (.t 17) [.t 18])] [5,6,11,12,13]
def Qael:SC:=.reg [cJ 20 .add 13 1,mJ 13 20] [5,6,11,12,13]
def Qaem:SC:=.seq (.block 1 (sR [iJ 15 1 11 13,lJ 16 15,mJ 8 16] [5,6,8,11,12,13] Qaek)) Qael
def Q95:SC:=sR [bJ 14 .lss 13 12] [5,6,11,12,13,14] (cX 14 0 Qaem)
def Qsj:List Item:=[mJ 4 22]
def Qaen:SC:=sR (lJ 21 5::aJ 22 Qbr [.t 21]::Qsj) [4] .ret
def Qaeo:SC:=.seq (sR [mJ 11 0,nJ 12 11,zJ 13 0] [5,6,11,12,13] (bL 0 Q95)) Qaen
def Qaep:SC:=sR [fI 10 (.mkf Qdv [.t 5,.t 3,.t 6]),sJ 1 6 10] [0,5,6] Qaeo
def Q92:SC:=sR [eI 6 (.alloc [.fnil])] [0,3,5,6] Qaep
def Q93:SC:=sR (eI 9 (.mkm)::Qsi) [0,3,5] Q92
def Qalr:SC:=sR [vJ 3 1,fI 4 (.mv (.k (.c (.sl true 1 []))))] [0,3] Q93
def Q42:List RS:=[.tmp 4]
theorem Qakq:mFn prog Qm1 2 23 Qalr Q42=true:=by kernel_rfl
def Qkz:List Item:=[nJ 16 15,zJ 17 0]
def Q3d:SC:=.reg [lJ 21 3,mJ 22 6,eI 23 (.callv (.t 21) [.t 22])] [3,15,16,17]
def Q3e:SC:=.reg [cJ 24 .add 17 1,mJ 17 24] [3,15,16,17]
def Q3f:SC:=.seq (.block 1 (sR [iJ 19 1 15 17,lJ 20 19,mJ 6 20] [3,6,15,16,17] Q3d)) Q3e
def Q1i:SC:=sR [bJ 18 .lss 17 16] [3,15,16,17,18] (cX 18 0 Q3f)
def Q3g:SC:=sR (lJ 13 2::mJ 14 0::eI 15 (.callv (.t 13) [.t 14])::Qkz) [3,15,16,17] (bL 0 Q1i)
def Q3h:SC:=cT 10 (sR [lJ 11 1,mJ 12 0,.e none none (.upd 0 (.t 11) (.t 12) (.k (.c (.bool true))))] [0,2,3] Q3g) .skip
def Q94:SC:=sR [lJ 7 1,mJ 8 0,fI 9 (.lup 0 (.c (.bool false)) (.t 7) (.t 8)),oJ 10 9] [0,1,2,3,10] Q3h
def Qjr:List RS:=[]
theorem Q8z:mFn prog Qdv 4 25 Q94 Qjr=true:=by kernel_rfl
end Go.AE.Y

namespace Go.AE.Y
attribute [local go_sem] cond_true cond_false Bool.not_true Bool.not_false
attribute [local instance] Classical.propDecidable
open Go.Proofs.Tryz
variable {H H0:Heap}{K:V→Heap→Prop}{E B Lg:List (Nat×Obj)}{fns:List Fn}
theorem Q0p {k x:Nat}(h:x∈Qll fns k):Cls fns k x:=(ascL_mem.1 h).2
theorem Qak5 (hg:FineP fns){k x:Nat}(h:Cls fns k x):x∈Qll fns k:=by
 obtain⟨_,hj,_⟩:=id h
 exact ascL_mem.2 ⟨hj,h⟩
theorem Qa7p {S:Nat→Prop}(h0:S (fns.length-1))(h1:∀k,S k→∀n,Cls fns k n→S n){n:Nat}(hn:NdF fns n):S n:=by
 induction hn with
 |top=>exact h0
 |to _ h ih=>exact h1 _ ih _ h
theorem Qa2r (h:FineP fns){l:List Nat}(ha:l.Pairwise (· < ·))(h0:fns.length-1∈l)(h1:∀k∈l,∀n,Cls fns k n→n∈l)(h2:∀k∈l,NdF fns k):l=Qb0 fns:=
 Qajv ha (Qkp fns) fun n=>⟨fun x=>h.need_mem.2 (h2 n x),fun x=>Qa7p (S:=(·∈l)) h0 h1 (h.need_mem.1 x)⟩
theorem Qa8x {f:Bool}{k:Nat}(hg:FineP fns)(hk:k<fns.length)(hb:Qh fns[k].body≤2^36)(hK:∀H',Upd H H' []→K (.c (.sl false 1 (Qa9 (Qll fns k)))) H') :
  Qp prog Qb5 [.c (.int .i64 k),.c (.pp [.sl f 3 (Qr fns)])] H K:=by
 refine Qb Qah Q6f ?_
 refine Qa ?_
 simp only[go_sem]
 refine Qa ?_
 simp only[go_sem]
 refine Qaw6 hg hk hb fun H1 hu=>?_
 simp only[go_sem,Qjz]
 refine Qi ?_
 simp only[go_sem,Qy,Q7,Qog,List.mem_singleton,forall_eq,RS.op]
 exact hK _ hu
structure VstF (fns:List Fn)(ks ns ks':List Nat):Prop where
 nd:ks'.Nodup
 sub:∀x∈ks,x∈ks'
 ns:∀x∈ns,x∈ks'
 cl:∀x∈ks',x∈ks∨∀m∈Qll fns x,m∈ks'
 need:∀x∈ks',NdF fns x
theorem VstF.nil {ks:List Nat}(h:ks.Nodup)(hn:∀x∈ks,NdF fns x):VstF fns ks [] ks:=⟨h,fun _ h=>h,by simp,fun _ h=>.inl h,hn⟩
theorem VstF.app {ks ns k1 k2:List Nat}{n:Nat}(h:VstF fns ks ns k1)(k:VstF fns k1 [n] k2):VstF fns ks (ns++[n]) k2:=
 ⟨k.nd,fun x hx=>k.sub x (h.sub x hx),fun x hx=>by
  rcases List.mem_append.1 hx with hx|hx
  ·exact k.sub x (h.ns x hx)
  ·exact k.ns x hx,fun x hx=>by
  rcases k.cl x hx with h1|h1
  ·rcases h.cl x h1 with h2|h2
   ·exact .inl h2
   ·exact .inr fun m hm=>k.sub m (h2 m hm)
  ·exact .inr h1,k.need⟩
theorem VstF.one {ks k1:List Nat}{n:Nat}(h:VstF fns (ks++[n]) (Qll fns n) k1):VstF fns ks [n] k1:=
 ⟨h.nd,fun x hx=>h.sub x (List.mem_append_left _ hx),fun x hx=>h.sub x (List.mem_append_right _ hx),fun x hx=>by
  rcases h.cl x hx with h1|h1
  ·rcases List.mem_append.1 h1 with h1|h1
   ·exact .inl h1
   ·simp only[List.mem_singleton]at h1
    subst h1
    exact .inr h.ns
  ·exact .inr h1,h.need⟩
theorem Qayv {ks:List Nat}(hg:FineP fns)(h:ks.Nodup)(hn:∀x∈ks,NdF fns x):ks.length≤4:=by
 have:=Qala h fun x hx=>hg.nd_lt (hn x hx)
 have:=hg.len
 omega
def Qanz (x5 x6:Nat)(f:Bool)(fns:List Fn):List C:=[.ptr x5 0,.pp [.fn Qb5 [.pp [.sl f 3 (Qr fns)]]],.ptr x6 0]
def clEF (M x5 x6:Nat)(f:Bool)(fns:List Fn)(ver:Nat)(ks:List Nat):List (Nat×Obj):=
 [(M,.map ver (Qld ks)),(x5,.st [.mp M]),(x6,.st [.fn Qdv (Qanz x5 x6 f fns)])]
set_option maxHeartbeats 2000000 in
theorem Qa8g {F:Heap}{M x5 x6:Nat}{f:Bool}(hg:FineP fns)(hsz:∀k (hk:k<fns.length),Qh fns[k].body≤2^36) :
  ∀(n:Nat) (ks:List Nat) (ver:Nat) (H:Heap) (K:V→Heap→Prop),NdF fns n→ks.Nodup→(∀x∈ks,NdF fns x)→Kn F H (clEF M x5 x6 f fns ver ks) []→
   (∀(ks':List Nat) (ver':Nat) (H':Heap),VstF fns ks [n] ks'→Kn F H' (clEF M x5 x6 f fns ver' ks') []→K (.tup []) H')→
   Qp prog Qdv ([.c (.int .i64 n)]++(Qanz x5 x6 f fns).map .c) H K:=by
 intro n
 induction n using Nat.strongRecOn with
 |ind n ih=>
 intro ks ver H K hn hnd hns kn hK
 have hnl:=hg.nd_lt hn
 have hM:=kn.e 0 rfl
 have hx5:=kn.e 1 rfl
 have hx6:=kn.e 2 rfl
 refine Qb Qah Q8z ?_
 refine Qa ?_
 simp only[go_sem,Qanz,hx5,hM,Qrm,Q5,Q89,Qan7]
 refine Qc rfl ?_ ?_
 ·intro hc
  have hnk:n∉ks:=by simpa using hc
  have hkl:=Qayv hg hnd hns
  refine Qa ?_
  simp only[go_sem,hx5,hM,Q89,Qayt,Qawq _ _ hnk]
  refine⟨by simp only[LIM];omega,fun H1 h1=>?_⟩
  have kn:Kn F H1 (clEF M x5 x6 f fns (ver+1) (ks++[n])) []:=kn.stE 0 rfl h1
  refine Qa ?_
  simp only[go_sem]
  refine Qa8x hg hnl (hsz _ hnl) fun H2 hu=>?_
  have kn:=kn.call0 hu
  obtain⟨L,hL⟩:∃L,Qll fns n=L:=⟨_,rfl⟩
  have hLn:∀x∈L,x<n∧NdF fns x:=fun x hx=>by
   rw[←hL]at hx
   exact⟨hg.cls_lt (Q0p hx),.to hn (Q0p hx)⟩
  rw[hL]
  simp only[go_sem,Qkz,Qas]
  try intro hlim
  simp only[LIM]at hlim
  have hnd2:(ks++[n]).Nodup:=List.nodup_append.2 ⟨hnd,by simp,fun a ha c hc=>by
   simp only[List.mem_singleton]at hc
   subst hc;exact fun e=>hnk (e▸ha)⟩
  have hns2:∀x∈ks++[n],NdF fns x:=fun x hx=>by
   rcases List.mem_append.1 hx with hx|hx
   ·exact hns x hx
   ·simp only[List.mem_singleton]at hx
    subst hx;exact hn
  refine Qd (Q0 (fun m e1 H1=>∃(i:Nat) (k1:List Nat) (ver1:Nat),m=L.length-i∧i≤L.length∧VstF fns (ks++[n]) (L.take i) k1∧Kn F H1 (clEF M x5 x6 f fns ver1 k1) []∧
   e1=[(3,.c (.ptr x6 0)),(15,.c (.sl false 1 (Qa9 L))),(16,.c (.int .i64 L.length)),(17,.c (.int .i64 i))]) L.length ?_ ?_)
  ·exact⟨0,_,_,by omega,by omega,.nil hnd2 hns2,kn,rfl⟩
  ·clear kn hx6
   rintro m e1 H3 ⟨i,k1,ver1,hm,hi,hv,kn,rfl⟩
   have hx6:=kn.e 2 rfl
   refine Qa ?_
   simp only[go_sem]
   refine Qf (Qc rfl ?_ ?_)
   ·intro hc2
    have hlt:i<L.length:=by simpa using hc2
    have hgd:L.getD i 0=L[i]:=by simp[List.getD_eq_getElem?_getD,hlt]
    obtain⟨h1,h2⟩:=hLn _ (List.getElem_mem hlt)
    rw[←hgd]at h1 h2
    refine Qe ?_
    try simp only[go_sem]
    refine Qf (Qd ?_)
    refine Qa ?_
    simp only[go_sem,hlt,Qas,Qgh _ _ hlt]
    refine Qs ?_
    simp only[go_sem,hx6]
    refine ih _ h1 k1 ver1 H3 _ h2 hv.nd hv.need kn fun k2 ver2 H4 hv2 kn=>?_
    refine Qs ?_
    simp only[go_sem,X.next]
    refine⟨Qu (by omega) (by omega),L.length-(i+1),by omega,i+1,k2,ver2,rfl,by omega,?_,kn,rfl⟩
    rw[List.take_succ_eq_append_getElem hlt,←hgd]
    exact hv.app hv2
   ·intro hc2
    have hge:L.length≤i:=by simpa using hc2
    rw[List.take_of_length_le hge]at hv
    refine Q1 ?_
    simp only[go_sem,X.next,Qy,Q7,Qjr,List.not_mem_nil]
    refine⟨fun _=>trivial,hK k1 ver1 H3 (.one ?_) kn⟩
    rw[hL];exact hv
 ·intro hc
  have hnk:n∈ks:=by simpa using hc
  refine Qe ?_
  simp only[go_sem,Qy,Q7,Qjr,List.not_mem_nil]
  exact⟨fun _=>trivial,hK ks ver H ⟨hnd,fun _ h=>h,by simpa using hnk,fun _ h=>.inl h,hns⟩ kn⟩
set_option maxHeartbeats 2000000 in
theorem Qatu {ns:List Nat}{f:Bool}(hg:FineP fns)(hsz:∀k (hk:k<fns.length),Qh fns[k].body≤2^36)(hns:ns=[fns.length-1])(hK:∀H',Upd H H' []→K (.c (.sl false 1 (Qa9 (Qb0 fns)))) H') :
  Qp prog Qm1 [.c (.sl true 1 (Qa9 ns)),.c (.fn Qb5 [.pp [.sl f 3 (Qr fns)]])] H K:=by
 refine Qw ?_
 refine Qb Qah Qakq ?_
 refine Qa ?_
 simp only[go_sem]
 refine Qa ?_
 simp only[go_sem]
 intro M hM0 H1 h1
 have kn:Kn H H1 [] [(M,.map 0 (Qld []))]:=(Kn.start0 H).al hM0 h1
 simp only[go_sem,Qsi]
 intro x5 hx5 H3 h3
 have kn:=kn.al hx5 h3
 have hx5:=kn.l 1 rfl
 simp only[go_sem,Qsh,hx5]
 intro H4 h4
 have kn:=kn.stL 1 rfl h4
 refine Qa ?_
 simp only[go_sem]
 intro x6 hx6 H5 h5
 have kn:=kn.al hx6 h5
 have hx6:=kn.l 2 rfl
 refine Qa ?_
 simp only[go_sem,hx6]
 intro H6 h6
 have kn:Kn H H6 [] (clEF M x5 x6 f fns 0 []++[]):=kn.stL 2 rfl h6
 have kF:=kn.mid
 have hnl:ns.length=1:=by rw[hns];rfl
 refine Q4 ?_
 refine Qa ?_
 simp only[go_sem,Qas]
 try intro hlim
 refine Qf (Qd (Q0 (fun m e1 H1=>∃(i:Nat) (k1:List Nat) (ver1:Nat),m=ns.length-i∧i≤ns.length∧VstF fns [] (ns.take i) k1∧Kn H6 H1 (clEF M x5 x6 f fns ver1 k1) []∧
  e1=[(5,.c (.ptr x5 0)),(6,.c (.ptr x6 0)),(11,.c (.sl true 1 (Qa9 ns))),(12,.c (.int .i64 ns.length)),(13,.c (.int .i64 i))]) ns.length ?_ ?_))
 ·exact⟨0,_,_,by omega,by omega,.nil List.nodup_nil (by simp),kF,rfl⟩
 ·clear kF hx5 hx6
  rintro m e1 H8 ⟨i,k1,ver1,hm,hi,hv,kF,rfl⟩
  have hx6:=kF.e 2 rfl
  have hx5:=kF.e 1 rfl
  have hM:=kF.e 0 rfl
  refine Qa ?_
  simp only[go_sem]
  refine Qf (Qc rfl ?_ ?_)
  ·intro hc2
   have hlt:i<ns.length:=by simpa using hc2
   have hgd:ns.getD i 0=ns[i]:=by simp[List.getD_eq_getElem?_getD,hlt]
   have hnd:NdF fns (ns.getD i 0):=by
    have:ns[i]∈ns:=List.getElem_mem hlt
    rw[←hgd]at this
    rw[hns]at this⊢
    simp only[List.mem_singleton]at this
    rw[this];exact .top
   refine Qe ?_
   try simp only[go_sem]
   refine Qf (Qd ?_)
   refine Qa ?_
   simp only[go_sem,hlt,Qas,Qgh _ _ hlt]
   refine Qs ?_
   simp only[go_sem,hx6]
   refine Qa8g hg hsz _ k1 ver1 H8 _ hnd hv.nd hv.need kF fun k2 ver2 H9 hv2 kF=>?_
   refine Qs ?_
   simp only[go_sem,X.next]
   refine⟨Qu (by omega) (by omega),ns.length-(i+1),by omega,i+1,k2,ver2,rfl,by omega,?_,kF,rfl⟩
   rw[List.take_succ_eq_append_getElem hlt,←hgd]
   exact hv.app hv2
  ·intro hc2
   have hge:ns.length≤i:=by simpa using hc2
   rw[List.take_of_length_le hge]at hv
   have hkl:=Qayv hg hv.nd hv.need
   refine Q1 ?_
   simp only[go_sem,X.next]
   refine Qa ?_
   simp only[go_sem,hx5]
   refine Q4n hM hv.nd (by simp only[LIM];omega) fun fl2 l H9 hu hasc hmem=>?_
   have kn:=kn.comp (kF.call0 hu) rfl
   simp only[go_sem,Qsj]
   refine Qi ?_
   simp only[go_sem,Qy,Q7,Q42,List.mem_singleton,forall_eq,RS.op]
   have hl:l=Qb0 fns:=by
    refine Qa2r hg hasc ?_ ?_ ?_
    ·rw[hmem];exact hv.ns _ (by rw[hns];simp)
    ·intro k hk n hn
     rw[hmem]at hk⊢
     exact (hv.cl k hk).resolve_left (by simp) n (Qak5 hg hn)
    ·intro k hk
     rw[hmem]at hk
     exact hv.need k hk
   rw[hl]
   exact⟨_,.c _ _ (Qahy (Qm8 (Qjo _))),hK _ kn.fin⟩
noncomputable def Q6g (fns:List Fn):List Nat:=if Qlm fns=true then Qb0 fns else []
theorem Qajx {fns:List Fn}{n:Nat}(h:Qo fns≤n):∀k (hk:k<fns.length),Qh fns[k].body≤n:=fun k hk=>Nat.le_trans (Qaq (List.getElem_mem hk)) h
theorem Qrg {fl:Bool}(hf:Qo fns≤2^36)(g:GK H)(hK:∀H',Upd H H' []→K (.c (.sl false 1 (Qa9 (Q6g fns)))) H') :
  Qp prog Qdn [.ag [.sl fl 3 (Qr fns)]] H K:=by
 refine Qw ?_
 refine Qb Qah Qah6 ?_
 refine Qa ?_
 simp only[go_sem]
 refine Q4 ?_
 refine Qa ?_
 simp only[go_sem]
 refine Qasn (by omega) g fun H1 hu=>?_
 have kn:=(Kn.start0 H).call0 hu
 simp only[go_sem,Qoh]
 refine Qf (Qc rfl ?_ ?_)
 ·intro hc
  have hg:Qlm fns=false:=by simpa using hc
  refine Qa ?_
  simp only[go_sem]
  refine Qi ?_
  simp only[go_sem,AE.X.next,Qy,Q7,Qm9,List.mem_singleton,forall_eq,RS.op]
  have:=hK _ kn.fin
  rw[Q6g,hg]at this
  exact⟨_,.c _ _ FrzR.nil.sl,this⟩
 ·intro hc
  have hgb:Qlm fns=true:=by simpa using hc
  have hg:=fine_iff.1 hgb
  rw[Q6g,if_pos hgb]at hK
  have h1:=hg.len
  have e1:(fns.length:Int)-1=((fns.length-1:Nat):Int):=by omega
  refine Qe ?_
  try simp only[go_sem]
  refine Qa ?_
  simp only[go_sem,Qm,e1]
  try intro _
  refine⟨Qu (by omega) (by omega),?_⟩
  refine Qatu (ns:=[fns.length-1]) (f:=fl) hg (Qajx hf) rfl fun H2 hu=>?_
  have kn:=kn.call0 hu
  simp only[go_sem,Qoi]
  refine Qi ?_
  simp only[go_sem,Qy,Q7,Qm9,List.mem_singleton,forall_eq,RS.op]
  exact⟨_,.c _ _ (Qahy (Qm8 (Qjo _))),hK _ kn.fin⟩
end Go.AE.Y

namespace Go.AE.Y
attribute [local go_sem] cond_true cond_false Bool.not_true Bool.not_false
open Go.Proofs.Tryz
variable {H H0 F:Heap}{K:V→Heap→Prop}{E B Lg:List (Nat×Obj)}{fns:List Fn}
set_option maxHeartbeats 1000000 in
theorem Qays {g:Ex→Ex}{f:Nat}{caps:List C}{l:List Ex}{fl:Bool}
  (hf:∀x∈l,∀(H1:Heap) (K':V→Heap→Prop),(∀H2,Upd H1 H2 []→K' (.ag (g x).cells) H2)→Qp prog f ([.ag x.cells]++caps.map .c) H1 K')
  (hK:∀H',Upd H H' []→K (.c (.sl false 4 (Qv (l.map g)))) H'):Qp prog Qbj [.c (.sl fl 4 (Qv l)),.c (.fn f caps)] H K:=by
 refine Qw ?_
 refine Qb Qah Qrh ?_
 refine Qa ?_
 simp only[go_sem]
 refine Qa ?_
 simp only[go_sem]
 refine Q4 ?_
 refine Qa ?_
 simp only[go_sem,Qj]
 intro hl
 simp only[LIM]at hl
 refine Qf (Qd (Q0 (fun m e1 H1=>∃(i:Nat) (t:C) (Lg:List (Nat×Obj)),m=l.length-i∧i≤l.length∧Gr Lg 4 (Qv ((l.take i).map g)) t∧Kn H H1 [] Lg∧
  e1=[(1,.c (.fn f caps)),(5,.c t),(8,.c (.sl fl 4 (Qv l))),(9,.c (.int .i64 l.length)),(10,.c (.int .i64 i))]) l.length ?_ ?_))
 ·exact⟨0,_,[],by omega,by omega,.nil 4,Kn.start0 H,rfl⟩
 ·rintro m e1 H1 ⟨i,t,Lg,hm,hi,hgr,kn,rfl⟩
  have hto:=hgr.isOw
  refine Qa ?_
  simp only[go_sem,hto]
  refine Qf (Qc rfl ?_ ?_)
  ·intro hc
   have hlt:i<l.length:=by simpa using hc
   obtain⟨x,hx⟩:∃x,l[i]=x:=⟨_,rfl⟩
   have hxm:x∈l:=by rw[←hx];exact List.getElem_mem hlt
   have htk:Qv ((l.take (i+1)).map g)=Qv ((l.take i).map g)++[(g x).cells]:=by
    rw[Qd7,List.take_succ_eq_append_getElem hlt,hx];simp
   refine Qe ?_
   try simp only[go_sem]
   refine Qf (Qd ?_)
   refine Qa ?_
   simp only[go_sem,hto,hlt,Qj,Qac _ _ hlt,hx,x.cells_eq]
   intro x7 hx7 H3 h3
   have kn:Kn H H3 [] ([(x7,.st [.int .i64 0,.int .i64 0,.str [],.sl true 4 []])]++Lg):=(kn.al hx7 h3).perm List.perm_append_comm
   have g7:=kn.l 0 rfl
   simp only[go_sem,Qee,g7,hto]
   intro H4 h4
   have kn:Kn H H4 [] ([(x7,.st [.int .i64 x.op,.int .i64 x.n,.str x.name,.sl false 4 (Qv x.kids)])]++Lg):=kn.stL 0 rfl h4
   have g7:=kn.l 0 rfl
   refine Qs ?_
   simp only[go_sem,g7,hto]
   have hfx:=hf x hxm H4
   rw[x.cells_eq]at hfx
   refine hfx _ fun H5 hu=>?_
   have kn:=kn.call0 hu
   simp only[go_sem,Qeg,hto,(g x).cells_len]
   refine kn.growR hgr (new:=[(g x).cells]) (.mk' _ true 4 _) (by simpa using (g x).noOw) (by simp only[Qj,List.length_map,List.length_take,List.length_cons,List.length_nil,LIM];omega) fun t2 Lg2 H6 hgr2 hto2 kn=>?_
   simp only[go_sem,Qef,hto2]
   refine Qs ?_
   simp only[go_sem,AE.X.next,hto2]
   exact⟨Qu (by omega) (by omega),l.length-(i+1),by omega,i+1,t2,Lg2,rfl,by omega,by rw[htk];exact hgr2,kn.sub (List.sublist_append_right _ _),rfl⟩
  ·intro hc
   have hge:l.length≤i:=by simpa using hc
   rw[List.take_of_length_le hge]at hgr
   refine Q1 ?_
   simp only[go_sem,AE.X.next]
   refine Qa ?_
   simp only[go_sem,hto]
   refine Qi ?_
   simp only[go_sem,Qy,Q7,Qg5,List.mem_singleton,forall_eq,RS.op,hto]
   exact⟨_,.c _ _ (hgr.frz (B:=[]) kn (Qap _)),hK _ kn.fin⟩
set_option maxHeartbeats 1000000 in
theorem Qaoo {g:St→St}{f:Nat}{caps:List C}{l:List St}{fl:Bool}
  (hf:∀x∈l,∀(H1:Heap) (K':V→Heap→Prop),(∀H2,Upd H1 H2 []→K' (.ag (g x).cells) H2)→Qp prog f ([.ag x.cells]++caps.map .c) H1 K')
  (hK:∀H',Upd H H' []→K (.c (.sl false 5 (Qk (l.map g)))) H'):Qp prog Qat [.c (.sl fl 5 (Qk l)),.c (.fn f caps)] H K:=by
 refine Qw ?_
 refine Qb Qah Qri ?_
 refine Qa ?_
 simp only[go_sem]
 refine Qa ?_
 simp only[go_sem]
 refine Q4 ?_
 refine Qa ?_
 simp only[go_sem,Qn]
 intro hl
 simp only[LIM]at hl
 refine Qf (Qd (Q0 (fun m e1 H1=>∃(i:Nat) (t:C) (Lg:List (Nat×Obj)),m=l.length-i∧i≤l.length∧Gr Lg 5 (Qk ((l.take i).map g)) t∧Kn H H1 [] Lg∧
  e1=[(1,.c (.fn f caps)),(5,.c t),(8,.c (.sl fl 5 (Qk l))),(9,.c (.int .i64 l.length)),(10,.c (.int .i64 i))]) l.length ?_ ?_))
 ·exact⟨0,_,[],by omega,by omega,.nil 5,Kn.start0 H,rfl⟩
 ·rintro m e1 H1 ⟨i,t,Lg,hm,hi,hgr,kn,rfl⟩
  have hto:=hgr.isOw
  refine Qa ?_
  simp only[go_sem,hto]
  refine Qf (Qc rfl ?_ ?_)
  ·intro hc
   have hlt:i<l.length:=by simpa using hc
   obtain⟨x,hx⟩:∃x,l[i]=x:=⟨_,rfl⟩
   have hxm:x∈l:=by rw[←hx];exact List.getElem_mem hlt
   have htk:Qk ((l.take (i+1)).map g)=Qk ((l.take i).map g)++[(g x).cells]:=by
    rw[Qahl,List.take_succ_eq_append_getElem hlt,hx];simp
   refine Qe ?_
   try simp only[go_sem]
   refine Qf (Qd ?_)
   refine Qa ?_
   simp only[go_sem,hto,hlt,Qn,Qae _ _ hlt,hx,x.cells_eq]
   intro x7 hx7 H3 h3
   have kn:Kn H H3 [] ([(x7,.st [.int .i64 0,.str [],.sl true 4 [],.sl true 5 [],.sl true 5 []])]++Lg):=(kn.al hx7 h3).perm List.perm_append_comm
   have g7:=kn.l 0 rfl
   simp only[go_sem,Qeh,g7,hto]
   intro H4 h4
   have kn:Kn H H4 [] ([(x7,stO x)]++Lg):=kn.stL 0 rfl h4
   have g7:=kn.l 0 rfl
   refine Qs ?_
   simp only[go_sem,g7,hto]
   have hfx:=hf x hxm H4
   rw[x.cells_eq]at hfx
   refine hfx _ fun H5 hu=>?_
   have kn:=kn.call0 hu
   simp only[go_sem,Qej,hto,(g x).cells_len]
   refine kn.growR hgr (new:=[(g x).cells]) (.mk' _ true 5 _) (by simpa using (g x).noOw) (by simp only[Qn,List.length_map,List.length_take,List.length_cons,List.length_nil,LIM];omega) fun t2 Lg2 H6 hgr2 hto2 kn=>?_
   simp only[go_sem,Qei,hto2]
   refine Qs ?_
   simp only[go_sem,AE.X.next,hto2]
   exact⟨Qu (by omega) (by omega),l.length-(i+1),by omega,i+1,t2,Lg2,rfl,by omega,by rw[htk];exact hgr2,kn.sub (List.sublist_append_right _ _),rfl⟩
  ·intro hc
   have hge:l.length≤i:=by simpa using hc
   rw[List.take_of_length_le hge]at hgr
   refine Q1 ?_
   simp only[go_sem,AE.X.next]
   refine Qa ?_
   simp only[go_sem,hto]
   refine Qi ?_
   simp only[go_sem,Qy,Q7,Qg6,List.mem_singleton,forall_eq,RS.op,hto]
   exact⟨_,.c _ _ (hgr.frz (B:=[]) kn (Qan _)),hK _ kn.fin⟩
theorem Qan0:∀(n:Nat) (x:Ex) {H:Heap} {K:V→Heap→Prop},x.size≤n→(∀H',Upd H H' []→K (.ag x.cells) H')→Qp prog Qev [.ag x.cells] H K:=by
 intro n
 induction n with
 |zero=>intro x H K h;have:=x.size_pos;omega
 |succ n ih=>
 intro x H K hn hK
 have hsz:=x.size_kids
 refine Qw ?_
 refine Qb Qah Qad4 ?_
 refine Qa ?_
 simp only[go_sem,x.cells_eq]
 intro x1 hx1 H1 h1
 have kn:=(Kn.start0 H).al hx1 h1
 simp only[go_sem,Ql6]
 intro x2 hx2 H2 h2
 have kn:=kn.al hx2 h2
 have g1:=kn.l 0 rfl
 refine Qa ?_
 simp only[go_sem,g1]
 refine Qays (g:=id) (caps:=[]) (fun y hy H1 K' hK'=>ih y (by have:=Qaf hy;omega) hK') fun H3 hu=>?_
 rw[List.map_id]
 have kn:=kn.call0 hu
 have g1:=kn.l 0 rfl
 simp only[go_sem,Ql7,g1]
 intro H4 h4
 have kn:=kn.stL 0 rfl h4
 have g1:=kn.l 0 rfl
 have g2:=kn.l 1 rfl
 refine Qa ?_
 simp only[go_sem,g1,g2]
 intro H5 h5
 have kn:=kn.stL 1 rfl h5
 have g2:=kn.l 1 rfl
 refine Qi ?_
 simp only[go_sem,Qy,Q7,Qxd,List.mem_singleton,forall_eq,RS.op,g2]
 rw[x.cells_eq]at hK
 exact⟨_,(FrzL.cons (Qg rfl) (.cons (Qg rfl) (.cons (Qg rfl) (.cons (FrzR.same (Qap _)).sl .nil)))).ag,hK _ kn.fin⟩
theorem Qan1:∀(n:Nat) (x:St) {H:Heap} {K:V→Heap→Prop},x.size≤n→(∀H',Upd H H' []→K (.ag x.cells) H')→Qp prog Qcz [.ag x.cells] H K:=by
 intro n
 induction n with
 |zero=>intro x H K h;have:=x.size_pos;omega
 |succ n ih=>
 intro x H K hn hK
 have hsz:=x.size_eq
 refine Qw ?_
 refine Qb Qah Qad5 ?_
 refine Qa ?_
 simp only[go_sem,x.cells_eq]
 intro x1 hx1 H1 h1
 have kn:=(Kn.start0 H).al hx1 h1
 simp only[go_sem,Ql8]
 intro x2 hx2 H2 h2
 have kn:=kn.al hx2 h2
 have g1:=kn.l 0 rfl
 refine Qa ?_
 simp only[go_sem,g1]
 refine Qays (g:=id) (caps:=[]) (fun y hy H1 K' hK'=>Qan0 y.size y (Nat.le_refl _) hK') fun H3 hu=>?_
 rw[List.map_id]
 have kn:=kn.call0 hu
 have g1:=kn.l 0 rfl
 simp only[go_sem,Ql9,g1]
 intro H4 h4
 have kn:=kn.stL 0 rfl h4
 have g1:=kn.l 0 rfl
 refine Qa ?_
 simp only[go_sem,g1]
 refine Qaoo (g:=id) (caps:=[]) (fun y hy H1 K' hK'=>ih y (by have:=Qak hy;omega) hK') fun H3 hu=>?_
 rw[List.map_id]
 have kn:=kn.call0 hu
 have g1:=kn.l 0 rfl
 simp only[go_sem,Qma,g1]
 intro H4 h4
 have kn:=kn.stL 0 rfl h4
 have g1:=kn.l 0 rfl
 refine Qa ?_
 simp only[go_sem,g1]
 refine Qaoo (g:=id) (caps:=[]) (fun y hy H1 K' hK'=>ih y (by have:=Qak hy;omega) hK') fun H3 hu=>?_
 rw[List.map_id]
 have kn:=kn.call0 hu
 have g1:=kn.l 0 rfl
 simp only[go_sem,Qmb,g1]
 intro H4 h4
 have kn:=kn.stL 0 rfl h4
 have g1:=kn.l 0 rfl
 have g2:=kn.l 1 rfl
 refine Qa ?_
 simp only[go_sem,g1,g2]
 intro H5 h5
 have kn:=kn.stL 1 rfl h5
 have g2:=kn.l 1 rfl
 refine Qi ?_
 simp only[go_sem,Qy,Q7,Qxe,List.mem_singleton,forall_eq,RS.op,g2]
 rw[x.cells_eq]at hK
 exact⟨_,(FrzL.cons (Qg rfl) (.cons (Qg rfl) (.cons (FrzR.same (Qap _)).sl (.cons (FrzR.same (Qan _)).sl (.cons (FrzR.same (Qan _)).sl .nil))))).ag,hK _ kn.fin⟩
theorem Qatm {fl:Bool}{ss:List (List UInt8)}(hl:ss.length≤2^38)(hK:∀H',Upd H H' []→K (.c (.sl false 1 (Q2 ss))) H'):Qp prog Qex [.c (.sl fl 1 (Q2 ss))] H K:=by
 refine Qw ?_
 refine Qb Qah Q2m ?_
 refine Qa ?_
 simp only[go_sem]
 refine Q4 ?_
 refine Qa ?_
 simp only[go_sem]
 intro b hb
 refine Qf (Qc rfl ?_ ?_)
 ·intro hbt
  have hn:=hb hbt
  have hs:ss=[]:=by
   cases ss with
   |nil=>rfl
   |cons a r=>simp[Q2]at hn
  subst hs
  refine Qa ?_
  simp only[go_sem]
  refine Qi ?_
  simp only[go_sem,Qy,Q7,Qgl,List.mem_singleton,forall_eq,RS.op]
  exact⟨_,.c _ _ FrzR.nil.sl,hK _ (Kn.start0 H).fin⟩
 ·intro hbf
  refine Qe ?_
  simp only[go_sem]
  refine Qa ?_
  simp only[go_sem,Qq]
  refine⟨.inl trivial,Qax _,by simp only[LIM];omega,fun z hz H1 h1=>?_⟩
  have kn:=(Kn.start0 H).al hz h1
  simp only[go_sem,Qim]
  refine Qi ?_
  simp only[go_sem,Qy,Q7,Qgl,List.mem_singleton,forall_eq,RS.op]
  exact⟨_,.c _ _ ((Gr.mk z 1 _ (by rw[Qq];omega)).frz (B:=[]) kn (Qax _)),hK _ kn.fin⟩
theorem Qaxb {f:Fn}(hl:f.params.length≤2^38)(hK:∀H',Upd H H' []→K (.ag f.cells) H'):Qp prog Qm0 [.ag f.cells] H K:=by
 refine Qw ?_
 refine Qb Qah Qakp ?_
 refine Qa ?_
 simp only[go_sem,Fn.cells]
 intro x1 hx1 H1 h1
 have kn:=(Kn.start0 H).al hx1 h1
 simp only[go_sem,Qse]
 intro x2 hx2 H2 h2
 have kn:=kn.al hx2 h2
 have g1:=kn.l 0 rfl
 refine Qa ?_
 simp only[go_sem,g1]
 refine Qatm hl fun H3 hu=>?_
 have kn:=kn.call0 hu
 have g1:=kn.l 0 rfl
 simp only[go_sem,Qsf,g1]
 intro H4 h4
 have kn:=kn.stL 0 rfl h4
 have g1:=kn.l 0 rfl
 refine Qa ?_
 simp only[go_sem,g1]
 refine Qaoo (g:=id) (caps:=[]) (fun y hy H1 K' hK'=>Qan1 y.size y (Nat.le_refl _) hK') fun H3 hu=>?_
 rw[List.map_id]
 have kn:=kn.call0 hu
 have g1:=kn.l 0 rfl
 simp only[go_sem,Qsg,g1]
 intro H4 h4
 have kn:=kn.stL 0 rfl h4
 have g1:=kn.l 0 rfl
 have g2:=kn.l 1 rfl
 refine Qa ?_
 simp only[go_sem,g1,g2]
 intro H5 h5
 have kn:=kn.stL 1 rfl h5
 have g2:=kn.l 1 rfl
 refine Qi ?_
 simp only[go_sem,Qy,Q7,Q41,List.mem_singleton,forall_eq,RS.op,g2]
 exact⟨_,(FrzL.cons (Qg rfl) (.cons (FrzR.same (Qax _)).sl (.cons (FrzR.same (Qan _)).sl .nil))).ag,hK _ kn.fin⟩
theorem Qa8m {fl:Bool}{k:Nat}(hk:k<fns.length)(hp:∀f∈fns,f.params.length≤2^38)(hK:∀H',Upd H H' []→K (.ag (fnAt fns k).cells) H'):Qp prog Qa1 ([.c (.int .i64 k)]++[C.pp [.sl fl 3 (Qr fns)]].map .c) H K:=by
 obtain⟨f,hfe⟩:∃f,fns[k]=f:=⟨_,rfl⟩
 rw[Qk6 hk,hfe]at hK
 have hpf:f.params.length≤2^38:=hp f (by rw[←hfe];exact List.getElem_mem hk)
 refine Qw ?_
 refine Qb Qah Qvm ?_
 refine Qa ?_
 simp only[go_sem]
 intro x3 hx3 H1 h1
 have kn:=(Kn.start0 H).al hx3 h1
 refine Qa ?_
 simp only[go_sem,hk,Qm,Q6 _ _ hk,hfe,Fn.take3,Fn.allOw,Fn.cells_len]
 refine Qaxb hpf fun H2 hu=>?_
 have kn:=kn.call0 hu
 have g3:=kn.l 0 rfl
 simp only[go_sem,Qfd,g3,Fn.cells]
 intro H3 h3
 have kn:=kn.stL 0 rfl h3
 have g3:=kn.l 0 rfl
 refine Qi ?_
 simp only[go_sem,Qy,Q7,Qhx,List.mem_singleton,forall_eq,RS.op,g3]
 exact⟨_,(FrzL.cons (Qg rfl) (.cons (FrzR.same (Qax _)).sl (.cons (FrzR.same (Qan _)).sl .nil))).ag,hK _ kn.fin⟩
set_option maxHeartbeats 1000000 in
theorem Qauf {fl fl2:Bool}{l:List Nat}(hl4:∀k∈l,k<fns.length)(hp:∀f∈fns,f.params.length≤2^38)(hK:∀H',Upd H H' []→K (.c (.sl false 3 (Qr (l.map (fnAt fns))))) H') :
  Qp prog Qdy [.c (.sl fl2 1 (Qa9 l)),.c (.fn Qa1 [.pp [.sl fl 3 (Qr fns)]])] H K:=by
 refine Qw ?_
 refine Qb Qah Q05 ?_
 refine Qa ?_
 simp only[go_sem]
 refine Qa ?_
 simp only[go_sem]
 refine Q4 ?_
 refine Qa ?_
 simp only[go_sem,Qas]
 intro hl
 simp only[LIM]at hl
 refine Qf (Qd (Q0 (fun m e1 H1=>∃(i:Nat) (t:C) (Lg:List (Nat×Obj)),m=l.length-i∧i≤l.length∧Gr Lg 3 (Qr ((l.take i).map (fnAt fns))) t∧Kn H H1 [] Lg∧
  e1=[(1,.c (.fn Qa1 [.pp [.sl fl 3 (Qr fns)]])),(5,.c t),(8,.c (.sl fl2 1 (Qa9 l))),(9,.c (.int .i64 l.length)),(10,.c (.int .i64 i))]) l.length ?_ ?_))
 ·exact⟨0,_,[],by omega,by omega,.nil 3,Kn.start0 H,rfl⟩
 ·rintro m e1 H1 ⟨i,t,Lg,hm,hi,hgr,kn,rfl⟩
  have hto:=hgr.isOw
  refine Qa ?_
  simp only[go_sem,hto]
  refine Qf (Qc rfl ?_ ?_)
  ·intro hc
   have hlt:i<l.length:=by simpa using hc
   obtain⟨x,hx⟩:∃x,l[i]=x:=⟨_,rfl⟩
   have hxd:l.getD i 0=x:=by simp[List.getD_eq_getElem?_getD,hlt,hx]
   have hxm:x<fns.length:=hl4 x (by rw[←hx];exact List.getElem_mem hlt)
   have htk:Qr ((l.take (i+1)).map (fnAt fns))=Qr ((l.take i).map (fnAt fns))++[(fnAt fns x).cells]:=by
    rw[Qlr,List.take_succ_eq_append_getElem hlt,hx];simp
   refine Qe ?_
   try simp only[go_sem]
   refine Qf (Qd ?_)
   refine Qa ?_
   simp only[go_sem,hto,hlt,Qas,Qgh _ _ hlt,hxd]
   refine Qs ?_
   simp only[go_sem,hto]
   refine Qa8m hxm hp fun H5 hu=>?_
   have kn:=kn.call0 hu
   simp only[go_sem,Qhj,hto,Fn.cells_len]
   refine Kn.growR (B:=[]) kn hgr (new:=[(fnAt fns x).cells]) (.mk' _ true 3 _) (by simp[Fn.noOw]) (by simp only[Qm,List.length_map,List.length_take,List.length_cons,List.length_nil,LIM];omega) fun t2 Lg2 H6 hgr2 hto2 kn=>?_
   simp only[go_sem,Qhi,hto2]
   refine Qs ?_
   simp only[go_sem,AE.X.next,hto2]
   exact⟨Qu (by omega) (by omega),l.length-(i+1),by omega,i+1,t2,Lg2,rfl,by omega,by rw[htk];exact hgr2,kn,rfl⟩
  ·intro hc
   have hge:l.length≤i:=by simpa using hc
   rw[List.take_of_length_le hge]at hgr
   refine Q1 ?_
   simp only[go_sem,AE.X.next]
   refine Qa ?_
   simp only[go_sem,hto]
   refine Qi ?_
   simp only[go_sem,Qy,Q7,Qks,List.mem_singleton,forall_eq,RS.op,hto]
   exact⟨_,.c _ _ (hgr.frz (B:=[]) kn (Qbn _)),hK _ kn.fin⟩
noncomputable def Q19 (fns:List Fn):List Fn:=if Qlm fns=true then Qb3 fns else []
theorem Q76 {S:Nat→Bool}{rows:List (List C)}{fl:Bool}(hr:∀r∈rows,noOw r=true)(b:Bool):FrzV H S (.tup [.ag [.sl fl 3 rows],.c (.bool b)]) (.tup [.ag [.sl false 3 rows],.c (.bool b)]):=by
 refine .tup _ _ rfl fun j x x' h1 h2=>?_
 rcases j with _|_|j
 ·simp only[List.getElem?_cons_zero,Option.some.injEq]at h1 h2
  subst h1 h2
  exact (FrzL.cons (FrzR.same hr).sl .nil).ag
 ·simp only[List.getElem?_cons_succ,List.getElem?_cons_zero,Option.some.injEq]at h1 h2
  subst h1 h2
  exact .c _ _ (Qg rfl)
 ·simp at h1
theorem Q4v (h:Qle fns=true):∀f∈fns,f.params.length≤3:=by
 intro f hf
 simp only[Qle,Bool.and_eq_true,decide_eq_true_eq,List.all_eq_true]at h
 have:=h.1.2 f hf
 rw[Fn.form]at this
 simp only[Bool.and_eq_true,decide_eq_true_eq]at this
 exact this.1.2
theorem Qasm {fl:Bool}(hf:Qo fns≤2^36)(g:GK H)(hK:∀H',Upd H H' []→K (.tup [.ag [.sl false 3 (Qr (Q19 fns))],.c (.bool (Qlm fns))]) H') :
  Qp prog Qcp [.ag [.sl fl 3 (Qr fns)]] H K:=by
 refine Qw ?_
 have g0:=g
 refine Qb Qah Q2h ?_
 refine Qa ?_
 simp only[go_sem]
 intro x2 hx2 H1 h1
 have kn:=(Kn.start0 H).al hx2 h1
 have g:=g0.kn kn
 simp only[go_sem,Qib]
 refine Q4 ?_
 refine Qa ?_
 simp only[go_sem]
 refine Qasn (by omega) g fun H2 hu=>?_
 have kn:=kn.call0 hu
 have g:=g0.kn kn
 have g2:=kn.l 0 rfl
 simp only[go_sem,Qic]
 refine Qf (Qc rfl ?_ ?_)
 ·intro hc
  have hb:Qlm fns=false:=by simpa using hc
  refine Qa ?_
  simp only[go_sem,g2]
  intro H3 h3
  have kn:=kn.stL 0 rfl h3
  have g2:=kn.l 0 rfl
  simp only[go_sem,Qid]
  refine Qi ?_
  simp only[go_sem,AE.X.next,Qy,Q7,Qgj,List.forall_mem_cons,List.not_mem_nil,RS.op,g2]
  have:=hK _ kn.fin
  rw[Q19,hb]at this
  exact⟨fun _=>trivial,_,Q76 (by simp) false,this⟩
 ·intro hc
  have hb:Qlm fns=true:=by simpa using hc
  have hg:=fine_iff.1 hb
  rw[hb,Q19,if_pos hb,Qb3]at hK
  refine Qe ?_
  try simp only[go_sem]
  refine Qa ?_
  simp only[go_sem]
  refine Qrg hf g fun H3 hu=>?_
  have kn:=kn.call0 hu
  rw[Q6g,if_pos hb]
  simp only[go_sem,Qig]
  refine Qauf (fun k hk=>hg.nd_lt (hg.need_mem.1 hk)) (fun f hf=>by have:=Q4v hg.v f hf;omega) fun H4 hu=>?_
  have kn:=kn.call0 hu
  have g2:=kn.l 0 rfl
  simp only[go_sem,Qif,g2]
  intro H5 h5
  have kn:=kn.stL 0 rfl h5
  have g2:=kn.l 0 rfl
  simp only[go_sem,Qie]
  refine Qi ?_
  simp only[go_sem,Qy,Q7,Qgj,List.forall_mem_cons,List.not_mem_nil,RS.op,g2]
  exact⟨fun _=>trivial,_,Q76 (Qbn _) true,hK _ kn.fin⟩
end Go.AE.Y

namespace Go.AE.Y
attribute [local go_sem] cond_true cond_false Bool.not_true Bool.not_false
open Go.Proofs.Tryz
variable {H H0 F:Heap}{K:V→Heap→Prop}{E B Lg:List (Nat×Obj)}{fns:List Fn}
set_option maxHeartbeats 1000000 in
theorem Qajs {f:Nat}{l:List Ex}{fl fl2:Bool}
  (hf:∀x∈l,∀(H1:Heap) (K':V→Heap→Prop),(∀H2,Upd H1 H2 []→K' (.c (.bool true)) H2)→Qp prog f [.ag x.cells,.ag x.cells] H1 K')
  (hK:∀H',Upd H H' []→K (.c (.bool true)) H'):Qp prog Qb1 [.c (.sl fl 4 (Qv l)),.c (.sl fl2 4 (Qv l)),.c (.fn f [])] H K:=by
 refine Qw ?_
 refine Qb Qah Qxt ?_
 refine Qa ?_
 simp only[go_sem]
 refine Q4 ?_
 refine Qa ?_
 simp only[go_sem,Qj,decide_true]
 intro hl
 try intro _
 simp only[LIM]at hl
 refine Qf (Qc rfl (fun h=>by simp at h) (fun _=>?_))
 refine Qe ?_
 try simp only[go_sem]
 refine Q4 ?_
 refine Qa ?_
 simp only[go_sem,Qj]
 try intro _
 refine Qf (Qd (Q0 (fun m e1 H1=>∃(i:Nat),m=l.length-i∧i≤l.length∧Kn H H1 [] []∧
  e1=[(1,.c (.sl fl2 4 (Qv l))),(2,.c (.fn f [])),(15,.c (.sl fl 4 (Qv l))),(16,.c (.int .i64 l.length)),(17,.c (.int .i64 i))]) l.length ?_ ?_))
 ·exact⟨0,by omega,by omega,Kn.start0 H,rfl⟩
 ·rintro m e1 H1 ⟨i,hm,hi,kn,rfl⟩
  refine Qa ?_
  simp only[go_sem]
  refine Qf (Qc rfl ?_ ?_)
  ·intro hc
   have hlt:i<l.length:=by simpa using hc
   obtain⟨x,hx⟩:∃x,l[i]=x:=⟨_,rfl⟩
   have hxm:x∈l:=by rw[←hx];exact List.getElem_mem hlt
   refine Qe ?_
   try simp only[go_sem]
   refine Qf (Qd ?_)
   refine Qa ?_
   simp only[go_sem,hlt,Qj,Qac _ _ hlt,hx,x.cells_eq]
   intro x8 hx8 H3 h3
   have kn:=kn.al hx8 h3
   have g8:=kn.l 0 rfl
   simp only[go_sem,Qf5,g8]
   intro H4 h4
   have kn:=kn.stL 0 rfl h4
   have g8:=kn.l 0 rfl
   refine Qa ?_
   simp only[go_sem,hlt,Qj,Qac _ _ hlt,hx,x.cells_eq]
   intro x9 hx9 H5 h5
   have kn:=kn.al hx9 h5
   have g9:=kn.l 1 rfl
   simp only[go_sem,Qf6,g9]
   intro H6 h6
   have kn:=kn.stL 1 rfl h6
   have g8:=kn.l 0 rfl
   have g9:=kn.l 1 rfl
   refine Qa ?_
   simp only[go_sem,g8,g9]
   have hfx:=hf x hxm H6
   simp only[x.cells_eq]at hfx
   refine hfx _ fun H7 hu=>?_
   have kn:=Kn.drop (A:=[]) (kn.call0 hu)
   simp only[go_sem,Qf7]
   refine Qc rfl (fun h=>by simp at h) (fun _=>?_)
   refine Qe ?_
   simp only[go_sem,AE.X.next]
   refine Qs ?_
   simp only[go_sem,AE.X.next]
   exact⟨Qu (by omega) (by omega),l.length-(i+1),by omega,i+1,rfl,by omega,kn,rfl⟩
  ·intro hc
   refine Q1 ?_
   simp only[go_sem,AE.X.next]
   refine Qa ?_
   simp only[go_sem]
   refine Qi ?_
   simp only[go_sem,Qy,Q7,Qjt,List.mem_singleton,forall_eq,RS.op]
   exact⟨_,.c _ _ (Qg rfl),hK _ kn.fin⟩
set_option maxHeartbeats 1000000 in
theorem Q79 {f:Nat}{l:List St}{fl fl2:Bool}
  (hf:∀x∈l,∀(H1:Heap) (K':V→Heap→Prop),(∀H2,Upd H1 H2 []→K' (.c (.bool true)) H2)→Qp prog f [.ag x.cells,.ag x.cells] H1 K')
  (hK:∀H',Upd H H' []→K (.c (.bool true)) H'):Qp prog Qa7 [.c (.sl fl 5 (Qk l)),.c (.sl fl2 5 (Qk l)),.c (.fn f [])] H K:=by
 refine Qw ?_
 refine Qb Qah Qxu ?_
 refine Qa ?_
 simp only[go_sem]
 refine Q4 ?_
 refine Qa ?_
 simp only[go_sem,Qn,decide_true]
 intro hl
 try intro _
 simp only[LIM]at hl
 refine Qf (Qc rfl (fun h=>by simp at h) (fun _=>?_))
 refine Qe ?_
 try simp only[go_sem]
 refine Q4 ?_
 refine Qa ?_
 simp only[go_sem,Qn]
 try intro _
 refine Qf (Qd (Q0 (fun m e1 H1=>∃(i:Nat),m=l.length-i∧i≤l.length∧Kn H H1 [] []∧
  e1=[(1,.c (.sl fl2 5 (Qk l))),(2,.c (.fn f [])),(15,.c (.sl fl 5 (Qk l))),(16,.c (.int .i64 l.length)),(17,.c (.int .i64 i))]) l.length ?_ ?_))
 ·exact⟨0,by omega,by omega,Kn.start0 H,rfl⟩
 ·rintro m e1 H1 ⟨i,hm,hi,kn,rfl⟩
  refine Qa ?_
  simp only[go_sem]
  refine Qf (Qc rfl ?_ ?_)
  ·intro hc
   have hlt:i<l.length:=by simpa using hc
   obtain⟨x,hx⟩:∃x,l[i]=x:=⟨_,rfl⟩
   have hxm:x∈l:=by rw[←hx];exact List.getElem_mem hlt
   refine Qe ?_
   try simp only[go_sem]
   refine Qf (Qd ?_)
   refine Qa ?_
   simp only[go_sem,hlt,Qn,Qae _ _ hlt,hx,x.cells_eq]
   intro x8 hx8 H3 h3
   have kn:=kn.al hx8 h3
   have g8:=kn.l 0 rfl
   simp only[go_sem,Qf8,g8]
   intro H4 h4
   have kn:=kn.stL 0 rfl h4
   have g8:=kn.l 0 rfl
   refine Qa ?_
   simp only[go_sem,hlt,Qn,Qae _ _ hlt,hx,x.cells_eq]
   intro x9 hx9 H5 h5
   have kn:=kn.al hx9 h5
   have g9:=kn.l 1 rfl
   simp only[go_sem,Qf9,g9]
   intro H6 h6
   have kn:=kn.stL 1 rfl h6
   have g8:=kn.l 0 rfl
   have g9:=kn.l 1 rfl
   refine Qa ?_
   simp only[go_sem,g8,g9]
   have hfx:=hf x hxm H6
   simp only[x.cells_eq]at hfx
   refine hfx _ fun H7 hu=>?_
   have kn:=Kn.drop (A:=[]) (kn.call0 hu)
   simp only[go_sem,Qga]
   refine Qc rfl (fun h=>by simp at h) (fun _=>?_)
   refine Qe ?_
   simp only[go_sem,AE.X.next]
   refine Qs ?_
   simp only[go_sem,AE.X.next]
   exact⟨Qu (by omega) (by omega),l.length-(i+1),by omega,i+1,rfl,by omega,kn,rfl⟩
  ·intro hc
   refine Q1 ?_
   simp only[go_sem,AE.X.next]
   refine Qa ?_
   simp only[go_sem]
   refine Qi ?_
   simp only[go_sem,Qy,Q7,Qju,List.mem_singleton,forall_eq,RS.op]
   exact⟨_,.c _ _ (Qg rfl),hK _ kn.fin⟩
set_option maxHeartbeats 1000000 in
theorem Qa4d {f:Nat}{l:List Fn}{fl fl2:Bool}
  (hf:∀x∈l,∀(H1:Heap) (K':V→Heap→Prop),(∀H2,Upd H1 H2 []→K' (.c (.bool true)) H2)→Qp prog f [.ag x.cells,.ag x.cells] H1 K')
  (hK:∀H',Upd H H' []→K (.c (.bool true)) H'):Qp prog Qey [.c (.sl fl 3 (Qr l)),.c (.sl fl2 3 (Qr l)),.c (.fn f [])] H K:=by
 refine Qw ?_
 refine Qb Qah Q2n ?_
 refine Qa ?_
 simp only[go_sem]
 refine Q4 ?_
 refine Qa ?_
 simp only[go_sem,Qm,decide_true]
 intro hl
 try intro _
 simp only[LIM]at hl
 refine Qf (Qc rfl (fun h=>by simp at h) (fun _=>?_))
 refine Qe ?_
 try simp only[go_sem]
 refine Q4 ?_
 refine Qa ?_
 simp only[go_sem,Qm]
 try intro _
 refine Qf (Qd (Q0 (fun m e1 H1=>∃(i:Nat),m=l.length-i∧i≤l.length∧Kn H H1 [] []∧
  e1=[(1,.c (.sl fl2 3 (Qr l))),(2,.c (.fn f [])),(15,.c (.sl fl 3 (Qr l))),(16,.c (.int .i64 l.length)),(17,.c (.int .i64 i))]) l.length ?_ ?_))
 ·exact⟨0,by omega,by omega,Kn.start0 H,rfl⟩
 ·rintro m e1 H1 ⟨i,hm,hi,kn,rfl⟩
  refine Qa ?_
  simp only[go_sem]
  refine Qf (Qc rfl ?_ ?_)
  ·intro hc
   have hlt:i<l.length:=by simpa using hc
   obtain⟨x,hx⟩:∃x,l[i]=x:=⟨_,rfl⟩
   have hxm:x∈l:=by rw[←hx];exact List.getElem_mem hlt
   refine Qe ?_
   try simp only[go_sem]
   refine Qf (Qd ?_)
   refine Qa ?_
   simp only[go_sem,hlt,Qm,Q6 _ _ hlt,hx,Fn.cells]
   intro x8 hx8 H3 h3
   have kn:=kn.al hx8 h3
   have g8:=kn.l 0 rfl
   simp only[go_sem,Qin,g8]
   intro H4 h4
   have kn:=kn.stL 0 rfl h4
   have g8:=kn.l 0 rfl
   refine Qa ?_
   simp only[go_sem,hlt,Qm,Q6 _ _ hlt,hx,Fn.cells]
   intro x9 hx9 H5 h5
   have kn:=kn.al hx9 h5
   have g9:=kn.l 1 rfl
   simp only[go_sem,Qio,g9]
   intro H6 h6
   have kn:=kn.stL 1 rfl h6
   have g8:=kn.l 0 rfl
   have g9:=kn.l 1 rfl
   refine Qa ?_
   simp only[go_sem,g8,g9]
   have hfx:=hf x hxm H6
   simp only[Fn.cells]at hfx
   refine hfx _ fun H7 hu=>?_
   have kn:=Kn.drop (A:=[]) (kn.call0 hu)
   simp only[go_sem,Qip]
   refine Qc rfl (fun h=>by simp at h) (fun _=>?_)
   refine Qe ?_
   simp only[go_sem,AE.X.next]
   refine Qs ?_
   simp only[go_sem,AE.X.next]
   exact⟨Qu (by omega) (by omega),l.length-(i+1),by omega,i+1,rfl,by omega,kn,rfl⟩
  ·intro hc
   refine Q1 ?_
   simp only[go_sem,AE.X.next]
   refine Qa ?_
   simp only[go_sem]
   refine Qi ?_
   simp only[go_sem,Qy,Q7,Ql1,List.mem_singleton,forall_eq,RS.op]
   exact⟨_,.c _ _ (Qg rfl),hK _ kn.fin⟩
theorem Qa4e {f g:Bool}{ns:List (List UInt8)}(hK:K (.c (.bool true)) H):Qp prog Qez [.c (.sl f 1 (Q2 ns)),.c (.sl g 1 (Q2 ns))] H K:=by
 refine Qb Qah Q2o ?_
 refine Qa ?_
 simp only[go_sem]
 refine Q4 ?_
 refine Qa ?_
 simp only[go_sem,Qq,decide_true]
 intro hl
 try intro _
 simp only[LIM]at hl
 refine Qf (Qc rfl (fun h=>by simp at h) (fun _=>?_))
 refine Qe ?_
 try simp only[go_sem]
 refine Q4 ?_
 refine Qa ?_
 simp only[go_sem,Qq]
 try intro _
 refine Qf (Qd (Q0 (fun m e1 H1=>∃(i:Nat),m=ns.length-i∧i≤ns.length∧H1=H∧e1=[(0,.c (.sl f 1 (Q2 ns))),(1,.c (.sl g 1 (Q2 ns))),(12,.c (.int .i64 ns.length)),(13,.c (.int .i64 i))]) ns.length ?_ ?_))
 ·exact⟨0,by omega,by omega,rfl,rfl⟩
 ·rintro m e1 H1 ⟨i,hm,hi,rfl,rfl⟩
  refine Qa ?_
  simp only[go_sem]
  refine Qf (Qc rfl ?_ ?_)
  ·intro hc
   have hlt:i<ns.length:=by simpa using hc
   refine Qe ?_
   try simp only[go_sem]
   refine Qf (Qd ?_)
   refine Qa ?_
   simp only[go_sem]
   refine Qaz ?_
   simp only[go_sem,hlt,Qq,Qaw _ _ hlt,decide_true]
   refine Qc rfl (fun h=>by simp at h) (fun _=>?_)
   refine Qe ?_
   try simp only[go_sem]
   refine Qs ?_
   simp only[go_sem,AE.X.next]
   exact⟨Qu (by omega) (by omega),ns.length-(i+1),by omega,i+1,rfl,by omega,rfl⟩
  ·intro hc
   refine Q1 ?_
   simp only[go_sem,AE.X.next]
   refine Qa ?_
   simp only[go_sem]
   refine Qi ?_
   simp only[go_sem,Qy,Q7,Ql2,List.mem_singleton,forall_eq,RS.op]
   exact hK
theorem Qakd:∀(n:Nat) (x:Ex) {H:Heap} {K:V→Heap→Prop},x.size≤n→(∀H',Upd H H' []→K (.c (.bool true)) H')→Qp prog Qgv [.ag x.cells,.ag x.cells] H K:=by
 intro n
 induction n with
 |zero=>intro x H K h;have:=x.size_pos;omega
 |succ n ih=>
 intro x H K hn hK
 have hsz:=x.size_kids
 refine Qb Qah Qah7 ?_
 refine Qa ?_
 simp only[go_sem,x.cells_eq]
 refine Qa ?_
 simp only[go_sem,decide_true]
 refine Qajs (fun y hy H1 K' hK'=>ih y (by have:=Qaf hy;omega) hK') fun H1 hu=>?_
 simp only[go_sem,Qoj]
 refine Qi ?_
 simp only[go_sem,Qy,Q7,Q09,List.mem_singleton,forall_eq,RS.op]
 exact hK _ hu
theorem Qake:∀(n:Nat) (x:St) {H:Heap} {K:V→Heap→Prop},x.size≤n→(∀H',Upd H H' []→K (.c (.bool true)) H')→Qp prog Qdo [.ag x.cells,.ag x.cells] H K:=by
 intro n
 induction n with
 |zero=>intro x H K h;have:=x.size_pos;omega
 |succ n ih=>
 intro x H K hn hK
 have hsz:=x.size_eq
 refine Qw ?_
 refine Qb Qah Qaia ?_
 have kn:=Kn.start0 H
 refine Qa ?_
 simp only[go_sem,x.cells_eq]
 refine Qa ?_
 simp only[go_sem,decide_true]
 refine Qajs (fun y hy H1 K' hK'=>Qakd y.size y (Nat.le_refl _) hK') fun H1 hu=>?_
 have kn:=kn.call0 hu
 simp only[go_sem,Qor]
 refine Q79 (fun y hy H1 K' hK'=>ih y (by have:=Qak hy;omega) hK') fun H1 hu=>?_
 have kn:=kn.call0 hu
 simp only[go_sem,Qoq]
 refine Q79 (fun y hy H1 K' hK'=>ih y (by have:=Qak hy;omega) hK') fun H1 hu=>?_
 have kn:=kn.call0 hu
 simp only[go_sem,Qop]
 refine Qi ?_
 simp only[go_sem,Qy,Q7,Q1a,List.mem_singleton,forall_eq,RS.op]
 exact⟨_,.c _ _ (Qg rfl),hK _ kn.fin⟩
theorem Qa9k {f:Fn}(hK:∀H',Upd H H' []→K (.c (.bool true)) H'):Qp prog Qcy [.ag f.cells,.ag f.cells] H K:=by
 refine Qb Qah Qvo ?_
 refine Qa ?_
 simp only[go_sem,Fn.cells]
 refine Qa ?_
 simp only[go_sem,decide_true]
 refine Qa4e ?_
 simp only[go_sem,Qfg]
 refine Q79 (fun y hy H1 K' hK'=>Qake y.size y (Nat.le_refl _) hK') fun H1 hu=>?_
 simp only[go_sem,Qff]
 refine Qi ?_
 simp only[go_sem,Qy,Q7,Qhz,List.mem_singleton,forall_eq,RS.op]
 exact hK _ hu
theorem Q6e {f g:Bool}(hK:∀H',Upd H H' []→K (.c (.bool true)) H'):Qp prog Qes [.ag [.sl f 3 (Qr fns)],.ag [.sl g 3 (Qr fns)]] H K:=by
 refine Qb Qah Q2j ?_
 refine Qa ?_
 simp only[go_sem]
 refine Qa ?_
 simp only[go_sem]
 refine Qa4d (fun y hy H1 K' hK'=>Qa9k hK') fun H1 hu=>?_
 simp only[go_sem,Qik]
 refine Qi ?_
 simp only[go_sem,Qy,Q7,Qlz,List.mem_singleton,forall_eq,RS.op]
 exact hK _ hu
set_option maxHeartbeats 1000000 in
theorem Qanj:∀(n:Nat) (x:Ex) {H:Heap} {K:V→Heap→Prop},x.size≤n→K (.c (.bool true)) H→Qp prog Qg0 [.ag x.cells,.ag x.cells] H K:=by
 intro n
 induction n with
 |zero=>intro x H K h;have:=x.size_pos;omega
 |succ n ih=>
 intro x H K hn hK
 have hsz:=x.size_kids
 refine Qb Qah Qaih ?_
 refine Qa ?_
 simp only[go_sem,x.cells_eq]
 refine Q4 ?_
 refine Qa ?_
 simp only[go_sem,Qj,decide_true]
 try intro hl
 try intro _
 refine Qf (Qc rfl (fun h=>by simp at h) (fun _=>?_))
 refine Qe ?_
 try simp only[go_sem]
 refine Q4 ?_
 refine Qa ?_
 simp only[go_sem]
 refine Qf (Qd (Q0 (fun m e1 H1=>∃(i:Nat),m=x.kids.length-i∧i≤x.kids.length∧H1=H∧e1=[(2,.c (.pp [.int .i64 x.op,.int .i64 x.n,.str x.name,.sl false 4 (Qv x.kids)])),(3,.c (.pp [.int .i64 x.op,.int .i64 x.n,.str x.name,.sl false 4 (Qv x.kids)])),(5,.c (.int .i64 i))]) x.kids.length ?_ ?_))
 ·exact⟨0,by omega,by omega,rfl,rfl⟩
 ·rintro m e1 H1 ⟨i,hm,hi,rfl,rfl⟩
  refine Q4 ?_
  refine Qa ?_
  simp only[go_sem,Qj]
  intro hl
  simp only[LIM]at hl
  refine Qf (Qc rfl ?_ ?_)
  ·intro hc
   have hlt:i<x.kids.length:=by simpa using hc
   have hms:=Qaf (List.getElem_mem hlt)
   obtain⟨y,hy⟩:∃y,x.kids[i]=y:=⟨_,rfl⟩
   rw[hy]at hms
   refine Qe ?_
   try simp only[go_sem]
   refine Qf (Qd ?_)
   refine Qaz ?_
   simp only[go_sem,hlt,Qj,Qac _ _ hlt,hy,Ex.take4,Ex.allOw,Ex.cells_len]
   refine ih y (by omega) ?_
   simp only[go_sem,Qpg]
   refine Qc rfl (fun h=>by simp at h) (fun _=>?_)
   refine Qe ?_
   simp only[go_sem,AE.X.next]
   refine Qs ?_
   simp only[go_sem,AE.X.next]
   exact⟨Qu (by omega) (by omega),x.kids.length-(i+1),by omega,i+1,rfl,by omega,rfl⟩
  ·intro hc
   refine Q1 ?_
   simp only[go_sem,AE.X.next]
   refine Qa ?_
   simp only[go_sem]
   refine Qi ?_
   simp only[go_sem,Qy,Q7,Q1d,List.mem_singleton,forall_eq,RS.op]
   exact hK
theorem Qaya {f g:Bool}{ns:List (List UInt8)}(hK:K (.c (.bool true)) H):Qp prog Q2d [.c (.sl f 1 (Q2 ns)),.c (.sl g 1 (Q2 ns))] H K:=by
 refine Qb Qah Qayn ?_
 refine Qa ?_
 simp only[go_sem]
 refine Q4 ?_
 refine Qa ?_
 simp only[go_sem,Qq,decide_true]
 intro hl
 try intro _
 simp only[LIM]at hl
 refine Qf (Qc rfl (fun h=>by simp at h) (fun _=>?_))
 refine Qe ?_
 try simp only[go_sem]
 refine Q4 ?_
 refine Qa ?_
 simp only[go_sem]
 refine Qf (Qd (Q0 (fun m e1 H1=>∃(i:Nat),m=ns.length-i∧i≤ns.length∧H1=H∧e1=[(0,.c (.sl f 1 (Q2 ns))),(1,.c (.sl g 1 (Q2 ns))),(5,.c (.int .i64 i))]) ns.length ?_ ?_))
 ·exact⟨0,by omega,by omega,rfl,rfl⟩
 ·rintro m e1 H1 ⟨i,hm,hi,rfl,rfl⟩
  refine Q4 ?_
  refine Qa ?_
  simp only[go_sem,Qq]
  try intro _
  refine Qf (Qc rfl ?_ ?_)
  ·intro hc
   have hlt:i<ns.length:=by simpa using hc
   refine Qe ?_
   try simp only[go_sem]
   refine Qf (Qd ?_)
   refine Qaz ?_
   simp only[go_sem,hlt,Qq,Qaw _ _ hlt,decide_true]
   refine Qc rfl (fun h=>by simp at h) (fun _=>?_)
   refine Qe ?_
   try simp only[go_sem]
   refine Qs ?_
   simp only[go_sem,AE.X.next]
   exact⟨Qu (by omega) (by omega),ns.length-(i+1),by omega,i+1,rfl,by omega,rfl⟩
  ·intro hc
   refine Q1 ?_
   simp only[go_sem,AE.X.next]
   refine Qa ?_
   simp only[go_sem]
   refine Qi ?_
   simp only[go_sem,Qy,Q7,Qali,List.mem_singleton,forall_eq,RS.op]
   exact hK
set_option maxHeartbeats 2000000 in
theorem Qaki:∀(n:Nat) (l:List St) {f g:Bool} {H:Heap} {K:V→Heap→Prop},Qh l≤n→K (.c (.bool true)) H→Qp prog Qew [.c (.sl f 5 (Qk l)),.c (.sl g 5 (Qk l))] H K:=by
 intro n
 induction n using Nat.strongRecOn with
 |_ n ih=>
 intro l f g H K hn hK
 refine Qb Qah Qak0 ?_
 refine Qa ?_
 simp only[go_sem]
 refine Q4 ?_
 refine Qa ?_
 simp only[go_sem,Qn,decide_true]
 intro hl
 try intro _
 simp only[LIM]at hl
 refine Qf (Qc rfl (fun h=>by simp at h) (fun _=>?_))
 refine Qe ?_
 try simp only[go_sem]
 refine Q4 ?_
 refine Qa ?_
 simp only[go_sem]
 refine Qf (Qd (Q0 (fun m e1 H1=>∃(i:Nat),m=l.length-i∧i≤l.length∧H1=H∧e1=[(0,.c (.sl f 5 (Qk l))),(1,.c (.sl g 5 (Qk l))),(5,.c (.int .i64 i))]) l.length ?_ ?_))
 ·exact⟨0,by omega,by omega,rfl,rfl⟩
 ·rintro m e1 H1 ⟨i,hm,hi,rfl,rfl⟩
  refine Q4 ?_
  refine Qa ?_
  simp only[go_sem,Qn]
  try intro _
  refine Qf (Qc rfl ?_ ?_)
  ·intro hc
   have hlt:i<l.length:=by simpa using hc
   have hms:=Qak (List.getElem_mem hlt)
   obtain⟨x,hx⟩:∃x,l[i]=x:=⟨_,rfl⟩
   rw[hx]at hms
   have hse:=x.size_eq
   refine Qe ?_
   try simp only[go_sem]
   refine Qf (Qd ?_)
   refine Q4 ?_
   refine Qaz ?_
   simp only[go_sem,hlt,Qn,Qae _ _ hlt,hx,x.cells_eq,Qj,decide_true]
   try intro hl2
   try intro _
   refine Qf (Qc rfl (fun h=>by simp at h) (fun _=>?_))
   refine Qe ?_
   try simp only[go_sem]
   refine Q4 ?_
   refine Qa ?_
   simp only[go_sem]
   refine Qf (Qd (Q0 (fun m2 e2 H2=>∃(j:Nat),m2=x.args.length-j∧j≤x.args.length∧H2=H1∧e2=[(0,.c (.sl f 5 (Qk l))),(1,.c (.sl g 5 (Qk l))),(5,.c (.int .i64 i)),(6,.c (.int .i64 j))]) x.args.length ?_ ?_))
   ·exact⟨0,by omega,by omega,rfl,rfl⟩
   ·rintro m2 e2 H2 ⟨j,hm2,hj,rfl,rfl⟩
    refine Q4 ?_
    refine Qa ?_
    simp only[go_sem,hlt,Qn,Qae _ _ hlt,hx,x.cells_eq,Qj]
    intro hl3
    simp only[LIM]at hl3
    refine Qf (Qc rfl ?_ ?_)
    ·intro hc2
     have hlt2:j<x.args.length:=by simpa using hc2
     obtain⟨y,hy⟩:∃y,x.args[j]=y:=⟨_,rfl⟩
     refine Qe ?_
     try simp only[go_sem]
     refine Qf (Qd ?_)
     refine Qaz ?_
     simp only[go_sem,hlt,Qn,Qae _ _ hlt,hx,x.cells_eq,hlt2,Qj,Qac _ _ hlt2,hy,Ex.take4,Ex.allOw,Ex.cells_len]
     refine Qanj y.size y (Nat.le_refl _) ?_
     simp only[go_sem,Qtq]
     refine Qc rfl (fun h=>by simp at h) (fun _=>?_)
     refine Qe ?_
     simp only[go_sem,AE.X.next]
     refine Qs ?_
     simp only[go_sem,AE.X.next]
     exact⟨Qu (by omega) (by omega),x.args.length-(j+1),by omega,j+1,rfl,by omega,rfl⟩
    ·intro hc2
     refine Q1 ?_
     simp only[go_sem,AE.X.next]
     refine Qaz ?_
     simp only[go_sem,hlt,Qn,Qae _ _ hlt,hx,x.cells_eq]
     refine ih (Qh x.body) (by omega) x.body (Nat.le_refl _) ?_
     simp only[go_sem,Qts,hlt,Qn,Qae _ _ hlt,hx,x.cells_eq]
     refine ih (Qh x.els) (by omega) x.els (Nat.le_refl _) ?_
     simp only[go_sem,Qtr]
     refine Qc rfl (fun h=>by simp at h) (fun _=>?_)
     refine Qe ?_
     simp only[go_sem,AE.X.next]
     refine Qs ?_
     simp only[go_sem,AE.X.next]
     exact⟨Qu (by omega) (by omega),l.length-(i+1),by omega,i+1,rfl,by omega,rfl⟩
  ·intro hc
   refine Q1 ?_
   simp only[go_sem,AE.X.next]
   refine Qa ?_
   simp only[go_sem]
   refine Qi ?_
   simp only[go_sem,Qy,Q7,Q46,List.mem_singleton,forall_eq,RS.op]
   exact hK
set_option maxHeartbeats 2000000 in
theorem Qhs {f g:Bool}(hK:K (.c (.bool true)) H):Qp prog Qcq [.ag [.sl f 3 (Qr fns)],.ag [.sl g 3 (Qr fns)]] H K:=by
 refine Qb Qah Q2t ?_
 refine Qa ?_
 simp only[go_sem]
 refine Q4 ?_
 refine Qa ?_
 simp only[go_sem,Qm,decide_true]
 intro hl
 try intro _
 simp only[LIM]at hl
 refine Qf (Qc rfl (fun h=>by simp at h) (fun _=>?_))
 refine Qe ?_
 try simp only[go_sem]
 refine Q4 ?_
 refine Qa ?_
 simp only[go_sem]
 refine Qf (Qd (Q0 (fun m e1 H1=>∃(i:Nat),m=fns.length-i∧i≤fns.length∧H1=H∧e1=[(2,.c (.pp [.sl f 3 (Qr fns)])),(3,.c (.pp [.sl g 3 (Qr fns)])),(5,.c (.int .i64 i))]) fns.length ?_ ?_))
 ·exact⟨0,by omega,by omega,rfl,rfl⟩
 ·rintro m e1 H1 ⟨i,hm,hi,rfl,rfl⟩
  refine Q4 ?_
  refine Qa ?_
  simp only[go_sem,Qm]
  try intro _
  refine Qf (Qc rfl ?_ ?_)
  ·intro hc
   have hlt:i<fns.length:=by simpa using hc
   obtain⟨x,hx⟩:∃x,fns[i]=x:=⟨_,rfl⟩
   refine Qe ?_
   try simp only[go_sem]
   refine Qf (Qd ?_)
   refine Qaz ?_
   simp only[go_sem,hlt,Qm,Q6 _ _ hlt,hx,Fn.cells,decide_true]
   refine Qaya ?_
   simp only[go_sem,Qi1,hlt,Qm,Q6 _ _ hlt,hx,Fn.cells]
   refine Qaki (Qh x.body) x.body (Nat.le_refl _) ?_
   simp only[go_sem,Qi0]
   refine Qc rfl (fun h=>by simp at h) (fun _=>?_)
   refine Qe ?_
   simp only[go_sem,AE.X.next]
   refine Qs ?_
   simp only[go_sem,AE.X.next]
   exact⟨Qu (by omega) (by omega),fns.length-(i+1),by omega,i+1,rfl,by omega,rfl⟩
  ·intro hc
   refine Q1 ?_
   simp only[go_sem,AE.X.next]
   refine Qa ?_
   simp only[go_sem]
   refine Qi ?_
   simp only[go_sem,Qy,Q7,Ql3,List.mem_singleton,forall_eq,RS.op]
   exact hK
end Go.AE.Y

namespace Go.AE.Y
attribute [local go_sem] cond_true cond_false Bool.not_true Bool.not_false
attribute [local instance] Classical.propDecidable
open Go.Proofs.Tryz
variable {H H0 F:Heap}{K:V→Heap→Prop}{E B Lg:List (Nat×Obj)}{fns:List Fn}
theorem Gr.slc2 {sz:Nat}{rows:List (List C)}{c:C}(h:Gr Lg sz rows c)(kn:Kn H0 H E (B++Lg)):Slc H sz rows c:=⟨h.okSl kn,h.elemSz,h.rowsOf kn,h.lenC⟩
theorem Qax4 {c:C}{ss:List (List UInt8)}{s:List UInt8}(how:c.isOw=false)(hg:Slc H 1 (Q2 ss) c)(hK:K (.c (.bool (decide (s∈ss)))) H):Qp prog Q71 [.c c,.c (.str s)] H K:=by
 have hok:=eq_true hg.ok
 have hrw:=hg.rows
 have hln:=hg.len
 have hsz:=hg.sz
 rw[Qq]at hln
 refine Qb Qah Qa5z ?_
 have retf:∀(b:Bool) (e:Env),decide (s∈ss)=b→lk 4 e=.c (.bool b)→Qy Qaot K .ret e H:=by
  intro b e h0 h1
  simp only[go_sem,Qy,Q7,Qaot,List.mem_singleton,forall_eq,RS.op,h1]
  rw[←h0];exact hK
 refine Qa ?_
 simp only[go_sem,how]
 refine Q4 ?_
 refine Qa ?_
 simp only[go_sem,how]
 refine Qf (Qd (Q0 (fun n e1 H1=>∃(i:Nat),n=ss.length-i∧i≤ss.length∧H1=H∧(∀x∈ss.take i,¬x=s)∧e1=[(0,.c c),(1,.c (.str s)),(5,.c (.int .i64 i))]) ss.length ?_ ?_))
 ·exact⟨0,by omega,by omega,rfl,by simp,rfl⟩
 ·rintro n e1 H1 ⟨i,hn1,hi,rfl,hall,rfl⟩
  refine Q4 ?_
  refine Qa ?_
  simp only[go_sem,how,hok,hln]
  intro hl
  simp only[LIM]at hl
  refine Qf (Qc rfl ?_ ?_)
  ·intro hc
   have hlt:i<ss.length:=by simpa using hc
   obtain⟨y,hy⟩:∃y,ss[i]=y:=⟨_,rfl⟩
   have hyd:ss.getD i []=y:=by simp[List.getD_eq_getElem?_getD,hlt,hy]
   refine Qe ?_
   simp only[go_sem]
   refine Qf (Qd ?_)
   refine Qa ?_
   simp only[go_sem,how,hok,hln,hrw,hsz,hlt,Qaw _ _ hlt,hyd]
   refine Qc rfl ?_ ?_
   ·intro hc2
    have hnm:y=s:=by simpa using hc2
    refine Qa ?_
    simp only[go_sem]
    refine Qi ?_
    simp only[go_sem,AE.X.next]
    exact retf true _ (decide_eq_true (by rw[←hnm,←hy];exact List.getElem_mem hlt)) rfl
   ·intro hc2
    have hnm:¬y=s:=by simpa using hc2
    refine Qe ?_
    simp only[go_sem]
    refine Qs ?_
    simp only[go_sem,AE.X.next,how]
    refine⟨Qu (by omega) (by omega),ss.length-(i+1),by omega,i+1,rfl,by omega,?_,rfl⟩
    rw[List.take_succ_eq_append_getElem hlt,hy]
    intro x hx
    rcases List.mem_append.1 hx with hx|hx
    ·exact hall x hx
    ·simp only[List.mem_singleton]at hx;subst hx;exact hnm
  ·intro hc
   have hge:ss.length≤i:=by simpa using hc
   rw[List.take_of_length_le hge]at hall
   refine Q1 ?_
   simp only[go_sem,AE.X.next]
   refine Qa ?_
   simp only[go_sem]
   refine Qi ?_
   exact retf false _ (decide_eq_false fun h=>hall s h rfl) rfl
structure Nms (a b:List (List UInt8))(l:List Ex):Prop where
 mem:∀s,s∈b↔s∈a∨∃p∈l,p.op=13∧p.name=s
 len:b.length≤a.length+l.length
theorem Nms.refl (a:List (List UInt8)):Nms a a []:=⟨fun s=>by simp,by simp⟩
theorem Nms.trans {a b c:List (List UInt8)}{l m:List Ex}(h:Nms a b l)(k:Nms b c m):Nms a c (l++m):=
 ⟨fun s=>by
  rw[k.mem,h.mem]
  simp only[List.mem_append,or_and_right,exists_or,or_assoc],by have:=h.len;have:=k.len;rw[List.length_append];omega⟩
set_option maxHeartbeats 2000000 in
theorem Qax7:∀(n:Nat) (x:Ex) (ss:List (List UInt8)) (t:C) (Lg:List (Nat×Obj)) (F H:Heap) (K:V→Heap→Prop),x.size≤n→Gr Lg 1 (Q2 ss) t→Kn F H [] Lg→ss.length+x.size≤2^38→
  (∀H' t' Lg' ss',Nms ss ss' x.pre→Gr Lg' 1 (Q2 ss') t'→Kn F H' [] Lg'→K (.c t') H')→Qp prog Qvb [.ag x.cells,.c (.int .i64 13),.c t] H K:=by
 intro n
 induction n with
 |zero=>intro x ss t Lg F H K h;have:=x.size_pos;omega
 |succ n ih=>
 intro x ss t Lg F H K hn hgr kn hb hK
 have hsz:=x.size_kids
 have hto:=hgr.isOw
 refine Qb Qah Qayi ?_
 have kids:∀(H1:Heap) (e1:Env) (t1:C) (Lg1:List (Nat×Obj)) (ss1:List (List UInt8)),Nms ss ss1 [x]→Gr Lg1 1 (Q2 ss1) t1→Kn F H1 [] Lg1→lk 1 e1=.c (.int .i64 13)→lk 2 e1=.c t1→lk 3 e1=.c (.pp [.int .i64 x.op,.int .i64 x.n,.str x.name,.sl false 4 (Qv x.kids)])→
   Q8 prog Qaaw (Qy Q9h K) e1 H1:=by
  intro H1 e1 t1 Lg1 ss1 hns hgr kn f1 f2 f3
  have hto:=hgr.isOw
  refine Q4 ?_
  refine Qa ?_
  simp only[go_sem,f1,f2,f3,hto]
  refine Qf (Qd (Q0 (fun m e2 H2=>∃(i:Nat) (t2:C) (Lg2:List (Nat×Obj)) (ss2:List (List UInt8)),m=x.kids.length-i∧i≤x.kids.length∧Nms ss ss2 (x::Qad (x.kids.take i))∧Gr Lg2 1 (Q2 ss2) t2∧Kn F H2 [] Lg2∧
   e2=[(1,.c (.int .i64 13)),(2,.c t2),(3,.c (.pp [.int .i64 x.op,.int .i64 x.n,.str x.name,.sl false 4 (Qv x.kids)])),(7,.c (.int .i64 i))]) x.kids.length ?_ ?_))
  ·exact⟨0,t1,Lg1,ss1,by omega,by omega,by simpa[Qad]using hns,hgr,kn,rfl⟩
  ·clear kn hgr hto hns
   rintro m e2 H2 ⟨i,t2,Lg2,ss2,hm1,hi,hns,hgr,kn,rfl⟩
   have hto:=hgr.isOw
   refine Q4 ?_
   refine Qa ?_
   simp only[go_sem,hto,Qj]
   intro hl
   simp only[LIM]at hl
   refine Qf (Qc rfl ?_ ?_)
   ·intro hc
    have hlt:i<x.kids.length:=by simpa using hc
    have hms:=Qaf (List.getElem_mem hlt)
    obtain⟨y,hy⟩:∃y,x.kids[i]=y:=⟨_,rfl⟩
    have htk:=Qcv hlt
    have hlen:(Qad (x.kids.take i)).length+y.size≤Ql x.kids:=by
     rw[Qd8]
     have h2:Ql x.kids=Ql (x.kids.take i)+Ql (x.kids.drop i):=by rw[←Qcc,List.take_append_drop]
     have h3:x.kids.drop i=y::x.kids.drop (i+1):=by rw[←hy];exact (List.getElem_cons_drop hlt).symm
     rw[h3]at h2
     simp only[Ql]at h2
     omega
    have hnl:=hns.len
    rw[List.length_cons]at hnl
    rw[hy]at hms htk
    refine Qe ?_
    try simp only[go_sem]
    refine Qf (Qd ?_)
    refine Qs ?_
    simp only[go_sem,hto,hlt,Qj,Qac _ _ hlt,hy,y.cells_eq]
    have hih:=fun K=>ih y ss2 t2 Lg2 F H2 K
    rw[y.cells_eq]at hih
    refine hih _ (by omega) hgr kn (by omega) fun H3 t3 Lg3 ss3 hns3 hgr3 kn=>?_
    have hto3:=hgr3.isOw
    simp only[go_sem,Q5b,hto3]
    refine Qs ?_
    simp only[go_sem,AE.X.next,hto3]
    refine⟨Qu (by omega) (by omega),x.kids.length-(i+1),by omega,i+1,t3,Lg3,ss3,rfl,by omega,?_,hgr3,kn,rfl⟩
    rw[htk]
    exact hns.trans hns3
   ·intro hc
    have hge:x.kids.length≤i:=by simpa using hc
    rw[List.take_of_length_le hge,←x.pre_eq]at hns
    refine Q1 ?_
    simp only[go_sem,AE.X.next]
    refine Qa ?_
    simp only[go_sem,hto]
    refine Qi ?_
    simp only[go_sem,Qy,Q7,Q9h,List.mem_singleton,forall_eq,RS.op,hto]
    exact hK _ _ _ _ hns hgr kn
 refine Qa ?_
 simp only[go_sem,x.cells_eq,hto]
 refine Q4 ?_
 by_cases h13:x.op=13
 ·have hd:decide (x.op=13)=true:=decide_eq_true h13
  refine Qa ?_
  simp only[go_sem,hto,hd]
  refine Qax4 hto (Gr.slc2 (B:=[]) hgr kn) ?_
  simp only[go_sem,Qss,hto]
  refine Qf (Qc rfl ?_ ?_)
  ·intro hc
   have hnm:x.name∉ss:=by simpa using hc
   refine Qs ?_
   simp only[go_sem,hto]
   refine Kn.growR (B:=[]) kn hgr (.mk' _ true 1 _) (by simp[noOw,C.isOw]) (by simp only[Qq,List.length_cons,List.length_nil,LIM];omega) fun t' Lg' H1 hgr' hto' kn=>?_
   rw[Qob]at hgr'
   simp only[go_sem,Q5a,hto',AE.X.next]
   refine kids _ _ t' Lg' (ss++[x.name]) ⟨fun s=>?_,by simp⟩ hgr' kn rfl rfl rfl
   simp only[List.mem_append,List.mem_singleton,exists_eq_left,h13,true_and]
   exact or_congr Iff.rfl eq_comm
  ·intro hc
   have hnm:x.name∈ss:=by simpa using hc
   refine Qe ?_
   simp only[go_sem,AE.X.next]
   refine kids _ _ t Lg ss ⟨fun s=>?_,by simp⟩ hgr kn rfl rfl rfl
   simp only[List.mem_singleton,exists_eq_left,h13,true_and]
   exact⟨.inl,fun h=>h.elim id fun e=>e▸hnm⟩
 ·have hd:decide (x.op=13)=false:=decide_eq_false h13
  refine Qa ?_
  simp only[go_sem,hto,hd,Qss]
  refine Qf (Qc rfl (fun h=>by cases h) (fun _=>?_))
  refine Qe ?_
  simp only[go_sem,AE.X.next]
  refine kids _ _ t Lg ss ⟨fun s=>?_,by simp⟩ hgr kn rfl rfl rfl
  simp[h13]
set_option maxHeartbeats 4000000 in
theorem Qayb:∀(n:Nat) (l:List St) (f5:Bool) (ss:List (List UInt8)) (t:C) (Lg:List (Nat×Obj)) (F H:Heap) (K:V→Heap→Prop),Qh l≤n→Gr Lg 1 (Q2 ss) t→Kn F H [] Lg→ss.length+Qh l≤2^38→
  (∀H' t' Lg' ss',Nms ss ss' (Qa4 l)→Gr Lg' 1 (Q2 ss') t'→Kn F H' [] Lg'→K (.c t') H')→Qp prog Qlo [.c (.sl f5 5 (Qk l)),.c t] H K:=by
 intro n
 induction n using Nat.strongRecOn with
 |_ n ih=>
 intro l f5 ss t Lg F H K hn hgr kn hb hK
 have hto:=hgr.isOw
 refine Qb Qah Qayo ?_
 refine Qa ?_
 simp only[go_sem,hto]
 refine Q4 ?_
 refine Qa ?_
 simp only[go_sem,hto]
 refine Qf (Qd (Q0 (fun m e1 H1=>∃(i:Nat) (t1:C) (Lg1:List (Nat×Obj)) (ss1:List (List UInt8)),m=l.length-i∧i≤l.length∧Nms ss ss1 (Qa4 (l.take i))∧Gr Lg1 1 (Q2 ss1) t1∧Kn F H1 [] Lg1∧
  e1=[(0,.c (.sl f5 5 (Qk l))),(1,.c t1),(5,.c (.int .i64 i))]) l.length ?_ ?_))
 ·exact⟨0,t,Lg,ss,by omega,by omega,.refl ss,hgr,kn,rfl⟩
 ·clear kn hgr hto
  rintro m e1 H1 ⟨i,t1,Lg1,ss1,hm,hi,hns,hgr,kn,rfl⟩
  have hto:=hgr.isOw
  refine Q4 ?_
  refine Qa ?_
  simp only[go_sem,hto,Qn]
  intro hl
  simp only[LIM]at hl
  refine Qf (Qc rfl ?_ ?_)
  ·intro hc
   have hlt:i<l.length:=by simpa using hc
   have hms:=Qak (List.getElem_mem hlt)
   have htk:=Qadv hlt
   have hst:=Qhn hlt
   have hsl2:=Qa3 l (i+1)
   have hpl:=Qem (l.take i)
   obtain⟨x,hx⟩:∃x,l[i]=x:=⟨_,rfl⟩
   rw[hx]at hms hst htk
   have hse:=x.size_eq
   have hnl:=hns.len
   refine Qe ?_
   try simp only[go_sem]
   refine Qf (Qd ?_)
   refine Q4 ?_
   refine Qa ?_
   simp only[go_sem,hto]
   refine Qf (Qd (Q0 (fun m2 e2 H2=>∃(j:Nat) (t2:C) (Lg2:List (Nat×Obj)) (ss2:List (List UInt8)),m2=x.args.length-j∧j≤x.args.length∧Nms ss ss2 (Qa4 (l.take i)++Qad (x.args.take j))∧Gr Lg2 1 (Q2 ss2) t2∧Kn F H2 [] Lg2∧
    e2=[(0,.c (.sl f5 5 (Qk l))),(1,.c t2),(5,.c (.int .i64 i)),(6,.c (.int .i64 j))]) x.args.length ?_ ?_))
   ·exact⟨0,t1,Lg1,ss1,by omega,by omega,by simpa[Qad]using hns,hgr,kn,rfl⟩
   ·clear kn hgr hto hns hnl
    rintro m2 e2 H2 ⟨j,t2,Lg2,ss2,hm2,hj,hns,hgr,kn,rfl⟩
    have hto:=hgr.isOw
    have hnl:=hns.len
    rw[List.length_append,Qd8]at hnl
    refine Q4 ?_
    refine Qa ?_
    simp only[go_sem,hto,hlt,Qn,Qae _ _ hlt,hx,x.cells_eq,Qj]
    try intro hl2
    try simp only[LIM]at hl2
    refine Qf (Qc rfl ?_ ?_)
    ·intro hc2
     have hlt2:j<x.args.length:=by simpa using hc2
     have hms2:=Qaf (List.getElem_mem hlt2)
     obtain⟨y,hy⟩:∃y,x.args[j]=y:=⟨_,rfl⟩
     have htk2:=Qcv hlt2
     have hlen:Ql (x.args.take j)+y.size≤Ql x.args:=by
      have h2:Ql x.args=Ql (x.args.take j)+Ql (x.args.drop j):=by rw[←Qcc,List.take_append_drop]
      have h3:x.args.drop j=y::x.args.drop (j+1):=by rw[←hy];exact (List.getElem_cons_drop hlt2).symm
      rw[h3]at h2
      simp only[Ql]at h2
      omega
     rw[hy]at hms2 htk2
     refine Qe ?_
     try simp only[go_sem]
     refine Qf (Qd ?_)
     refine Qs ?_
     simp only[go_sem,hto,hlt,Qn,Qae _ _ hlt,hx,x.cells_eq,hlt2,Qj,Qac _ _ hlt2,hy,y.cells_eq]
     have hih:=fun K=>Qax7 y.size y ss2 t2 Lg2 F H2 K
     rw[y.cells_eq]at hih
     refine hih _ (Nat.le_refl _) hgr kn (by omega) fun H3 t3 Lg3 ss3 hns3 hgr3 kn=>?_
     have hto3:=hgr3.isOw
     simp only[go_sem,Q51,hto3]
     refine Qs ?_
     simp only[go_sem,AE.X.next,hto3]
     refine⟨Qu (by omega) (by omega),x.args.length-(j+1),by omega,j+1,t3,Lg3,ss3,rfl,by omega,?_,hgr3,kn,rfl⟩
     rw[htk2,←List.append_assoc]
     exact hns.trans hns3
    ·intro hc2
     have hge2:x.args.length≤j:=by simpa using hc2
     rw[List.take_of_length_le hge2]at hns
     have hj2:j=x.args.length:=by omega
     have hasz:Ql (x.args.take j)≤Ql x.args:=by rw[List.take_of_length_le hge2];exact Nat.le_refl _
     refine Q1 ?_
     simp only[go_sem,AE.X.next]
     refine Qeo ?_
     simp only[go_sem,hto,hlt,Qn,Qae _ _ hlt,hx,x.cells_eq]
     have hpb:=Qem x.body
     refine ih (Qh x.body) (by omega) x.body false ss2 t2 Lg2 F H2 _ (Nat.le_refl _) hgr kn (by omega) fun H3 t3 Lg3 ss3 hns3 hgr kn=>?_
     have hto:=hgr.isOw
     have hnl3:=hns3.len
     simp only[go_sem,Q53,hto,hlt,Qn,Qae _ _ hlt,hx,x.cells_eq]
     refine ih (Qh x.els) (by omega) x.els false ss3 t3 Lg3 F H3 _ (Nat.le_refl _) hgr kn (by omega) fun H4 t4 Lg4 ss4 hns4 hgr kn=>?_
     have hto:=hgr.isOw
     simp only[go_sem,Q52,hto]
     refine Qs ?_
     simp only[go_sem,AE.X.next,hto]
     refine⟨Qu (by omega) (by omega),l.length-(i+1),by omega,i+1,t4,Lg4,ss4,rfl,by omega,?_,hgr,kn,rfl⟩
     rw[htk,x.pre_eq]
     have:=(hns.trans hns3).trans hns4
     simpa only[List.append_assoc]using this
  ·intro hc
   have hge:l.length≤i:=by simpa using hc
   rw[List.take_of_length_le hge]at hns
   refine Q1 ?_
   simp only[go_sem,AE.X.next]
   refine Qa ?_
   simp only[go_sem,hto]
   refine Qi ?_
   simp only[go_sem,Qy,Q7,Qalj,List.mem_singleton,forall_eq,RS.op,hto]
   exact hK _ _ _ _ hns hgr kn
def calF (fns:List Fn)(ss:List (List UInt8))(k:Nat):List Nat:=(List.range k).filter fun i=>decide ((fnAt fns i).name∈ss)
theorem Qa4r {k:Nat}(h:FineP fns)(hk:k<fns.length){ss:List (List UInt8)}(hs:Nms [] ss (Qa4 fns[k].body)):calF fns ss k=Qll fns k:=by
 refine Qajv (List.Pairwise.filter _ List.pairwise_lt_range) Qahr fun x=>?_
 rw[Qll,ascL_mem,calF,List.mem_filter,List.mem_range,decide_eq_true_eq]
 constructor
 ·rintro⟨hx,hm⟩
  have hxl:x<fns.length:=by omega
  rw[Qk6 hxl,hs.mem]at hm
  rcases hm with hm|⟨p,hp,ho,hn⟩
  ·simp at hm
  ·exact⟨hxl,hk,hxl,p,hp,ho,hn⟩
 ·rintro⟨hxl,hc⟩
  have hlt:=h.cls_lt hc
  obtain⟨_,_,p,hp,ho,hn⟩:=hc
  refine⟨hlt,?_⟩
  rw[Qk6 hxl,hs.mem]
  exact .inr ⟨p,hp,ho,hn⟩
set_option maxHeartbeats 1000000 in
theorem Qaua {fl:Bool}{k:Nat}(h:FineP fns)(hk:k<fns.length)(hb:Qh fns[k].body≤2^36)(hK:∀H',Upd H H' []→K (.c (.sl false 1 (Qa9 (Qll fns k)))) H') :
  Qp prog Qxr [.ag [.sl fl 3 (Qr fns)],.c (.int .i64 k)] H K:=by
 obtain⟨f,hfe⟩:∃f,fns[k]=f:=⟨_,rfl⟩
 have hcal:=fun ss hs=>Qa4r h hk (ss:=ss) hs
 rw[hfe]at hb hcal
 have hlen4:=h.len
 refine Qw ?_
 refine Qb Qah Qaue ?_
 refine Qa ?_
 simp only[go_sem]
 refine Qa ?_
 simp only[go_sem,hk,Qm,Q6 _ _ hk,hfe,Fn.cells]
 refine Qayb (Qh f.body) f.body false [] (.sl true 1 []) [] H H _ (Nat.le_refl _) (.nil 1) (Kn.start0 H) (by simp only[List.length_nil];omega) fun H1 t Lg ss hns hgr kn=>?_
 have hto:=hgr.isOw
 have hcal:=hcal ss hns
 simp only[go_sem,Q1t,hto]
 refine Qa ?_
 simp only[go_sem,hto]
 refine Q4 ?_
 refine Qa ?_
 simp only[go_sem,hto]
 refine Qf (Qd (Q0 (fun m e1 H1=>∃(i:Nat) (t1:C) (L1:List (Nat×Obj)),m=k-i∧i≤k∧Gr L1 1 (Qa9 (calF fns ss i)) t1∧Kn H H1 [] (Lg++L1)∧
  e1=[(1,.c (.int .i64 k)),(2,.c (.pp [.sl fl 3 (Qr fns)])),(5,.c t),(6,.c t1),(7,.c (.int .i64 i))]) k ?_ ?_))
 ·exact⟨0,.sl true 1 [],[],by omega,by omega,.nil 1,by simpa using kn,rfl⟩
 ·clear kn
  rintro m e1 H2 ⟨i,t1,L1,hm,hi,hg1,kn,rfl⟩
  have hto1:=hg1.isOw
  refine Q4 ?_
  refine Qa ?_
  simp only[go_sem,hto,hto1]
  refine Qf (Qc rfl ?_ ?_)
  ·intro hc
   have hlt:i<k:=by simpa using hc
   have hltl:i<fns.length:=by omega
   have hcs:calF fns ss (i+1)=calF fns ss i++(if fns[i].name∈ss then [i]else []):=by
    rw[calF,calF,List.range_succ,List.filter_append]
    congr 1
    by_cases hmm:fns[i].name∈ss
    ·simp[Qk6 hltl,hmm]
    ·simp[Qk6 hltl,hmm]
   have hcl:(calF fns ss i).length≤i:=by
    have:=List.length_filter_le (fun i=>decide ((fnAt fns i).name∈ss)) (List.range i)
    rw[List.length_range]at this
    exact this
   refine Qe ?_
   try simp only[go_sem]
   refine Qf (Qd ?_)
   refine Qa ?_
   simp only[go_sem,hto,hto1,hltl,Qm,Q6 _ _ hltl,Fn.cells]
   have ksw:Kn H H2 [] (L1++Lg):=kn.perm List.perm_append_comm
   refine Qax4 hto (Gr.slc2 hgr ksw) ?_
   simp only[go_sem,hto,hto1]
   refine Qc rfl ?_ ?_
   ·intro hc2
    have hmm:fns[i].name∈ss:=by simpa using hc2
    rw[if_pos hmm]at hcs
    refine Qs ?_
    simp only[go_sem,hto,hto1]
    refine kn.growR hg1 (new:=[[.int .i64 (i:Int)]]) (.mk' _ true 1 _) (by simp[noOw,C.isOw]) (by simp only[Qas,List.length_cons,List.length_nil,LIM];omega) fun t2 L2 H3 hg2 hto2 kn=>?_
    rw[Q86,←hcs]at hg2
    simp only[go_sem,Q1u,hto,hto2,AE.X.next]
    refine Qs ?_
    simp only[go_sem,hto,hto2,AE.X.next]
    exact⟨Qu (by omega) (by omega),k-(i+1),by omega,i+1,t2,L2,rfl,by omega,hg2,kn,rfl⟩
   ·intro hc2
    have hmm:fns[i].name∉ss:=by simpa using hc2
    rw[if_neg hmm,List.append_nil]at hcs
    refine Qe ?_
    simp only[go_sem,AE.X.next]
    refine Qs ?_
    simp only[go_sem,hto,hto1,AE.X.next]
    exact⟨Qu (by omega) (by omega),k-(i+1),by omega,i+1,t1,L1,rfl,by omega,by rw[hcs];exact hg1,kn,rfl⟩
  ·intro hc
   have hge:k≤i:=by simpa using hc
   have hik:i=k:=by omega
   subst hik
   rw[hcal]at hg1
   refine Q1 ?_
   simp only[go_sem,AE.X.next]
   refine Qa ?_
   simp only[go_sem,hto1]
   refine Qi ?_
   simp only[go_sem,Qy,Q7,Qagx,List.mem_singleton,forall_eq,RS.op,hto1]
   exact⟨_,.c _ _ (hg1.frz kn (Qjo _)),hK _ kn.fin⟩
def NdUp (fns:List Fn)(k:Nat)(m:Nat):Prop:=m+1=fns.length∨∃k',k≤k'∧NdF fns k'∧Cls fns k' m
theorem Qayw (h:FineP fns){k:Nat}(hk:k<fns.length):NdUp fns (k+1) k↔NdF fns k:=by
 constructor
 ·rintro (e|⟨k',_,h1,h2⟩)
  ·have:k=fns.length-1:=by omega
   rw[this];exact .top
  ·exact .to h1 h2
 ·intro hn
  cases hn with
  |top=>exact .inl (by omega)
  |to h1 h2=>exact .inr ⟨_,h.cls_lt h2,h1,h2⟩
theorem Qayy (h:FineP fns){m:Nat}:NdUp fns 0 m↔NdF fns m:=by
 constructor
 ·rintro (e|⟨k',_,h1,h2⟩)
  ·have:m=fns.length-1:=by omega
   rw[this];exact .top
  ·exact .to h1 h2
 ·intro hn
  cases hn with
  |top=>have:=h.len;exact .inl (by omega)
  |to h1 h2=>exact .inr ⟨_,Nat.zero_le _,h1,h2⟩
theorem Qayx {k m:Nat}:NdUp fns k m↔NdUp fns (k+1) m∨(NdF fns k∧Cls fns k m):=by
 constructor
 ·rintro (e|⟨k',h0,h1,h2⟩)
  ·exact .inl (.inl e)
  ·rcases Nat.lt_or_ge k k' with hlt|hge
   ·exact .inl (.inr ⟨k',hlt,h1,h2⟩)
   ·have:k'=k:=by omega
    subst this;exact .inr ⟨h1,h2⟩
 ·rintro ((e|⟨k',h0,h1,h2⟩)|⟨h1,h2⟩)
  ·exact .inl e
  ·exact .inr ⟨k',by omega,h1,h2⟩
  ·exact .inr ⟨k,Nat.le_refl _,h1,h2⟩
structure BsOk (fns:List Fn)(bs:List Bool)(S:Nat→Prop):Prop where
 len:bs.length=fns.length
 get:∀m,m<fns.length→(bs.getD m false=true↔S m)
theorem BsOk.set {bs:List Bool}{S:Nat→Prop}(h:BsOk fns bs S){a:Nat}(ha:a<fns.length)(b:Bool):BsOk fns (bs.set a b) fun m=>if m=a then b=true else S m:=by
 refine⟨by rw[List.length_set];exact h.len,fun m hm=>?_⟩
 have hl:=h.len
 by_cases e:m=a
 ·subst e
  simp[List.getD_eq_getElem?_getD,hl,hm]
 ·rw[if_neg e,←h.get m hm,List.getD_eq_getElem?_getD,List.getD_eq_getElem?_getD,List.getElem?_set_ne (fun x=>e x.symm)]
theorem BsOk.congr {bs:List Bool}{S T:Nat→Prop}(h:BsOk fns bs S)(he:∀m,m<fns.length→(S m↔T m)):BsOk fns bs T:=⟨h.len,fun m hm=>(h.get m hm).trans (he m hm)⟩
def Qans (bs:List Bool)(n:Nat):List Nat:=(List.range n).filter fun i=>bs.getD i false
theorem Qa3x (h:FineP fns){bs:List Bool}(hb:BsOk fns bs (NdF fns)):Qans bs fns.length=Qb0 fns:=by
 refine Qajv (List.Pairwise.filter _ List.pairwise_lt_range) (Qkp fns) fun x=>?_
 rw[Qans,List.mem_filter,List.mem_range,h.need_mem]
 exact⟨fun ⟨h1,h2⟩=>(hb.get x h1).1 h2,fun hn=>⟨h.nd_lt hn,(hb.get x (h.nd_lt hn)).2 hn⟩⟩
set_option maxHeartbeats 4000000 in
theorem Qani {fl:Bool}(hf:Qo fns≤2^36)(hK:∀H',Upd H H' []→K (.c (.sl false 1 (Qa9 (Q6g fns)))) H') :
  Qp prog Qla [.ag [.sl fl 3 (Qr fns)]] H K:=by
 refine Qw ?_
 refine Qb Qah Qaig ?_
 refine Qa ?_
 simp only[go_sem]
 refine Qa ?_
 simp only[go_sem]
 refine Q4 ?_
 refine Qa ?_
 simp only[go_sem]
 refine Qate hf fun H1 hu=>?_
 have kn:=(Kn.start0 H).call0 hu
 simp only[go_sem,Qpd]
 refine Qf (Qc rfl ?_ ?_)
 ·intro hc
  have hg:Qlm fns=false:=by simpa using hc
  refine Qa ?_
  simp only[go_sem]
  refine Qi ?_
  simp only[go_sem,AE.X.next,Qy,Q7,Qi8,List.mem_singleton,forall_eq,RS.op]
  have:=hK _ kn.fin
  rw[Q6g,hg]at this
  exact⟨_,.c _ _ FrzR.nil.sl,this⟩
 intro hc
 have hgb:Qlm fns=true:=by simpa using hc
 have hg:=fine_iff.1 hgb
 rw[Q6g,if_pos hgb]at hK
 have hlen:=hg.len
 have e1:(fns.length:Int)-1=((fns.length-1:Nat):Int):=by omega
 have hl1:fns.length-1<fns.length:=by omega
 have hlr:fns.length-1<(List.replicate fns.length false).length:=by rw[List.length_replicate];exact hl1
 refine Qe ?_
 try simp only[go_sem]
 refine Qa ?_
 simp only[go_sem,Qm,Q16]
 try intro _
 refine⟨by simp only[LIM];omega,?_⟩
 intro y hy H2 h2
 have kn:=kn.al hy h2
 have gy:=kn.l 0 rfl
 simp only[go_sem,Qpe]
 refine Qa ?_
 simp only[go_sem,gy,e1,hl1,Qm,Qdx,Qd6 _ _ hlr,List.length_replicate,Nat.zero_add]
 try intro _
 refine⟨Qu (by omega) (by omega),?_⟩
 intro H3 h3
 have kn:Kn H H3 [] [(y,.vec 1 (Qbu ((List.replicate fns.length false).set (fns.length-1) true)))]:=by
  rw[←Q8c]
  exact kn.stL 0 rfl h3
 have hb0:BsOk fns ((List.replicate fns.length false).set (fns.length-1) true) (NdUp fns fns.length):=by
  have h0:BsOk fns (List.replicate fns.length false) fun _=>False:=⟨by simp,fun m hm=>by simp[List.getD_eq_getElem?_getD,hm]⟩
  refine (h0.set hl1 true).congr fun m hm=>?_
  by_cases e:m=fns.length-1
  ·simp only[e,if_true,true_iff];exact .inl (by omega)
  ·simp only[e,if_false,false_iff]
   rintro (h|⟨k',h1,h2,_⟩)
   ·omega
   ·have:=hg.nd_lt h2;omega
 obtain⟨bs0,hbs0⟩:∃bs0,(List.replicate fns.length false).set (fns.length-1) true=bs0:=⟨_,rfl⟩
 rw[hbs0]at kn hb0
 refine Q4 ?_
 refine Qa ?_
 simp only[go_sem,Qm]
 try intro _
 refine⟨Qu (by omega) (by omega),?_⟩
 refine Qf (Qd (Q0 (fun m e1 H1=>∃(j:Nat) (bs:List Bool),m=j∧j≤fns.length∧BsOk fns bs (NdUp fns j)∧Kn H H1 [] [(y,.vec 1 (Qbu bs))]∧
  e1=[(1,.c (.pp [.sl fl 3 (Qr fns)])),(3,.c (.sl true 1 [])),(4,.c (.vsl y 1 0 fns.length)),(5,.c (.int .i64 ((j:Int)-1)))]) fns.length ?_ ?_))
 ·exact⟨fns.length,bs0,rfl,Nat.le_refl _,hb0,kn,rfl⟩
 ·clear kn gy h3 h2 hy hb0 hbs0
  rintro m e1 H4 ⟨j,bs,hm,hj,hbs,kn,rfl⟩
  refine Q4 ?_
  refine Qa ?_
  simp only[go_sem]
  refine Qf (Qc rfl ?_ ?_)
  ·intro hc2
   have hj1:1≤j:=by simp at hc2;omega
   obtain⟨k,rfl⟩:∃k,j=k+1:=⟨j-1,by omega⟩
   have ek:(((k+1:Nat):Int)-1)=(k:Int):=by omega
   have hk:k<fns.length:=by omega
   rw[ek]at hc2⊢
   refine Qe ?_
   try simp only[go_sem]
   refine Qf (Qd ?_)
   refine Qa ?_
   simp only[go_sem]
   refine Qaua hg hk (Qajx hf k hk) fun H5 hu=>?_
   have kn:=kn.call0 hu
   simp only[go_sem,Qpf]
   obtain⟨l,hl⟩:∃l,Qll fns k=l:=⟨_,rfl⟩
   have hlm:∀x∈l,x<k:=fun x hx=>hg.cls_lt (Q0p (by rw[hl];exact hx))
   rw[hl]
   refine Qa ?_
   simp only[go_sem]
   refine Qd (Q0 (fun m2 e2 H6=>∃(i:Nat) (bs2:List Bool),m2=l.length-i∧i≤l.length∧BsOk fns bs2 (fun m=>NdUp fns (k+1) m∨(NdF fns k∧m∈l.take i))∧Kn H H6 [] [(y,.vec 1 (Qbu bs2))]∧
    e2=[(1,.c (.pp [.sl fl 3 (Qr fns)])),(3,.c (.sl true 1 [])),(4,.c (.vsl y 1 0 fns.length)),(5,.c (.int .i64 k)),(6,.c (.sl false 1 (Qa9 l))),(7,.c (.int .i64 i))]) l.length ?_ ?_)
   ·exact⟨0,bs,by omega,by omega,hbs.congr fun m hm=>by simp,kn,rfl⟩
   ·clear kn
    rintro m2 e2 H6 ⟨i,bs2,hm2,hi,hb2,kn,rfl⟩
    have gy:=kn.l 0 rfl
    have hbl:=hb2.len
    refine Q4 ?_
    refine Qa ?_
    simp only[go_sem,Qas]
    intro hlim
    simp only[LIM]at hlim
    refine Qf (Qc rfl ?_ ?_)
    ·intro hc3
     have hlt:i<l.length:=by simpa using hc3
     obtain⟨a,ha⟩:∃a,l[i]=a:=⟨_,rfl⟩
     have had:l.getD i 0=a:=by simp[List.getD_eq_getElem?_getD,hlt,ha]
     have hak:a<k:=hlm a (by rw[←ha];exact List.getElem_mem hlt)
     have hal:a<fns.length:=by omega
     have htkb:(Qbu bs2).take fns.length=Qbu bs2:=List.take_of_length_le (by rw[Qdx,hbl];exact Nat.le_refl _)
     have hkn:(bs2.getD k false=true)↔NdF fns k:=by
      rw[hb2.get k hk,Qayw hg hk]
      exact⟨fun h=>h.elim id fun h=>h.1,.inl⟩
     refine Qe ?_
     try simp only[go_sem]
     refine Qf (Qd ?_)
     have put:∀(v:Bool) (H7:Heap),(v=(bs2.getD a false || bs2.getD k false))→H7=H6.set y (.vec 1 ((Qbu bs2).set a [.bool v]))→Q8 prog Quu (X.next (fun e2 H6=>∃m',m'<m2∧∃(i:Nat) (bs2:List Bool),m'=l.length-i∧i≤l.length∧BsOk fns bs2 (fun m=>NdUp fns (k+1) m∨(NdF fns k∧m∈l.take i))∧Kn H H6 [] [(y,.vec 1 (Qbu bs2))]∧
       e2=[(1,.c (.pp [.sl fl 3 (Qr fns)])),(3,.c (.sl true 1 [])),(4,.c (.vsl y 1 0 fns.length)),(5,.c (.int .i64 k)),(6,.c (.sl false 1 (Qa9 l))),(7,.c (.int .i64 i))])
       (X.inBlock 2 (X.inBlock 1 (X.sq prog Quv (X.next (fun e1 H1=>∃m',m'<m∧∃(j:Nat) (bs:List Bool),m'=j∧j≤fns.length∧BsOk fns bs (NdUp fns j)∧Kn H H1 [] [(y,.vec 1 (Qbu bs))]∧
        e1=[(1,.c (.pp [.sl fl 3 (Qr fns)])),(3,.c (.sl true 1 [])),(4,.c (.vsl y 1 0 fns.length)),(5,.c (.int .i64 ((j:Int)-1)))]) (X.inBlock 0 (X.sq prog Qpc (Qy Qi8 (unK H K)))))))))
       [(1,.c (.pp [.sl fl 3 (Qr fns)])),(3,.c (.sl true 1 [])),(4,.c (.vsl y 1 0 fns.length)),(5,.c (.int .i64 k)),(6,.c (.sl false 1 (Qa9 l))),(7,.c (.int .i64 i))] H7:=by
      intro v H7 hv h7
      have kn:=kn.stL 0 rfl h7
      have kn:Kn H H7 [] [(y,.vec 1 (Qbu (bs2.set a v)))]:=by rw[←Q8c];exact kn
      refine Qs ?_
      simp only[go_sem,AE.X.next]
      refine⟨Qu (by omega) (by omega),l.length-(i+1),by omega,i+1,bs2.set a v,rfl,by omega,(hb2.set hal v).congr fun m hm=>?_,kn,rfl⟩
      rw[List.take_succ_eq_append_getElem hlt,ha]
      by_cases e:m=a
      ·subst e
       simp only[if_true,hv,Bool.or_eq_true,hb2.get m hm,hkn,List.mem_append,List.mem_singleton]
       constructor
       ·rintro ((h|⟨h1,h2⟩)|h)
        ·exact .inl h
        ·exact .inr ⟨h1,.inl h2⟩
        ·exact .inr ⟨h,.inr trivial⟩
       ·rintro (h|⟨h,_⟩)
        ·exact .inl (.inl h)
        ·exact .inr h
      ·simp[e]
     cases hba:bs2.getD a false with
     |true=>
      refine Qeo ?_
      simp only[go_sem,gy,hlt,hal,hk,hbl,htkb,hba,had,Qas,Qgh _ _ hlt,Qdx,Qd6 _ _ (show a<bs2.length by omega),Qd6 _ _ (show k<bs2.length by omega),Nat.zero_add,Nat.le_refl]
      intro H7 h7
      try simp only[go_sem,AE.X.next]
      exact put true H7 (by rw[hba];rfl) h7
     |false=>
      refine Qeo ?_
      simp only[go_sem,gy,hlt,hal,hk,hbl,htkb,hba,had,Qas,Qgh _ _ hlt,Qdx,Qd6 _ _ (show a<bs2.length by omega),Qd6 _ _ (show k<bs2.length by omega),Nat.zero_add,Nat.le_refl]
      intro H7 h7
      try simp only[go_sem,AE.X.next]
      exact put (bs2.getD k false) H7 (by rw[hba];rfl) h7
    ·intro hc3
     have hge:l.length≤i:=by simpa using hc3
     rw[List.take_of_length_le hge]at hb2
     refine Q1 ?_
     simp only[go_sem,AE.X.next]
     refine Qs ?_
     simp only[go_sem,AE.X.next]
     refine⟨Qu (by omega) (by omega),k,by omega,k,bs2,rfl,by omega,hb2.congr fun m hm=>?_,kn,rfl⟩
     rw[Qayx (k:=k) (m:=m),←hl]
     exact or_congr Iff.rfl (and_congr Iff.rfl ⟨Q0p,Qak5 hg⟩)
  ·intro hc2
   have hj0:j=0:=by simp at hc2;omega
   subst hj0
   have hbs:=hbs.congr fun m _=>Qayy (m:=m) hg
   have htl:=Qa3x hg hbs
   have hbl:=hbs.len
   have htkb:(Qbu bs).take fns.length=Qbu bs:=List.take_of_length_le (by rw[Qdx,hbl];exact Nat.le_refl _)
   refine Q1 ?_
   simp only[go_sem,AE.X.next]
   refine Q4 ?_
   refine Qa ?_
   simp only[go_sem]
   refine Qf (Qd (Q0 (fun m e1 H1=>∃(i:Nat) (t1:C) (L1:List (Nat×Obj)),m=fns.length-i∧i≤fns.length∧Gr L1 1 (Qa9 (Qans bs i)) t1∧Kn H H1 [] ([(y,.vec 1 (Qbu bs))]++L1)∧
    e1=[(3,.c t1),(4,.c (.vsl y 1 0 fns.length)),(8,.c (.int .i64 i))]) fns.length ?_ ?_))
   ·exact⟨0,.sl true 1 [],[],by omega,by omega,.nil 1,by simpa using kn,rfl⟩
   ·clear kn
    rintro m e1 H5 ⟨i,t1,L1,hm,hi,hg1,kn,rfl⟩
    have hto1:=hg1.isOw
    have gy:=kn.l 0 rfl
    refine Q4 ?_
    refine Qa ?_
    simp only[go_sem,gy,hbl,Qdx,hto1,Nat.zero_add,Nat.le_refl]
    try intro hlim
    refine Qf (Qc rfl ?_ ?_)
    ·intro hc3
     have hlt:i<fns.length:=by simpa using hc3
     have hts:Qans bs (i+1)=Qans bs i++(if bs.getD i false=true then [i]else []):=by
      rw[Qans,Qans,List.range_succ,List.filter_append,List.filter_cons,List.filter_nil]
     have hcl:(Qans bs i).length≤i:=by
      have:=List.length_filter_le (fun i=>bs.getD i false) (List.range i)
      rw[List.length_range]at this
      exact this
     refine Qe ?_
     try simp only[go_sem]
     refine Qf (Qd ?_)
     refine Qa ?_
     simp only[go_sem,gy,hlt,hbl,htkb,hto1,Qdx,Qd6 _ _ (show i<bs.length by omega),Nat.zero_add,Nat.le_refl]
     refine Qc rfl ?_ ?_
     ·intro hc4
      rw[if_pos hc4]at hts
      refine Qs ?_
      simp only[go_sem,hto1]
      refine kn.growR hg1 (new:=[[.int .i64 (i:Int)]]) (.mk' _ true 1 _) (by simp[noOw,C.isOw]) (by simp only[Qas,List.length_cons,List.length_nil,LIM];omega) fun t2 L2 H6 hg2 hto2 kn=>?_
      rw[Q86,←hts]at hg2
      simp only[go_sem,Qms,hto2,AE.X.next]
      refine Qs ?_
      simp only[go_sem,hto2,AE.X.next]
      exact⟨Qu (by omega) (by omega),fns.length-(i+1),by omega,i+1,t2,L2,rfl,by omega,hg2,kn,rfl⟩
     ·intro hc4
      rw[if_neg (by rw[hc4];simp),List.append_nil]at hts
      refine Qe ?_
      simp only[go_sem,AE.X.next]
      refine Qs ?_
      simp only[go_sem,hto1,AE.X.next]
      exact⟨Qu (by omega) (by omega),fns.length-(i+1),by omega,i+1,t1,L1,rfl,by omega,by rw[hts];exact hg1,kn,rfl⟩
    ·intro hc3
     have hge:fns.length≤i:=by simpa using hc3
     have hik:i=fns.length:=by omega
     subst hik
     rw[htl]at hg1
     refine Q1 ?_
     simp only[go_sem,AE.X.next]
     refine Qa ?_
     simp only[go_sem,hto1]
     refine Qi ?_
     simp only[go_sem,Qy,Q7,Qi8,List.mem_singleton,forall_eq,RS.op,hto1]
     exact⟨_,.c _ _ (hg1.frz kn (Qjo _)),hK _ kn.fin⟩
end Go.AE.Y

namespace Go.AE
variable {H0 H H1:Heap}{E L N Lg B:List (Nat×Obj)}{sz:Nat}{rows rows':List (List C)}{c:C}{S:Nat→Bool}
theorem Slc.kn (h:Slc H sz rows c)(kn:Kn H H1 [] L):Slc H1 sz rows c:=by
 match c,h with
 |.sl f z r,h=>exact⟨trivial,h.sz,h.rows,h.len⟩
 |.vsl l a st n,h=>
  have hl:H l≠.none:=fun e=>by
   have:=h.ok
   simp only[okSl,e]at this
  have he:=kn.chg l hl (by simp)
  have h1:=h.ok
  have h2:=h.rows
  simp only[okSl,rowsOf]at h1 h2
  refine⟨?_,h.sz,?_,h.len⟩
  ·simp only[okSl,he];exact h1
  ·simp only[rowsOf,he];exact h2
theorem Kn.addNew (kn:Kn H0 H E L)(k2:Kn H H1 [] N):Kn H0 H1 E (L++N):=by
 refine⟨fun p hp=>?_,kn.ext,fun p hp=>?_,kn.dE,?_,fun m hm hn=>?_⟩
 ·rcases List.mem_append.1 hp with hp|hp
  ·obtain⟨h1,h2⟩:=kn.get p (List.mem_append_left _ hp)
   rw[k2.chg p.1 (by rw[h1];exact h2) (by simp)];exact⟨h1,h2⟩
  ·rcases List.mem_append.1 hp with hp|hp
   ·obtain⟨h1,h2⟩:=kn.get p (List.mem_append_right _ hp)
    rw[k2.chg p.1 (by rw[h1];exact h2) (by simp)];exact⟨h1,h2⟩
   ·exact k2.get p (by simpa using hp)
 ·rcases List.mem_append.1 hp with hp|hp
  ·exact kn.loc p hp
  ·exact (kn.newFree (k2.loc p hp)).1
 ·rw[List.map_append]
  refine List.nodup_append.2 ⟨kn.dL,k2.dL,fun a ha b hb hab=>?_⟩
  obtain⟨p,hp,rfl⟩:=List.mem_map.1 hb
  exact (kn.newFree (k2.loc p hp)).2.2 (hab▸ha)
 ·rw[k2.chg m (by rw[kn.chg m hm hn];exact hm) (by simp),kn.chg m hm hn]
theorem Gr.frzm (h:Gr Lg sz rows c)(hm:∀p∈Lg,H p.1=p.2∧S p.1=true)(hr:Y.FrzR H S rows rows'):FrzC H S c (.sl false sz rows'):=by
 rcases h with ⟨rfl,rfl,rfl⟩|⟨y,rfl,rfl⟩
 ·cases hr;exact Y.FrzR.nil.sl
 ·obtain⟨h1,h2⟩:=hm (y,.vec sz rows) (by simp)
  exact hr.vsl h2 h1 rfl
theorem Kn.frzN (kn:Kn H0 H E (B++Lg)):Kn H0 (H.frz fun m=>(Lg.map Prod.fst).contains m) E B:=by
 have hd:=kn.dL
 rw[List.map_append]at hd
 obtain⟨d1,d2,d3⟩:=List.nodup_append.1 hd
 have key:∀m,m∉Lg.map Prod.fst→(H.frz fun m=>(Lg.map Prod.fst).contains m) m=H m:=fun m hm=>by
  have:(Lg.map Prod.fst).contains m=false:=by
   cases hc:(Lg.map Prod.fst).contains m with
   |false=>rfl
   |true=>exact absurd (List.contains_iff_mem.1 hc) hm
  simp only[Heap.frz,this];rfl
 refine⟨fun p hp=>?_,kn.ext,fun p hp=>kn.loc p (List.mem_append_left _ hp),kn.dE,d1,fun m hm hx=>?_⟩
 ·have hg:H p.1=p.2∧p.2≠.none:=kn.get p (by
   rcases List.mem_append.1 hp with h|h
   ·exact List.mem_append_left _ h
   ·exact List.mem_append_right _ (List.mem_append_left _ h))
  refine⟨?_,hg.2⟩
  rw[key p.1 (fun hh=>?_)];exact hg.1
  rcases List.mem_append.1 hp with h|h
  ·obtain⟨r,hr,he⟩:=List.mem_map.1 hh
   exact kn.ext p h (he▸kn.loc r (List.mem_append_right _ hr))
  ·exact d3 _ (Qbi h) _ hh rfl
 ·rw[key m (fun hh=>?_)];exact kn.chg m hm hx
  obtain⟨r,hr,he⟩:=List.mem_map.1 hh
  exact hm (he▸kn.loc r (List.mem_append_right _ hr))
theorem Qa5e {p:Nat×Obj}(h:p∈Lg):(fun m=>(Lg.map Prod.fst).contains m) p.1=true:=List.contains_iff_mem.2 (Qbi h)
theorem Kn.frzS_out (kn:Kn H0 H E (B++Lg)){p:Nat×Obj}(h:p∈B):(fun m=>(Lg.map Prod.fst).contains m) p.1=false:=by
 have hd:=kn.dL
 rw[List.map_append]at hd
 cases hc:(Lg.map Prod.fst).contains p.1 with
 |false=>exact hc
 |true=>exact absurd rfl ((List.nodup_append.1 hd).2.2 _ (Qbi h) _ (List.contains_iff_mem.1 hc))
end Go.AE
namespace Go.AE.Y
attribute [local go_sem] cond_true cond_false Bool.not_true Bool.not_false
open Go.Proofs.Tryz
variable {H H0 F:Heap}{K:V→Heap→Prop}{E B Lg:List (Nat×Obj)}{fns:List Fn}{S:Nat→Bool}
theorem Qaoa {α β:Type}{f:α→List C}{g:β→List C}{d:α→β}:∀(l:List α),(∀x∈l,FrzL H S (f x) (g (d x)))→FrzR H S (l.map f) ((l.map d).map g)
 |[],_=>.nil
 |x::l,h=>.cons (h x List.mem_cons_self) (Qaoa l fun z hz=>h z (List.mem_cons_of_mem _ hz))
structure OSt where
 x:St
 ac:C
 al:List (Nat×Obj)
def OSt.row (o:OSt):List C:=[.int .i64 o.x.op,.str o.x.name,o.ac,.sl false 5 (Qk o.x.body),.sl false 5 (Qk o.x.els)]
def OSt.ok (o:OSt):Prop:=Gr o.al 4 (Qv o.x.args) o.ac
theorem OSt.noOw {o:OSt}(h:o.ok):Go.AE.noOw o.row=true:=by
 have:=h.isOw
 simp only[OSt.row,Go.AE.noOw,List.all_cons,List.all_nil,Q00,Qvi,Q8s,this];rfl
theorem OSt.frz {o:OSt}(h:o.ok)(hm:∀p∈o.al,H p.1=p.2∧S p.1=true):FrzL H S o.row o.x.cells:=by
 rw[o.x.cells_eq]
 exact .cons (Qg rfl) (.cons (Qg rfl) (.cons (Gr.frzm h hm (FrzR.same (Qap _))) (.cons (FrzR.same (Qan _)).sl (.cons (FrzR.same (Qan _)).sl .nil))))
theorem Qas4 {os:List OSt}{Lz:List (Nat×Obj)}{t:C}(ho:∀o∈os,o.ok)(hz:Gr Lz 5 (os.map OSt.row) t)(hm:∀p∈os.flatMap OSt.al++Lz,H p.1=p.2∧S p.1=true):FrzC H S t (.sl false 5 (Qk (os.map OSt.x))):=by
 rw[Qmt]
 refine Gr.frzm hz (fun p hp=>hm p (List.mem_append_right _ hp)) (Qaoa os fun o hoo=>OSt.frz (ho o hoo) fun p hp=>hm p (List.mem_append_left _ (List.mem_flatMap.2 ⟨o,hoo,hp⟩)))
theorem Qa2b:∀(n:Nat) (x:Ex) {H:Heap} {K:V→Heap→Prop},x.size≤n→(∀H',Upd H H' []→K (.ag x.cells) H')→Qp prog Q0r [.ag x.cells] H K:=by
 intro n
 induction n with
 |zero=>intro x H K h;have:=x.size_pos;omega
 |succ n ih=>
 intro x H K hn hK
 have hsz:=x.size_kids
 refine Qw ?_
 refine Qb Qah Qa2k ?_
 refine Qa ?_
 simp only[go_sem,x.cells_eq]
 intro x1 hx1 H1 h1
 have kn:=(Kn.start0 H).al hx1 h1
 simp only[go_sem,Qaat]
 intro x2 hx2 H2 h2
 have kn:Kn H H2 [] ([(x1,exO x.op x.n x.name (.sl false 4 (Qv x.kids))),(x2,exO 0 0 [] (.sl true 4 []))]):=kn.al hx2 h2
 refine Qa ?_
 simp only[go_sem]
 refine Q4 ?_
 refine Qa ?_
 simp only[go_sem]
 refine Qf (Qd (Q0 (fun m e2 H2=>∃(j:Nat) (Lk:List (Nat×Obj)) (t:C),m=x.kids.length-j∧j≤x.kids.length∧Gr Lk 4 (Qv (x.kids.take j)) t∧
  Kn H H2 [] ([(x1,exO x.op x.n x.name (.sl false 4 (Qv x.kids))),(x2,exO 0 0 [] (.sl true 4 []))]++Lk)∧
  e2=[(1,.c (.ptr x1 0)),(2,.c (.ptr x2 0)),(3,.c t),(4,.c (.int .i64 j))]) x.kids.length ?_ ?_))
 ·exact⟨0,[],.sl true 4 [],by omega,by omega,.nil 4,kn,rfl⟩
 ·clear kn
  rintro m e2 H3 ⟨j,Lk,t,hm,hj,hgk,kn,rfl⟩
  have hto:=hgk.isOw
  have g1:=kn.l 0 rfl
  refine Q4 ?_
  refine Qa ?_
  simp only[go_sem,g1,hto,Qj]
  intro hl
  simp only[LIM]at hl
  refine Qf (Qc rfl ?_ ?_)
  ·intro hc
   have hlt:j<x.kids.length:=by simpa using hc
   have hms:=Qaf (List.getElem_mem hlt)
   obtain⟨y,hy⟩:∃y,x.kids[j]=y:=⟨_,rfl⟩
   have htk:Qv (x.kids.take (j+1))=Qv (x.kids.take j)++[y.cells]:=by
    rw[Qd7,List.take_succ_eq_append_getElem hlt,hy]
   rw[hy]at hms
   refine Qe ?_
   try simp only[go_sem]
   refine Qf (Qd ?_)
   refine Qs ?_
   simp only[go_sem,g1,hto,hlt,Qj,Qac _ _ hlt,hy,Ex.take4,Ex.allOw,Ex.cells_len]
   refine ih y (by omega) fun H5 hu=>?_
   have kn:=kn.call0 hu
   simp only[go_sem,Qaav,hto,y.cells_len]
   refine kn.growR hgk (new:=[y.cells]) (.mk' _ true 4 _) (by simpa using y.noOw) (by simp only[Qj,List.length_take,List.length_cons,List.length_nil,LIM];omega) fun t' Lk' H6 hg' hto' kn=>?_
   rw[←htk]at hg'
   simp only[go_sem,Qaau,hto']
   refine Qs ?_
   simp only[go_sem,AE.X.next,hto']
   exact⟨Qu (by omega) (by omega),x.kids.length-(j+1),by omega,j+1,Lk',t',rfl,by omega,hg',kn,rfl⟩
  ·intro hc
   have hge:x.kids.length≤j:=by simpa using hc
   rw[List.take_of_length_le hge]at hgk
   refine Q1 ?_
   simp only[go_sem,AE.X.next]
   refine Qa ?_
   simp only[go_sem,g1,hto]
   intro H4 h4
   have kn:=kn.stL 0 rfl h4
   have g1:=kn.l 0 rfl
   have g2:=kn.l 1 rfl
   refine Qa ?_
   simp only[go_sem,g1,g2,hto]
   intro H5 h5
   have kn:=kn.stL 1 rfl h5
   have g2:=kn.l 1 rfl
   refine Qi ?_
   simp only[go_sem,Qy,Q7,Qas9,List.mem_singleton,forall_eq,RS.op,g2,hto]
   rw[x.cells_eq]at hK
   exact⟨_,(FrzL.cons (Qg rfl) (.cons (Qg rfl) (.cons (Qg rfl) (.cons (hgk.frz (B:=[_,_]) kn (Qap _)) .nil)))).ag,hK _ kn.fin⟩
structure SRd (H:Heap)(rows:List (List C))(l:List St):Prop where
 len:rows.length=l.length
 get:∀i (h:i<l.length),∃ac:C,rows.getD i []=[.int .i64 l[i].op,.str l[i].name,ac,.sl false 5 (Qk l[i].body),.sl false 5 (Qk l[i].els)]∧ac.isOw=false∧Slc H 4 (Qv l[i].args) ac
theorem SRd.fz (H:Heap)(l:List St):SRd H (Qk l) l:=⟨Qn l,fun i h=>⟨.sl false 4 (Qv l[i].args),by rw[Qae _ _ h,St.cells_eq],rfl,.mk' H false 4 _⟩⟩
theorem SRd.kn {H1:Heap}{L:List (Nat×Obj)}{rows:List (List C)}{l:List St}(h:SRd H rows l)(kn:Kn H H1 [] L):SRd H1 rows l:=⟨h.len,fun i hi=>by
 obtain⟨ac,h1,h2,h3⟩:=h.get i hi
 exact⟨ac,h1,h2,h3.kn kn⟩⟩
theorem OSt.slc {o:OSt}(h:o.ok)(hm:∀p∈o.al,H p.1=p.2):Slc H 4 (Qv o.x.args) o.ac:=by
 have hk:Gr o.al 4 (Qv o.x.args) o.ac:=h
 refine⟨?_,hk.elemSz,?_,hk.lenC⟩
 ·rcases hk with ⟨h1,h2,h3⟩|⟨y,h1,h2⟩
  ·rw[h1];trivial
  ·have:H y=.vec 4 (Qv o.x.args):=hm (y,_) (by rw[h2];simp)
   rw[h1];simp[okSl,this]
 ·rcases hk with ⟨h1,h2,h3⟩|⟨y,h1,h2⟩
  ·rw[h1,h2];rfl
  ·have:H y=.vec 4 (Qv o.x.args):=hm (y,_) (by rw[h2];simp)
   rw[h1];simp[rowsOf,this]
theorem SRd.os {os:List OSt}(ho:∀o∈os,o.ok)(hm:∀p∈os.flatMap OSt.al,H p.1=p.2):SRd H (os.map OSt.row) (os.map OSt.x):=by
 refine⟨by simp,fun i hi=>?_⟩
 have hi2:i<os.length:=by simpa using hi
 have hm2:=List.getElem_mem hi2
 refine⟨os[i].ac,?_,(ho _ hm2).isOw,?_⟩
 ·simp[List.getD_eq_getElem?_getD,hi2,OSt.row]
 ·rw[List.getElem_map]
  exact OSt.slc (ho _ hm2) fun p hp=>hm p (List.mem_flatMap.2 ⟨_,hm2,hp⟩)
def StO (n:Nat):Prop:=∀(l:List St) (rows:List (List C)) (c:C) (H:Heap) (K:V→Heap→Prop),Qh l≤n→Qh l≤2^38→c.isOw=false→Slc H 5 rows c→SRd H rows l→
 (∀(os:List OSt) t Lz H',os.map OSt.x=l→(∀o∈os,o.ok)→Gr Lz 5 (os.map OSt.row) t→Kn H H' [] (os.flatMap OSt.al++Lz)→K (.c t) H')→Qp prog Qge [.c c] H K
theorem Qa4c {n:Nat}(h:StO n){l:List St}{f:Bool}{H:Heap}{K:V→Heap→Prop}(hn:Qh l≤n)(hb:Qh l≤2^38)(hK:∀H',Upd H H' []→K (.c (.sl false 5 (Qk l))) H'):Qp prog Qge [.c (.sl f 5 (Qk l))] H K:=by
 refine Qw (h l (Qk l) (.sl f 5 (Qk l)) H _ hn hb rfl (.mk' H f 5 _) (.fz H l) fun os t Lz H' hx ho hz kn=>?_)
 refine⟨_,.c _ _ (Qas4 ho hz fun p hp=>⟨(kn.get p (by simpa using hp)).1,Qod (kn.loc p hp)⟩),?_⟩
 rw[hx]
 exact hK _ kn.fin
set_option maxHeartbeats 4000000 in
theorem Qa78:∀n,StO n:=by
 intro n
 induction n using Nat.strongRecOn with
 |_ n ih=>
 intro l rows c H K hn hb how hs0 hr0 hK
 have hsl0:=Qby l
 have hrl:=hr0.len
 refine Qb Qah Qayp ?_
 refine Qa ?_
 simp only[go_sem,how]
 refine Qa ?_
 simp only[go_sem,how]
 refine Q4 ?_
 refine Qa ?_
 simp only[go_sem,how]
 refine Qf (Qd (Q0 (fun m e1 H1=>∃(i:Nat) (os:List OSt) (Lz:List (Nat×Obj)) (t:C),m=l.length-i∧i≤l.length∧os.map OSt.x=l.take i∧(∀o∈os,o.ok)∧Gr Lz 5 (os.map OSt.row) t∧Kn H H1 [] (os.flatMap OSt.al++Lz)∧
  e1=[(0,.c c),(3,.c t),(4,.c (.int .i64 i))]) l.length ?_ ?_))
 ·exact⟨0,[],[],.sl true 5 [],by omega,by omega,by simp,by simp,.nil 5,Kn.start0 H,rfl⟩
 ·rintro m e1 H1 ⟨i,os,Lz,t,hm,hi,hox,ho,hz,kn,rfl⟩
  have hto:=hz.isOw
  have hs1:=hs0.kn kn
  have hok:=eq_true hs1.ok
  have hrw:=hs1.rows
  have hln:=hs1.len
  have hsz:=hs1.sz
  rw[hrl]at hln
  refine Q4 ?_
  refine Qa ?_
  simp only[go_sem,how,hok,hln,hto]
  intro hl
  simp only[LIM]at hl
  refine Qf (Qc rfl ?_ ?_)
  ·intro hc
   have hlt:i<l.length:=by simpa using hc
   have hms:=Qak (List.getElem_mem hlt)
   obtain⟨x,hx⟩:∃x,l[i]=x:=⟨_,rfl⟩
   rw[hx]at hms
   have hse:=x.size_eq
   obtain⟨ac,hrow,haw,_⟩:=hr0.get i hlt
   rw[hx]at hrow
   have hol:os.length=i:=by
    have:=congrArg List.length hox
    rw[List.length_map,List.length_take]at this;omega
   refine Qe ?_
   try simp only[go_sem]
   refine Qf (Qd ?_)
   refine Qa ?_
   simp only[go_sem,how,hok,hln,hrw,hsz,hto,haw,hlt,hrow]
   intro x5 hx5 H3 h3
   have kn:Kn H H3 [] ((os.flatMap OSt.al++Lz)++(x5,.st [.int .i64 0,.str [],.sl true 4 [],.sl true 5 [],.sl true 5 []])::[]):=kn.al hx5 h3
   have g5:=kn.getM
   simp only[go_sem,Q54,g5,how,hto,haw]
   intro H4 h4
   have kn:Kn H H4 [] ((os.flatMap OSt.al++Lz)++(x5,stX x.op x.name ac (.sl false 5 (Qk x.body)) (.sl false 5 (Qk x.els)))::[]):=kn.stM h4
   refine Qa ?_
   simp only[go_sem,how,hto]
   refine Q4 ?_
   refine Qa ?_
   simp only[go_sem,how,hto]
   refine Qf (Qd (Q0 (fun m2 e2 H5=>∃(j:Nat) (La:List (Nat×Obj)) (ta:C),m2=x.args.length-j∧j≤x.args.length∧Gr La 4 (Qv (x.args.take j)) ta∧Kn H H5 [] ((os.flatMap OSt.al++Lz)++(x5,stX x.op x.name ac (.sl false 5 (Qk x.body)) (.sl false 5 (Qk x.els)))::La)∧
    e2=[(0,.c c),(3,.c t),(4,.c (.int .i64 i)),(5,.c (.ptr x5 0)),(6,.c ta),(7,.c (.int .i64 j))]) x.args.length ?_ ?_))
   ·exact⟨0,[],.sl true 4 [],by omega,by omega,.nil 4,kn,rfl⟩
   ·clear kn g5 h4 h3
    rintro m2 e2 H5 ⟨j,La,ta,hm2,hj,hga,kn,rfl⟩
    have hao:=hga.isOw
    have g5:=kn.getM
    obtain⟨ac',hrow',haw',hsa⟩:=(hr0.kn kn).get i hlt
    rw[hx]at hrow' hsa
    have hacc:ac=ac':=by
     rw[hrow]at hrow'
     simp only[List.cons.injEq]at hrow'
     exact hrow'.2.2.1
    subst hacc
    have hoka:=eq_true hsa.ok
    have hrwa:=hsa.rows
    have hlna:=hsa.len
    have hsza:=hsa.sz
    rw[Qj]at hlna
    refine Q4 ?_
    refine Qa ?_
    simp only[go_sem,how,haw,hto,hao,g5,hoka,hlna]
    intro hl2
    simp only[LIM]at hl2
    refine Qf (Qc rfl ?_ ?_)
    ·intro hc2
     have hlt2:j<x.args.length:=by simpa using hc2
     have hms2:=Qaf (List.getElem_mem hlt2)
     obtain⟨y,hy⟩:∃y,x.args[j]=y:=⟨_,rfl⟩
     have htk:Qv (x.args.take (j+1))=Qv (x.args.take j)++[y.cells]:=by
      rw[Qd7,List.take_succ_eq_append_getElem hlt2,hy]
     refine Qe ?_
     try simp only[go_sem]
     refine Qf (Qd ?_)
     refine Qs ?_
     simp only[go_sem,how,haw,hto,hao,g5,hoka,hlna,hrwa,hsza,hlt2,Qac _ _ hlt2,hy,Ex.take4,Ex.allOw,Ex.cells_len]
     refine Qa2b y.size y (Nat.le_refl _) fun H6 hu=>?_
     have kn:=kn.call0 hu
     simp only[go_sem,how,haw,Q56,hto,hao,y.cells_len]
     have kn:Kn H H6 [] (((os.flatMap OSt.al++Lz)++[(x5,stX x.op x.name ac (.sl false 5 (Qk x.body)) (.sl false 5 (Qk x.els)))])++La):=by rw[List.append_assoc _ [_]];exact kn
     refine kn.growR hga (new:=[y.cells]) (.mk' _ true 4 _) (by simpa using y.noOw) (by simp only[Qj,List.length_take,List.length_cons,List.length_nil,LIM];omega) fun ta' La' H7 hga' hao' kn=>?_
     rw[←htk]at hga'
     simp only[go_sem,how,haw,Q55,hto,hao']
     refine Qs ?_
     simp only[go_sem,AE.X.next,how,haw,hto,hao']
     refine⟨Qu (by omega) (by omega),x.args.length-(j+1),by omega,j+1,La',ta',rfl,by omega,hga',?_,rfl⟩
     rw[List.append_assoc _ [_]]at kn;exact kn
    ·intro hc2
     have hge2:x.args.length≤j:=by simpa using hc2
     rw[List.take_of_length_le hge2]at hga
     refine Q1 ?_
     simp only[go_sem,AE.X.next]
     refine Qeo ?_
     simp only[go_sem,how,haw,hto,hao,g5]
     refine Qa4c (ih (Qh x.body) (by omega)) (Nat.le_refl _) (by omega) fun H6 hu=>?_
     have kn:=kn.call0 hu
     have g5:=kn.getM
     simp only[go_sem,how,haw,Q59,hto,hao,g5]
     refine Qa4c (ih (Qh x.els) (by omega)) (Nat.le_refl _) (by omega) fun H7 hu=>?_
     have kn:=kn.call0 hu
     have g5:=kn.getM
     simp only[go_sem,how,haw,Q58,hto,hao,g5]
     have kn:Kn H H7 [] ((os.flatMap OSt.al++(x5,stX x.op x.name ac (.sl false 5 (Qk x.body)) (.sl false 5 (Qk x.els)))::La)++Lz):=kn.perm (by
      rw[List.append_assoc,List.append_assoc]
      exact List.Perm.append_left _ List.perm_append_comm)
     have hok:OSt.ok ⟨x,ta,La⟩:=hga
     refine kn.growR hz (new:=[OSt.row ⟨x,ta,La⟩]) (.mk' _ true 5 _) (by simpa using OSt.noOw hok) (by simp only[List.length_map,List.length_cons,List.length_nil,LIM];omega) fun t' Lz' H8 hz' hto' kn=>?_
     have kn:Kn H H8 [] ((os++[(⟨x,ta,La⟩:OSt)]).flatMap OSt.al++Lz'):=by
      refine kn.sub ?_
      rw[List.flatMap_append,List.flatMap_cons,List.flatMap_nil,List.append_nil]
      exact List.Sublist.append (List.Sublist.append (List.Sublist.refl _) (List.sublist_cons_self _ _)) (List.Sublist.refl _)
     simp only[go_sem,how,haw,Q57,hto']
     refine Qs ?_
     simp only[go_sem,AE.X.next,how,hto']
     refine⟨Qu (by omega) (by omega),l.length-(i+1),by omega,i+1,os++[(⟨x,ta,La⟩:OSt)],Lz',t',rfl,by omega,?_,?_,?_,kn,rfl⟩
     ·rw[List.map_append,hox,List.take_succ_eq_append_getElem hlt,hx];rfl
     ·intro o hoo
      rcases List.mem_append.1 hoo with hoo|hoo
      ·exact ho o hoo
      ·simp only[List.mem_singleton]at hoo;subst hoo;exact hok
     ·rw[List.map_append];exact hz'
  ·intro hc
   have hge:l.length≤i:=by simpa using hc
   rw[List.take_of_length_le hge]at hox
   refine Q1 ?_
   simp only[go_sem,AE.X.next]
   refine Qa ?_
   simp only[go_sem,hto]
   refine Qi ?_
   simp only[go_sem,Qy,Q7,Qalk,List.mem_singleton,forall_eq,RS.op,hto]
   exact hK os t Lz _ hox ho hz kn
theorem Qay4 (A B C D:List (Nat×Obj)):(((A++B)++C)++D).Perm ((A++(C++D))++B):=by
 simp only[List.append_assoc]
 refine List.Perm.append_left _ (List.perm_append_comm.trans ?_)
 simp only[List.append_assoc]
 exact .refl _
structure OFn where
 f:Fn
 pc:C
 pl:List (Nat×Obj)
 os:List OSt
 bc:C
 bl:List (Nat×Obj)
def OFn.row (u:OFn):List C:=[.str u.f.name,u.pc,u.bc]
def OFn.lg (u:OFn):List (Nat×Obj):=u.pl++(u.os.flatMap OSt.al++u.bl)
structure OFn.ok (u:OFn):Prop where
 p:Gr u.pl 1 (Q2 u.f.params) u.pc
 o:∀o∈u.os,o.ok
 b:Gr u.bl 5 (u.os.map OSt.row) u.bc
 x:u.os.map OSt.x=u.f.body
theorem OFn.noOw {u:OFn}(h:u.ok):Go.AE.noOw u.row=true:=by
 have h1:=h.p.isOw
 have h2:=h.b.isOw
 simp only[OFn.row,Go.AE.noOw,List.all_cons,List.all_nil,Qvi,h1,h2];rfl
theorem OFn.frz {u:OFn}(h:u.ok)(hm:∀p∈u.lg,H p.1=p.2∧S p.1=true):FrzL H S u.row u.f.cells:=by
 have hb:=Qas4 (H:=H) (S:=S) h.o h.b fun p hp=>hm p (List.mem_append_right _ hp)
 rw[h.x]at hb
 exact .cons (Qg rfl) (.cons (Gr.frzm h.p (fun p hp=>hm p (List.mem_append_left _ hp)) (FrzR.same (Qax _))) (.cons hb .nil))
theorem Qas3 {us:List OFn}{Lz:List (Nat×Obj)}{t:C}(ho:∀u∈us,u.ok)(hz:Gr Lz 3 (us.map OFn.row) t)(hm:∀p∈us.flatMap OFn.lg++Lz,H p.1=p.2∧S p.1=true):FrzC H S t (.sl false 3 (Qr (us.map OFn.f))):=
 Gr.frzm hz (fun p hp=>hm p (List.mem_append_right _ hp)) (Qaoa us fun o hoo=>OFn.frz (ho o hoo) fun p hp=>hm p (List.mem_append_left _ (List.mem_flatMap.2 ⟨o,hoo,hp⟩)))
set_option maxHeartbeats 4000000 in
theorem Qakj {l:List Fn}{c:C}(how:c.isOw=false)(hs:Slc H 3 (Qr l) c)(hb:Qo l≤2^38)(hp:∀f∈l,f.params.length≤2^38)
  (hK:∀(us:List OFn) t Lz H',us.map OFn.f=l→(∀u∈us,u.ok)→Gr Lz 3 (us.map OFn.row) t→t.isOw=false→Kn H H' [] (us.flatMap OFn.lg++Lz)→K (.ag [t]) H'):Qp prog Qrd [.ag [c]] H K:=by
 refine Qb Qah Qa2o ?_
 refine Qa ?_
 simp only[go_sem,how]
 intro x2 hx2 H1 h1
 have kn:=(Kn.start0 H).al hx2 h1
 refine Qa ?_
 simp only[go_sem,how]
 intro x3 hx3 H2 h2
 have kn:=kn.al hx3 h2
 have g3:=kn.l 1 rfl
 simp only[go_sem,Qacm,g3,how]
 intro H3 h3
 have kn:Kn H H3 [] ((x2,.st [.sl true 3 []])::(x3,.st [.sl true 3 []])::([]++[])):=kn.stL 1 rfl h3
 refine Q4 ?_
 refine Qa ?_
 simp only[go_sem,how]
 refine Qf (Qd (Q0 (fun m e1 H1=>∃(i:Nat) (us:List OFn) (Lz:List (Nat×Obj)) (t:C),m=l.length-i∧i≤l.length∧us.map OFn.f=l.take i∧(∀o∈us,o.ok)∧Gr Lz 3 (us.map OFn.row) t∧
  Kn H H1 [] ((x2,.st [.sl true 3 []])::(x3,.st [t])::(us.flatMap OFn.lg++Lz))∧
  e1=[(1,.c (.pp [c])),(2,.c (.ptr x2 0)),(3,.c (.ptr x3 0)),(4,.c (.int .i64 i))]) l.length ?_ ?_))
 ·exact⟨0,[],[],.sl true 3 [],by omega,by omega,by simp,by simp,.nil 3,kn,rfl⟩
 ·clear kn g3 h3 h2 h1
  rintro m e1 H1 ⟨i,us,Lz,t,hm,hi,hux,hu,hz,kn,rfl⟩
  have hto:=hz.isOw
  have hs1:=hs.kn kn
  have hok:=eq_true hs1.ok
  have hrw:=hs1.rows
  have hln:=hs1.len
  have hsz:=hs1.sz
  rw[Qm]at hln
  refine Q4 ?_
  refine Qa ?_
  simp only[go_sem,how,hto,hok,hln]
  intro hl
  simp only[LIM]at hl
  refine Qf (Qc rfl ?_ ?_)
  ·intro hc
   have hlt:i<l.length:=by simpa using hc
   have hms:=Qaq (List.getElem_mem hlt)
   have hpl:=hp _ (List.getElem_mem hlt)
   obtain⟨x,hx⟩:∃x,l[i]=x:=⟨_,rfl⟩
   rw[hx]at hms hpl
   have hul:us.length=i:=by
    have:=congrArg List.length hux
    rw[List.length_map,List.length_take]at this;omega
   refine Qe ?_
   try simp only[go_sem]
   refine Qf (Qd ?_)
   refine Qa ?_
   simp only[go_sem,how,hto,hok,hln,hrw,hsz,hlt,Q6 _ _ hlt,hx,Fn.cells]
   intro x5 hx5 H3 h3
   have kn:=(kn.al hx5 h3).perm (L':=(x2,.st [.sl true 3 []])::(x3,.st [t])::(x5,_)::(us.flatMap OFn.lg++Lz)) (.cons _ (.cons _ List.perm_append_comm))
   have g5:=kn.l 2 rfl
   simp only[go_sem,Qacn,g5,how,hto]
   intro H4 h4
   have kn:Kn H H4 [] ((x2,.st [.sl true 3 []])::(x3,.st [t])::(x5,fnO x)::(us.flatMap OFn.lg++Lz)):=kn.stL 2 rfl h4
   have g5:=kn.l 2 rfl
   have g3:=kn.l 1 rfl
   refine Qeo ?_
   simp only[go_sem,g5,g3,how,hto,Qq]
   refine⟨.inl trivial,Qax _,by simp only[LIM];omega,fun z hz0 H5 h5=>?_⟩
   have kn:=kn.al hz0 h5
   have g5:=kn.l 2 rfl
   have g3:=kn.l 1 rfl
   simp only[go_sem,Qacq,g5,g3,how,hto]
   refine Qa78 (Qh x.body) x.body _ (.sl false 5 (Qk x.body)) H5 _ (Nat.le_refl _) (by omega) rfl (.mk' _ false 5 _) (.fz _ _) fun os tb Lb H6 hox ho hzb k2=>?_
   have kn:=kn.addNew k2
   have htb:=hzb.isOw
   have g5:=kn.l 2 rfl
   have g3:=kn.l 1 rfl
   simp only[go_sem,Qacp,g5,g3,how,hto,htb]
   obtain⟨u,hue⟩:∃u:OFn,u=⟨x,.vsl z 1 0 (0+x.params.length),[(z,.vec 1 ([]++Q2 x.params))],os,tb,Lb⟩:=⟨_,rfl⟩
   have huo:u.ok:=by
    rw[hue]
    exact⟨by simpa using Gr.mk (n:=0+x.params.length) z 1 (Q2 x.params) (by rw[Qq];omega),ho,hzb,hox⟩
   have hulg:u.lg=[(z,.vec 1 ([]++Q2 x.params))]++(os.flatMap OSt.al++Lb):=by rw[hue];rfl
   have hur:u.row=[.str x.name,.vsl z 1 0 (0+x.params.length),tb]:=by rw[hue];rfl
   have kn:Kn H H6 [] (((x2,.st [.sl true 3 []])::(x3,.st [t])::(x5,fnO x)::(us.flatMap OFn.lg++u.lg))++Lz):=kn.perm (by
    rw[hulg]
    exact .cons _ (.cons _ (.cons _ (Qay4 _ _ _ _))))
   refine kn.growR hz (new:=[u.row]) (by rw[hur];exact .mk' _ true 3 _) (by simpa using OFn.noOw huo) (by simp only[List.length_map,List.length_cons,List.length_nil,LIM];omega) fun t' Lz' H8 hz' hto' kn=>?_
   have g3:=kn.l 1 rfl
   simp only[go_sem,Qaco,g3,how,hto']
   intro H9 h9
   have kn:=kn.stL 1 rfl h9
   have kn:Kn H H9 [] ((x2,.st [.sl true 3 []])::(x3,.st [t'])::((us++[u]).flatMap OFn.lg++Lz')):=by
    refine kn.sub ?_
    rw[List.flatMap_append,List.flatMap_cons,List.flatMap_nil,List.append_nil]
    exact .cons_cons _ (.cons_cons _ (.cons _ (List.Sublist.refl _)))
   try simp only[go_sem,AE.X.next]
   refine Qs ?_
   simp only[go_sem,AE.X.next,how]
   refine⟨Qu (by omega) (by omega),l.length-(i+1),by omega,i+1,us++[u],Lz',t',rfl,by omega,?_,?_,?_,kn,rfl⟩
   ·rw[List.map_append,hux,List.take_succ_eq_append_getElem hlt,hx,hue];rfl
   ·intro o hoo
    rcases List.mem_append.1 hoo with hoo|hoo
    ·exact hu o hoo
    ·simp only[List.mem_singleton]at hoo;subst hoo;exact huo
   ·rw[List.map_append];exact hz'
  ·intro hc
   have hge:l.length≤i:=by simpa using hc
   rw[List.take_of_length_le hge]at hux
   have g3:=kn.l 1 rfl
   have g2:=kn.l 0 rfl
   refine Q1 ?_
   simp only[go_sem,AE.X.next]
   refine Qa ?_
   simp only[go_sem,g3,g2,hto]
   intro H3 h3
   have kn:=kn.stL 0 rfl h3
   have g2:=kn.l 0 rfl
   refine Qi ?_
   simp only[go_sem,Qy,Q7,Qata,List.mem_singleton,forall_eq,RS.op,g2,hto]
   exact hK us t Lz _ hux hu hz hto (kn.sub (.cons _ (.cons _ (List.Sublist.refl _))))
theorem Qa2g {l:List Fn}{c:C}(how:c.isOw=false)(hs:Slc H 3 (Qr l) c)(hb:Qo l≤2^38)(hp:∀f∈l,f.params.length≤2^38)(hK:∀H',Upd H H' []→K (.ag [.sl false 3 (Qr l)]) H'):Qp prog Qrd [.ag [c]] H K:=by
 refine Qw (Qakj how hs hb hp fun us t Lz H' hx hu hz hto kn=>?_)
 have hf:=Qas3 (H:=H') (S:=un H) hu hz fun p hp=>⟨(kn.get p (by simpa using hp)).1,Qod (kn.loc p hp)⟩
 rw[hx]at hf
 exact⟨_,(FrzL.cons hf .nil).ag,hK _ kn.fin⟩
theorem Qi5 (a b:List Fn):Qo (a++b)=Qo a+Qo b:=by
 induction a with
 |nil=>simp[Qo]
 |cons x r ih=>simp only[List.cons_append,Qo,ih];omega
theorem Q4w:∀(l:List Nat) (n:Nat),l.Pairwise (· < ·)→(∀x∈l,n≤x∧x<fns.length)→Qo (l.map (fnAt fns))≤Qo (fns.drop n)
 |[],n,_,_=>by simp[Qo]
 |x::r,n,hp,hx=>by
  obtain⟨h1,h2⟩:=hx x List.mem_cons_self
  have hp2:=List.pairwise_cons.1 hp
  have ih:=Q4w r (x+1) hp2.2 fun y hy=>⟨hp2.1 y hy,(hx y (List.mem_cons_of_mem _ hy)).2⟩
  have e1:fns.drop x=fns[x]::fns.drop (x+1):=(List.getElem_cons_drop h2).symm
  have e2:Qo (fns.drop x)≤Qo (fns.drop n):=by
   have:fns.drop n=(fns.drop n).take (x-n)++fns.drop x:=by
    conv=>lhs;rw[←List.take_append_drop (x-n) (fns.drop n)]
    rw[List.drop_drop];congr 2;omega
   rw[this,Qi5];omega
  rw[e1]at e2
  simp only[List.map_cons,Qo,Qk6 h2]at e2⊢
  omega
theorem Qagh (h:FineP fns):Qo (Qb3 fns)≤Qo fns:=by
 have:=Q4w (fns:=fns) (Qb0 fns) 0 (Qkp fns) fun x hx=>⟨Nat.zero_le _,h.nd_lt (h.need_mem.1 hx)⟩
 rw[List.drop_zero]at this
 exact this
set_option maxHeartbeats 2000000 in
theorem Qa3h {fl:Bool}(hf:Qo fns≤2^36)(hK:∀H',Upd H H' []→K (.tup [.ag [.sl false 3 (Qr (Q19 fns))],.c (.bool (Qlm fns))]) H') :
  Qp prog Qe4 [.ag [.sl fl 3 (Qr fns)]] H K:=by
 refine Qw ?_
 refine Qb Qah Q2s ?_
 refine Qa ?_
 simp only[go_sem]
 intro x2 hx2 H1 h1
 have kn:=(Kn.start0 H).al hx2 h1
 simp only[go_sem,Qiu]
 refine Q4 ?_
 refine Qa ?_
 simp only[go_sem]
 refine Qate hf fun H2 hu=>?_
 have kn:=kn.call0 hu
 have g2:=kn.l 0 rfl
 simp only[go_sem,Qiv]
 refine Qf (Qc rfl ?_ ?_)
 ·intro hc
  have hb:Qlm fns=false:=by simpa using hc
  refine Qa ?_
  simp only[go_sem,g2]
  intro H3 h3
  have kn:=kn.stL 0 rfl h3
  have g2:=kn.l 0 rfl
  simp only[go_sem,Qiw]
  refine Qi ?_
  simp only[go_sem,AE.X.next,Qy,Q7,Qgp,List.forall_mem_cons,List.not_mem_nil,RS.op,g2]
  have:=hK _ kn.fin
  rw[Q19,hb]at this
  exact⟨fun _=>trivial,_,Q76 (by simp) false,this⟩
 intro hc
 have hb:Qlm fns=true:=by simpa using hc
 have hg:=fine_iff.1 hb
 have hlen:=hg.len
 have hsd:=Qagh hg
 have hpd:∀f∈Qb3 fns,f.params.length≤2^38:=fun f hf=>by have:=Q4v (Q18 hg).v f hf;omega
 rw[hb,Q19,if_pos hb]at hK
 refine Qe ?_
 try simp only[go_sem]
 refine Qa ?_
 simp only[go_sem]
 refine Qani hf fun H3 hu=>?_
 have kn:=kn.call0 hu
 rw[Q6g,if_pos hb]
 simp only[go_sem,Qix]
 obtain⟨l,hl⟩:∃l,Qb0 fns=l:=⟨_,rfl⟩
 have hlm:∀k∈l,k<fns.length:=fun k hk=>hg.nd_lt (hg.need_mem.1 (by rw[hl];exact hk))
 have hll:l.length≤4:=by
  have:(Qb0 fns).length≤fns.length:=Qaw3
  rw[hl]at this;omega
 have hdl:Qb3 fns=l.map (fnAt fns):=by rw[Qb3,hl]
 rw[hl]
 refine Qa ?_
 simp only[go_sem]
 intro x5 hx5 H4 h4
 have kn:=kn.al hx5 h4
 have g5:=kn.l 1 rfl
 simp only[go_sem,Qiy,g5]
 intro H5 h5
 have kn:=kn.stL 1 rfl h5
 refine Q4 ?_
 refine Qa ?_
 simp only[go_sem]
 refine Qf (Qd (Q0 (fun m e1 H1=>∃(i:Nat) (Lz:List (Nat×Obj)) (t:C),m=l.length-i∧i≤l.length∧Gr Lz 3 (Qr ((l.take i).map (fnAt fns))) t∧Kn H H1 [] ([(x2,.st [.sl true 3 []]),(x5,.st [t])]++Lz)∧
  e1=[(1,.c (.pp [.sl fl 3 (Qr fns)])),(2,.c (.ptr x2 0)),(4,.c (.sl false 1 (Qa9 l))),(5,.c (.ptr x5 0)),(6,.c (.int .i64 i))]) l.length ?_ ?_))
 ·exact⟨0,[],.sl true 3 [],by omega,by omega,.nil 3,kn,rfl⟩
 ·clear kn g5 g2 h5 h4
  rintro m e1 H6 ⟨i,Lz,t,hm,hi,hz,kn,rfl⟩
  have hto:=hz.isOw
  have g5:=kn.l 1 rfl
  refine Q4 ?_
  refine Qa ?_
  simp only[go_sem,Qas]
  intro hlim
  simp only[LIM]at hlim
  refine Qf (Qc rfl ?_ ?_)
  ·intro hc2
   have hlt:i<l.length:=by simpa using hc2
   obtain⟨x,hx⟩:∃x,l[i]=x:=⟨_,rfl⟩
   have hxd:l.getD i 0=x:=by simp[List.getD_eq_getElem?_getD,hlt,hx]
   have hxm:x<fns.length:=hlm x (by rw[←hx];exact List.getElem_mem hlt)
   have htk:Qr ((l.take (i+1)).map (fnAt fns))=Qr ((l.take i).map (fnAt fns))++[(fnAt fns x).cells]:=by
    rw[Qlr,List.take_succ_eq_append_getElem hlt,hx];simp
   rw[Qk6 hxm]at htk
   refine Qe ?_
   try simp only[go_sem]
   refine Qf (Qd ?_)
   refine Qeo ?_
   simp only[go_sem,g5,hto,hlt,Qas,Qgh _ _ hlt,hxd,hxm,Qm,Q6 _ _ hxm,Fn.take3,Fn.allOw,Fn.cells_len]
   refine kn.growR hz (new:=[fns[x].cells]) (.mk' _ true 3 _) (by simp[Fn.noOw]) (by simp only[Qm,List.length_map,List.length_take,List.length_cons,List.length_nil,LIM];omega) fun t' Lz' H8 hz' hto' kn=>?_
   rw[←htk]at hz'
   have g5:=kn.l 1 rfl
   simp only[go_sem,Qiz,g5,hto']
   intro H9 h9
   have kn:=kn.stL 1 rfl h9
   try simp only[go_sem,AE.X.next]
   refine Qs ?_
   simp only[go_sem,AE.X.next]
   exact⟨Qu (by omega) (by omega),l.length-(i+1),by omega,i+1,Lz',t',rfl,by omega,hz',kn,rfl⟩
  ·intro hc2
   have hge:l.length≤i:=by simpa using hc2
   rw[List.take_of_length_le hge,←hdl]at hz
   have hsz:=Gr.slc2 hz kn
   refine Q1 ?_
   simp only[go_sem,AE.X.next]
   refine Qa ?_
   simp only[go_sem,g5,hto]
   refine Qa2g hto hsz (by omega) hpd fun H7 hu=>?_
   have kn:=kn.call0 hu
   have g2:=kn.l 0 rfl
   simp only[go_sem,Qhm,g2]
   intro H8 h8
   have kn:=kn.stL 0 rfl h8
   have g2:=kn.l 0 rfl
   simp only[go_sem,Qhl]
   refine Qi ?_
   simp only[go_sem,Qy,Q7,Qgp,List.forall_mem_cons,List.not_mem_nil,RS.op,g2]
   exact⟨fun _=>trivial,_,Q76 (Qbn _) true,hK _ kn.fin⟩
end Go.AE.Y

namespace Go.AE.Y
open Go.Proofs.Tryz
theorem Q01 {R : Rdr} {fl : Bool} {ss : List (List UInt8)} : ∀ (d : Nat) {k : Nat} {H : Heap} {K : V → Heap → Prop} (deep : Int), deep ≤ d → H R.l = R.o k → k + 6 * 2^d ≤ 2^40 →
    (∀ (x : Ex) (H' : Heap) (k' : Nat), k < k' → k' + 3 ≤ k + 6 * 2^d → Upd H H' [(R.l, R.o k')] → x.ok → k + x.size ≤ k' → K (.ag x.cells) H') →
    Qp prog Qc0 [.c (.ptr R.l 0), .c (.sl fl 1 (Q2 ss)), .c (.int .i64 deep)] H K := by
  intro d
  induction d using Nat.strongRecOn with
  | ind d ih =>
  intro k H K deep hd hH hk hK
  have hp1 : 1 ≤ 2^d := Nat.one_le_two_pow
  have hp0 : d < 2^d := Nat.lt_two_pow_self
  refine Qw ?_
  refine Qb Qah Qasx ?_
  refine Qa ?_
  simp only [go_sem]
  intro x hx H1 h1
  have kn := (Kn.start1 hH (R.o_ne k)).al hx h1
  refine Q4 ?_
  refine Qa ?_
  simp only [go_sem]
  have rest : ∀ (b : Bool) (H2 : Heap) (k2 : Nat), k ≤ k2 → k2 ≤ k + 1 → Kn H H2 [(R.l, R.o k2)] [(x, .st [.int .i64 0, .int .i64 0, .str [], .sl true 4 []])] → (b = false → 2 ≤ deep) →
      Q8 prog (s_l2Expr_2.seq Qyh) (Qy Qna (unK H K))
       [(0, V.c (C.ptr R.l 0)), (1, V.c (C.sl fl 1 (Q2 ss))), (2, .c (.int .i64 deep)), (6, V.c (C.ptr x 0)), (14, V.c (.bool b))] H2 := by
    intro b H2 k2 hk1 hk2 kn hb
    have fin : ∀ (op n : Int) (name : List UInt8) (fl : Bool) (kids : List Ex) (H3 : Heap) (k3 : Nat) (o : Obj), k < k3 → k3 + 3 ≤ k + 6 * 2^d → Kn H H3 [(R.l, R.o k3)] [(x, .st [.int .i64 op, .int .i64 n, .str name, .sl fl 4 (Qv kids)])] →
        (op = 10 → kids.length = 2) → Qep kids → k + 1 + Ql kids ≤ k3 →
        Q7 Qna [(6, V.c (C.ptr x 0))] H3 (unK H K) := by
      intro op n name fl kids H3 k3 o g1 g2 kn g3 g4 g5
      have hx3 := kn.l 0 rfl
      simp only [go_sem, Q7, Qna, List.mem_singleton, forall_eq, RS.op, hx3]
      refine ⟨_, (Ex.mk op n name kids).frz, hK _ _ k3 g1 g2 kn.fin ?_ ?_⟩
      · simp only [Ex.ok]; exact ⟨g3, g4⟩
      · simp only [Ex.size]; omega
    refine Qf (Qc rfl ?_ ?_)
    · intro hb'
      refine Qa ?_
      simp only [go_sem]
      refine Qasq (kn.e 0 rfl) (by omega) fun y H3 k3 g1 g2 hu hok hsz => ?_
      have kn := kn.callE 0 rfl hu (R.o_ne _)
      have hx3 := kn.l 0 rfl
      simp only [go_sem, Qyi, hx3, y.cells_eq]
      intro H4 h4
      have kn := kn.stL 0 rfl h4
      refine Qi ?_
      simp only [go_sem, Qy]
      refine fin _ _ _ _ _ _ k3 .none (by omega) (by omega) kn (Ex.ok_and hok) (Ex.ok_kids hok) ?_
      have := y.size_kids; omega
    · intro hb'
      have hdp := hb hb'
      have hp : 2^d = 2 * 2^(d-1) := by rw [← Nat.pow_succ']; congr 1; omega
      have hp2 : 1 ≤ 2^(d-1) := Nat.one_le_two_pow
      have ihd := fun {k H K} => @ih (d-1) (by omega) k H K
      generalize 2^(d-1) = e at *
      refine Qe ?_
      simp only [go_sem]
      refine Q4 ?_
      refine Qa ?_
      simp only [go_sem]
      refine Qbt (kn.e 0 rfl) (by omega) fun v H3 hv hu => ?_
      have kn := kn.callE 0 rfl hu (R.o_ne _)
      simp only [go_sem, Qyj]
      refine Qf (Qc rfl ?_ ?_)
      · intro hc
        refine Qa ?_
        simp only [go_sem]
        refine Qrl (ns := [11, 12, 11]) (kn.e 0 rfl) (by omega) (by simp) fun op H4 hop hu => ?_
        have kn := kn.callE 0 rfl hu (R.o_ne _)
        simp only [go_sem, Qyl]
        refine ⟨Qu (by omega) (by omega), ?_⟩
        refine ihd (deep - 1) (by omega) (kn.e 0 rfl) (by omega) fun y H5 k5 g1 g2 hu hok hsz => ?_
        have kn := kn.callE 0 rfl hu (R.o_ne _)
        have hx5 := kn.l 0 rfl
        simp only [go_sem, Qyk, hx5, y.cells_len]
        intro H6 h6
        have kn := kn.stL 0 rfl h6
        refine Qi ?_
        simp only [go_sem, Qy]
        refine fin op 0 [] true [y] _ k5 .none (by omega) (by omega) kn (fun h => ?_) ⟨hok, trivial⟩ ?_
        · subst h; simp at hop
        · simp only [Ql]; omega
      · intro hc
        refine Qe ?_
        simp only [go_sem]
        refine Qa ?_
        simp only [go_sem]
        refine Qrl (ns := [3, 3, 4, 5, 6, 7, 8, 9, 10]) (kn.e 0 rfl) (by omega) (by simp) fun op H4 hop hu => ?_
        have kn := kn.callE 0 rfl hu (R.o_ne _)
        simp only [go_sem, Qym]
        refine Qa ?_
        simp only [go_sem]
        refine ⟨Qu (by omega) (by omega), ?_⟩
        refine ihd (deep - 1) (by omega) (kn.e 0 rfl) (by omega) fun y H5 k5 g1 g2 hu hok hsz => ?_
        have kn := kn.callE 0 rfl hu (R.o_ne _)
        simp only [go_sem, Qyo]
        refine ⟨Qu (by omega) (by omega), ?_⟩
        refine ihd (deep - 1) (by omega) (kn.e 0 rfl) (by omega) fun z H6 k6 g3 g4 hu hok2 hsz2 => ?_
        have kn := kn.callE 0 rfl hu (R.o_ne _)
        have hx5 := kn.l 0 rfl
        simp only [go_sem, Qyn, hx5, y.cells_len, z.cells_len]
        intro H7 h7
        have kn := kn.stL 0 rfl h7
        refine Qi ?_
        simp only [go_sem, Qy]
        refine fin op 0 [] true [y, z] _ k6 .none (by omega) (by omega) kn (fun h => rfl) ⟨hok, hok2, trivial⟩ ?_
        simp only [Ql]; omega
  refine ⟨fun hb => ?_, fun hb => ?_⟩
  · refine Qbt (kn.e 0 rfl) (by omega) fun v H2 hv hu => ?_
    have kn := kn.callE 0 rfl hu (R.o_ne _)
    simp only [go_sem, Qj5]
    refine rest _ H2 (k + 1) (by omega) (by omega) kn ?_
    intro h
    have : ¬ deep < 2 := by simpa using hb
    omega
  · have hb2 : decide (deep < 2) = true := by simpa using hb
    simp only [go_sem, Qj5, hb2]
    exact rest true H1 k (by omega) (by omega) kn (fun h => by simp at h)
end Go.AE.Y

namespace Go.AE.Y
open Go.Proofs.Tryz
theorem Qah3 {R:Rdr}{gl k:Nat}{s:GS}{H:Heap}{K:V→Heap→Prop}(hR:H R.l=R.o k)(hG:H gl=s.o R)(hne:R.l≠gl)(hs:s.ok k)(hk:k+2≤2^30)
  (hK:∀(name:List UInt8) (H':Heap) (k':Nat),k+1≤k'→k'≤k+2→Upd H H' [(R.l,R.o k'),(gl,GS.o { s with next:=s.next+1 } R)]→K (.c (.str name)) H') :
  Qp prog Qk8 [.c (.ptr gl 0)] H K:=by
 have h0:=hs.n0
 have h1':=hs.n1
 refine Qw ?_
 refine Qb Qah Qaic ?_
 refine Qa ?_
 simp only[go_sem]
 refine Qa ?_
 simp only[go_sem,hG,GS.o]
 refine⟨Qu (by omega) (by omega),fun H1 h1=>?_⟩
 have kn:Kn H H1 [(R.l,R.o k),(gl,GS.o { s with next:=s.next+1 } R)] []:=(Kn.start2 hR (R.o_ne k) hG (s.o_ne R) hne).stE 1 rfl h1
 have hG1:=kn.e 1 rfl
 refine Q4 ?_
 refine Qa ?_
 simp only[go_sem,hG1,GS.o]
 refine Qbt (kn.e 0 rfl) (by omega) fun v H2 hv hu=>?_
 have kn:=kn.callE 0 rfl hu (R.o_ne _)
 have hG2:=kn.e 1 rfl
 simp only[go_sem,Qoy,hG2,GS.o]
 intro hl
 refine Qf (Qc rfl ?_ ?_)
 ·intro hc
  have hv0:0<s.vars.length:=by
   rw[Qq]at hc
   cases h:decide (v=0) <;> rw[h]at hc <;> simp_all
  refine Qaz ?_
  simp only[go_sem,hG2,GS.o]
  refine of_c (kn.e 0 rfl) (by omega) hv0 fun name H3 hn hu=>?_
  have kn:=kn.callE 0 rfl hu (R.o_ne _)
  simp only[go_sem,Qoz]
  refine Qi ?_
  simp only[go_sem,Qy,Q7,Qnc,List.mem_singleton,forall_eq,RS.op]
  exact⟨_,.c _ _ (Qg rfl),hK _ _ (k+1+1) (by omega) (by omega) kn.fin⟩
 ·intro hc
  refine Qe ?_
  simp only[go_sem]
  refine Qaz ?_
  have e1:0≤(s.next+1).tmod 24:=Int.tmod_nonneg _ (by omega)
  have e2:(s.next+1).tmod 24<24:=Int.tmod_lt_of_pos _ (by omega)
  simp only[go_sem,hG2,GS.o]
  refine⟨by omega,by omega,Qu (by omega) (by omega),by omega,?_⟩
  refine Qi ?_
  simp only[go_sem,Qy,Q7,Qnc,List.mem_singleton,forall_eq,RS.op]
  exact⟨_,.c _ _ (Qg rfl),hK _ _ (k+1) (by omega) (by omega) kn.fin⟩
theorem Q8t {R:Rdr}{gl k:Nat}{s:GS}{x:Ex}{fl:Bool}{H:Heap}{K:V→Heap→Prop}(hR:H R.l=R.o k)(hG:H gl=s.o R)(hne:R.l≠gl)(hs:s.ok k)(hk:k+2≤2^30)
  (hK:∀(name:List UInt8) (H':Heap) (k':Nat),k+1≤k'→k'≤k+2→Upd H H' [(R.l,R.o k'),(gl,GS.o { s with next:=s.next+1,vars:=s.vars++[name],vfl:=false } R)]→K (.ag (St.mk 1 name [x] [] []).cells) H') :
  Qp prog Qkn [.c (.ptr gl 0),.ag [.int .i64 x.op,.int .i64 x.n,.str x.name,.sl fl 4 (Qv x.kids)]] H K:=by
 have hv:=hs.v
 refine Q8b ?_
 refine Qb Qah Qaon ?_
 refine Qa ?_
 simp only[go_sem]
 intro y hy H1 h1
 have kn:=(Kn.start2 hR (R.o_ne k) hG (s.o_ne R) hne).al hy h1
 refine Qa ?_
 simp only[go_sem]
 refine Qah3 (kn.e 0 rfl) (kn.e 1 rfl) hne hs hk fun name H2 k' g1 g2 hu=>?_
 have kn:=kn.callEE 0 1 rfl rfl (by decide) hu (R.o_ne _) (GS.o_ne _ _)
 have hG2:=kn.e 1 rfl
 simp only[go_sem,Qxj]
 refine Qa ?_
 have hL:s.vars.length≤LIM:=by simp only[LIM];omega
 have hL1:s.vars.length+1≤LIM:=by simp only[LIM];omega
 simp only[go_sem,hG2,GS.o,Qq,Nat.zero_add,List.nil_append,hL]
 refine⟨.inl trivial,Qax _,?_⟩
 intro z hz H3 h3
 have kn:=kn.al hz h3
 have hz3:=kn.l 1 rfl
 have hG3:=kn.e 1 rfl
 simp only[go_sem,Qxl,hz3,Qq,Qob,hL1,List.take_of_length_le]
 refine⟨by omega,fun z' hz' H4 h4=>?_⟩
 have kn:=kn.ap 1 rfl hz' h4
 have hG4:=kn.e 1 rfl
 simp only[go_sem,Qxk,hG4,GS.o]
 intro H5 h5
 have kn:=kn.stE 1 rfl h5
 have hy5:=kn.l 0 rfl
 refine Qa ?_
 simp only[go_sem,hy5]
 intro H6 h6
 have kn:=kn.stL 0 rfl h6
 have hy6:=kn.l 0 rfl
 refine Qi ?_
 simp only[go_sem,Qy,Q7,Q9m,List.mem_singleton,forall_eq,RS.op,hy6]
 refine⟨un H,(.ag (St.mk 1 name [x] [] []).cells),(H6.frz (un H)).set gl (GS.o { s with next:=s.next+1,vars:=s.vars++[name],vfl:=false } R),?_,?_,hK name _ k' g1 g2 (kn.fin.set2 hne)⟩
 ·simp only[St.cells,Qv,Qk,x.cells_eq]
  exact (FrzL.cons (Qg rfl) (.cons (Qg rfl) (.cons (FrzR.cons (.cons (Qg rfl) (.cons (Qg rfl) (.cons (Qg rfl) (.cons (FrzR.same (Qap _)).sl .nil)))) .nil).sl (.cons (FrzR.nil).sl (.cons (FrzR.nil).sl .nil))))).ag
 ·refine (Qvf _ _).set (Qar8 (kn.usedE 1 rfl)) ?_
  rw[kn.e 1 rfl]
  refine FrzKL.st (.same (.same (.cons rfl ?_ (.same (.same .nil)))))
  exact Qahz (kn.un 1 rfl) (kn.l 1 rfl) (by simp[Q2]) (Qm8 (Qax _))
end Go.AE.Y

namespace Go.AE.Y
open Go.Proofs.Tryz
theorem Qca {R : Rdr} {gl k : Nat} {s : GS} {H : Heap} {K : V → Heap → Prop} (deep : Int) (hd : deep ≤ 3) (hR : H R.l = R.o k) (hG : H gl = s.o R) (hne : R.l ≠ gl) (hs : s.ok k) (hF : FnsOk H R gl s) (hk : k + 200 ≤ 2^30)
    (hK : ∀ (x : Ex) (H' : Heap) (k' : Nat), k < k' → k' ≤ k + 200 → Upd H H' [(R.l, R.o k')] → x.ok → k + x.size ≤ k' → K (.ag x.cells) H') :
    Qp prog Qa0 [.c (.ptr gl 0), .c (.int .i64 deep)] H K := by
  have hfl := hs.fn
  refine Qw ?_
  refine Qb Qah Qakx ?_
  refine Qa ?_
  simp only [go_sem]
  intro x4 hx4 H1 h1
  have kn := (Kn.start2 hR (R.o_ne k) hG (s.o_ne R) hne).al hx4 h1
  have hG1 := kn.e 1 rfl
  refine Qaz ?_
  simp only [go_sem, hG1, GS.o]
  refine Q01 3 deep (by omega) (kn.e 0 rfl) (by omega) fun e H2 k2 g1 g2 hu heok hesz => ?_
  have kn := kn.callE 0 rfl hu (R.o_ne _)
  have hG2 := kn.e 1 rfl
  simp only [go_sem, Qs0]
  intro x5 hx5 H3 h3
  have kn := kn.al hx5 h3
  have hG3 := kn.e 1 rfl
  have hx53 := kn.l 1 rfl
  simp only [go_sem, Qsz, hG3, hx53, GS.o, e.cells_eq]
  intro H4 h4
  have kn := kn.stL 1 rfl h4
  have hG4 := kn.e 1 rfl
  refine Q4 ?_
  refine Qa ?_
  simp only [go_sem, hG4, GS.o, hF.ow, hF.ok kn, hF.len]
  intro hl
  have fin : ∀ (op n : Int) (name : List UInt8) (c : C) (kids : List Ex) (H3 : Heap) (k3 : Nat) (L : List (Nat × Obj)), k < k3 → k3 ≤ k + 200 → Kn H H3 [(R.l, R.o k3), (gl, s.o R)] L →
      L[0]? = some (x4, .st [.int .i64 op, .int .i64 n, .str name, c]) → c.isOw = false → FrzC H3 (un H) c (.sl false 4 (Qv kids)) → (Ex.mk op n name kids).ok → k + (Ex.mk op n name kids).size ≤ k3 →
      Q7 Qku [(4, V.c (C.ptr x4 0))] H3 (unK H K) := by
    intro op n name c kids H3 k3 L g1 g2 kn g3 hno g4 g5 g6
    have hx3 := kn.l 0 g3
    simp only [go_sem, Q7, Qku, List.mem_singleton, forall_eq, RS.op, hx3, hno]
    refine ⟨(.ag (Ex.mk op n name kids).cells), ?_, hK _ _ k3 g1 g2 (kn.fin.drop2 hG) g5 g6⟩
    rw [Ex.cells_eq]
    exact (FrzL.cons (Qg rfl) (.cons (Qg rfl) (.cons (Qg rfl) (.cons g4 .nil)))).ag
  have rest : ∀ (b : Bool) (H2 : Heap) (k3 : Nat), k2 ≤ k3 → k3 ≤ k2 + 1 → Kn H H2 [(R.l, R.o k3), (gl, s.o R)] [(x4, .st [.int .i64 0, .int .i64 0, .str [], .sl true 4 []]), (x5, .st [.int .i64 e.op, .int .i64 e.n, .str e.name, .sl false 4 (Qv e.kids)])] →
      (b = false → 0 < s.fns.length) →
      Q8 prog (s_l3Gen_expr_3.seq Qsy) (Qy Qku (unK H K))
       [(0, V.c (C.ptr gl 0)), (4, V.c (C.ptr x4 0)), (5, V.c (C.ptr x5 0)), (32, .c (.bool b))] H2 := by
    intro b H2 k3 g3 g4 kn hb
    have hx52 := kn.l 1 rfl
    have hx42 := kn.l 0 rfl
    refine Qf (Qc rfl ?_ ?_)
    · intro hb'
      refine Qa ?_
      simp only [go_sem, hx52, hx42]
      intro H3 h3
      have kn := kn.stL 0 rfl h3
      refine Qi ?_
      simp only [go_sem, Qy]
      cases e with
      | mk op n name kids => exact fin op n name _ kids H3 k3 _ (by omega) (by omega) kn rfl rfl (Qahy (Qm8 (Qap _))) heok (by omega)
    · intro hb'
      have hfn := hb hb'
      refine Qe ?_
      simp only [go_sem]
      have hG3 := kn.e 1 rfl
      refine Qaz ?_
      simp only [go_sem, hG3, GS.o, hF.ow, hF.ok kn, hF.len]
      refine Qbt (kn.e 0 rfl) (by omega) fun v H3 hv hu => ?_
      have kn := kn.callE 0 rfl hu (R.o_ne _)
      rw [if_neg (by omega)] at hv
      obtain ⟨i, rfl⟩ := Int.eq_ofNat_of_zero_le hv.1
      have hi : i < s.fns.length := by omega
      have hG4 := kn.e 1 rfl
      simp only [go_sem, Qs2, hG4, GS.o, hF.ow, hF.ok kn, hF.len, hF.rows kn, hF.esz, hi, Q6 _ _ hi, Fn.cells]
      intro x6 hx6 H4 h4
      have kn := kn.al hx6 h4
      have hG5 := kn.e 1 rfl
      have hx64 := kn.l 2 rfl
      simp only [go_sem, Qs1, hG5, hx64, GS.o, hF.ow, hF.ok kn, hF.len, hF.rows kn, hF.esz, hi, Q6 _ _ hi, Fn.cells]
      have hpar := hs.f _ (List.getElem_mem hi)
      generalize s.fns[i] = f at *
      intro H5 h5
      have kn := kn.stL 2 rfl h5
      have hx65 := kn.l 2 rfl
      refine Qa ?_
      simp only [go_sem, hx65]
      intro x7 hx7 H6 h6
      have kn := kn.al hx7 h6
      have hx67 := kn.l 2 rfl
      have hx77 := kn.l 3 rfl
      simp only [go_sem, Qs3, hx77]
      intro H7 h7
      have kn := kn.stL 3 rfl h7
      refine Q4 ?_
      refine Qa ?_
      simp only [go_sem]
      refine Qf (Qd (Q0 (fun n e1 H1 => ∃ (i k4 : Nat) (kids : List Ex) (c : C) (Lg : List (Nat × Obj)), n = f.params.length - i ∧ i ≤ f.params.length ∧ k4 ≤ k3 + 1 + 21 * i ∧ k3 + 1 + Ql kids ≤ k4 ∧ Qep kids ∧ kids.length = i ∧
        Gr Lg 4 (Qv kids) c ∧ Kn H H1 [(R.l, R.o k4), (gl, s.o R)] ([(x4, .st [.int .i64 0, .int .i64 0, .str [], .sl true 4 []]), (x5, .st [.int .i64 e.op, .int .i64 e.n, .str e.name, .sl false 4 (Qv e.kids)]),
          (x6, .st [.str f.name, .sl false 1 (Q2 f.params), .sl false 5 (Qk f.body)]), (x7, .st [.int .i64 13, .int .i64 0, .str f.name, c])] ++ Lg) ∧
        e1 = [(0, V.c (C.ptr gl 0)), (4, V.c (C.ptr x4 0)), (6, V.c (C.ptr x6 0)), (7, V.c (C.ptr x7 0)), (8, V.c (C.int IntKind.i64 i))]) f.params.length ?_ ?_))
      · exact ⟨0, k3 + 1, [], _, [], by omega, by omega, by omega, by simp [Ql], trivial, rfl, .nil 4, kn, rfl⟩
      · rintro n e1 H1 ⟨i, k4, kids, c, Lg, hn, hi1, hk4, hksz, hkok, hkl, hgr, kn, rfl⟩
        have hx61 := kn.l 2 rfl
        have hx71 := kn.l 3 rfl
        have hG1 := kn.e 1 rfl
        refine Q4 ?_
        refine Qa ?_
        simp only [go_sem, hx61, Qq]
        intro hpl
        refine Qf (Qc rfl ?_ ?_)
        · intro hc
          have hlt : i < f.params.length := by simpa using hc
          refine Qe ?_
          simp only [go_sem]
          refine Qf (Qd (Qeo ?_))
          have hcow := hgr.isOw
          simp only [go_sem, hx71, hG1, GS.o, hcow]
          refine Q01 2 2 (by omega) (kn.e 0 rfl) (by omega) fun z H2 k5 g5 g6 hu hok hsz => ?_
          have kn := kn.callE 0 rfl hu (R.o_ne _)
          have hx72 := kn.l 3 rfl
          simp only [go_sem, Qs5, hx72, hcow, z.cells_len]
          refine kn.grow (new := [z.cells]) hgr (.mk' _ _ _ _) (by simp [z.noOw]) (by simp only [Qj, List.length_cons, List.length_nil, LIM]; omega) fun y' H3 kn => ?_
          have hx73 := kn.l 3 rfl
          simp only [go_sem, Qs4, hx73]
          intro H4 h4
          have kn := kn.stL 3 rfl h4
          refine Qs ?_
          simp only [go_sem]
          refine ⟨Qu (by omega) (by omega), ?_⟩
          refine ⟨f.params.length - (i + 1), by omega, i + 1, k5, kids ++ [z], _, _, rfl, by omega, by omega, ?_, Qaxl hkok ⟨hok, trivial⟩, by simp [hkl], ?_, kn, ?_⟩
          · simp only [Qcc, Ql]; omega
          · rw [← Qd7]; exact .mk _ _ _ (by simp)
          · simp
        · intro hc
          have hge : f.params.length ≤ i := by simpa using hc
          refine Q1 ?_
          simp only [go_sem, X.next]
          refine Q4 ?_
          refine Qa ?_
          simp only [go_sem, hG1, GS.o]
          refine Qbt (kn.e 0 rfl) (by omega) fun v H2 hv hu => ?_
          have kn := kn.callE 0 rfl hu (R.o_ne _)
          have hx72 := kn.l 3 rfl
          have hx42 := kn.l 0 rfl
          have hcow := hgr.isOw
          have hG2 := kn.e 1 rfl
          simp only [go_sem, Qov]
          refine Qf (Qc rfl ?_ ?_)
          · intro hc
            refine Qa ?_
            simp only [go_sem, hx72, hx42, hcow]
            intro H3 h3
            have kn := kn.stL 0 rfl h3
            refine Qi ?_
            simp only [go_sem, Qy]
            refine fin 13 0 f.name c kids H3 (k4 + 1) _ (by omega) (by omega) kn rfl hcow (hgr.frz (B := [_, _, _, _]) kn (Qap _)) ?_ ?_
            · simp only [Ex.ok]; exact ⟨fun h => by simp at h, hkok⟩
            · simp only [Ex.size]; omega
          · intro hc
            refine Qe ?_
            simp only [go_sem]
            refine Qaz ?_
            simp only [go_sem, hx72, hG2, hcow, GS.o]
            refine Qrl (ns := [3, 4, 8, 10]) (kn.e 0 rfl) (by omega) (by simp) fun op H3 hop hu => ?_
            have kn := kn.callE 0 rfl hu (R.o_ne _)
            have hx73 := kn.l 3 rfl
            have hG3 := kn.e 1 rfl
            simp only [go_sem, Qox, hx73, hG3, hcow, GS.o]
            refine Q01 2 2 (by omega) (kn.e 0 rfl) (by omega) fun z H4 k5 g5 g6 hu hok hsz => ?_
            have kn := kn.callE 0 rfl hu (R.o_ne _)
            have hx74 := kn.l 3 rfl
            have hx44 := kn.l 0 rfl
            simp only [go_sem, Qow, hx74, hx44, hcow, z.cells_len]
            intro H5 h5
            have kn := kn.stL 0 rfl h5
            refine Qi ?_
            simp only [go_sem, Qy]
            refine fin op 0 [] _ [Ex.mk 13 0 f.name kids, z] H5 k5 _ (by omega) (by omega) kn rfl rfl ?_ ?_ ?_
            · refine FrzR.sl (.cons ?_ (.cons (.same z.noOw) .nil))
              rw [Ex.cells_eq]
              exact .cons (Qg rfl) (.cons (Qg rfl) (.cons (Qg rfl) (.cons (hgr.frz (B := [_, _, _, _]) kn (Qap _)) .nil)))
            · simp only [Ex.ok, Qep]; exact ⟨fun h => rfl, ⟨fun h => by simp at h, hkok⟩, hok, trivial⟩
            · simp only [Ex.size, Ql]; omega
  refine ⟨fun hb => ?_, fun hb => ?_⟩
  · refine Qbt (kn.e 0 rfl) (by omega) fun v H5 hv hu => ?_
    have kn := kn.callE 0 rfl hu (R.o_ne _)
    simp only [go_sem, Qj9]
    refine rest _ H5 (k2 + 1) (by omega) (by omega) kn ?_
    intro h
    have : ¬ s.fns.length = 0 := by simpa using hb
    omega
  · have hb2 : decide ((s.fns.length : Int) = 0) = true := by simpa using hb
    simp only [go_sem, Qj9, hb2]
    exact rest true H4 k2 (by omega) (by omega) kn (fun h => by simp at h)
end Go.AE.Y

namespace Go.AE.Y
open Go.Proofs.Tryz
theorem Q4u {R:Rdr}{gl k:Nat}{s:GS}{H:Heap}{K:V→Heap→Prop}(hR:H R.l=R.o k)(hG:H gl=s.o R)(hne:R.l≠gl)(hs:s.ok k)(hF:FnsOk H R gl s)(hk:k+201≤2^30)
  (hK:∀(x:Ex) (H':Heap) (k':Nat),k<k'→k'≤k+201→Upd H H' [(R.l,R.o k')]→x.ok→2 * k+x.size≤2 * k'→K (.ag x.cells) H') :
  Qp prog Qi2 [.c (.ptr gl 0)] H K:=by
 refine Qw ?_
 refine Qb Qah Qakw ?_
 refine Qa ?_
 simp only[go_sem]
 intro x2 hx2 H1 h1
 have kn:=(Kn.start2 hR (R.o_ne k) hG (s.o_ne R) hne).al hx2 h1
 have hG1:=kn.e 1 rfl
 refine Qaz ?_
 simp only[go_sem,hG1,GS.o]
 refine Qca 2 (by omega) (kn.e 0 rfl) (kn.e 1 rfl) hne hs (hF.keep kn rfl rfl) (by omega) fun e H2 k2 g1 g2 hu heok hesz=>?_
 have kn:=kn.callE 0 rfl hu (R.o_ne _)
 have hG2:=kn.e 1 rfl
 simp only[go_sem,Qsx,hG2,GS.o]
 refine Qrl (ns:=[16,16,16,8,17,0]) (kn.e 0 rfl) (by omega) (by simp) fun v H3 hv hu=>?_
 have kn:=kn.callE 0 rfl hu (R.o_ne _)
 have hx23:=kn.l 0 rfl
 simp only[go_sem,Qsw,hx23,e.cells_len]
 intro H4 h4
 have kn:=kn.stL 0 rfl h4
 have hx24:=kn.l 0 rfl
 refine Qi ?_
 simp only[go_sem,Qy,Q7,Q44,List.mem_singleton,forall_eq,RS.op,hx24]
 refine⟨(.ag (Ex.mk 7 0 [] [e,Ex.mk 1 v [] []]).cells),?_,hK _ _ (k2+1) (by omega) (by omega) (kn.fin.drop2 hG) ?_ ?_⟩
 ·rw[Ex.cells_eq (Ex.mk 7 0 [] _)]
  refine FrzL.ag ?_
  refine .cons (Qg rfl) (.cons (Qg rfl) (.cons (Qg rfl) (.cons (FrzR.sl (.cons (.same e.noOw) (.cons ?_ .nil))) .nil)))
  simp only[Ex.cells,Qv]
  exact .cons (Qg rfl) (.cons (Qg rfl) (.cons (Qg rfl) (.cons (FrzR.nil).sl .nil)))
 ·simp only[Ex.ok,Qep];exact⟨fun h=>rfl,heok,⟨fun h=>by simp at h,trivial⟩,trivial⟩
 ·simp only[Ex.size,Ql];omega
def Qa4i (d:Nat):Prop:=∀(R:Rdr) (gl k:Nat) (s:GS) (H:Heap) (K:V→Heap→Prop) (deep:Int),deep≤d→H R.l=R.o k→H gl=s.o R→R.l≠gl→s.ok k→FnsOk H R gl s→k+500 * 10^d≤2^30→
  (∀(l:List St) (s':GS) (H':Heap) (k':Nat),k<k'→k'≤k+500 * 10^d→Upd H H' [(R.l,R.o k'),(gl,s'.o R)]→s'.ok k'→s.left+4 * (k:Int)≤s'.left+4 * (k':Int)→s'.fns=s.fns→s'.ffl=s.ffl→l.length≤2→Qdu l→4 * k+Qh l≤4 * k'→K (.c (.sl false 5 (Qk l))) H')→
  Qp prog Qm6 [.c (.ptr gl 0),.c (.int .i64 deep)] H K
def Q78 (d:Nat):Prop:=∀(R:Rdr) (gl k:Nat) (s:GS) (H:Heap) (K:V→Heap→Prop) (deep:Int),deep≤d→H R.l=R.o k→H gl=s.o R→R.l≠gl→s.ok k→FnsOk H R gl s→k+2001 * 10^d≤2^30→
  (∀(l:List St) (c:C) (Lg:List (Nat×Obj)) (s':GS) (H':Heap) (k':Nat),k<k'→k'≤k+2001 * 10^d→Upd H H' [(R.l,R.o k'),(gl,s'.o R)]→Gr Lg 5 (Qk l) c→New H H' Lg→s'.ok k'→s.left+4 * (k:Int)≤s'.left+4 * (k':Int)→s'.fns=s.fns→s'.ffl=s.ffl→
   l.length≤8→Qdu l→4 * k+Qh l≤4 * k'→K (.c c) H')→
  Qp prog Qci [.c (.ptr gl 0),.c (.int .i64 deep)] H K
theorem Qasc {d:Nat}(hS:Qa4i d):Q78 d:=by
 intro R gl k s H K deep hd hR hG hne hs hF hk hK
 have hp0:d<10^d:=Nat.lt_pow_self (by omega)
 generalize hpe:10^d=e at *
 have hS':=hS
 simp only[Qa4i]at hS'
 rw[hpe]at hS'
 generalize hM:500 * e=M at *
 refine Q8b ?_
 refine Qb Qah Qaib ?_
 refine Qa ?_
 simp only[go_sem]
 refine Qa ?_
 simp only[go_sem,hG,GS.o]
 refine Qa ?_
 simp only[go_sem]
 refine Q4 ?_
 refine Qa ?_
 simp only[go_sem,hG,GS.o]
 have kn:=Kn.start2 hR (R.o_ne k) hG (s.o_ne R) hne
 refine Qrl (ns:=[2,3,1,4]) hR (by omega) (by simp) fun v H1 hv hu=>?_
 have kn:=kn.callE 0 rfl hu (R.o_ne _)
 simp only[go_sem,Qos]
 have hv4:1≤v∧v≤4:=by simp at hv;omega
 refine Qf (Qd (Q0 (fun n e1 H1=>∃(j k4:Nat) (l:List St) (c:C) (Lg:List (Nat×Obj)) (s':GS),n=v.toNat-j∧(j:Int)≤v∧k+1≤k4∧k4≤k+1+M * j∧4 * k+Qh l≤4 * k4∧Qdu l∧l.length≤2 * j∧
    Gr Lg 5 (Qk l) c∧s'.ok k4∧s.left+4 * (k:Int)≤s'.left+4 * (k4:Int)∧s'.fns=s.fns∧s'.ffl=s.ffl∧Kn H H1 [(R.l,R.o k4),(gl,s'.o R)] ([]++Lg)∧
    e1=[(0,V.c (C.ptr gl 0)),(1,.c (.int .i64 deep)),(5,.c (.sl s.vfl 1 (Q2 s.vars))),(6,.c c),(7,V.c (C.int IntKind.i64 (v-j)))]) v.toNat ?_ ?_))
 ·exact⟨0,k+1,[],_,[],s,by omega,by omega,by omega,by omega,by simp only[Qh];omega,trivial,by simp,.nil 5,hs.mono (by omega),by omega,rfl,rfl,kn,by simp⟩
 ·rintro n e1 H1 ⟨j,k4,l,c,Lg,s',hn,hj,hk4,hk4',hsz,hok,hll,hgr,hs',hlf,hf1,hf2,kn,rfl⟩
  have hG1:=kn.e 1 rfl
  have hMj:M * j≤M * 4:=Nat.mul_le_mul_left _ (by omega)
  refine Q4 ?_
  refine Qa ?_
  simp only[go_sem,hG1,GS.o]
  refine Qf (Qc rfl ?_ ?_)
  ·intro hc
   have hi:(j:Int)<v:=by
    cases h:decide (0<v-(j:Int))with
    |true=>have:0<v-(j:Int):=by simpa using h
           omega
    |false=>rw[h]at hc;simp at hc
   have hM1:M * (j+1)=M * j+M:=Nat.mul_succ _ _
   have hM2:M * (j+1)≤M * 4:=Nat.mul_le_mul_left _ (by omega)
   refine Qe ?_
   simp only[go_sem]
   refine Qf (Qd (Qs ?_))
   simp only[go_sem]
   refine hS' _ _ _ _ _ _ deep hd (kn.e 0 rfl) (kn.e 1 rfl) hne hs' (hF.keep kn hf1 hf2) (by omega) fun l2 s2 H2 k5 g1 g2 hu g3 glf g4 g5 g6 g7 g8=>?_
   have kn:=kn.callEE 0 1 rfl rfl (by decide) hu (R.o_ne _) (GS.o_ne _ _)
   simp only[go_sem,Qou]
   refine kn.grow hgr (.mk' _ _ _ (Qk l2)) (Qan _) (by simp only[Qn,LIM];omega) fun y' H3 kn=>?_
   simp only[go_sem,Qot]
   refine Qs ?_
   simp only[go_sem]
   refine⟨Qu (by omega) (by omega),?_⟩
   simp only[X.next]
   refine⟨v.toNat-(j+1),by omega,j+1,k5,l++l2,.vsl y' 5 0 ((Qk l).length+(Qk l2).length),_,s2,rfl,by omega,by omega,by omega,?_,Qadu hok g7,by simp;omega,?_,g3,by omega,g4.trans hf1,g5.trans hf2,kn,?_⟩
   ·rw[Qay];omega
   ·rw[Qkg];exact .mk _ _ _ (by simp[Qn])
   ·have:v-((j+1:Nat):Int)=v-j-1:=by omega
    rw[this]
  ·intro hc
   refine Q1 ?_
   simp only[go_sem,X.next]
   refine Qa ?_
   simp only[go_sem,hG1,GS.o]
   intro H2 h2
   have kn:Kn H H2 [(R.l,R.o k4),(gl,GS.o { s' with vars:=s.vars,vfl:=s.vfl } R)] ([]++Lg):=kn.stE 1 rfl h2
   refine Qa ?_
   simp only[go_sem]
   refine Qi ?_
   simp only[go_sem,Qy,Q7,Q1c,List.mem_singleton,forall_eq,RS.op]
   refine⟨unx H Lg,_,H2.frz (unx H Lg),.c _ _ (.same _ hgr.isOw),Qvf _ _,?_⟩
   refine hK l c Lg _ _ k4 (by omega) (by omega) kn.finx.1 hgr kn.finx.2 ⟨hs'.n0,hs'.n1,hs'.l0,hs'.l1,?_,hs'.f,hs'.fn⟩ (by show _≤s'.left+_;omega) hf1 hf2 (by omega) hok hsz
   have:=hs.v
   show s.vars.length≤_
   omega
end Go.AE.Y

namespace Go.AE.Y
open Go.Proofs.Tryz
def Qa4h (d:Nat):Prop:=∀(R:Rdr) (gl k:Nat) (s:GS) (H:Heap) (K:V→Heap→Prop) (deep:Int),deep≤d+1→2≤deep→H R.l=R.o k→H gl=s.o R→R.l≠gl→s.ok k→FnsOk H R gl s→k+2001 * 10^d+10≤2^30→
  (∀(l:List St) (s':GS) (H':Heap) (k':Nat),k+2<k'→k'≤k+2001 * 10^d+3→Upd H H' [(R.l,R.o k'),(gl,s'.o R)]→s'.ok k'→s.left+4 * (k:Int)≤s'.left+4 * (k':Int)→s'.fns=s.fns→s'.ffl=s.ffl→l.length≤2→Qdu l→4 * k+Qh l≤4 * k'→K (.c (.sl false 5 (Qk l))) H')→
  Qp prog Qm5 [.c (.ptr gl 0),.c (.int .i64 deep)] H K
theorem Qa5v {d:Nat}(hB:Q78 d):Qa4h d:=by
 intro R gl k s H K deep hd hd2 hR hG hne hs hF hk hK
 have hp0:d<10^d:=Nat.lt_pow_self (by omega)
 have hB':=hB
 simp only[Q78]at hB'
 generalize hpe:10^d=e at *
 refine Qw ?_
 refine Qb Qah Qaky ?_
 refine Qa ?_
 simp only[go_sem]
 refine Qa ?_
 simp only[go_sem,hG,GS.o]
 have kn:=Kn.start2 hR (R.o_ne k) hG (s.o_ne R) hne
 refine Qrl (ns:=[2,3,1,0,5]) hR (by omega) (by simp) fun v H1 hv hu=>?_
 have kn:=kn.callE 0 rfl hu (R.o_ne _)
 simp only[go_sem,Qs9]
 refine Q8t (x:=Ex.mk 1 v [] []) (fl:=true) (kn.e 0 rfl) (kn.e 1 rfl) hne (hs.mono (Nat.le_succ k)) (by omega) fun name H2 k2 g1 g2 hu=>?_
 have kn:=kn.callEE 0 1 rfl rfl (by decide) hu (R.o_ne _) (GS.o_ne _ _)
 simp only[go_sem,Qs8]
 intro x5 hx5 H3 h3
 have kn:=kn.al hx5 h3
 have hx53:=kn.l 0 rfl
 simp only[go_sem,Qs7,hx53,St.cells]
 intro H4 h4
 have kn:=kn.stL 0 rfl h4
 have hx54:=kn.l 0 rfl
 refine Qa ?_
 simp only[go_sem,hx54]
 intro x6 hx6 H5 h5
 have kn:=kn.al hx6 h5
 have hx65:=kn.l 1 rfl
 simp only[go_sem,Qta,hx65]
 intro H6 h6
 have kn:=kn.stL 1 rfl h6
 refine Qa ?_
 simp only[go_sem]
 refine⟨Qu (by omega) (by omega),?_⟩
 have hs2:GS.ok { s with next:=s.next+1,vars:=s.vars++[name],vfl:=false } k2:=by
  refine⟨?_,?_,?_,hs.l1,?_,hs.f,hs.fn⟩
  ·have:=hs.n0;show -1≤s.next+1;omega
  ·have:=hs.n1;show s.next+1≤_;omega
  ·have:=hs.l0;show _≤s.left;omega
  ·have:=hs.v;show (s.vars++[name]).length≤_;simp;omega
 refine hB' _ _ _ _ _ _ (deep-1) (by omega) (kn.e 0 rfl) (kn.e 1 rfl) hne hs2 (hF.keep kn rfl rfl) (by omega) fun l c Lg s3 H7 k3 g3 g4 hu hgr hnew hs3 glf g5 g6 g7 g8 g9=>?_
 have kn0:=kn
 have kn:=kn.callEE 0 1 rfl rfl (by decide) hu (R.o_ne _) (GS.o_ne _ _)
 have kn:=kn0.addGr kn rfl rfl hgr hnew
 have hx57:=kn.l 0 rfl
 have hx67:=kn.l 1 rfl
 simp only[go_sem,Qtb]
 refine Qa ?_
 simp only[go_sem,hx57,hx67]
 intro x8 hx8 H8 h8
 have kn:=kn.al hx8 h8
 have kn:=kn.perm (L':=[(x5,_),(x6,_),(x8,_)]++Lg) (by
  simp only[List.set,List.nil_append,List.cons_append]
  refine .cons _ (.cons _ ?_)
  exact List.perm_append_comm)
 have hx88:=kn.l 2 rfl
 simp only[go_sem,Qtc,hx88]
 intro H9 h9
 have kn:=kn.stL 2 rfl h9
 have hG9:=kn.e 1 rfl
 refine Qa ?_
 simp only[go_sem,hG9,GS.o]
 have hl0:=hs3.l0
 have hl1:=hs3.l1
 refine⟨Qu (by omega) (by omega),fun H10 h10=>?_⟩
 have kn:Kn H H10 [(R.l,R.o k3),(gl,GS.o { s3 with left:=s3.left-2 } R)] ([(x5,_),(x6,_),(x8,_)]++Lg):=kn.stE 1 rfl h10
 have hx5a:=kn.l 0 rfl
 have hx6a:=kn.l 1 rfl
 have hx8a:=kn.l 2 rfl
 refine Qaz ?_
 simp only[go_sem,hx5a,hx6a,hx8a]
 refine kn.grow hgr (.mk' _ _ _ _) (by intro r hr;simp only[List.mem_singleton]at hr;subst hr;rfl) (by simp only[Qn,LIM,List.length_cons,List.length_nil];omega) fun y' H11 kn=>?_
 have hx5b:=kn.l 0 rfl
 have hx6b:=kn.l 1 rfl
 have hyb:=kn.l 3 rfl
 simp only[go_sem,Qtd,hx5b,hx6b]
 refine Qi ?_
 simp only[go_sem,Qy,Q7,Q45,List.mem_singleton,forall_eq,RS.op]
 have hok1:GS.ok { s3 with left:=s3.left-2 } k3:=⟨hs3.n0,hs3.n1,by show _≤s3.left-2;have:=hs.l0;simp only at glf;omega,by show s3.left-2≤100;omega,hs3.v,hs3.f,hs3.fn⟩
 refine⟨.c (.sl false 5 (Qk [St.mk 1 name [Ex.mk 1 v [] []] [] [],St.mk 6 [] [Ex.mk 2 0 name []] (l++[St.mk 2 name [Ex.mk 4 0 [] [Ex.mk 2 0 name [],Ex.mk 1 1 [] []]] [] []]) []])),.c _ _ ?_,hK _ _ _ k3 (by omega) (by omega) kn.fin hok1 (by show _≤s3.left-2+_;simp only at glf;omega) g5 g6 (by simp) ?_ ?_⟩
 ·simp only[Qk,St.cells,Qv,Ex.cells,←Qkg]
  repeat' first|exact FrzL.nil|exact FrzR.nil|exact Qg rfl|exact FrzL.same (Ex.noOw _)|exact FrzL.same (St.noOw _)|refine FrzL.cons ?_ ?_|refine FrzR.cons ?_ ?_|refine FrzR.sl ?_
  refine FrzR.vsl (kn.un 3 rfl) hyb (by simp) (.app (.same (Qan _)) ?_)
  repeat' first|exact FrzL.nil|exact FrzR.nil|exact Qg rfl|exact FrzL.same (Ex.noOw _)|exact FrzL.same (St.noOw _)|refine FrzL.cons ?_ ?_|refine FrzR.cons ?_ ?_|refine FrzR.sl ?_
 ·simp only[Qdu,St.ok,Qep,Ex.ok]
  refine⟨⟨by simp,⟨⟨fun h=>by simp at h,trivial⟩,trivial⟩,trivial,trivial⟩,⟨by simp,⟨⟨fun h=>by simp at h,trivial⟩,trivial⟩,Qadu g8 ?_,trivial⟩,trivial⟩
  simp[Qdu,St.ok,Qep,Ex.ok]
 ·simp only[Qh,St.size,Qay,Ql,Ex.size];omega
end Go.AE.Y

namespace Go.AE.Y
open Go.Proofs.Tryz
theorem Qa7r {A L1 L2:List (Nat×Obj)}:(A++L1++L2).Perm (A++L2++L1):=by
 rw[List.append_assoc,List.append_assoc]
 exact .append_left _ List.perm_append_comm
set_option maxHeartbeats 2000000 in
theorem Qa0o {d : Nat} (hB : ∀ d', d = d' + 1 → Q78 d') : Qa4i d := by
  intro R gl k s H K deep hd hR hG hne hs hF hk hK
  have hp0 : d < 10^d := Nat.lt_pow_self (by omega)
  have hex : ∃ e, 10^d = e ∧ ∀ d', d = d' + 1 → 10 * 10^d' = e := ⟨10^d, rfl, fun d' h => by rw [h, Nat.pow_succ]; omega⟩
  obtain ⟨e, hpe, he'⟩ := hex
  rw [hpe] at hp0 hk hK
  have hl0 := hs.l0
  have hl1 := hs.l1
  refine Qw ?_
  refine Qb Qah Qakz ?_
  refine Qa ?_
  simp only [go_sem]
  refine Qa ?_
  simp only [go_sem, hG, GS.o]
  refine ⟨Qu (by omega) (by omega), fun H1 h1 => ?_⟩
  have kn : Kn H H1 [(R.l, R.o k), (gl, GS.o { s with left := s.left - 1 } R)] [] := (Kn.start2 hR (R.o_ne k) hG (s.o_ne R) hne).stE 1 rfl h1
  have hs1 : GS.ok { s with left := s.left - 1 } (k + 1) := ⟨hs.n0, by have := hs.n1; show s.next ≤ _; omega, by show _ ≤ s.left - 1; omega, by show s.left - 1 ≤ 100; omega, by have := hs.v; show s.vars.length ≤ _; omega, hs.f, hs.fn⟩
  have hlr : s.left ≤ ({ s with left := s.left - 1 } : GS).left + 1 := by show s.left ≤ s.left - 1 + 1; omega
  have hfn : ({ s with left := s.left - 1 } : GS).fns = s.fns := rfl
  have hff : ({ s with left := s.left - 1 } : GS).ffl = s.ffl := rfl
  have hF1 : FnsOk H R gl { s with left := s.left - 1 } := ⟨hF.1, hF.2⟩
  generalize ({ s with left := s.left - 1 } : GS) = s1 at *
  have hG1 := kn.e 1 rfl
  refine Qa ?_
  simp only [go_sem, hG1, GS.o]
  refine Qbt (kn.e 0 rfl) (by omega) fun v H2 hv hu => ?_
  have kn : Kn H H2 [(R.l, R.o (k + 1)), (gl, s1.o R)] [] := kn.callE 0 rfl hu (R.o_ne _)
  have hG2 := kn.e 1 rfl
  simp only [go_sem, Qtg]
  have fin : ∀ (l : List St) (c : C) (s' : GS) (H3 : Heap) (k3 : Nat) (L : List (Nat × Obj)), k < k3 → k3 ≤ k + 500 * e → Kn H H3 [(R.l, R.o k3), (gl, s'.o R)] L → FrzC H3 (un H) c (.sl false 5 (Qk l)) →
      s'.ok k3 → s1.left + 4 * ((k + 1 : Nat) : Int) ≤ s'.left + 4 * (k3 : Int) → s'.fns = s1.fns → s'.ffl = s1.ffl → l.length ≤ 2 → Qdu l → 4 * k + Qh l ≤ 4 * k3 → ∃ x', FrzV H3 (un H) (.c c) x' ∧ K x' (H3.frz (un H)) := by
    intro l c s' H3 k3 L g1 g2 kn g3 g4 g5 g6 g7 g8 g9 g10
    exact ⟨_, .c _ _ g3, hK l s' _ k3 g1 g2 kn.fin g4 (by omega) (g6.trans hfn) (g7.trans hff) g8 g9 g10⟩
  refine Qf (Qd ?_)
  refine Qa ?_
  simp only [go_sem, hG2, GS.o, Qq]
  intro hvl
  refine Qc rfl ?_ ?_
  ·
    intro hc
    have hv0 : 0 < s1.vars.length := by
      cases h : decide (v < 3) with
      | true => rw [h] at hc; simp at hc; omega
      | false => rw [h] at hc; simp at hc
    refine Qaz ?_
    simp only [go_sem, hG2, GS.o]
    refine of_c (kn.e 0 rfl) (by omega) hv0 fun name H3 hn hu => ?_
    have kn := kn.callE 0 rfl hu (R.o_ne _)
    simp only [go_sem, Qti]
    refine Qca 3 (by omega) (kn.e 0 rfl) (kn.e 1 rfl) hne (hs1.mono (by omega)) (hF1.keep kn rfl rfl) (by omega) fun x H4 k4 g1 g2 hu g3 g4 => ?_
    have kn := kn.callE 0 rfl hu (R.o_ne _)
    simp only [go_sem, Qth, x.cells_len]
    refine Qi ?_
    simp only [go_sem, Qy, Q7, Qa2, List.mem_singleton, forall_eq, RS.op]
    refine fin [St.mk 2 name [x] [] []] _ s1 H4 k4 _ (by omega) (by omega) kn ?_ (hs1.mono (by omega)) (by omega) rfl rfl (by simp) ?_ ?_
    · simp only [Qk, St.cells, Qv]
      repeat' first | exact FrzL.nil | exact FrzR.nil | exact Qg rfl | exact FrzL.same (Ex.noOw _) | exact FrzL.same (St.noOw _) | refine FrzL.cons ?_ ?_ | refine FrzR.cons ?_ ?_ | refine FrzR.sl ?_
    · simp only [Qdu, St.ok, Qep]; exact ⟨⟨by simp, ⟨g3, trivial⟩, trivial, trivial⟩, trivial⟩
    · simp only [Qh, St.size, Ql]; omega
  intro hc0
  refine Qa ?_
  simp only [go_sem]
  refine Qc rfl ?_ ?_
  ·
    intro hc
    refine Qa ?_
    simp only [go_sem]
    refine Qca 3 (by omega) (kn.e 0 rfl) (kn.e 1 rfl) hne (hs1.mono (by omega)) (hF1.keep kn rfl rfl) (by omega) fun x H4 k4 g1 g2 hu g3 g4 => ?_
    have kn := kn.callE 0 rfl hu (R.o_ne _)
    simp only [go_sem, Qtk, x.cells_eq]
    refine Q8t (x := x) (kn.e 0 rfl) (kn.e 1 rfl) hne (hs1.mono (by omega)) (by omega) fun name H5 k5 g5 g6 hu => ?_
    have kn := kn.callEE 0 1 rfl rfl (by decide) hu (R.o_ne _) (GS.o_ne _ _)
    simp only [go_sem, Qtj, St.cells_len]
    refine Qi ?_
    simp only [go_sem, Qy, Q7, Qa2, List.mem_singleton, forall_eq, RS.op]
    have h0 := hs1.n0
    have h1 := hs1.n1
    have h2 := hs1.l0
    have h3 := hs1.v
    refine fin [St.mk 1 name [x] [] []] _ _ H5 k5 _ (by omega) (by omega) kn ?_ ⟨?_, ?_, ?_, hs1.l1, ?_, hs1.f, hs1.fn⟩ (by show _ ≤ s1.left + _; omega) rfl rfl (by simp) ?_ ?_
    · simp only [Qk]
      repeat' first | exact FrzL.nil | exact FrzR.nil | exact Qg rfl | exact FrzL.same (Ex.noOw _) | exact FrzL.same (St.noOw _) | refine FrzL.cons ?_ ?_ | refine FrzR.cons ?_ ?_ | refine FrzR.sl ?_
    · show -1 ≤ s1.next + 1; omega
    · show s1.next + 1 ≤ _; omega
    · show _ ≤ s1.left; omega
    · show (s1.vars ++ [name]).length ≤ _; simp; omega
    · simp only [Qdu, St.ok, Qep]; exact ⟨⟨by simp, ⟨g3, trivial⟩, trivial, trivial⟩, trivial⟩
    · simp only [Qh, St.size, Ql]; omega
  intro hc1
  refine Qa ?_
  simp only [go_sem]
  refine Qc rfl ?_ ?_
  ·
    intro hc
    refine Qa ?_
    simp only [go_sem]
    refine Qca 3 (by omega) (kn.e 0 rfl) (kn.e 1 rfl) hne (hs1.mono (by omega)) (hF1.keep kn rfl rfl) (by omega) fun x H4 k4 g1 g2 hu g3 g4 => ?_
    have kn := kn.callE 0 rfl hu (R.o_ne _)
    simp only [go_sem, Qtl, x.cells_len]
    refine Qi ?_
    simp only [go_sem, Qy, Q7, Qa2, List.mem_singleton, forall_eq, RS.op]
    refine fin [St.mk 3 [] [x] [] []] _ s1 H4 k4 _ (by omega) (by omega) kn ?_ (hs1.mono (by omega)) (by omega) rfl rfl (by simp) ?_ ?_
    · simp only [Qk, St.cells, Qv]
      repeat' first | exact FrzL.nil | exact FrzR.nil | exact Qg rfl | exact FrzL.same (Ex.noOw _) | exact FrzL.same (St.noOw _) | refine FrzL.cons ?_ ?_ | refine FrzR.cons ?_ ?_ | refine FrzR.sl ?_
    · simp only [Qdu, St.ok, Qep]; exact ⟨⟨by simp, ⟨g3, trivial⟩, trivial, trivial⟩, trivial⟩
    · simp only [Qh, St.size, Ql]; omega
  intro hc2
  have hdp : 2 ≤ deep := by
    cases h : decide (v < 7) with
    | true => rw [h] at hc2; simp at hc2
    | false => rw [h] at hc2; simp at hc2; omega
  obtain ⟨d', hdd⟩ : ∃ d', d = d' + 1 := ⟨d - 1, by omega⟩
  have hB0 : Q78 d' := hB d' hdd
  have hL0 : Qa4h d' := Qa5v hB0
  have hB' := hB0
  have hL' := hL0
  simp only [Q78, Qa4h] at hB' hL'
  have he1 := he' d' hdd
  have hp1 : d' < 10^d' := Nat.lt_pow_self (by omega)
  generalize 10^d' = e1 at *
  refine Qa ?_
  simp only [go_sem]
  refine Qc rfl ?_ ?_
  ·
    intro hc
    refine Qa ?_
    simp only [go_sem]
    refine Q4u (kn.e 0 rfl) (kn.e 1 rfl) hne (hs1.mono (by omega)) (hF1.keep kn rfl rfl) (by omega) fun x H4 k4 g1 g2 hu g3 g4 => ?_
    have kn := kn.callE 0 rfl hu (R.o_ne _)
    simp only [go_sem, Qtn]
    refine Qca 2 (by omega) (kn.e 0 rfl) (kn.e 1 rfl) hne (hs1.mono (by omega)) (hF1.keep kn rfl rfl) (by omega) fun y H5 k5 g5 g6 hu g7 g8 => ?_
    have kn := kn.callE 0 rfl hu (R.o_ne _)
    simp only [go_sem, Qtm, x.cells_len, y.cells_len]
    refine Qi ?_
    simp only [go_sem, Qy, Q7, Qa2, List.mem_singleton, forall_eq, RS.op]
    refine fin [St.mk 4 [] [x, y] [] []] _ s1 H5 k5 _ (by omega) (by omega) kn ?_ (hs1.mono (by omega)) (by omega) rfl rfl (by simp) ?_ ?_
    · simp only [Qk, St.cells, Qv]
      repeat' first | exact FrzL.nil | exact FrzR.nil | exact Qg rfl | exact FrzL.same (Ex.noOw _) | exact FrzL.same (St.noOw _) | refine FrzL.cons ?_ ?_ | refine FrzR.cons ?_ ?_ | refine FrzR.sl ?_
    · simp only [Qdu, St.ok, Qep]; exact ⟨⟨by simp, ⟨g3, g7, trivial⟩, trivial, trivial⟩, trivial⟩
    · simp only [Qh, St.size, Ql]; omega
  intro hc3
  refine Qa ?_
  simp only [go_sem]
  refine Qc rfl ?_ ?_
  ·
    intro hc
    refine Qa ?_
    simp only [go_sem]
    refine Q4u (kn.e 0 rfl) (kn.e 1 rfl) hne (hs1.mono (by omega)) (hF1.keep kn rfl rfl) (by omega) fun x H4 k4 g1 g2 hu g3 g4 => ?_
    have kn := kn.callE 0 rfl hu (R.o_ne _)
    simp only [go_sem, Qto, x.cells_len]
    refine Qi ?_
    simp only [go_sem, Qy, Q7, Qa2, List.mem_singleton, forall_eq, RS.op]
    refine fin [St.mk 3 [] [Ex.mk 12 0 [] [x]] [] []] _ s1 H4 k4 _ (by omega) (by omega) kn ?_ (hs1.mono (by omega)) (by omega) rfl rfl (by simp) ?_ ?_
    · rw [Qk, Qk, St.cells, Qv, Qv, Ex.cells_eq (Ex.mk 12 0 [] _)]
      simp only [Qk, Qv, Ex.kids, Ex.op, Ex.n, Ex.name]
      repeat' first | exact FrzL.nil | exact FrzR.nil | exact Qg rfl | exact FrzL.same (Ex.noOw _) | exact FrzL.same (St.noOw _) | refine FrzL.cons ?_ ?_ | refine FrzR.cons ?_ ?_ | refine FrzR.sl ?_
    · simp only [Qdu, St.ok, Qep, Ex.ok]; exact ⟨⟨by simp, ⟨⟨fun h => by simp at h, g3, trivial⟩, trivial⟩, trivial, trivial⟩, trivial⟩
    · simp only [Qh, St.size, Ql, Ex.size]; omega
  intro hc4
  refine Qa ?_
  simp only [go_sem]
  refine Qc rfl ?_ ?_
  ·
    intro hc
    refine Qa ?_
    simp only [go_sem]
    refine Qca 3 (by omega) (kn.e 0 rfl) (kn.e 1 rfl) hne (hs1.mono (by omega)) (hF1.keep kn rfl rfl) (by omega) fun x H4 k4 g1 g2 hu g3 g4 => ?_
    have kn := kn.callE 0 rfl hu (R.o_ne _)
    simp only [go_sem, Qo1, x.cells_len]
    refine ⟨Qu (by omega) (by omega), ?_⟩
    refine hB' _ _ _ _ _ _ (deep - 1) (by omega) (kn.e 0 rfl) (kn.e 1 rfl) hne (hs1.mono (by omega)) (hF1.keep kn rfl rfl) (by omega) fun b1 c1 L1 s2 H5 k5 g5 g6 hu hg1 hnew hs2 glf g7 g8 g9 g10 g11 => ?_
    have kn0 := kn
    have kn := kn.callEE 0 1 rfl rfl (by decide) hu (R.o_ne _) (GS.o_ne _ _)
    have kn := kn0.addGr kn rfl rfl hg1 hnew
    have hc1ow := hg1.isOw
    simp only [go_sem, Qo0]
    intro x6 hx6 H6 h6
    have kn := kn.al hx6 h6
    have kn := kn.perm (L' := [(x6, _)] ++ L1) List.perm_append_comm
    have hx66 := kn.l 0 rfl
    simp only [go_sem, Qtp, hx66]
    intro H7 h7
    have kn : Kn H H7 [(R.l, R.o k5), (gl, s2.o R)] ([(x6, _)] ++ L1) := kn.stL 0 rfl h7
    have hG7 := kn.e 1 rfl
    refine Q4 ?_
    refine Qa ?_
    simp only [go_sem, hG7, GS.o]
    refine Qbt (kn.e 0 rfl) (by omega) fun v2 H8 hv2 hu => ?_
    have kn : Kn H H8 [(R.l, R.o (k5 + 1)), (gl, s2.o R)] ([(x6, _)] ++ L1) := kn.callE 0 rfl hu (R.o_ne _)
    simp only [go_sem, Qo2]
    have rest : ∀ (E1 : Env) (hE : lk 6 E1 = V.c (C.ptr x6 0)) (c2 : C) (b2 : List St) (L2 : List (Nat × Obj)) (s3 : GS) (H9 : Heap) (k6 : Nat), k5 + 1 ≤ k6 → k6 ≤ k5 + 1 + 2001 * e1 → Gr L2 5 (Qk b2) c2 →
        Kn H H9 [(R.l, R.o k6), (gl, s3.o R)] ([(x6, .st [.int .i64 5, .str [], .sl true 4 [x.cells], c1, c2])] ++ L1 ++ L2) → s3.ok k6 → s2.left + 4 * ((k5 + 1 : Nat) : Int) ≤ s3.left + 4 * (k6 : Int) → s3.fns = s2.fns → s3.ffl = s2.ffl → Qdu b2 → 4 * (k5 + 1) + Qh b2 ≤ 4 * k6 →
        Q8 prog Qte (X.inBlock 0 (X.sq prog Qka (Qy Qa2 (unK H K)))) E1 H9 := by
      intro E1 hE c2 b2 L2 s3 H9 k6 e1 e2 hg2 kn e3 e4 e5 e6 e7 e8
      have hx69 := kn.l 0 rfl
      have hc2ow := hg2.isOw
      refine Qa ?_
      simp only [go_sem, hE, hx69, hc1ow, hc2ow]
      refine Qi ?_
      simp only [go_sem, Qy, Q7, Qa2, List.mem_singleton, forall_eq, RS.op]
      refine fin [St.mk 5 [] [x] b1 b2] _ s3 H9 k6 _ (by omega) (by omega) kn ?_ e3 (by omega) (e5.trans g7) (e6.trans g8) (by simp) ?_ ?_
      · simp only [Qk, St.cells, Qv]
        repeat' first | exact FrzL.nil | exact FrzR.nil | exact Qg rfl | exact FrzL.same (Ex.noOw _) | exact FrzL.same (St.noOw _) | refine FrzL.cons ?_ ?_ | refine FrzR.cons ?_ ?_ | refine FrzR.sl ?_
        · exact hg1.frz (kn.perm Qa7r) (Qan _)
        · exact hg2.frz kn (Qan _)
      · simp only [Qdu, St.ok, Qep]; exact ⟨⟨by simp, ⟨g3, trivial⟩, g10, e7⟩, trivial⟩
      · simp only [Qh, St.size, Ql]; omega
    refine Qf (Qc rfl ?_ ?_)
    · intro hc'
      refine Qs ?_
      simp only [go_sem]
      refine ⟨Qu (by omega) (by omega), ?_⟩
      refine hB' _ _ _ _ _ _ (deep - 1) (by omega) (kn.e 0 rfl) (kn.e 1 rfl) hne (hs2.mono (by omega)) (hF1.keep kn g7 g8) (by omega) fun b2 c2 L2 s3 H9 k6 q1 q2 hu hg2 hnew hs3 q3 q4 q5 q6 q7 q8 => ?_
      have kn0 := kn
      have kn := kn.callEE 0 1 rfl rfl (by decide) hu (R.o_ne _) (GS.o_ne _ _)
      have kn := kn0.addGr kn rfl rfl hg2 hnew
      have hx69 := kn.l 0 rfl
      simp only [go_sem, Qo3, hx69]
      intro H10 h10
      have kn : Kn H H10 [(R.l, R.o k6), (gl, s3.o R)] ([(x6, _)] ++ L1 ++ L2) := kn.stL 0 rfl h10
      exact rest _ (by simp [lk]) c2 b2 L2 s3 H10 k6 (by omega) (by omega) hg2 kn hs3 (by omega) q4 q5 q7 (by omega)
    · intro hc'
      refine Qe ?_
      simp only [go_sem]
      exact rest _ (by simp [lk]) _ [] [] s2 H8 (k5 + 1) (by omega) (by omega) (.nil 5) (by rw [List.append_nil]; exact kn) (hs2.mono (by omega)) (by omega) rfl rfl trivial (by simp only [Qh]; omega)
  · intro hc5
    refine Qa ?_
    simp only [go_sem, hG2, GS.o]
    have rest : ∀ (b : Bool) (H3 : Heap) (k3 : Nat), k + 1 ≤ k3 → k3 ≤ k + 2 → Kn H H3 [(R.l, R.o k3), (gl, s1.o R)] [] →
        Q8 prog Qtf (X.inBlock 0 (X.sq prog Qka (Qy Qa2 (unK H K))))
         [(0, V.c (C.ptr gl 0)), (1, .c (.int .i64 deep)), (109, .c (.bool b))] H3 := by
      intro b H3 k3 e3 e4 kn
      refine Qc rfl ?_ ?_
      · intro hb
        refine Qa ?_
        simp only [go_sem]
        refine Qca 2 (by omega) (kn.e 0 rfl) (kn.e 1 rfl) hne (hs1.mono (by omega)) (hF1.keep kn rfl rfl) (by omega) fun x H4 k4 g1 g2 hu g3 g4 => ?_
        have kn := kn.callE 0 rfl hu (R.o_ne _)
        simp only [go_sem, Qo4, x.cells_len]
        refine Qi ?_
        simp only [go_sem, Qy, Q7, Qa2, List.mem_singleton, forall_eq, RS.op]
        refine fin [St.mk 7 [] [x] [] []] _ s1 H4 k4 _ (by omega) (by omega) kn ?_ (hs1.mono (by omega)) (by omega) rfl rfl (by simp) ?_ ?_
        · simp only [Qk, St.cells, Qv]
          repeat' first | exact FrzL.nil | exact FrzR.nil | exact Qg rfl | exact FrzL.same (Ex.noOw _) | exact FrzL.same (St.noOw _) | refine FrzL.cons ?_ ?_ | refine FrzR.cons ?_ ?_ | refine FrzR.sl ?_
        · simp only [Qdu, St.ok, Qep]; exact ⟨⟨by simp, ⟨g3, trivial⟩, trivial, trivial⟩, trivial⟩
        · simp only [Qh, St.size, Ql]; omega
      · intro hb
        refine Qe ?_
        simp only [go_sem]
        refine Qa ?_
        simp only [go_sem]
        refine hL' _ _ _ _ _ _ deep (by omega) hdp (kn.e 0 rfl) (kn.e 1 rfl) hne (hs1.mono (by omega)) (hF1.keep kn rfl rfl) (by omega) fun l s2 H4 k4 g1 g2 hu g3 g4 g5 g6 g7 g8 g9 => ?_
        have kn := kn.callEE 0 1 rfl rfl (by decide) hu (R.o_ne _) (GS.o_ne _ _)
        simp only [go_sem, Qo5]
        refine Qi ?_
        simp only [go_sem, Qy, Q7, Qa2, List.mem_singleton, forall_eq, RS.op]
        exact fin l _ s2 H4 k4 _ (by omega) (by omega) kn (Qg rfl) g3 (by omega) g5 g6 g7 g8 (by omega)
    refine ⟨fun hb => ?_, fun hb => ?_⟩
    · refine Qbt (kn.e 0 rfl) (by omega) fun v2 H3 hv2 hu => ?_
      have kn := kn.callE 0 rfl hu (R.o_ne _)
      simp only [go_sem, Qhq]
      exact rest _ H3 (k + 1 + 1) (by omega) (by omega) kn
    · simp only [go_sem, Qhq, hb]
      exact rest _ H2 (k + 1) (by omega) (by omega) kn
theorem Qa4p (d:Nat):Q78 d:=by
 induction d with
 |zero=>exact Qasc (Qa0o (fun d' h=>absurd h (by omega)))
 |succ d ih=>exact Qasc (Qa0o (fun d' h=>by
   have:d'=d:=by omega
   rw[this];exact ih))
end Go.AE.Y

