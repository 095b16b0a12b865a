/- Part 5 of the proof: the engine, codes, walks and plain laws, each named where it stands. -/
import Derived.Test.YthnafimjdcihlaaGreatDoorZD
open Nat (reduceEqDiff reduceAdd reduceLeDiff reduceLT)
set_option linter.unusedVariables false
set_option linter.unusedSimpArgs false
set_option maxRecDepth 4000
set_option maxHeartbeats 8000000
open Bool renaming and_eq_true->Jb,or_eq_true->J9,true_and->Jag,not_eq_true'->Jaq,false_and->Jau
open Int renaming toNat_natCast->Jac,eq_ofNat_of_zero_le->Jah
open List renaming mem_singleton->Ja,length_cons->Jc,getD_cons_zero->Jd,take_succ_cons->Je,length_nil->Jf,all_cons->Jg,take_zero->Jh,take_of_length_le->Ji,all_nil->Jj,append_nil->Jk,append_assoc->Jm,mem_append_left->Jn,getElem_mem->Jp,take_succ_eq_append_getElem->Jq,length_map->Jr,mem_append_right->Js,getD_cons_succ->Jt,mem_append->Ju,map_cons->Jv,length_eq_zero_iff->Jw,all_eq_true->Jx,mem_cons_of_mem->Jy,getElem_map->Jz,drop_zero->J0,perm_append_comm->J1,mem_cons_self->J2,mem_cons->J3,getElem?_eq_getElem->J5,drop_nil->J6,headD_nil->J7,mem_map->J8,take_nil->Jaa,length_eq_one_iff->Jab,getD_eq_getElem?_getD->Jae,drop_eq_getElem_cons->Jaf,cons_append->Jai,length_take->Jaj,foldl_cons->Jal,getElem?_eq_none->Jam,map_append->Jan,nil_append->Jao,forall_mem_cons->Jap,not_mem_nil->Jar,count_cons->Jas,headD_cons->Jat,map_nil->Jav,map_id->Jaw
open List.Perm renaming append_left->Jak
open List.cons renaming injEq->J4
open Nat renaming le_refl->Jl
open Option.some renaming injEq->Jo,inj->Jad
namespace Go.AE.Y
variable {fns:List Fn}{S:Nat}
def nm (v:Vars):List (List (List UInt8)):=v.map fun b=>b.map Prod.fst
theorem Kc (v:Vars)(s:List UInt8):(v.find s).isSome=true↔s∈(nm v).flatten:=by
 rw[Vars.find,Option.isSome_map,List.find?_isSome];simp only[nm,List.mem_flatten,J8,decide_eq_true_eq];constructor
 ·rintro⟨p,⟨b,hb,hp⟩,rfl⟩;exact⟨_,⟨b,hb,rfl⟩,J8.2 ⟨p,hp,rfl⟩⟩
 ·rintro⟨_,⟨b,hb,rfl⟩,hs⟩;obtain⟨p,hp,rfl⟩:=J8.1 hs;exact⟨p,⟨b,hb,hp⟩,rfl⟩
theorem DW {v w:Vars}(h:nm v=nm w){s:List UInt8}(hf:(v.find s).isSome=true):(w.find s).isSome=true:=by
 rw[Kc]at hf⊢;rw[←h];exact hf
theorem Es (v:Vars)(s:List UInt8)(n:Nat):nm (A8 v s n)=(s::(nm v).headD [])::(nm v).tail:=by
 cases v <;> rfl
theorem IK (s:List UInt8)(n:Nat):∀b:List (List UInt8×Nat),(setB s n b).map Prod.fst=b.map Prod.fst
 |[]=>rfl
 |p::r=>by
  simp only[setB];split
  ·rename_i h;simp[h]
  ·rw[Jv,Jv,IK s n r]
theorem IJ (s:List UInt8)(n:Nat):∀v:Vars,nm (setV s n v)=nm v
 |[]=>rfl
 |b::v=>by
  simp only[setV];split
  ·simp only[nm,Jv,IK]
  ·have:=IJ s n v;simp only[nm,Jv]at this⊢;rw[this]
theorem II (v:Vars):nm v.tail=(nm v).tail:=by cases v <;> rfl
theorem XX {v w:Vars}(h:nm v=nm w)(hw:w≠[]):v≠[]:=by
 rintro rfl
 cases w with
 |nil=>exact hw rfl
 |cons b w=>simp[nm]at h
def Tot (fns:List Fn)(S:Nat)(t:Tk)(m:Ms)(P:Rt→Prop):Prop:=∃h r m',Ev fns S h t m r m'∧m.u≤m'.u∧m'.u≤S∧P r
def isV (r:Rt):Prop:=(∃z,r=.val z)∨∃z,r=.dn z
def CalT (fns:List Fn)(S:Nat)(l:List Ex):Prop:=∀e∈l,e.op=13→∃j,∃hj:j<fns.length,Ai fns e.name=some j∧fns[j].params.length=e.kids.length∧
 ∀ns m,ns.length=fns[j].params.length→m.u≤S→Tot fns S (.call fns[j] ns) m isV
theorem CalT.sub {l l':List Ex}(h:CalT fns S l)(hs:∀e∈l',e∈l):CalT fns S l':=fun e he=>h e (hs e he)
theorem Dv {op n:Int}{name:List UInt8}{kids:List Ex}{d:Int}(h:(Ex.mk op n name kids).form d=true) :
  Az kids (d-1)=true∧(op=1∨op=2→kids=[])∧(3≤op→op≤10→kids.length=2)∧(op=11∨op=12→kids.length=1)∧(0≤n∧n≤255)∧1≤op∧op≤13:=by
 simp only[Ex.form,Ez,Jb,decide_eq_true_eq]at h;obtain⟨⟨_,⟨⟨⟨⟨⟨h1,h2⟩,_⟩,_⟩,h5⟩,_⟩⟩,h3⟩:=h;refine⟨h3,fun ho=>?_,fun h3 bP=>?_,fun ho=>?_,h5,h1.1,h1.2⟩
 ·simp only[AS,ho,if_true]at h2;exact Jw.1 ZT
 ·simp only[AS,AX]at h2;rw[if_neg ZT,if_neg ZT,if_neg ZT,if_neg ZT,if_neg ZT]at h2;omega
 ·simp only[AS,AX]at h2;rw[if_neg ZT,if_pos ho,if_neg ZT,if_pos ho]at h2;omega
mutual
theorem Ex.tot:∀(x:Ex) (d:Int) (v:Vars) (m:Ms),x.form d=true→AllV v x.pre→CalT fns S x.pre→m.u≤S→Tot fns S (.ex x v) m isV
 |.mk op n name kids,d,v,m,hf,hv,hc,hm=>by
  obtain⟨f1,f2,f3,f4,f5,f6⟩:=Dv hf;have jB:AllV v (Q7 kids):=fun e he=>hv e (Jy _ he);have cH:CalT fns S (Q7 kids):=hc.sub fun e he=>Jy _ he;by_cases h1:op=1
  ·exact⟨_,_,_,.num h1 f5.1 f5.2,Jl _,hm,.inl ⟨_,rfl⟩⟩
  by_cases h2:op=2
  ·obtain⟨z,hz⟩:=Option.isSome_iff_exists.1 (hv _ J2 h2);exact⟨_,_,_,.var h2 hz,Jl _,hm,.inl ⟨_,rfl⟩⟩
  by_cases cy:op=13
  ·obtain⟨j,hj,kw,eH,ka⟩:=hc _ J2 cy;obtain⟨a,r,m1,e1,u1,s1,hr⟩:=Iz kids (d-1) v m f1 jB cH hm;rcases hr with ⟨ns,rfl,ft⟩|⟨z,rfl⟩
   ·obtain⟨b,r2,m2,e2,u2,s2,bw⟩:=ka ns m1 (by rw[eH];exact ft) s1;exact⟨_,_,_,.call hj cy kw eH e1 e2,ZT,s2,bw⟩
   ·exact⟨_,_,_,.callS hj cy kw eH e1,u1,s1,.inr ⟨_,rfl⟩⟩
  match kids,f1,f2,f3,f4,jB,cH with
  |[],_,f2,f3,f4,_,_=>
   exfalso;by_cases bP:op≤10
   ·have:=f3 ZT bP;simp at this
   ·have:=f4 ZT;simp at this
  |k::l,f1,f2,f3,f4,jB,cH=>
   simp only[Az,Jb]at f1;simp only[Q7]at jB cH;obtain⟨a,r,m1,e1,u1,s1,hr⟩:=Ex.tot k (d-1) v m f1.1 jB.app.1 (cH.sub fun e he=>Jn _ he) hm;rcases hr with ⟨x,rfl⟩|⟨z,rfl⟩
   ·match l,f1,f3,f4,jB,cH with
    |[],f1,f3,f4,jB,cH=>
     by_cases cM:op=11
     ·exact⟨_,_,_,.not cM rfl e1,u1,s1,.inl ⟨_,rfl⟩⟩
     by_cases dr:op=12
     ·by_cases hx:x<16
      ·exact⟨_,_,_,.at_ dr rfl e1 hx,u1,s1,.inl ⟨_,rfl⟩⟩
      ·exact⟨_,_,_,.atS dr rfl e1 ZT,u1,s1,.inr ⟨_,rfl⟩⟩
     have:=f3 ZT ZT;simp at this
    |[k2],f1,f3,f4,jB,cH=>
     have bP:op≤10:=by
      by_cases h:op≤10
      ·exact h
      ·have:=f4 ZT;simp at this
     simp only[Az,Jb]at f1;simp only[Q7]at jB cH;have ih2:=fun m hm=>Ex.tot k2 (d-1) v m f1.2.1 jB.app.2.app.1 (cH.sub fun e he=>Js _ (Jn _ he)) hm;by_cases h:op=10
     ·by_cases hx:x=0
      ·subst hx;exact⟨_,_,_,.and0 h rfl e1,u1,s1,.inl ⟨_,rfl⟩⟩
      ·obtain⟨b,r2,m2,e2,u2,s2,bw⟩:=ih2 m1 s1;rcases bw with ⟨y,rfl⟩|⟨z,rfl⟩
       ·exact⟨_,_,_,.and1 h rfl e1 hx e2,ZT,s2,.inl ⟨_,rfl⟩⟩
       ·exact⟨_,_,_,.andS h rfl e1 hx e2,ZT,s2,.inr ⟨_,rfl⟩⟩
     ·obtain⟨b,r2,m2,e2,u2,s2,bw⟩:=ih2 m1 s1;have h3:3≤op:=ZT;have h9:op≤9:=ZT;rcases bw with ⟨y,rfl⟩|⟨z,rfl⟩
      ·cases hw:arN op x y with
       |none=>exact⟨_,_,_,.arD h3 h9 rfl e1 e2 hw,ZT,s2,.inr ⟨_,rfl⟩⟩
       |some w=>exact⟨_,_,_,.ar h3 h9 rfl e1 e2 hw,ZT,s2,.inl ⟨_,rfl⟩⟩
      ·exact⟨_,_,_,.arS h3 h9 rfl e1 e2,ZT,s2,.inr ⟨_,rfl⟩⟩
    |_::_::_,f1,f3,f4,jB,cH=>
     exfalso;by_cases bP:op≤10
     ·have:=f3 ZT bP;simp at this
     ·have:=f4 ZT;simp at this
   ·exact⟨_,_,_,.kidS (show 3≤op by omega) (show op≤12 by omega) rfl (fun h=>by rintro rfl;have:=f3 ZT h;simp at this) e1,u1,s1,.inr ⟨_,rfl⟩⟩
theorem Iz:∀(l:List Ex) (d:Int) (v:Vars) (m:Ms),Az l d=true→AllV v (Q7 l)→CalT fns S (Q7 l)→m.u≤S→Tot fns S (.exs l v) m fun r=>(∃ns,r=.vals ns∧ns.length=l.length)∨∃z,r=.dn z
 |[],d,v,m,hf,hv,hc,hm=>⟨_,_,_,.nil,Jl _,hm,.inl ⟨[],rfl,rfl⟩⟩
 |x::l,d,v,m,hf,hv,hc,hm=>by
  simp only[Az,Jb]at hf;simp only[Q7]at hv hc;obtain⟨a,r,m1,e1,u1,s1,hr⟩:=Ex.tot x d v m hf.1 hv.app.1 (hc.sub fun e he=>Jn _ he) hm;rcases hr with ⟨n,rfl⟩|⟨z,rfl⟩
  ·obtain⟨b,r2,m2,e2,u2,s2,bw⟩:=Iz l d v m1 hf.2 hv.app.2 (hc.sub fun e he=>Js _ he) s1;rcases bw with ⟨ns,rfl,ft⟩|⟨z,rfl⟩
   ·exact⟨_,_,_,.cons e1 e2,ZT,s2,.inl ⟨_,rfl,by simp[ft]⟩⟩
   ·exact⟨_,_,_,.consS2 e1 e2,ZT,s2,.inr ⟨_,rfl⟩⟩
  ·exact⟨_,_,_,.consS e1,u1,s1,.inr ⟨_,rfl⟩⟩
end
def isE (v:Vars)(w:Vars)(r:Rt):Prop:=(∃z,r=.dn z)∨(∃v',r=.env none v'∧nm v'=nm w)∨∃b v',r=.env (some b) v'∧(nm v').tail=(nm v).tail
def BlkT (fns:List Fn)(S k d:Nat):Prop:=∀(l:List St) (dp:Int) (v w:Vars) (n:Nat) (m:Ms),S-m.u≤d→m.u≤S→Qx l dp=true→(Ae fns k l ⟨w,0,n⟩).c=0→w≠[]→nm v=nm w→CalT fns S (Bc l)→
 Tot fns S (.blk l v) m (fun r=>(∃z,r=.dn z)∨∃b v',r=.env b v'∧(nm v').tail=(nm v).tail)
def LpT (fns:List Fn)(S k d:Nat):Prop:=∀(a:Ex) (op:Int) (name:List UInt8) (body els:List St) (dp:Int) (v w:Vars) (n:Nat) (m:Ms),S-m.u≤d→m.u≤S→a.valid=true→AllV v a.pre→Qx body dp=true→(Ae fns k body ⟨[]::w,0,n⟩).c=0→nm v=nm w→CalT fns S (a.pre++Bc body)→
 Tot fns S (.lp (.mk op name [a] body els) v) m (fun r=>(∃z,r=.dn z)∨∃b v',r=.env b v'∧nm v'=nm v)
theorem AllV.nm {v w:Vars}(h:nm v=nm w){l:List Ex}(ha:AllV v l):AllV w l:=fun e he ho=>DW h (ha e he ho)
theorem RP {a:Ex}(h:a.valid=true):a.form 6=true:=by
 rw[Ex.valid,Jb]at h;exact h.1
theorem Yg {k d:Nat}(hB:BlkT fns S k d)(hL:∀d',d'<d→LpT fns S k d'):LpT fns S k d:=by
 intro a op name body els dp v w n m hd hm kG hv hf cH dy hc;obtain⟨x,r,m1,e1,u1,s1,hr⟩:=Ex.tot a 6 v m (RP kG) hv (hc.sub fun e he=>Jn _ he) hm;rcases hr with ⟨z,rfl⟩|⟨z,rfl⟩
 ·by_cases hz:z=0
  ·subst hz;exact⟨_,_,_,.lp0 rfl e1,u1,s1,.inr ⟨_,_,rfl,rfl⟩⟩
  ·obtain⟨y,r2,m2,e2,u2,s2,bw⟩:=hB body dp ([]::v) ([]::w) n m1 ZT s1 hf cH ZV Za8 (hc.sub fun e he=>Js _ he);rcases bw with ⟨z,rfl⟩|⟨b,v',rfl,lw⟩
   ·exact⟨_,_,_,.lpD rfl e1 hz e2,ZT,s2,.inl ⟨_,rfl⟩⟩
   ·have pL:nm v'.tail=nm v:=by rw[II,lw];rfl
    cases b with
    |some q=>exact⟨_,_,_,.lpB rfl e1 hz e2,ZT,s2,.inr ⟨_,_,rfl,pL⟩⟩
    |none=>
     by_cases hu:m2.u=S
     ·exact⟨_,_,_,.lpF rfl e1 hz e2 hu,ZT,s2,.inl ⟨_,rfl⟩⟩
     ·obtain⟨t,r3,m3,e3,u3,s3,gZ⟩:=hL (S-(m2.u+1)) ZT a op name body els dp v'.tail w n ⟨m2.u+1,m2.s,m2.c⟩ (Jl _) (by simp only;omega) kG (hv.nm pL.symm) hf cH (pL.trans dy) hc;simp only at u3;refine⟨_,_,_,.lpN rfl e1 hz e2 ZT e3,ZT,s3,?_⟩;rcases gZ with ⟨z,rfl⟩|⟨b,v2,rfl,h2⟩
      ·exact .inl ⟨_,rfl⟩
      ·exact .inr ⟨_,_,rfl,h2.trans pL⟩
 ·exact⟨_,_,_,.lpS rfl e1,u1,s1,.inl ⟨_,rfl⟩⟩
theorem Et {v v':Vars}{b:List (List UInt8×Nat)}(h:(nm v').tail=(nm (b::v)).tail):nm v'.tail=nm v:=by rw[II,h];rfl
theorem Xf {k d:Nat}(hB:BlkT fns S k d)(hL:LpT fns S k d):∀(x:St) (dp:Int) (v w:Vars) (n:Nat) (m:Ms),S-m.u≤d→m.u≤S→x.form dp=true→(x.ck fns k ⟨w,0,n⟩).c=0→w≠[]→nm v=nm w→CalT fns S x.pre→
  Tot fns S (.st x v) m (isE v (if x.op=1 then A8 w x.name n else w))
 |.mk op name args body els,dp,v,w,n,m,hd,hm,hf,cH,hw,dy,hc=>by
  obtain⟨f1,f2,f3,f4,f5,f6,f7⟩:=Qbam hf;obtain⟨c1,c2,c3,c4,c5⟩:=Rd cH;have dU:AllV v (Q7 args):=c1.nm dy.symm;simp only[St.pre]at hc;have lH:CalT fns S (Q7 args):=hc.sub fun e he=>Jn _ (Jn _ he);have tF:CalT fns S (Bc body):=hc.sub fun e he=>Jn _ (Js _ he);have hcE:CalT fns S (Bc els):=hc.sub fun e he=>Js _ he;show Tot fns S (.st (.mk op name args body els) v) m (isE v (if op=1 then A8 w name n else w))
  match args,f5,f6,c1,dU,lH with
  |[],f5,_,_,_,_=>exfalso;simp only[AO,Jf]at f5;split at f5 <;> omega
  |[a],f5,f6,c1,dU,lH=>
   have h4:¬op=4:=by rintro rfl;simp[AO]at f5
   have kG:=f6 a ZV;have dG:AllV v a.pre:=by simp only[Q7,Jk]at dU;exact dU
   have tE:CalT fns S a.pre:=by simp only[Q7,Jk]at lH;exact lH
   by_cases h6:op=6
   ·rw[if_neg (by omega:¬op=1)]at c3;rw[if_neg (by omega:¬op=1)]at c3;obtain⟨y,r,m1,e1,u1,s1,hr⟩:=hL a op name body els (dp-1) v w n m hd hm kG dG f1 c3 dy (fun e he=>by
     rcases Ju.1 he with he|he
     ·exact tE e he
     ·exact tF e he)
    refine⟨_,_,_,.loop h6 e1,u1,s1,?_⟩;rcases hr with ⟨z,rfl⟩|⟨b,v',rfl,h⟩
    ·exact .inl ⟨_,rfl⟩
    ·cases b with
     |none=>exact .inr (.inl ⟨_,rfl,by rw[if_neg (by omega:¬op=1)];exact h.trans dy⟩)
     |some b=>exact .inr (.inr ⟨_,_,rfl,Zau⟩)
   obtain⟨y,r,m1,e1,u1,s1,hr⟩:=Ex.tot a 6 v m (RP kG) dG tE hm;rcases hr with ⟨x,rfl⟩|⟨z,rfl⟩
   ·by_cases h1:op=1
    ·refine⟨_,_,_,.let_ h1 rfl e1,u1,s1,.inr (.inl ⟨_,rfl,?_⟩)⟩;rw[if_pos h1,Es,Es,dy];rfl
    ·rw[if_neg h1];rw[if_neg h1]at c3 c4;rw[if_neg h1]at c3 c4;by_cases h2:op=2
     ·exact⟨_,_,_,.set h2 rfl (DW dy.symm (c2 h2)) e1,u1,s1,.inr (.inl ⟨_,rfl,by rw[IJ];exact dy⟩)⟩
     by_cases h3:op=3
     ·exact⟨_,_,_,.say h3 rfl e1,u1,s1,.inr (.inl ⟨_,rfl,dy⟩)⟩
     by_cases h5:op=5
     ·by_cases hx:x=0
      ·subst hx;obtain⟨y2,r2,m2,e2,u2,s2,bw⟩:=hB els (dp-1) ([]::v) ([]::w) _ m1 ZT s1 f2 c4 ZV Za8 hcE;refine⟨_,_,_,.iff_ h5 rfl e1 e2,ZT,s2,?_⟩;rcases bw with ⟨z,rfl⟩|⟨b,v',rfl,h⟩
       ·exact .inl ⟨_,rfl⟩
       ·cases b with
        |none=>exact .inr (.inl ⟨_,rfl,(Et h).trans dy⟩)
        |some b=>exact .inr (.inr ⟨_,_,rfl,by rw[Et h]⟩)
      ·obtain⟨y2,r2,m2,e2,u2,s2,bw⟩:=hB body (dp-1) ([]::v) ([]::w) _ m1 ZT s1 f1 c3 ZV Za8 tF;refine⟨_,_,_,.ift h5 rfl e1 hx e2,ZT,s2,?_⟩;rcases bw with ⟨z,rfl⟩|⟨b,v',rfl,h⟩
       ·exact .inl ⟨_,rfl⟩
       ·cases b with
        |none=>exact .inr (.inl ⟨_,rfl,(Et h).trans dy⟩)
        |some b=>exact .inr (.inr ⟨_,_,rfl,by rw[Et h]⟩)
     by_cases h7:op=7
     ·exact⟨_,_,_,.bck h7 rfl e1,u1,s1,.inr (.inr ⟨_,_,rfl,rfl⟩)⟩
     have h8:op=8:=ZT;exact⟨_,_,_,.do_ h8 rfl e1,u1,s1,.inr (.inl ⟨_,rfl,dy⟩)⟩
   ·exact⟨_,_,_,.argS h6 rfl (fun h=>absurd h h4) e1,u1,s1,.inl ⟨_,rfl⟩⟩
  |[a,b],f5,f6,c1,dU,lH=>
   have h4:op=4:=by
    by_cases h:op=4
    ·exact h
    ·simp[AO,h]at f5
   have kG:=f6 a ZV;have hbv:=f6 b ZV;simp only[Q7,Jk]at dU lH;obtain⟨y,r,m1,e1,u1,s1,hr⟩:=Ex.tot a 6 v m (RP kG) dU.app.1 (lH.sub fun e he=>Jn _ he) hm;rcases hr with ⟨x,rfl⟩|⟨z,rfl⟩
   ·obtain⟨y2,r2,m2,e2,u2,s2,bw⟩:=Ex.tot b 6 v m1 (RP hbv) dU.app.2 (lH.sub fun e he=>Js _ he) s1;rcases bw with ⟨x2,rfl⟩|⟨z,rfl⟩
    ·by_cases hx:x<16
     ·exact⟨_,_,_,.put h4 rfl e1 e2 hx,by simp only;omega,s2,.inr (.inl ⟨_,rfl,by rw[if_neg (by omega:¬op=1)];exact dy⟩)⟩
     ·exact⟨_,_,_,.putC h4 rfl e1 e2 ZT,ZT,s2,.inl ⟨_,rfl⟩⟩
    ·exact⟨_,_,_,.putS h4 rfl e1 e2,ZT,s2,.inl ⟨_,rfl⟩⟩
   ·exact⟨_,_,_,.argS (show op≠6 by omega) rfl (fun _=>ZV) e1,u1,s1,.inl ⟨_,rfl⟩⟩
  |_::_::_::_,f5,_,_,_,_=>exfalso;simp only[AO,Jc]at f5;split at f5 <;> omega
theorem blkT {k:Nat}:∀d,BlkT fns S k d∧LpT fns S k d:=by
 intro d
 induction d using Nat.strongRecOn with
 |_ d ih=>
 have hB:BlkT fns S k d:=by
  intro l dp v w n m hd hm hf cH hw dy hc
  cases l with
  |nil=>exact⟨_,_,_,.done,Jl _,hm,.inr ⟨_,_,rfl,rfl⟩⟩
  |cons x l=>
   by_cases hu:m.u=S
   ·exact⟨_,_,_,.fuel hu,Jl _,hm,.inl ⟨_,rfl⟩⟩
   ·simp only[Qx,Jb]at hf;obtain⟨c1,c2⟩:=Qbn2 cH;simp only[Bc]at hc;have af:S-(m.u+1)<d:=ZT;obtain⟨y,r,m1,e1,u1,s1,hr⟩:=Xf (ih _ af).1 (ih _ af).2 x dp v w n ⟨m.u+1,m.s,m.c⟩ (Jl _) (by simp only;omega) hf.1 c1 hw dy (hc.sub fun e he=>Jn _ he);simp only at u1;have nF:m.u<S:=ZT;rcases hr with ⟨z,rfl⟩|⟨v',rfl,h⟩|⟨b,v',rfl,h⟩
    ·exact⟨_,_,_,.stS nF e1,ZT,s1,.inl ⟨_,rfl⟩⟩
    ·obtain⟨y2,r2,m2,e2,u2,s2,bw⟩:=(ih _ af).1 l dp v' _ _ m1 ZT s1 hf.2 c2 (by split <;> simp[A8,hw]) h (hc.sub fun e he=>Js _ he);refine⟨_,_,_,.next nF e1 e2,ZT,s2,?_⟩;have ht:(nm v').tail=(nm v).tail:=by
      rw[h,dy];split
      ·rw[Es];rfl
      ·rfl
     rcases bw with ⟨z,rfl⟩|⟨b,v2,rfl,h2⟩
     ·exact .inl ⟨_,rfl⟩
     ·exact .inr ⟨_,_,rfl,h2.trans ht⟩
    ·exact⟨_,_,_,.back nF e1,ZT,s1,.inr ⟨_,_,rfl,h⟩⟩
 exact⟨hB,Yg hB fun d' h=>(ih d' h).2⟩
theorem Iu (ps:List (List UInt8)):nm (parV ps).1=[ps.reverse]:=by
 have:∀(l:List (List UInt8)) (b:List (List UInt8×Nat)) (n:Nat),nm (l.foldl (fun s p=>(A8 s.1 p s.2,s.2+1)) (([b]:Vars),n)).1=[l.reverse++b.map Prod.fst]:=by
  intro l
  induction l with
  |nil=>intro b n;rfl
  |cons a l ih=>intro b n;rw[Jal];show nm (l.foldl _ (([(a,n)::b]:Vars),n+1)).1=_;rw[ih];simp
 rw[parV,this];simp
theorem IL {ps:List (List UInt8)}{ns:List Nat}(h:ns.length=ps.length):nm (parE ps ns)=[ps.reverse]:=by
 simp only[nm,parE,Jv,Jav,List.map_reverse];rw[List.map_fst_zip ZT]
theorem Qbo7 (h:FineP fns):∀k (hk:k<fns.length) (ns:List Nat) (m:Ms),ns.length=fns[k].params.length→m.u≤S→Tot fns S (.call fns[k] ns) m isV:=by
 intro k
 induction k using Nat.strongRecOn with
 |_ k ih=>
 intro hk ns m hn hm;obtain⟨_,_,h3,_,_,_,h7⟩:=h.fn hk;have hc:CalT fns S (Bc fns[k].body):=fun e he ho=>by
  obtain⟨j,hj,hl,h1,h2⟩:=h.call hk he ho;exact⟨j,hl,by rw[←h1];exact h.ix j hl,h2,fun ns m hn hm=>ih j hj hl ns m hn hm⟩
 obtain⟨y,r,m1,e1,u1,s1,hr⟩:=(blkT (fns:=fns) (S:=S) (k:=k) (S-m.u)).1 fns[k].body 4 (parE fns[k].params ns) (parV fns[k].params).1 _ m (Jl _) hm h7 h3 (XX (v:=(parV fns[k].params).1) (w:=parE fns[k].params ns) (by rw[Iu,IL hn]) (by simp[parE])) (by rw[Iu,IL hn]) hc;refine⟨_,_,_,.body e1,u1,s1,?_⟩;rcases hr with ⟨z,rfl⟩|⟨b,v',rfl,h⟩
 ·exact .inr ⟨_,rfl⟩
 ·cases b with
  |none=>exact .inl ⟨_,rfl⟩
  |some b=>exact .inl ⟨_,rfl⟩
end Go.AE.Y
namespace Go.AE.Y
variable {fns gns:List Fn}{S:Nat}
def CalD (fns gns:List Fn)(P:Fn→Prop)(e:Ex):Prop:=∀j (hj:j<fns.length),Ai fns e.name=some j→∃j',∃cY:j'<gns.length,Ai gns e.name=some j'∧gns[j']=fns[j]∧P fns[j]
def CalL (fns gns:List Fn)(P:Fn→Prop)(l:List Ex):Prop:=∀e∈l,e.op=13→CalD fns gns P e
theorem CalL.app {P:Fn→Prop}{a b:List Ex}(h:CalL fns gns P (a++b)):CalL fns gns P a∧CalL fns gns P b:=⟨fun e he=>h e (Jn _ he),fun e he=>h e (Js _ he)⟩
def Tk.parts:Tk→List Ex
 |.ex x _=>x.pre
 |.exs l _=>Q7 l
 |.call f _=>Bc f.body
 |.blk l _=>Bc l
 |.st x _=>x.pre
 |.lp x _=>x.pre
theorem B5 {e:Ex}{l:List Ex}(h:e.kids=l){P:Fn→Prop}(hc:CalL fns gns P e.pre):CalL fns gns P (Q7 l):=by
 rw[e.pre_eq,h]at hc;exact fun x hx=>hc x (Jy _ hx)
theorem AP {x:St}{l:List Ex}(h:x.args=l){P:Fn→Prop}(hc:CalL fns gns P x.pre):CalL fns gns P (Q7 l)∧CalL fns gns P (Bc x.body)∧CalL fns gns P (Bc x.els):=by
 rw[x.pre_eq,h]at hc;exact⟨hc.app.1.app.1,hc.app.1.app.2,hc.app.2⟩
theorem AZ {P:Fn→Prop}{k:Ex}(h:CalL fns gns P (Q7 [k])):CalL fns gns P k.pre:=by simpa[Q7]using h
theorem AY {P:Fn→Prop}{k:Ex}{l:List Ex}(h:CalL fns gns P (Q7 (k::l))):CalL fns gns P k.pre∧CalL fns gns P (Q7 l):=by simp only[Q7]at h;exact h.app
theorem Ev.to {P:Fn→Prop}(hP:∀f,P f→CalL fns gns P (Bc f.body)){h:Nat}{t:Tk}{m:Ms}{r:Rt}{m':Ms}(bg:Ev fns S h t m r m'):CalL fns gns P t.parts→Ev gns S h t m r m':=by
 induction bg with
 |num h1 h2 h3=>exact fun _=>.num h1 h2 h3
 |var h1 h2=>exact fun _=>.var h1 h2
 |@call e v m j ns m1 r m2 a b hj h1 h2 h3 e1 e2 i1 i2=>
  intro hc;obtain⟨j',cY,a1,a2,a3⟩:=hc e (by rw[Tk.parts,e.pre_eq];exact J2) h1 j hj h2;have e2':=i2 (hP _ a3);rw[←a2]at e2' h3;exact .call cY h1 a1 h3 (i1 (B5 rfl hc)) e2'
 |@callS e v m z m1 a j hj h1 h2 h3 e1 i1=>
  intro hc;obtain⟨j',cY,a1,a2,a3⟩:=hc e (by rw[Tk.parts,e.pre_eq];exact J2) h1 j hj h2;rw[←a2]at h3;exact .callS cY h1 a1 h3 (i1 (B5 rfl hc))
 |kidS h1 h2 h3 h4 e1 i1=>exact fun hc=>.kidS h1 h2 h3 h4 (i1 (AY (B5 h3 hc)).1)
 |not h1 h2 e1 i1=>exact fun hc=>.not h1 h2 (i1 (AZ (B5 h2 hc)))
 |at_ h1 h2 e1 h3 i1=>exact fun hc=>.at_ h1 h2 (i1 (AZ (B5 h2 hc))) h3
 |atS h1 h2 e1 h3 i1=>exact fun hc=>.atS h1 h2 (i1 (AZ (B5 h2 hc))) h3
 |and0 h1 h2 e1 i1=>exact fun hc=>.and0 h1 h2 (i1 (AY (B5 h2 hc)).1)
 |and1 h1 h2 e1 h3 e2 i1 i2=>exact fun hc=>.and1 h1 h2 (i1 (AY (B5 h2 hc)).1) h3 (i2 (AZ (AY (B5 h2 hc)).2))
 |andS h1 h2 e1 h3 e2 i1 i2=>exact fun hc=>.andS h1 h2 (i1 (AY (B5 h2 hc)).1) h3 (i2 (AZ (AY (B5 h2 hc)).2))
 |ar h1 h2 h3 e1 e2 h4 i1 i2=>exact fun hc=>.ar h1 h2 h3 (i1 (AY (B5 h3 hc)).1) (i2 (AZ (AY (B5 h3 hc)).2)) h4
 |arD h1 h2 h3 e1 e2 h4 i1 i2=>exact fun hc=>.arD h1 h2 h3 (i1 (AY (B5 h3 hc)).1) (i2 (AZ (AY (B5 h3 hc)).2)) h4
 |arS h1 h2 h3 e1 e2 i1 i2=>exact fun hc=>.arS h1 h2 h3 (i1 (AY (B5 h3 hc)).1) (i2 (AZ (AY (B5 h3 hc)).2))
 |nil=>exact fun _=>.nil
 |cons e1 e2 i1 i2=>exact fun hc=>.cons (i1 (AY hc).1) (i2 (AY hc).2)
 |consS e1 i1=>exact fun hc=>.consS (i1 (AY hc).1)
 |consS2 e1 e2 i1 i2=>exact fun hc=>.consS2 (i1 (AY hc).1) (i2 (AY hc).2)
 |body e1 i1=>exact fun hc=>.body (i1 hc)
 |done=>exact fun _=>.done
 |fuel h1=>exact fun _=>.fuel h1
 |next h1 e1 e2 i1 i2=>
  intro hc;simp only[Tk.parts,Bc]at hc;exact .next h1 (i1 hc.app.1) (i2 hc.app.2)
 |back h1 e1 i1=>
  intro hc;simp only[Tk.parts,Bc]at hc;exact .back h1 (i1 hc.app.1)
 |stS h1 e1 i1=>
  intro hc;simp only[Tk.parts,Bc]at hc;exact .stS h1 (i1 hc.app.1)
 |loop h1 e1 i1=>exact fun hc=>.loop h1 (i1 hc)
 |argS h1 h2 h3 e1 i1=>exact fun hc=>.argS h1 h2 h3 (i1 (AY (AP h2 hc).1).1)
 |let_ h1 h2 e1 i1=>exact fun hc=>.let_ h1 h2 (i1 (AZ (AP h2 hc).1))
 |set h1 h2 h3 e1 i1=>exact fun hc=>.set h1 h2 h3 (i1 (AZ (AP h2 hc).1))
 |say h1 h2 e1 i1=>exact fun hc=>.say h1 h2 (i1 (AZ (AP h2 hc).1))
 |put h1 h2 e1 e2 h3 i1 i2=>exact fun hc=>.put h1 h2 (i1 (AY (AP h2 hc).1).1) (i2 (AZ (AY (AP h2 hc).1).2)) h3
 |putC h1 h2 e1 e2 h3 i1 i2=>exact fun hc=>.putC h1 h2 (i1 (AY (AP h2 hc).1).1) (i2 (AZ (AY (AP h2 hc).1).2)) h3
 |putS h1 h2 e1 e2 i1 i2=>exact fun hc=>.putS h1 h2 (i1 (AY (AP h2 hc).1).1) (i2 (AZ (AY (AP h2 hc).1).2))
 |ift h1 h2 e1 h3 e2 i1 i2=>exact fun hc=>.ift h1 h2 (i1 (AZ (AP h2 hc).1)) h3 (i2 (AP h2 hc).2.1)
 |iff_ h1 h2 e1 e2 i1 i2=>exact fun hc=>.iff_ h1 h2 (i1 (AZ (AP h2 hc).1)) (i2 (AP h2 hc).2.2)
 |bck h1 h2 e1 i1=>exact fun hc=>.bck h1 h2 (i1 (AZ (AP h2 hc).1))
 |do_ h1 h2 e1 i1=>exact fun hc=>.do_ h1 h2 (i1 (AZ (AP h2 hc).1))
 |lpS h1 e1 i1=>exact fun hc=>.lpS h1 (i1 (AZ (AP h1 hc).1))
 |lp0 h1 e1 i1=>exact fun hc=>.lp0 h1 (i1 (AZ (AP h1 hc).1))
 |lpB h1 e1 h2 e2 i1 i2=>exact fun hc=>.lpB h1 (i1 (AZ (AP h1 hc).1)) h2 (i2 (AP h1 hc).2.1)
 |lpD h1 e1 h2 e2 i1 i2=>exact fun hc=>.lpD h1 (i1 (AZ (AP h1 hc).1)) h2 (i2 (AP h1 hc).2.1)
 |lpF h1 e1 h2 e2 h3 i1 i2=>exact fun hc=>.lpF h1 (i1 (AZ (AP h1 hc).1)) h2 (i2 (AP h1 hc).2.1) h3
 |lpN h1 e1 h2 e2 h3 e3 i1 i2 i3=>exact fun hc=>.lpN h1 (i1 (AZ (AP h1 hc).1)) h2 (i2 (AP h1 hc).2.1) h3 (i3 hc)
def AI (fns:List Fn):Fn:=fnAt fns (fns.length-1)
structure Oc where
 e:Nat
 v:Nat
 s:List Nat
 c:List Nat
 u:Nat
def ocOf (r:Rt)(m:Ms):Oc:=match r with
 |.val n=>⟨0,n,m.s,m.c,m.u⟩
 |.dn z=>⟨z,0,m.s,m.c,m.u⟩
 |_=>⟨0,0,m.s,m.c,m.u⟩
def ms0:Ms:=⟨0,[],List.replicate 16 0⟩
def RunR (fns:List Fn)(S:Nat)(l:List Nat)(o:Oc):Prop:=∃h r m',Ev fns S h (.call (AI fns) l) ms0 r m'∧isV r∧o=ocOf r m'
theorem Yy (h:FineP fns){l:List Nat}(hl:l.length=(AI fns).params.length):∃o,RunR fns S l o:=by
 have h0:=h.len.1;have hk:fns.length-1<fns.length:=ZT
 rw[AI,Dq hk]at hl;obtain⟨y,r,m',e,_,_,hr⟩:=Qbo7 (S:=S) h _ hk l ms0 hl (Nat.zero_le _);exact⟨_,y,r,m',by rw[AI,Dq hk];exact e,hr,rfl⟩
end Go.AE.Y
namespace Go.AE.Y
def Ah (n:Int):Ex:=.mk 1 n [] []
def isN (e:Ex)(n:Int):Bool:=decide (e.op=1)&&decide (e.n=n)
theorem isN_iff {e:Ex}{n:Int}:isN e n=true↔e.op=1∧e.n=n:=by simp[isN]
def kid0 (e:Ex):Ex:=e.kids.headD (Ah 0)
def divN (kids:List Ex):Bool:=match kids with
 |_::k::_=>decide (k.op=1)&&!decide (k.n=0)
 |_=>false
mutual
def Ex.safe:Ex→Bool
 |.mk op _ _ kids=>!decide (op=12)&&!decide (op=13)&&(!decide (op=6∨op=7) || divN kids)&&CE kids
def CE:List Ex→Bool
 |[]=>true
 |x::r=>x.safe&&CE r
end
theorem Ex.safe_eq (x:Ex):x.safe=(!decide (x.op=12)&&!decide (x.op=13)&&(!decide (x.op=6∨x.op=7) || divN x.kids)&&CE x.kids):=by
 cases x;simp only[Ex.safe,Ex.op,Ex.kids];rfl
def arF (op a b:Int):Option Int:=if op=10 then some (trI (a≠0∧b≠0))else arR op a b
def Aw (op n:Int)(name:List UInt8)(a b:Ex):Ex:=
 if op=10∧isN a 0=true then Ah 0
 else if (isN b 0=true∧(op=3∨op=4))∨(isN b 1=true∧(op=5∨op=6))then a
 else if (isN a 0=true∧op=3)∨(isN a 1=true∧op=5)then b
 else if op=5∧((isN b 0=true∧a.safe=true)∨(isN a 0=true∧b.safe=true))then Ah 0
 else .mk op n name [a,b]
def Aj (op n:Int)(name:List UInt8)(kids:List Ex):Ex:=match kids with
 |[a]=>if op=11 then (if a.op=1 then Ah (trI (a.n=0))else if a.op=11∧(kid0 a).op=11 then kid0 a else .mk op n name [a])else .mk op n name [a]
 |[a,b]=>if 3≤op∧op≤10 then (if a.op=1∧b.op=1 then (match arF op a.n b.n with|some z=>Ah z|none=>Aw op n name a b)else Aw op n name a b)else .mk op n name [a,b]
 |l=>.mk op n name l
mutual
def Ex.fold:Ex→Ex
 |.mk op n name kids=>Aj op n name (Q2 kids)
def Q2:List Ex→List Ex
 |[]=>[]
 |x::r=>x.fold::Q2 r
end
theorem Ex.fold_eq (x:Ex):x.fold=Aj x.op x.n x.name (Q2 x.kids):=by cases x;simp only[Ex.fold,Ex.op,Ex.n,Ex.name,Ex.kids]
theorem Dx:∀l:List Ex,Q2 l=l.map Ex.fold
 |[]=>by simp[Q2]
 |x::r=>by simp only[Q2,Jv,Dx r]
theorem Qa19 {l:List Ex}{d:Int}(h:Az l d=true):∀x∈l,x.form d=true:=by
 rw[Sk]at h;exact Jx.1 h
mutual
theorem Ex.form_le:∀(x:Ex) (d d':Int),x.form d=true→d≤d'→x.form d'=true
 |.mk op n name kids,d,d',h,hd=>by
  simp only[Ex.form,Jb,decide_eq_true_eq]at h⊢;exact⟨⟨ZT,h.1.2⟩,Mz kids _ _ h.2 ZT⟩
theorem Mz:∀(l:List Ex) (d d':Int),Az l d=true→d≤d'→Az l d'=true
 |[],d,d',h,hd=>by simp[Az]
 |x::r,d,d',h,hd=>by
  simp only[Az,Jb]at h⊢;exact⟨x.form_le d d' h.1 hd,Mz r d d' h.2 hd⟩
end
theorem Qbhi {z d:Int}(h:0≤z∧z≤255)(hd:1≤d):(Ah z).form d=true:=by
 have:Av []=false:=rfl;simp[Ah,Ex.form,Ez,AX,AS,Az,this,h,hd]
theorem Qbo0 {op a b z:Int}(ha:byI a)(hb:byI b)(h:arR op a b=some z):byI z:=by
 obtain⟨a1,a2⟩:=ha;obtain⟨b1,b2⟩:=hb;have tr:∀(p:Prop) [Decidable p],byI (trI p):=fun p _=>by unfold trI;split <;> exact⟨ZT,ZT⟩
 unfold arR at h;split at h
 ·simp only[Jo]at h;subst h;exact⟨ZT,ZT⟩
 split at h
 ·simp only[Jo]at h;subst h;exact⟨ZT,ZT⟩
 split at h
 ·simp only[Jo]at h;subst h;exact⟨Int.emod_nonneg _ ZT,by have:=Int.emod_lt_of_pos (a * b) (show (0:Int)<256 by omega);omega⟩
 split at h
 ·split at h
  ·cases h
  ·simp only[Jo]at h;subst h;exact⟨Int.ediv_nonneg a1 b1,Int.le_trans (Int.ediv_le_self _ a1) a2⟩
 split at h
 ·split at h
  ·cases h
  ·simp only[Jo]at h;subst h;refine⟨Int.emod_nonneg _ ZT,?_⟩;have:=Int.emod_lt_of_pos a (show 0<b by omega);omega
 split at h
 ·simp only[Jo]at h;subst h;exact tr _
 split at h
 ·simp only[Jo]at h;subst h;exact tr _
 ·simp only[Jo]at h;subst h;exact tr _
theorem I3 {op a b z:Int}(ha:byI a)(hb:byI b)(h:arF op a b=some z):byI z:=by
 unfold arF at h;split at h
 ·simp only[Jo]at h;subst h;unfold trI;split <;> exact⟨ZT,ZT⟩
 ·exact Qbo0 ha hb h
theorem C5 {e:Ex}{d:Int}(h:e.form d=true)(ho:e.op=1):e=Ah e.n∧byI e.n:=by
 obtain⟨op,n,name,kids⟩:=e;have h2:=Dv h;simp only[Ex.op]at ho;subst ho;have hk:=h2.2.1 (.inl rfl);subst hk;simp only[Ex.form,Ez,Jb,J9,decide_eq_true_eq]at h;have:name=[]:=by
  rcases h.1.2.1.1.2 with h|h
  ·omega
  ·exact h
 subst this;exact⟨rfl,h2.2.2.2.2.1⟩
inductive FoldC (op n:Int)(name:List UInt8)(kids:List Ex):Ex→Prop
 |same:FoldC op n name kids (.mk op n name kids)
 |notN {a}:op=11→kids=[a]→a.op=1→FoldC op n name kids (Ah (trI (a.n=0)))
 |not3 {a}:op=11→kids=[a]→a.op=11→(kid0 a).op=11→FoldC op n name kids (kid0 a)
 |num {a b z}:3≤op→op≤10→kids=[a,b]→a.op=1→b.op=1→arF op a.n b.n=some z→FoldC op n name kids (Ah z)
 |and0 {a b}:op=10→kids=[a,b]→a.op=1→a.n=0→FoldC op n name kids (Ah 0)
 |left {a b}:kids=[a,b]→b.op=1→(b.n=0∧(op=3∨op=4))∨(b.n=1∧(op=5∨op=6))→FoldC op n name kids a
 |right {a b}:kids=[a,b]→a.op=1→(a.n=0∧op=3)∨(a.n=1∧op=5)→FoldC op n name kids b
 |mul0 {a b}:op=5→kids=[a,b]→b.op=1→b.n=0→a.safe=true→FoldC op n name kids (Ah 0)
 |mul0' {a b}:op=5→kids=[a,b]→a.op=1→a.n=0→b.safe=true→FoldC op n name kids (Ah 0)
theorem IX {op n:Int}{name:List UInt8}{a b:Ex}(h3:3≤op)(bP:op≤10):FoldC op n name [a,b] (Aw op n name a b):=by
 unfold Aw;split
 ·rename_i h
  exact .and0 h.1 rfl (isN_iff.1 h.2).1 (isN_iff.1 h.2).2
 split
 ·rename_i h
  rcases h with h|h
  ·exact .left rfl (isN_iff.1 h.1).1 (.inl ⟨(isN_iff.1 h.1).2,h.2⟩)
  ·exact .left rfl (isN_iff.1 h.1).1 (.inr ⟨(isN_iff.1 h.1).2,h.2⟩)
 split
 ·rename_i h
  rcases h with h|h
  ·exact .right rfl (isN_iff.1 h.1).1 (.inl ⟨(isN_iff.1 h.1).2,h.2⟩)
  ·exact .right rfl (isN_iff.1 h.1).1 (.inr ⟨(isN_iff.1 h.1).2,h.2⟩)
 split
 ·rename_i h
  rcases h.2 with h2|h2
  ·exact .mul0 h.1 rfl (isN_iff.1 h2.1).1 (isN_iff.1 h2.1).2 h2.2
  ·exact .mul0' h.1 rfl (isN_iff.1 h2.1).1 (isN_iff.1 h2.1).2 h2.2
 ·exact .same
theorem CY (op n:Int)(name:List UInt8)(kids:List Ex):FoldC op n name kids (Aj op n name kids):=by
 unfold Aj;split
 ·rename_i a
  split
  ·rename_i cM
   split
   ·rename_i h1;exact .notN cM rfl h1
   split
   ·rename_i h;exact .not3 cM rfl h.1 h.2
   ·exact .same
  ·exact .same
 ·rename_i a b
  split
  ·rename_i h
   split
   ·rename_i h1
    split
    ·rename_i z hz;exact .num h.1 h.2 rfl h1.1 h1.2 hz
    ·exact IX h.1 h.2
   ·exact IX h.1 h.2
  ·exact .same
 ·exact .same
variable {fns:List Fn}{S:Nat}
theorem Cx {z:Int}(h:byI z)(v:Vars)(m:Ms):Ev fns S 0 (.ex (Ah z) v) m (.val z.toNat) m:=.num (e:=Ah z) rfl h.1 h.2
theorem YZ {z:Int}{h:Nat}{v:Vars}{m m':Ms}{r:Rt}(bg:Ev fns S h (.ex (Ah z) v) m r m'):r=.val z.toNat∧m'=m:=by
 have ho:(Ah z).op=1:=rfl;generalize he:Ah z=e at bg ho
 cases bg with
 |num=>subst he;exact⟨rfl,rfl⟩
 |_=>exfalso;omega
theorem Cj {e:Ex}{d:Int}(hf:e.form d=true)(ho:e.op=1){h:Nat}{v:Vars}{m m':Ms}{r:Rt}(bg:Ev fns S h (.ex e v) m r m'):r=.val e.n.toNat∧m'=m:=by
 rw[(C5 hf ho).1]at bg;exact YZ bg
theorem Dl {e:Ex}{d:Int}(h:e.form d=true):∀k∈e.kids,k.form (d-1)=true:=by
 rw[Ex.form_eq,Jb]at h;exact Qa19 h.2
theorem Qbjd {e:Ex}(h:e.safe=true):∀k∈e.kids,k.safe=true:=by
 rw[Ex.safe_eq,Jb]at h;have:∀(l:List Ex),CE l=true→∀k∈l,k.safe=true:=by
  intro l
  induction l with
  |nil=>intro _ k hk;cases hk
  |cons x r ih=>
   intro h k hk;simp only[CE,Jb]at h;rcases J3.1 hk with rfl|hk
   ·exact h.1
   ·exact ih h.2 k hk
 exact this _ h.2
theorem G8 {e k:Ex}(h:k∈e.kids):k.size<e.size:=by
 cases e with
 |mk op n name kids=>
  have:=Bn (show k∈kids from h);simp only[Ex.size];omega
theorem Rj {op:Int}{x y:Nat}(h:arN op x y=none):(op=6∨op=7)∧y=0:=by
 unfold arN at h;split at h
 ·cases h
 split at h
 ·cases h
 split at h
 ·cases h
 split at h
 ·rename_i ho
  split at h
  ·rename_i hy;exact⟨.inl ho,hy⟩
  ·cases h
 split at h
 ·rename_i ho
  split at h
  ·rename_i hy;exact⟨.inr ho,hy⟩
  ·cases h
 split at h <;> cases h
theorem mem1 {e k:Ex}{l:List Ex}(h:e.kids=k::l):k∈e.kids:=by rw[h];exact J2
theorem mem2 {e k x:Ex}{l:List Ex}(h:e.kids=k::x::l):x∈e.kids:=by rw[h];exact Jy _ J2
theorem CD:∀(n:Nat) (e:Ex),e.size≤n→∀{h:Nat} {v:Vars} {m m':Ms} {r:Rt} {d:Int},e.form d=true→e.safe=true→Ev fns S h (.ex e v) m r m'→(∃z,r=.val z)∧m'=m
 |0,e,hn,_,_,_,_,_,_,_,_,_=>by have:=e.size_pos;omega
 |n+1,e,hn,h,v,m,m',r,d,hf,hs,bg=>by
  have fk:=Dl hf;have sk:=Qbjd hs;have zk:∀k∈e.kids,k.size≤n:=fun k hk=>by have:=G8 hk;omega
  have mj:=hs;rw[Ex.safe_eq]at mj;simp only[Jb,Jaq,decide_eq_false_iff_not,J9]at mj;obtain⟨⟨⟨n12,n13⟩,iO⟩,_⟩:=mj
  cases bg with
  |num=>exact⟨⟨_,rfl⟩,rfl⟩
  |var=>exact⟨⟨_,rfl⟩,rfl⟩
  |call _ h1=>exact absurd h1 n13
  |callS _ h1=>exact absurd h1 n13
  |at_ h1=>exact absurd h1 n12
  |atS h1=>exact absurd h1 n12
  |kidS h1 h2 h3 h4 e1=>
   have hm:=mem1 h3;obtain⟨⟨z,hz⟩,_⟩:=CD n _ (zk _ hm) (fk _ hm) (sk _ hm) e1;cases hz
  |not h1 h2 e1=>
   have hm:=mem1 h2;exact⟨⟨_,rfl⟩,(CD n _ (zk _ hm) (fk _ hm) (sk _ hm) e1).2⟩
  |and0 h1 h2 e1=>
   have hm:=mem1 h2;exact⟨⟨_,rfl⟩,(CD n _ (zk _ hm) (fk _ hm) (sk _ hm) e1).2⟩
  |and1 h1 h2 e1 h3 e2=>
   have hm:=mem1 h2;have aZ:=mem2 h2;exact⟨⟨_,rfl⟩,(CD n _ (zk _ aZ) (fk _ aZ) (sk _ aZ) e2).2.trans (CD n _ (zk _ hm) (fk _ hm) (sk _ hm) e1).2⟩
  |andS h1 h2 e1 h3 e2=>
   have aZ:=mem2 h2;obtain⟨⟨z,hz⟩,_⟩:=CD n _ (zk _ aZ) (fk _ aZ) (sk _ aZ) e2;cases hz
  |ar h1 h2 h3 e1 e2 h4=>
   have hm:=mem1 h3;have aZ:=mem2 h3;exact⟨⟨_,rfl⟩,(CD n _ (zk _ aZ) (fk _ aZ) (sk _ aZ) e2).2.trans (CD n _ (zk _ hm) (fk _ hm) (sk _ hm) e1).2⟩
  |arD h1 h2 h3 e1 e2 h4=>
   have aZ:=mem2 h3;obtain⟨q1,q2⟩:=Rj h4;rcases iO with iO|iO
   ·exact absurd q1 iO
   ·rw[h3]at iO;simp only[divN,Jb,decide_eq_true_eq,Jaq,decide_eq_false_iff_not]at iO;obtain⟨p1,_⟩:=Cj (fk _ aZ) iO.1 e2;have p2:=(C5 (fk _ aZ) iO.1).2;have p3:=Rt.val.inj p1;have:=p2.1;exfalso;omega
  |arS h1 h2 h3 e1 e2=>
   have aZ:=mem2 h3;obtain⟨⟨z,hz⟩,_⟩:=CD n _ (zk _ aZ) (fk _ aZ) (sk _ aZ) e2;cases hz
theorem Qboz {op:Int}{a b z:Int}{w:Nat}(h3:3≤op)(h9:op≤9)(ha:byI a)(hb:byI b)(h:arF op a b=some z)(hw:arN op a.toNat b.toNat=some w):w=z.toNat:=by
 obtain⟨a1,a2⟩:=ha;obtain⟨b1,b2⟩:=hb;obtain⟨x,rfl⟩:=Jah a1;obtain⟨y,rfl⟩:=Jah b1;simp only[Jac]at hw;rw[arF,if_neg ZT]at h;unfold arN at hw;unfold arR at h;split at hw
 ·rw[if_pos ‹_›]at h;simp only[Jo]at h hw;subst h;subst hw;omega
 rw[if_neg ‹_›]at h;split at hw
 ·rw[if_pos ‹_›]at h;simp only[Jo]at h hw;subst h;subst hw;omega
 rw[if_neg ‹_›]at h;split at hw
 ·rw[if_pos ‹_›]at h;simp only[Jo]at h hw;subst h;subst hw;have:((x:Int) * y) % 256=((x * y % 256:Nat):Int):=ZV
  rw[this];exact (Jac _).symm
 rw[if_neg ‹_›]at h;split at hw
 ·rw[if_pos ‹_›]at h;split at hw
  ·cases hw
  ·rw[if_neg ZT]at h;simp only[Jo]at h hw;subst h;subst hw;have:(x:Int) / y=((x / y:Nat):Int):=ZV
   rw[this];exact (Jac _).symm
 rw[if_neg ‹_›]at h;split at hw
 ·rw[if_pos ‹_›]at h;split at hw
  ·cases hw
  ·rw[if_neg ZT]at h;simp only[Jo]at h hw;subst h;subst hw;have:(x:Int) % y=((x % y:Nat):Int):=ZV
   rw[this];exact (Jac _).symm
 rw[if_neg ‹_›]at h;split at hw
 ·rw[if_pos ‹_›]at h;simp only[Jo]at h hw;subst h;subst hw;unfold trI;by_cases nO:x<y
  ·rw[if_pos nO,if_pos ZT];rfl
  ·rw[if_neg nO,if_neg ZT];rfl
 rw[if_neg ‹_›,if_pos ZT]at h;simp only[Jo]at h hw;subst h;subst hw;unfold trI;by_cases nO:x=y
 ·rw[if_pos nO,if_pos ZT];rfl
 ·rw[if_neg nO,if_neg ZT];rfl
theorem Ip {h:Nat}{e:Ex}{v:Vars}{m m':Ms}{x:Nat}(bg:Ev fns S h (.ex e v) m (.val x) m')(hv:vBy v)(hm:m.by):x<256∧m'.by:=by
 obtain⟨a,b,_⟩:=bg.by (show vBy v from hv) hm
 exact⟨a,b⟩
theorem CX {e:Ex}{d:Int}(hf:e.form d=true)(ho:e.op=11):e.kids=[kid0 e]:=by
 obtain⟨op,n,name,kids⟩:=e;have h:=(Dv hf).2.2.2.1 (.inl ho)
 match kids,h with
 |[k],_=>rfl
theorem DM {h:Nat}{e:Ex}{v:Vars}{m m':Ms}{r:Rt}{k:Ex}(ho:e.op=11)(hk:e.kids=[k])(bg:Ev fns S h (.ex e v) m r m'):∃h1 r1,Ev fns S h1 (.ex k v) m r1 m'∧((∃x,r1=.val x∧r=.val (if x=0 then 1 else 0))∨∃z,r1=.dn z∧r=.dn z):=by
 cases bg with
 |kidS h1 h2 h3 h4 e1=>
  rw[hk]at h3;obtain⟨rfl,_⟩:=List.cons.inj h3;exact⟨_,_,e1,.inr ⟨_,rfl,rfl⟩⟩
 |not h1 h2 e1=>
  rw[hk]at h2;obtain⟨rfl,_⟩:=List.cons.inj h2;exact⟨_,_,e1,.inl ⟨_,rfl,rfl⟩⟩
 |_=>exfalso;omega
theorem CV {h:Nat}{e:Ex}{v:Vars}{m m':Ms}{r:Rt}{a b:Ex}(h3:3≤e.op)(h9:e.op≤9)(hk:e.kids=[a,b])(bg:Ev fns S h (.ex e v) m r m') :
  ∃h1 r1 m1,Ev fns S h1 (.ex a v) m r1 m1∧((∃z,r1=.dn z∧r=.dn z∧m'=m1)∨∃x,r1=.val x∧∃h2 r2,Ev fns S h2 (.ex b v) m1 r2 m'∧((∃z,r2=.dn z∧r=.dn z)∨∃y,r2=.val y∧((∃w,arN e.op x y=some w∧r=.val w)∨(arN e.op x y=none∧r=.dn 1)))):=by
 cases bg with
 |kidS h1 h2 h3 h4 e1=>
  rw[hk]at h3;obtain⟨rfl,_⟩:=List.cons.inj h3;exact⟨_,_,_,e1,.inl ⟨_,rfl,rfl,rfl⟩⟩
 |ar h1 h2 h3 e1 e2 h4=>
  rw[hk]at h3;simp only[J4,and_true]at h3;obtain⟨rfl,rfl⟩:=h3;exact⟨_,_,_,e1,.inr ⟨_,rfl,_,_,e2,.inr ⟨_,rfl,.inl ⟨_,h4,rfl⟩⟩⟩⟩
 |arD h1 h2 h3 e1 e2 h4=>
  rw[hk]at h3;simp only[J4,and_true]at h3;obtain⟨rfl,rfl⟩:=h3;exact⟨_,_,_,e1,.inr ⟨_,rfl,_,_,e2,.inr ⟨_,rfl,.inr ⟨h4,rfl⟩⟩⟩⟩
 |arS h1 h2 h3 e1 e2=>
  rw[hk]at h3;simp only[J4,and_true]at h3;obtain⟨rfl,rfl⟩:=h3;exact⟨_,_,_,e1,.inr ⟨_,rfl,_,_,e2,.inl ⟨_,rfl,rfl⟩⟩⟩
 |_=>exfalso;omega
theorem Kk {h:Nat}{e:Ex}{v:Vars}{m m':Ms}{r:Rt}{a b:Ex}(ho:e.op=10)(hk:e.kids=[a,b])(bg:Ev fns S h (.ex e v) m r m') :
  ∃h1 r1 m1,Ev fns S h1 (.ex a v) m r1 m1∧((∃z,r1=.dn z∧r=.dn z∧m'=m1)∨(r1=.val 0∧r=.val 0∧m'=m1)∨∃x,x≠0∧r1=.val x∧∃h2 r2,Ev fns S h2 (.ex b v) m1 r2 m'∧((∃z,r2=.dn z∧r=.dn z)∨∃y,r2=.val y∧r=.val (if y=0 then 0 else 1))):=by
 cases bg with
 |kidS h1 h2 h3 h4 e1=>
  rw[hk]at h3;obtain⟨rfl,_⟩:=List.cons.inj h3;exact⟨_,_,_,e1,.inl ⟨_,rfl,rfl,rfl⟩⟩
 |and0 h1 h3 e1=>
  rw[hk]at h3;simp only[J4,and_true]at h3;obtain⟨rfl,rfl⟩:=h3;exact⟨_,_,_,e1,.inr (.inl ⟨rfl,rfl,rfl⟩)⟩
 |and1 h1 h3 e1 h4 e2=>
  rw[hk]at h3;simp only[J4,and_true]at h3;obtain⟨rfl,rfl⟩:=h3;exact⟨_,_,_,e1,.inr (.inr ⟨_,h4,rfl,_,_,e2,.inr ⟨_,rfl,rfl⟩⟩)⟩
 |andS h1 h3 e1 h4 e2=>
  rw[hk]at h3;simp only[J4,and_true]at h3;obtain⟨rfl,rfl⟩:=h3;exact⟨_,_,_,e1,.inr (.inr ⟨_,h4,rfl,_,_,e2,.inl ⟨_,rfl,rfl⟩⟩)⟩
 |_=>exfalso;omega
theorem Gk (p:Prop) [Decidable p]:(trI p).toNat=if p then 1 else 0:=by unfold trI;split <;> rfl
theorem Qbkx {op n:Int}{name:List UInt8}{kids:List Ex}{e':Ex}{d:Int}(hc:FoldC op n name kids e')(hf:(Ex.mk op n name kids).form d=true){h:Nat}{v:Vars}{m m':Ms}{r:Rt}(hv:vBy v)(hm:m.by)
  (bg:Ev fns S h (.ex (.mk op n name kids) v) m r m'):∃h',Ev fns S h' (.ex e' v) m r m':=by
 have fk:=Dl hf
 cases hc with
 |same=>exact⟨h,bg⟩
 |@notN a ho hk ha=>
  have fa:=fk a ZY;obtain⟨h1,r1,e1,hr⟩:=DM (e:=.mk op n name kids) ho hk bg;obtain⟨q1,q2⟩:=Cj fa ha e1;have hb:=(C5 fa ha).2;rcases hr with ⟨x,p1,p2⟩|⟨z,p1,_⟩
  ·rw[p1]at q1;obtain rfl:=Rt.val.inj q1;subst q2;refine⟨0,?_⟩;have bM:byI (trI (a.n=0)):=by unfold trI;split <;> exact⟨ZT,ZT⟩
   have:=Cx (fns:=fns) (S:=S) bM v m';rw[Gk]at this;rw[p2];have rN:(a.n.toNat=0)=(a.n=0):=by have:=hb.1;exact propext ⟨fun h=>ZT,fun h=>ZT⟩
   simp only[rN];exact this
  ·rw[p1]at q1;cases q1
 |@not3 a ho hk ha hb=>
  have fa:=fk a ZY;have iY:=CX fa ha;have fb:=Dl fa (kid0 a) (by rw[iY];simp);have rH:=CX fb hb;obtain⟨h1,r1,e1,fj⟩:=DM (e:=.mk op n name kids) ho hk bg;obtain⟨h2,r2,e2,bw⟩:=DM ha iY e1;obtain⟨h3,r3,e3,gZ⟩:=DM hb rH e2;have:r2=r:=by
   rcases gZ with ⟨x,_,p3⟩|⟨z,_,p3⟩
   ·rcases bw with ⟨y,p2,p2'⟩|⟨z,p2,_⟩
    ·rcases fj with ⟨w,p1,p1'⟩|⟨z,p1,_⟩
     ·rw[p2]at p3;obtain rfl:=Rt.val.inj p3;rw[p1]at p2';obtain rfl:=Rt.val.inj p2';rw[p2,p1'];by_cases hx:x=0 <;> simp[hx]
     ·rw[p2']at p1;cases p1
    ·rw[p2]at p3;cases p3
   ·rcases bw with ⟨y,p2,_⟩|⟨z2,p2,p2'⟩
    ·rw[p2]at p3;cases p3
    ·rcases fj with ⟨w,p1,_⟩|⟨z1,p1,p1'⟩
     ·rw[p2']at p1;cases p1
     ·rw[p2']at p1;obtain rfl:=Rt.dn.inj p1;rw[p2,p1']
  subst this;exact⟨h2,e2⟩
 |@num a b z h3 bP hk ha hb hz=>
  have fa:=fk a ZY;have fb:=fk b ZY;have ba:=(C5 fa ha).2;have bb:=(C5 fb hb).2;have bz:=I3 ba bb hz;by_cases ho:op=10
  ·obtain⟨h1,r1,m1,e1,hr⟩:=Kk (e:=.mk op n name kids) ho hk bg;obtain⟨q1,q2⟩:=Cj fa ha e1;subst q2;rw[arF,if_pos ho]at hz;simp only[Jo]at hz;refine⟨0,?_⟩;have key:=Cx (fns:=fns) (S:=S) bz v m1;rcases hr with ⟨z',p1,_⟩|⟨p1,p2,p3⟩|⟨x,hx,p1,h2,r2,e2,bw⟩
   ·rw[p1]at q1;cases q1
   ·rw[p1]at q1;have q:=Rt.val.inj q1;have:z.toNat=0:=by
     rw[←hz,Gk,if_neg (fun hh=>by have:=ba.1;omega)]
    rw[this]at key;rw[p2,p3];exact key
   ·rw[p1]at q1;obtain rfl:=Rt.val.inj q1;obtain⟨q3,q4⟩:=Cj fb hb e2;subst q4;rcases bw with ⟨z',p2,_⟩|⟨y,p2,p3⟩
    ·rw[p2]at q3;cases q3
    ·rw[p2]at q3;obtain rfl:=Rt.val.inj q3;have:z.toNat=if b.n.toNat=0 then 0 else 1:=by
      rw[←hz,Gk];have b1:=ba.1;have b2:=bb.1;by_cases fG:b.n=0
      ·rw[if_neg (fun hh=>hh.2 fG),if_pos ZT]
      ·rw[if_pos ⟨ZT,fG⟩,if_neg ZT]
     rw[this]at key;rw[p3];exact key
  ·obtain⟨h1,r1,m1,e1,hr⟩:=CV (e:=.mk op n name kids) h3 Zbe hk bg;obtain⟨q1,q2⟩:=Cj fa ha e1;subst q2;rcases hr with ⟨z',p1,_⟩|⟨x,p1,h2,r2,e2,bw⟩
   ·rw[p1]at q1;cases q1
   ·rw[p1]at q1;obtain rfl:=Rt.val.inj q1;obtain⟨q3,q4⟩:=Cj fb hb e2;subst q4;rcases bw with ⟨z',p2,_⟩|⟨y,p2,gZ⟩
    ·rw[p2]at q3;cases q3
    ·rw[p2]at q3;obtain rfl:=Rt.val.inj q3;rcases gZ with ⟨w,hw,p3⟩|⟨hw,_⟩
     ·have:=Qboz h3 ZT ba bb hz hw;subst this;rw[p3];exact⟨0,Cx bz v m'⟩
     ·exfalso;obtain⟨w1,w2⟩:=Rj hw;have fG:b.n=0:=(by have:=bb.1;omega);rw[arF,if_neg ho,fG]at hz;unfold arR at hz;rcases w1 with w1|w1
      ·have:op=6:=w1;subst this;simp at hz
      ·have:op=7:=w1;subst this;simp at hz
 |@and0 a b ho hk ha hn=>
  have fa:=fk a ZY;obtain⟨h1,r1,m1,e1,hr⟩:=Kk (e:=.mk op n name kids) ho hk bg;obtain⟨q1,q2⟩:=Cj fa ha e1;rw[hn]at q1;subst q2;rcases hr with ⟨z',p1,_⟩|⟨p1,p2,p3⟩|⟨x,hx,p1,_⟩
  ·rw[p1]at q1;cases q1
  ·rw[p2,p3];exact⟨0,Cx ⟨ZT,ZT⟩ v m1⟩
  ·rw[p1]at q1;exact absurd (Rt.val.inj q1) hx
 |@left a b hk hb i5=>
  have b7:3≤op∧op≤6:=ZT
  have fb:=fk b ZY;obtain⟨h1,r1,m1,e1,hr⟩:=CV (e:=.mk op n name kids) b7.1 Zbe hk bg;rcases hr with ⟨z',p1,p2,p3⟩|⟨x,p1,h2,r2,e2,bw⟩
  ·subst p3;rw[p2,←p1];exact⟨h1,e1⟩
  ·obtain⟨q3,q4⟩:=Cj fb hb e2;subst q4;rw[p1]at e1;have hx:=(Ip e1 hv hm).1;rcases bw with ⟨z',p2,_⟩|⟨y,p2,gZ⟩
   ·rw[p2]at q3;cases q3
   ·rw[p2]at q3;have hy:=Rt.val.inj q3;have df:arN op x y=some x:=by
     unfold arN;rcases i5 with ⟨c1,rfl|rfl⟩|⟨c1,rfl|rfl⟩
     ·rw[c1]at hy;simp at hy;subst hy;simp;omega
     ·rw[c1]at hy;simp at hy;subst hy;simp;omega
     ·rw[c1]at hy;simp at hy;subst hy;simp;omega
     ·rw[c1]at hy;simp at hy;subst hy;simp
    rcases gZ with ⟨w,hw,p3⟩|⟨hw,_⟩
    ·rw[show (Ex.mk op n name kids).op=op from rfl,df]at hw;obtain rfl:=Jad hw;rw[p3];exact⟨h1,e1⟩
    ·rw[show (Ex.mk op n name kids).op=op from rfl,df]at hw;cases hw
 |@right a b hk ha i5=>
  have b7:3≤op∧op≤6:=ZT
  have fa:=fk a ZY;obtain⟨h1,r1,m1,e1,hr⟩:=CV (e:=.mk op n name kids) b7.1 Zbe hk bg;obtain⟨q1,q2⟩:=Cj fa ha e1;subst q2;rcases hr with ⟨z',p1,_⟩|⟨x,p1,h2,r2,e2,bw⟩
  ·rw[p1]at q1;cases q1
  ·rw[p1]at q1;have hx:=Rt.val.inj q1;rcases bw with ⟨z',p2,p3⟩|⟨y,p2,gZ⟩
   ·rw[p3,←p2];exact⟨h2,e2⟩
   ·rw[p2]at e2;have hy:=(Ip e2 hv hm).1;have df:arN op x y=some y:=by
     unfold arN;rcases i5 with ⟨c1,rfl⟩|⟨c1,rfl⟩
     ·rw[c1]at hx;simp at hx;subst hx;simp;omega
     ·rw[c1]at hx;simp at hx;subst hx;simp;omega
    rcases gZ with ⟨w,hw,p3⟩|⟨hw,_⟩
    ·rw[show (Ex.mk op n name kids).op=op from rfl,df]at hw;obtain rfl:=Jad hw;rw[p3];exact⟨h2,e2⟩
    ·rw[show (Ex.mk op n name kids).op=op from rfl,df]at hw;cases hw
 |@mul0 a b ho hk hb hn hs=>
  have fa:=fk a ZY;have fb:=fk b ZY;obtain⟨h1,r1,m1,e1,hr⟩:=CV (e:=.mk op n name kids) (by show 3≤op;omega) Zbe hk bg;obtain⟨⟨z,hz⟩,q2⟩:=CD _ a (Jl _) fa hs e1;subst q2;rcases hr with ⟨z',p1,_⟩|⟨x,p1,h2,r2,e2,bw⟩
  ·rw[p1]at hz;cases hz
  ·obtain⟨q3,q4⟩:=Cj fb hb e2;subst q4;rcases bw with ⟨z',p2,_⟩|⟨y,p2,gZ⟩
   ·rw[p2]at q3;cases q3
   ·rw[p2]at q3;have hy:=Rt.val.inj q3;rw[hn]at hy;simp at hy;have df:arN op x y=some 0:=(by subst ho;subst hy;simp[arN]);rcases gZ with ⟨w,hw,p3⟩|⟨hw,_⟩
    ·rw[show (Ex.mk op n name kids).op=op from rfl,df]at hw;obtain rfl:=Jad hw;rw[p3];exact⟨0,Cx ⟨ZT,ZT⟩ v m'⟩
    ·rw[show (Ex.mk op n name kids).op=op from rfl,df]at hw;cases hw
 |@mul0' a b ho hk ha hn hs=>
  have fa:=fk a ZY;have fb:=fk b ZY;obtain⟨h1,r1,m1,e1,hr⟩:=CV (e:=.mk op n name kids) (by show 3≤op;omega) Zbe hk bg;obtain⟨q1,q2⟩:=Cj fa ha e1;subst q2;rcases hr with ⟨z',p1,_⟩|⟨x,p1,h2,r2,e2,bw⟩
  ·rw[p1]at q1;cases q1
  ·rw[p1]at q1;have hx:=Rt.val.inj q1;rw[hn]at hx;simp at hx;obtain⟨⟨z,hz⟩,q4⟩:=CD _ b (Jl _) fb hs e2;subst q4;rcases bw with ⟨z',p2,_⟩|⟨y,p2,gZ⟩
   ·rw[p2]at hz;cases hz
   ·have df:arN op x y=some 0:=(by subst ho;subst hx;simp[arN]);rcases gZ with ⟨w,hw,p3⟩|⟨hw,_⟩
    ·rw[show (Ex.mk op n name kids).op=op from rfl,df]at hw;obtain rfl:=Jad hw;rw[p3];exact⟨0,Cx ⟨ZT,ZT⟩ v m'⟩
    ·rw[show (Ex.mk op n name kids).op=op from rfl,df]at hw;cases hw
end Go.AE.Y
namespace Go.AE.Y
theorem Qblr {e:Ex}{d:Int}(hf:e.form d=true)(ho:e.op=11):kid0 e∈e.kids:=by rw[CX hf ho];simp
theorem Qbk0 {e:Ex}{d:Int}(h:e.form d=true):1≤d:=by
 rw[Ex.form_eq]at h;simp only[Jb,decide_eq_true_eq]at h;exact h.1.1
theorem Sj {op n:Int}{name:List UInt8}{kids:List Ex}{e':Ex}{d:Int}(hc:FoldC op n name kids e')(hf:(Ex.mk op n name kids).form d=true) :
  e'=.mk op n name kids∨(op≠13∧kids≠[]∧((∃z,byI z∧e'=Ah z)∨(e'∈kids)∨∃a∈kids,e'∈a.kids)):=by
 have fk:=Dl hf
 cases hc with
 |same=>exact .inl rfl
 |notN ho hk ha=>exact .inr ⟨ZT,by rw[hk];simp,.inl ⟨_,by unfold trI;split <;> exact⟨ZT,ZT⟩,rfl⟩⟩
 |@not3 a ho hk ha hb=>
  have fa:=fk a ZY;exact .inr ⟨ZT,by rw[hk];simp,.inr (.inr ⟨a,by rw[hk];simp,Qblr fa ha⟩)⟩
 |@num a b z h3 bP hk ha hb hz=>
  have fa:=fk a ZY;have fb:=fk b ZY;exact .inr ⟨ZT,by rw[hk];simp,.inl ⟨z,I3 (C5 fa ha).2 (C5 fb hb).2 hz,rfl⟩⟩
 |and0 ho hk ha hn=>exact .inr ⟨ZT,by rw[hk];simp,.inl ⟨0,⟨ZT,ZT⟩,rfl⟩⟩
 |left hk hb i5=>exact .inr ⟨ZT,by rw[hk];simp,.inr (.inl Zai)⟩
 |right hk ha i5=>exact .inr ⟨ZT,by rw[hk];simp,.inr (.inl Zai)⟩
 |mul0 ho hk hb hn hs=>exact .inr ⟨ZT,by rw[hk];simp,.inl ⟨0,⟨ZT,ZT⟩,rfl⟩⟩
 |mul0' ho hk ha hn hs=>exact .inr ⟨ZT,by rw[hk];simp,.inl ⟨0,⟨ZT,ZT⟩,rfl⟩⟩
theorem Qbak {op n:Int}{name:List UInt8}{kids:List Ex}{d:Int}(hf:(Ex.mk op n name kids).form d=true):(Aj op n name kids).form d=true:=by
 have fk:=Dl hf;have hd:=Qbk0 hf;rcases Sj (CY op n name kids) hf with h|⟨_,_,⟨z,hz,h⟩|h|⟨a,ha,h⟩⟩
 ·rw[h];exact hf
 ·rw[h];exact Qbhi hz hd
 ·exact Ex.form_le _ _ _ (fk _ h) ZT
 ·exact Ex.form_le _ _ _ (Dl (fk a ha) _ h) ZT
theorem Qbal {op n:Int}{name:List UInt8}{kids:List Ex}{d:Int}(hf:(Ex.mk op n name kids).form d=true):Aj op n name kids=.mk op n name kids∨(Aj op n name kids).size<(Ex.mk op n name kids).size:=by
 rcases Sj (CY op n name kids) hf with h|⟨_,aP,⟨z,hz,h⟩|h|⟨a,ha,h⟩⟩
 ·exact .inl h
 ·right;rw[h];obtain⟨k,l,rfl⟩:∃k l,kids=k::l:=by
   cases kids with
   |nil=>exact absurd rfl aP
   |cons k l=>exact⟨k,l,rfl⟩
  have:=k.size_pos;simp only[Ah,Ex.size,Qw];omega
 ·exact .inr (G8 (e:=.mk op n name kids) h)
 ·right;have h1:=G8 (e:=.mk op n name kids) ha;have h2:=G8 h;omega
mutual
theorem Ex.fold_form:∀(x:Ex) (d:Int),x.form d=true→x.fold.form d=true
 |.mk op n name kids,d,h=>by
  simp only[Ex.fold];refine Qbak ?_;simp only[Ex.form,Jb]at h⊢;obtain⟨h1,h2⟩:=ER kids (d-1) h.2;rw[h2];exact⟨h.1,h1⟩
theorem ER:∀(l:List Ex) (d:Int),Az l d=true→Az (Q2 l) d=true∧(Q2 l).length=l.length
 |[],d,h=>by simp[Q2,Az]
 |x::r,d,h=>by
  simp only[Az,Jb]at h;obtain⟨h1,h2⟩:=ER r d h.2;simp only[Q2,Az,Jc,Jb,h2,and_true];exact⟨x.fold_form d h.1,h1⟩
end
theorem HL (l:List Ex):(Q2 l).length=l.length:=by rw[Dx,Jr]
mutual
theorem Ex.fold_size:∀(x:Ex) (d:Int),x.form d=true→x.fold=x∨x.fold.size<x.size
 |.mk op n name kids,d,h=>by
  have h0:=h;simp only[Ex.form,Jb]at h;obtain⟨h1,h2⟩:=ER kids (d-1) h.2;have h3:=Sz kids (d-1) h.2;have jd:(Ex.mk op n name (Q2 kids)).form d=true:=by
   simp only[Ex.form,Jb];rw[h2];exact⟨h.1,h1⟩
  have h4:=Qbal jd;simp only[Ex.fold];rcases h3 with h3|h3
  ·rw[h3]at h4⊢;exact h4
  ·right;have:(Aj op n name (Q2 kids)).size≤(Ex.mk op n name (Q2 kids)).size:=by
    rcases h4 with h4|h4
    ·rw[h4];exact Jl _
    ·omega
   simp only[Ex.size]at this⊢;omega
theorem Sz:∀(l:List Ex) (d:Int),Az l d=true→Q2 l=l∨Qw (Q2 l)<Qw l
 |[],d,h=>by simp[Q2]
 |x::r,d,h=>by
  simp only[Az,Jb]at h;have h1:=x.fold_size d h.1;have h2:=Sz r d h.2;simp only[Q2,Qw];rcases h1 with h1|h1 <;> rcases h2 with h2|h2
  ·left;rw[h1,h2]
  ·right;rw[h1];omega
  ·right;rw[h2];omega
  ·right;omega
end
def PreIn (l l':List Ex):Prop:=∀p∈l',p.op=2∨p.op=13→∃q∈l,q.op=p.op∧q.name=p.name∧q.kids.length=p.kids.length
theorem PreIn.app {a b a' b':List Ex}(h:PreIn a a')(k:PreIn b b'):PreIn (a++b) (a'++b'):=by
 intro p hp ho;rcases Ju.1 hp with hp|hp
 ·obtain⟨q,hq,r⟩:=h p hp ho;exact⟨q,Jn _ hq,r⟩
 ·obtain⟨q,hq,r⟩:=k p hp ho;exact⟨q,Js _ hq,r⟩
theorem PreIn.trans {a b c:List Ex}(h:PreIn a b)(k:PreIn b c):PreIn a c:=by
 intro p hp ho;obtain⟨q,hq,r1,r2,r3⟩:=k p hp ho;obtain⟨q',pR,s1,s2,s3⟩:=h q hq (by rw[r1];exact ho);exact⟨q',pR,s1.trans r1,s2.trans r2,s3.trans r3⟩
theorem PreIn.sub {a b:List Ex}(h:∀p∈b,p∈a):PreIn a b:=fun p hp _=>⟨p,h p hp,rfl,rfl,rfl⟩
theorem RY {l:List Ex}{x:Ex}(h:x∈l):∀p∈x.pre,p∈Q7 l:=by
 induction l with
 |nil=>cases h
 |cons y r ih=>
  intro p hp;simp only[Q7,Ju];rcases J3.1 h with rfl|h
  ·exact .inl hp
  ·exact .inr (ih h p hp)
theorem Qbfn {op n:Int}{name:List UInt8}{kids:List Ex}{d:Int}(hf:(Ex.mk op n name kids).form d=true):PreIn (Ex.mk op n name kids).pre (Aj op n name kids).pre:=by
 rcases Sj (CY op n name kids) hf with h|⟨_,_,⟨z,hz,h⟩|h|⟨a,ha,h⟩⟩
 ·rw[h];exact .sub fun p hp=>hp
 ·rw[h];intro p hp ho;simp only[Ah,Ex.pre,Q7,Ja]at hp;subst hp;simp only[Ex.op]at ho;omega
 ·refine .sub fun p hp=>?_;simp only[Ex.pre,J3];exact .inr (RY h p hp)
 ·refine .sub fun p hp=>?_;simp only[Ex.pre,J3];refine .inr (RY ha p ?_);rw[Ex.pre_eq];exact Jy _ (RY h p hp)
mutual
theorem Ex.fold_pre:∀(x:Ex) (d:Int),x.form d=true→PreIn x.pre x.fold.pre
 |.mk op n name kids,d,h=>by
  have h0:=h;simp only[Ex.form,Jb]at h;obtain⟨h1,h2⟩:=ER kids (d-1) h.2;have jd:(Ex.mk op n name (Q2 kids)).form d=true:=by
   simp only[Ex.form,Jb];rw[h2];exact⟨h.1,h1⟩
  simp only[Ex.fold];refine PreIn.trans ?_ (Qbfn jd);intro p hp ho;simp only[Ex.pre,J3]at hp;rcases hp with rfl|hp
  ·exact⟨.mk op n name kids,by simp only[Ex.pre];exact J2,rfl,rfl,by simp only[Ex.kids];exact h2.symm⟩
  ·obtain⟨q,hq,r⟩:=Q2y kids (d-1) h.2 p hp ho;exact⟨q,by simp only[Ex.pre];exact Jy _ hq,r⟩
theorem Q2y:∀(l:List Ex) (d:Int),Az l d=true→PreIn (Q7 l) (Q7 (Q2 l))
 |[],d,h=>by simp only[Q2];exact .sub fun p hp=>hp
 |x::r,d,h=>by
  simp only[Az,Jb]at h;simp only[Q2,Q7];exact (x.fold_pre d h.1).app (Q2y r d h.2)
end
theorem Ex.fold_call {x:Ex}{d:Int}(h:x.form d=true)(ho:x.op=13):x.fold=.mk x.op x.n x.name (Q2 x.kids):=by
 obtain⟨op,n,name,kids⟩:=x;simp only[Ex.op]at ho;simp only[Ex.fold,Ex.op,Ex.n,Ex.name,Ex.kids];have h0:=h;simp only[Ex.form,Jb]at h;obtain⟨h1,h2⟩:=ER kids (d-1) h.2;have jd:(Ex.mk op n name (Q2 kids)).form d=true:=by
  simp only[Ex.form,Jb];rw[h2];exact⟨h.1,h1⟩
 rcases Sj (CY op n name (Q2 kids)) jd with h|⟨aP,_⟩
 ·exact h
 ·exact absurd ho aP
theorem Ex.fold_valid {x:Ex}(h:x.valid=true):x.fold.valid=true:=by
 rw[Ex.valid,Jb,decide_eq_true_eq]at h⊢;refine⟨x.fold_form 6 h.1,?_⟩;rcases x.fold_size 6 h.1 with h2|h2
 ·rw[h2];exact h.2
 ·omega
mutual
def St.foldS:St→St
 |.mk op name args body els=>.mk op name (Q2 args) (At body) (At els)
def At:List St→List St
 |[]=>[]
 |x::r=>x.foldS::At r
end
def Fn.foldF (f:Fn):Fn:=⟨f.name,f.params,At f.body⟩
theorem St.foldS_op (x:St):x.foldS.op=x.op:=by cases x;simp only[St.foldS,St.op]
theorem St.foldS_name (x:St):x.foldS.name=x.name:=by cases x;simp only[St.foldS,St.name]
theorem St.foldS_args (x:St):x.foldS.args=Q2 x.args:=by cases x;simp only[St.foldS,St.args]
theorem St.foldS_body (x:St):x.foldS.body=At x.body:=by cases x;simp only[St.foldS,St.body]
theorem St.foldS_els (x:St):x.foldS.els=At x.els:=by cases x;simp only[St.foldS,St.els]
theorem Sc:∀l:List St,At l=l.map St.foldS
 |[]=>by simp[At]
 |x::r=>by simp only[At,Jv,Sc r]
theorem DV {fns:List Fn}{F:Fn→Fn}(h:∀f,(F f).name=f.name)(s:List UInt8):Ai (fns.map F) s=Ai fns s:=by
 rw[Ai,Ai,List.findIdx?_map];congr 1
 funext f;simp only[Function.comp,h]
def Tk.foldT:Tk→Tk
 |.ex e v=>.ex e.fold v
 |.exs l v=>.exs (Q2 l) v
 |.call f l=>.call f.foldF l
 |.blk l v=>.blk (At l) v
 |.st x v=>.st x.foldS v
 |.lp x v=>.lp x.foldS v
def Tk.fm:Tk→Prop
 |.ex e _=>∃d,e.form d=true
 |.exs l _=>∃d,Az l d=true
 |.call f _=>∃d,Qx f.body d=true
 |.blk l _=>∃d,Qx l d=true
 |.st x _=>∃d,x.form d=true
 |.lp x _=>∃d,x.form d=true
variable {fns:List Fn}{S:Nat}
theorem Ci {gns:List Fn}{e:Ex}{d:Int}(hf:e.form d=true){h:Nat}{v:Vars}{m m':Ms}{r:Rt}(hv:vBy v)(hm:m.by)
  (bg:Ev gns S h (.ex (.mk e.op e.n e.name (Q2 e.kids)) v) m r m'):∃h',Ev gns S h' (.ex e.fold v) m r m':=by
 rw[Ex.fold_eq];refine Qbkx (CY _ _ _ _) (d:=d) ?_ hv hm bg;obtain⟨op,n,name,kids⟩:=e;simp only[Ex.op,Ex.n,Ex.name,Ex.kids];simp only[Ex.form,Jb]at hf⊢;obtain⟨h1,h2⟩:=ER kids (d-1) hf.2;rw[h2];exact⟨hf.1,h1⟩
theorem BE {l:List Ex}{k:Ex}(h:l=[k]):Q2 l=[k.fold]:=ZbQ
theorem Ey {l:List Ex}{k k2:Ex}(h:l=[k,k2]):Q2 l=[k.fold,k2.fold]:=ZbQ
theorem Iy {l r:List Ex}{k:Ex}(h:l=k::r):Q2 l=k.fold::Q2 r:=ZbQ
theorem BQ {e k:Ex}(h:∃d,e.form d=true)(hk:k∈e.kids):∃d,k.form d=true:=by
 obtain⟨d,h⟩:=h;exact⟨_,Dl h k hk⟩
theorem Dc {x:St}{d:Int}(h:x.form d=true):(∀a∈x.args,a.valid=true)∧Qx x.body (d-1)=true∧Qx x.els (d-1)=true:=by
 rw[St.form_eq]at h;simp only[Jb,BF]at h;exact⟨Jx.1 h.1.1.2.1.1.1.2,h.1.2,h.2⟩
theorem Bq {x:St}{k:Ex}{l:List Ex}(h:∃d,x.form d=true)(hk:x.args=k::l):∃d,k.form d=true:=by
 obtain⟨d,h⟩:=h;have:=(Dc h).1 k Zai;rw[Ex.valid,Jb]at this;exact⟨6,this.1⟩
theorem G1 {x:St}{k k2:Ex}{l:List Ex}(h:∃d,x.form d=true)(hk:x.args=k::k2::l):∃d,k2.form d=true:=by
 obtain⟨d,h⟩:=h;have:=(Dc h).1 k2 Zai;rw[Ex.valid,Jb]at this;exact⟨6,this.1⟩
theorem CF {x:St}(h:∃d,x.form d=true):(∃d,Qx x.body d=true)∧∃d,Qx x.els d=true:=by
 obtain⟨d,h⟩:=h;exact⟨⟨_,(Dc h).2.1⟩,⟨_,(Dc h).2.2⟩⟩
theorem BY {x:St}{l:List St}(h:∃d,Qx (x::l) d=true):(∃d,x.form d=true)∧∃d,Qx l d=true:=by
 obtain⟨d,h⟩:=h;simp only[Qx,Jb]at h;exact⟨⟨d,h.1⟩,⟨d,h.2⟩⟩
theorem CT {x:Ex}{l:List Ex}(h:∃d,Az (x::l) d=true):(∃d,x.form d=true)∧∃d,Az l d=true:=by
 obtain⟨d,h⟩:=h;simp only[Az,Jb]at h;exact⟨⟨d,h.1⟩,⟨d,h.2⟩⟩
theorem Ev.fold (hF:∀f∈fns,∃d,Qx f.body d=true){h:Nat}{t:Tk}{m:Ms}{r:Rt}{m':Ms}(bg:Ev fns S h t m r m'):t.fm→t.by→m.by→∃h',Ev (fns.map Fn.foldF) S h' t.foldT m r m':=by
 have hN:∀s,Ai (fns.map Fn.foldF) s=Ai fns s:=DV fun f=>rfl
 induction bg with
 |@num e v m h1 h2 h3=>
  intro ⟨d,hf⟩ ht hm;exact Ci hf ht hm (.num (e:=.mk e.op e.n e.name (Q2 e.kids)) h1 h2 h3)
 |@var e v m n h1 h2=>
  intro ⟨d,hf⟩ ht hm;exact Ci hf ht hm (.var (e:=.mk e.op e.n e.name (Q2 e.kids)) h1 h2)
 |@call e v m j ns m1 r m2 a b hj h1 h2 h3 e1 e2 i1 i2=>
  intro ⟨d,hf⟩ ht hm;have b1:=e1.by (show vBy v from ht) hm
  rw[Ex.form_eq,Jb]at hf;obtain⟨a',f1⟩:=i1 ⟨_,hf.2⟩ ht hm;obtain⟨b',f2⟩:=i2 (hF _ (Jp hj)) b1.1 b1.2.1;rw[←Jb,←Ex.form_eq]at hf;refine Ci hf ht hm (.call (e:=.mk e.op e.n e.name (Q2 e.kids)) (j:=j) ZbG h1 ((hN _).trans h2) ?_ f1 (b:=b') ?_)
  ·rw[Jz];show fns[j].params.length=(Q2 e.kids).length;rw[HL];exact h3
  ·rw[Jz];exact f2
 |@callS e v m z m1 a j hj h1 h2 h3 e1 i1=>
  intro ⟨d,hf⟩ ht hm;rw[Ex.form_eq,Jb]at hf;obtain⟨a',f1⟩:=i1 ⟨_,hf.2⟩ ht hm;rw[←Jb,←Ex.form_eq]at hf;refine Ci hf ht hm (.callS (e:=.mk e.op e.n e.name (Q2 e.kids)) (j:=j) ZbG h1 ((hN _).trans h2) ?_ f1);rw[Jz];show fns[j].params.length=(Q2 e.kids).length;rw[HL];exact h3
 |@kidS e v m z m1 a k l h1 h2 h3 h4 e1 i1=>
  intro hf ht hm;obtain⟨a',f1⟩:=i1 (BQ hf (mem1 h3)) ht hm;obtain⟨d,hf⟩:=hf;refine Ci hf ht hm (.kidS (e:=.mk e.op e.n e.name (Q2 e.kids)) h1 h2 (Iy h3) (fun h=>?_) f1);have:=h4 h;intro hn;have h5:=HL l;rw[hn]at h5;exact this (Jw.1 h5.symm)
 |@not e v m x m1 a k h1 h2 e1 i1=>
  intro hf ht hm;obtain⟨a',f1⟩:=i1 (BQ hf (mem1 h2)) ht hm;obtain⟨d,hf⟩:=hf;exact Ci hf ht hm (.not (e:=.mk e.op e.n e.name (Q2 e.kids)) h1 (BE h2) f1)
 |@at_ e v m x m1 a k h1 h2 e1 h3 i1=>
  intro hf ht hm;obtain⟨a',f1⟩:=i1 (BQ hf (mem1 h2)) ht hm;obtain⟨d,hf⟩:=hf;exact Ci hf ht hm (.at_ (e:=.mk e.op e.n e.name (Q2 e.kids)) h1 (BE h2) f1 h3)
 |@atS e v m x m1 a k h1 h2 e1 h3 i1=>
  intro hf ht hm;obtain⟨a',f1⟩:=i1 (BQ hf (mem1 h2)) ht hm;obtain⟨d,hf⟩:=hf;exact Ci hf ht hm (.atS (e:=.mk e.op e.n e.name (Q2 e.kids)) h1 (BE h2) f1 h3)
 |@and0 e v m m1 a k l h1 h2 e1 i1=>
  intro hf ht hm;obtain⟨a',f1⟩:=i1 (BQ hf (mem1 h2)) ht hm;obtain⟨d,hf⟩:=hf;exact Ci hf ht hm (.and0 (e:=.mk e.op e.n e.name (Q2 e.kids)) h1 (Ey h2) f1)
 |@and1 e v m x m1 y m2 a b k l h1 h2 e1 h3 e2 i1 i2=>
  intro hf ht hm;have b1:=e1.by (show vBy v from ht) hm
  obtain⟨a',f1⟩:=i1 (BQ hf (mem1 h2)) ht hm;obtain⟨b',f2⟩:=i2 (BQ hf (mem2 h2)) ht b1.2.1;obtain⟨d,hf⟩:=hf;exact Ci hf ht hm (.and1 (e:=.mk e.op e.n e.name (Q2 e.kids)) h1 (Ey h2) f1 h3 f2)
 |@andS e v m x m1 z m2 a b k l h1 h2 e1 h3 e2 i1 i2=>
  intro hf ht hm;have b1:=e1.by (show vBy v from ht) hm
  obtain⟨a',f1⟩:=i1 (BQ hf (mem1 h2)) ht hm;obtain⟨b',f2⟩:=i2 (BQ hf (mem2 h2)) ht b1.2.1;obtain⟨d,hf⟩:=hf;exact Ci hf ht hm (.andS (e:=.mk e.op e.n e.name (Q2 e.kids)) h1 (Ey h2) f1 h3 f2)
 |@ar e v m x m1 y m2 w a b k l h1 h2 h3 e1 e2 h4 i1 i2=>
  intro hf ht hm;have b1:=e1.by (show vBy v from ht) hm
  obtain⟨a',f1⟩:=i1 (BQ hf (mem1 h3)) ht hm;obtain⟨b',f2⟩:=i2 (BQ hf (mem2 h3)) ht b1.2.1;obtain⟨d,hf⟩:=hf;exact Ci hf ht hm (.ar (e:=.mk e.op e.n e.name (Q2 e.kids)) h1 h2 (Ey h3) f1 f2 h4)
 |@arD e v m x m1 y m2 a b k l h1 h2 h3 e1 e2 h4 i1 i2=>
  intro hf ht hm;have b1:=e1.by (show vBy v from ht) hm
  obtain⟨a',f1⟩:=i1 (BQ hf (mem1 h3)) ht hm;obtain⟨b',f2⟩:=i2 (BQ hf (mem2 h3)) ht b1.2.1;obtain⟨d,hf⟩:=hf;exact Ci hf ht hm (.arD (e:=.mk e.op e.n e.name (Q2 e.kids)) h1 h2 (Ey h3) f1 f2 h4)
 |@arS e v m x m1 z m2 a b k l h1 h2 h3 e1 e2 i1 i2=>
  intro hf ht hm;have b1:=e1.by (show vBy v from ht) hm
  obtain⟨a',f1⟩:=i1 (BQ hf (mem1 h3)) ht hm;obtain⟨b',f2⟩:=i2 (BQ hf (mem2 h3)) ht b1.2.1;obtain⟨d,hf⟩:=hf;exact Ci hf ht hm (.arS (e:=.mk e.op e.n e.name (Q2 e.kids)) h1 h2 (Ey h3) f1 f2)
 |nil=>exact fun _ _ _=>⟨0,by simp only[Tk.foldT,Q2];exact .nil⟩
 |@cons x l v m n m1 ns m2 a b e1 e2 i1 i2=>
  intro hf ht hm;have b1:=e1.by (show vBy v from ht) hm
  obtain⟨a',f1⟩:=i1 (CT hf).1 ht hm;obtain⟨b',f2⟩:=i2 (CT hf).2 ht b1.2.1;exact⟨_,by simp only[Tk.foldT,Q2];exact .cons f1 f2⟩
 |@consS x l v m z m1 a e1 i1=>
  intro hf ht hm;obtain⟨a',f1⟩:=i1 (CT hf).1 ht hm;exact⟨_,by simp only[Tk.foldT,Q2];exact .consS f1⟩
 |@consS2 x l v m n m1 z m2 a b e1 e2 i1 i2=>
  intro hf ht hm;have b1:=e1.by (show vBy v from ht) hm
  obtain⟨a',f1⟩:=i1 (CT hf).1 ht hm;obtain⟨b',f2⟩:=i2 (CT hf).2 ht b1.2.1;exact⟨_,by simp only[Tk.foldT,Q2];exact .consS2 f1 f2⟩
 |@body f ns m r m1 a e1 i1=>
  intro hf ht hm;obtain⟨a',f1⟩:=i1 hf (Gn ht) hm;exact⟨_,.body (f:=f.foldF) f1⟩
 |done=>exact fun _ _ _=>⟨0,by simp only[Tk.foldT,At];exact .done⟩
 |fuel h1=>exact fun _ _ _=>⟨0,by simp only[Tk.foldT,At];exact .fuel h1⟩
 |@next x l v m v1 m1 r m2 a b h1 e1 e2 i1 i2=>
  intro hf ht hm;have b1:=e1.by (show vBy v from ht) (hm.tick _)
  obtain⟨a',f1⟩:=i1 (BY hf).1 ht (hm.tick _);obtain⟨b',f2⟩:=i2 (BY hf).2 b1.1.2 b1.2.1;exact⟨_,by simp only[Tk.foldT,At];exact .next h1 f1 f2⟩
 |@back x l v m n v1 m1 a h1 e1 i1=>
  intro hf ht hm;obtain⟨a',f1⟩:=i1 (BY hf).1 ht (hm.tick _);exact⟨_,by simp only[Tk.foldT,At];exact .back h1 f1⟩
 |@stS x l v m z m1 a h1 e1 i1=>
  intro hf ht hm;obtain⟨a',f1⟩:=i1 (BY hf).1 ht (hm.tick _);exact⟨_,by simp only[Tk.foldT,At];exact .stS h1 f1⟩
 |@loop x v m r m1 a h1 e1 i1=>
  intro hf ht hm;obtain⟨a',f1⟩:=i1 hf ht hm;exact⟨_,.loop Zaj f1⟩
 |@argS x v m z m1 a k l h1 h2 h3 e1 i1=>
  intro hf ht hm;obtain⟨a',f1⟩:=i1 (Bq hf h2) ht hm;refine⟨_,.argS Zaj (by rw[St.foldS_args];exact Iy h2) (fun h=>?_) f1⟩;rw[St.foldS_op]at h;have:=h3 h;intro hn;have h5:=HL l;rw[hn]at h5;exact this (Jw.1 h5.symm)
 |@let_ x v m n m1 a k h1 h2 e1 i1=>
  intro hf ht hm;obtain⟨a',f1⟩:=i1 (Bq hf h2) ht hm;have:=Ev.let_ (x:=x.foldS) Zaj Zae f1;rw[St.foldS_name]at this;exact⟨_,this⟩
 |@set x v m n m1 a k h1 h2 h3 e1 i1=>
  intro hf ht hm;obtain⟨a',f1⟩:=i1 (Bq hf h2) ht hm;have:=Ev.set (x:=x.foldS) Zaj Zae (by rw[St.foldS_name];exact h3) f1;rw[St.foldS_name]at this;exact⟨_,this⟩
 |@say x v m n m1 a k h1 h2 e1 i1=>
  intro hf ht hm;obtain⟨a',f1⟩:=i1 (Bq hf h2) ht hm;exact⟨_,.say Zaj Zae f1⟩
 |@put x v m n m1 y m2 a b k l h1 h2 e1 e2 h3 i1 i2=>
  intro hf ht hm;have b1:=e1.by (show vBy v from ht) hm
  obtain⟨a',f1⟩:=i1 (Bq hf h2) ht hm;obtain⟨b',f2⟩:=i2 (G1 hf h2) ht b1.2.1;exact⟨_,.put Zaj Za9 f1 f2 h3⟩
 |@putC x v m n m1 y m2 a b k l h1 h2 e1 e2 h3 i1 i2=>
  intro hf ht hm;have b1:=e1.by (show vBy v from ht) hm
  obtain⟨a',f1⟩:=i1 (Bq hf h2) ht hm;obtain⟨b',f2⟩:=i2 (G1 hf h2) ht b1.2.1;exact⟨_,.putC Zaj Za9 f1 f2 h3⟩
 |@putS x v m n m1 z m2 a b k l h1 h2 e1 e2 i1 i2=>
  intro hf ht hm;have b1:=e1.by (show vBy v from ht) hm
  obtain⟨a',f1⟩:=i1 (Bq hf h2) ht hm;obtain⟨b',f2⟩:=i2 (G1 hf h2) ht b1.2.1;exact⟨_,.putS Zaj Za9 f1 f2⟩
 |@ift x v m n m1 r m2 a b k h1 h2 e1 h3 e2 i1 i2=>
  intro hf ht hm;have b1:=e1.by (show vBy v from ht) hm
  obtain⟨a',f1⟩:=i1 (Bq hf h2) ht hm;obtain⟨b',f2⟩:=i2 (CF hf).1 (vBy.push ht) b1.2.1;exact⟨_,.ift Zaj Zae f1 h3 ZaK⟩
 |@iff_ x v m m1 r m2 a b k h1 h2 e1 e2 i1 i2=>
  intro hf ht hm;have b1:=e1.by (show vBy v from ht) hm
  obtain⟨a',f1⟩:=i1 (Bq hf h2) ht hm;obtain⟨b',f2⟩:=i2 (CF hf).2 (vBy.push ht) b1.2.1;exact⟨_,.iff_ Zaj Zae f1 (by rw[St.foldS_els];exact f2)⟩
 |@bck x v m n m1 a k h1 h2 e1 i1=>
  intro hf ht hm;obtain⟨a',f1⟩:=i1 (Bq hf h2) ht hm;exact⟨_,.bck Zaj Zae f1⟩
 |@do_ x v m n m1 a k h1 h2 e1 i1=>
  intro hf ht hm;obtain⟨a',f1⟩:=i1 (Bq hf h2) ht hm;exact⟨_,.do_ Zaj Zae f1⟩
 |@lpS x v m z m1 a k h2 e1 i1=>
  intro hf ht hm;obtain⟨a',f1⟩:=i1 (Bq hf h2) ht hm;exact⟨_,.lpS Zae f1⟩
 |@lp0 x v m m1 a k h2 e1 i1=>
  intro hf ht hm;obtain⟨a',f1⟩:=i1 (Bq hf h2) ht hm;exact⟨_,.lp0 Zae f1⟩
 |@lpB x v m n m1 z v1 m2 a b k h2 e1 h3 e2 i1 i2=>
  intro hf ht hm;have b1:=e1.by (show vBy v from ht) hm
  obtain⟨a',f1⟩:=i1 (Bq hf h2) ht hm;obtain⟨b',f2⟩:=i2 (CF hf).1 (vBy.push ht) b1.2.1;exact⟨_,.lpB Zae f1 h3 ZaK⟩
 |@lpD x v m n m1 z m2 a b k h2 e1 h3 e2 i1 i2=>
  intro hf ht hm;have b1:=e1.by (show vBy v from ht) hm
  obtain⟨a',f1⟩:=i1 (Bq hf h2) ht hm;obtain⟨b',f2⟩:=i2 (CF hf).1 (vBy.push ht) b1.2.1;exact⟨_,.lpD Zae f1 h3 ZaK⟩
 |@lpF x v m n m1 v1 m2 a b k h2 e1 h3 e2 h4 i1 i2=>
  intro hf ht hm;have b1:=e1.by (show vBy v from ht) hm
  obtain⟨a',f1⟩:=i1 (Bq hf h2) ht hm;obtain⟨b',f2⟩:=i2 (CF hf).1 (vBy.push ht) b1.2.1;exact⟨_,.lpF Zae f1 h3 ZaK h4⟩
 |@lpN x v m n m1 v1 m2 r m3 a b c k h2 e1 h3 e2 h4 e3 i1 i2 i3=>
  intro hf ht hm;have b1:=e1.by (show vBy v from ht) hm
  have b2:=e2.by (vBy.push ht) b1.2.1
  obtain⟨a',f1⟩:=i1 (Bq hf h2) ht hm;obtain⟨b',f2⟩:=i2 (CF hf).1 (vBy.push ht) b1.2.1;obtain⟨c',f3⟩:=i3 hf b2.1.2.pop (b2.2.1.tick _);exact⟨_,.lpN Zae f1 h3 ZaK h4 f3⟩
end Go.AE.Y
namespace Go.AE.Y
def AC (l:List Ex):Ex:=l.headD (Ah 0)
def A9 (op:Int)(name:List UInt8)(args:List Ex)(body els:List St):St:=
 if op=5∧(AC args).op=1 then (if (AC args).n=0 then .mk op name args [] els else .mk op name args body [])else .mk op name args body els
mutual
def St.cutS:St→St
 |.mk op name args body els=>A9 op name args (Q4 body) (Q4 els)
def Q4:List St→List St
 |[]=>[]
 |x::r=>if x.op=6∧isN (AC x.args) 0=true then Q4 r else x.cutS::(if x.op=7 then []else Q4 r)
end
def Fn.cutF (f:Fn):Fn:=⟨f.name,f.params,Q4 f.body⟩
theorem St.cutS_eq (x:St):x.cutS=A9 x.op x.name x.args (Q4 x.body) (Q4 x.els):=by cases x;simp only[St.cutS,St.op,St.name,St.args,St.body,St.els]
theorem FR (op:Int)(name:List UInt8)(args:List Ex)(body els:List St):(A9 op name args body els).op=op∧(A9 op name args body els).name=name∧(A9 op name args body els).args=args:=by
 unfold A9;split
 ·split <;> exact⟨rfl,rfl,rfl⟩
 ·exact⟨rfl,rfl,rfl⟩
theorem St.cutS_op (x:St):x.cutS.op=x.op:=by rw[St.cutS_eq];exact (FR _ _ _ _ _).1
theorem St.cutS_name (x:St):x.cutS.name=x.name:=by rw[St.cutS_eq];exact (FR _ _ _ _ _).2.1
theorem St.cutS_args (x:St):x.cutS.args=x.args:=by rw[St.cutS_eq];exact (FR _ _ _ _ _).2.2
theorem St.cutS_body {x:St}(h:¬(x.op=5∧(AC x.args).op=1∧(AC x.args).n=0)):x.cutS.body=Q4 x.body:=by
 rw[St.cutS_eq,A9];split
 ·rename_i h1
  split
  ·rename_i h2;exact absurd ⟨h1.1,h1.2,h2⟩ h
  ·rfl
 ·rfl
theorem St.cutS_els {x:St}(h:¬(x.op=5∧(AC x.args).op=1∧(AC x.args).n≠0)):x.cutS.els=Q4 x.els:=by
 rw[St.cutS_eq,A9];split
 ·rename_i h1
  split
  ·rfl
  ·rename_i h2;exact absurd ⟨h1.1,h1.2,h2⟩ h
 ·rfl
def Tk.cutT:Tk→Tk
 |.call f l=>.call f.cutF l
 |.blk l v=>.blk (Q4 l) v
 |.st x v=>.st x.cutS v
 |.lp x v=>.lp x.cutS v
 |t=>t
def Tk.fs:Tk→Prop
 |.call f _=>∃d,Qx f.body d=true
 |.blk l _=>∃d,Qx l d=true
 |.st x _=>∃d,x.form d=true
 |.lp x _=>(∃d,x.form d=true)∧x.op=6
 |_=>True
structure MsL (m m2:Ms):Prop where
 s:m2.s=m.s
 c:m2.c=m.c
 u:m2.u≤m.u
variable {fns:List Fn}{S:Nat}
theorem Gs {x:St}{h:Nat}{v:Vars}{m m':Ms}{r:Rt}{k:Ex}{d:Int}(hf:k.form d=true)(hk:x.args=[k])(ho:k.op=1)(hn:k.n=0)(bg:Ev fns S h (.lp x v) m r m'):r=.env none v∧m'=m:=by
 have key:∀{k':Ex} {h1:Nat} {r1:Rt} {m1:Ms},x.args=[k']→Ev fns S h1 (.ex k' v) m r1 m1→r1=.val 0∧m1=m:=by
  intro k' h1 r1 m1 kq e1;rw[hk]at kq;simp only[J4,and_true]at kq;subst kq;have:=Cj hf ho e1;rw[hn]at this;exact this
 cases bg with
 |lpS h1 e1=>have:=(key h1 e1).1;cases this
 |lp0 h1 e1=>exact⟨rfl,(key h1 e1).2⟩
 |lpB h1 e1 h2 e2=>exact absurd (Rt.val.inj (key h1 e1).1) h2
 |lpD h1 e1 h2 e2=>exact absurd (Rt.val.inj (key h1 e1).1) h2
 |lpF h1 e1 h2 e2 h3=>exact absurd (Rt.val.inj (key h1 e1).1) h2
 |lpN h1 e1 h2 e2 h3 e3=>exact absurd (Rt.val.inj (key h1 e1).1) h2
theorem G0 {x:St}{d:Int}(h:x.form d=true)(ho:x.op≠4):∃k,x.args=[k]∧AC x.args=k∧k.form 6=true:=by
 have hv:=(Dc h).1;rw[St.form_eq]at h;simp only[Jb,BF,decide_eq_true_eq]at h;have hl:=h.1.1.2.1.1.1.1.1.1.2;rw[AO,if_neg ho]at hl;obtain⟨k,hk⟩:=Jab.1 hl;have:=hv k Zai;rw[Ex.valid,Jb]at this;exact⟨k,hk,by rw[hk];rfl,this.1⟩
theorem Ki {x:St}{k:Ex}{l:List Ex}(h:x.args=k::l):AC x.args=k:=by rw[h];rfl
theorem Qbew {x:St}{h:Nat}{v v1:Vars}{m m':Ms}(ho:x.op=7)(bg:Ev fns S h (.st x v) m (.env none v1) m'):False:=by
 generalize hr:Rt.env none v1=r at bg
 cases bg with
 |bck=>cases hr
 |argS=>cases hr
 |_=>omega
theorem Ev.cut (hF:∀f∈fns,∃d,Qx f.body d=true){h:Nat}{t:Tk}{m:Ms}{r:Rt}{m':Ms}(bg:Ev fns S h t m r m'):t.fs→r≠.dn 3→∀m2,MsL m m2→∃h' m2',MsL m' m2'∧Ev (fns.map Fn.cutF) S h' t.cutT m2 r m2':=by
 have hN:∀s,Ai (fns.map Fn.cutF) s=Ai fns s:=DV fun f=>rfl;have up:∀{m m2:Ms},MsL m m2→MsL ⟨m.u+1,m.s,m.c⟩ ⟨m2.u+1,m2.s,m2.c⟩:=fun h=>⟨h.s,h.c,by have:=h.u;show _+1≤_+1;omega⟩
 induction bg with
 |num h1 h2 h3=>exact fun _ _ m2 hl=>⟨_,m2,hl,.num h1 h2 h3⟩
 |var h1 h2=>exact fun _ _ m2 hl=>⟨_,m2,hl,.var h1 h2⟩
 |@call e v m j ns m1 r m2 a b hj h1 h2 h3 e1 e2 i1 i2=>
  intro _ hr n hl;obtain⟨a',n1,l1,f1⟩:=i1 trivial nofun n hl;obtain⟨b',n2,l2,f2⟩:=i2 (hF _ (Jp hj)) hr n1 l1;refine⟨_,n2,l2,.call (j:=j) ZbG h1 ((hN _).trans h2) ?_ f1 (b:=b') ?_⟩
  ·rw[Jz];exact h3
  ·rw[Jz];exact f2
 |@callS e v m z m1 a j hj h1 h2 h3 e1 i1=>
  intro _ hr n hl;obtain⟨a',n1,l1,f1⟩:=i1 trivial hr n hl;refine⟨_,n1,l1,.callS (j:=j) ZbG h1 ((hN _).trans h2) ?_ f1⟩;rw[Jz];exact h3
 |kidS h1 h2 h3 h4 e1 i1=>
  intro _ hr n hl;obtain⟨a',n1,l1,f1⟩:=i1 trivial hr n hl;exact⟨_,n1,l1,.kidS h1 h2 h3 h4 f1⟩
 |not h1 h2 e1 i1=>
  intro _ hr n hl;obtain⟨a',n1,l1,f1⟩:=i1 trivial nofun n hl;exact⟨_,n1,l1,.not h1 h2 f1⟩
 |at_ h1 h2 e1 h3 i1=>
  intro _ hr n hl;obtain⟨a',n1,l1,f1⟩:=i1 trivial nofun n hl;have:=Ev.at_ h1 h2 f1 h3;rw[l1.c]at this;exact⟨_,n1,l1,this⟩
 |atS h1 h2 e1 h3 i1=>
  intro _ hr n hl;obtain⟨a',n1,l1,f1⟩:=i1 trivial nofun n hl;exact⟨_,n1,l1,.atS h1 h2 f1 h3⟩
 |and0 h1 h2 e1 i1=>
  intro _ hr n hl;obtain⟨a',n1,l1,f1⟩:=i1 trivial nofun n hl;exact⟨_,n1,l1,.and0 h1 h2 f1⟩
 |and1 h1 h2 e1 h3 e2 i1 i2=>
  intro _ hr n hl;obtain⟨a',n1,l1,f1⟩:=i1 trivial nofun n hl;obtain⟨b',n2,l2,f2⟩:=i2 trivial nofun n1 l1;exact⟨_,n2,l2,.and1 h1 h2 f1 h3 f2⟩
 |andS h1 h2 e1 h3 e2 i1 i2=>
  intro _ hr n hl;obtain⟨a',n1,l1,f1⟩:=i1 trivial nofun n hl;obtain⟨b',n2,l2,f2⟩:=i2 trivial hr n1 l1;exact⟨_,n2,l2,.andS h1 h2 f1 h3 f2⟩
 |ar h1 h2 h3 e1 e2 h4 i1 i2=>
  intro _ hr n hl;obtain⟨a',n1,l1,f1⟩:=i1 trivial nofun n hl;obtain⟨b',n2,l2,f2⟩:=i2 trivial nofun n1 l1;exact⟨_,n2,l2,.ar h1 h2 h3 f1 f2 h4⟩
 |arD h1 h2 h3 e1 e2 h4 i1 i2=>
  intro _ hr n hl;obtain⟨a',n1,l1,f1⟩:=i1 trivial nofun n hl;obtain⟨b',n2,l2,f2⟩:=i2 trivial nofun n1 l1;exact⟨_,n2,l2,.arD h1 h2 h3 f1 f2 h4⟩
 |arS h1 h2 h3 e1 e2 i1 i2=>
  intro _ hr n hl;obtain⟨a',n1,l1,f1⟩:=i1 trivial nofun n hl;obtain⟨b',n2,l2,f2⟩:=i2 trivial hr n1 l1;exact⟨_,n2,l2,.arS h1 h2 h3 f1 f2⟩
 |nil=>exact fun _ _ n hl=>⟨_,n,hl,.nil⟩
 |cons e1 e2 i1 i2=>
  intro _ hr n hl;obtain⟨a',n1,l1,f1⟩:=i1 trivial nofun n hl;obtain⟨b',n2,l2,f2⟩:=i2 trivial nofun n1 l1;exact⟨_,n2,l2,.cons f1 f2⟩
 |consS e1 i1=>
  intro _ hr n hl;obtain⟨a',n1,l1,f1⟩:=i1 trivial hr n hl;exact⟨_,n1,l1,.consS f1⟩
 |consS2 e1 e2 i1 i2=>
  intro _ hr n hl;obtain⟨a',n1,l1,f1⟩:=i1 trivial nofun n hl;obtain⟨b',n2,l2,f2⟩:=i2 trivial hr n1 l1;exact⟨_,n2,l2,.consS2 f1 f2⟩
 |@body f ns m r m1 a e1 i1=>
  intro hf hr n hl;obtain⟨a',n1,l1,f1⟩:=i1 hf (fun h=>hr (by rw[h];rfl)) n hl;exact⟨_,n1,l1,.body (f:=f.cutF) f1⟩
 |done=>exact fun _ _ n hl=>⟨_,n,hl,by simp only[Tk.cutT,Q4];exact .done⟩
 |fuel h1=>exact fun _ hr=>absurd rfl hr
 |@next x l v m v1 m1 r m2 a b h1 e1 e2 i1 i2=>
  intro hf hr n hl;obtain⟨cZ,fW⟩:=BY hf;simp only[Tk.cutT,Q4];by_cases hc:x.op=6∧isN (AC x.args) 0=true
  ·rw[if_pos hc];obtain⟨d,cZ⟩:=cZ;obtain⟨k,hk,jS,mW⟩:=G0 cZ ZT;have hn:=isN_iff.1 hc.2;rw[jS]at hn;generalize fj:Rt.env none v1=r1 at e1;have ho:=hc.1
   cases e1 with
   |loop _ e0=>
    obtain⟨q1,q2⟩:=Gs mW hk hn.1 hn.2 e0;rw[q1]at fj;obtain⟨_,rfl⟩:=Rt.env.inj fj;subst q2;exact i2 fW hr n ⟨hl.s,hl.c,by have:=hl.u;show n.u≤m.u+1;omega⟩
   |_=>omega
  ·rw[if_neg hc];obtain⟨a',n1,l1,f1⟩:=i1 cZ nofun _ (up hl);have h7:x.op≠7:=fun ho=>Qbew ho e1;rw[if_neg h7];obtain⟨b',n2,l2,f2⟩:=i2 fW hr n1 l1;exact⟨_,n2,l2,.next (by have:=hl.u;omega) f1 f2⟩
 |@back x l v m z v1 m1 a h1 e1 i1=>
  intro hf hr n hl;obtain⟨cZ,fW⟩:=BY hf;simp only[Tk.cutT,Q4];have hc:¬(x.op=6∧isN (AC x.args) 0=true):=by
   intro hc;obtain⟨d,cZ⟩:=cZ;obtain⟨k,hk,jS,mW⟩:=G0 cZ ZT;have hn:=isN_iff.1 hc.2;rw[jS]at hn;generalize fj:Rt.env (some z) v1=r1 at e1;have ho:=hc.1
   cases e1 with
   |loop _ e0=>
    obtain⟨q1,q2⟩:=Gs mW hk hn.1 hn.2 e0;rw[q1]at fj;cases fj
   |_=>omega
  rw[if_neg hc];obtain⟨a',n1,l1,f1⟩:=i1 cZ nofun _ (up hl);exact⟨_,n1,l1,.back (by have:=hl.u;omega) f1⟩
 |@stS x l v m z m1 a h1 e1 i1=>
  intro hf hr n hl;obtain⟨cZ,fW⟩:=BY hf;simp only[Tk.cutT,Q4];have hc:¬(x.op=6∧isN (AC x.args) 0=true):=by
   intro hc;obtain⟨d,cZ⟩:=cZ;obtain⟨k,hk,jS,mW⟩:=G0 cZ ZT;have hn:=isN_iff.1 hc.2;rw[jS]at hn;generalize fj:Rt.dn z=r1 at e1;have ho:=hc.1
   cases e1 with
   |loop _ e0=>
    obtain⟨q1,q2⟩:=Gs mW hk hn.1 hn.2 e0;rw[q1]at fj;cases fj
   |argS h6=>exact h6 ho
   |_=>omega
  rw[if_neg hc];obtain⟨a',n1,l1,f1⟩:=i1 cZ (fun h=>hr (by rw[Rt.dn.inj h])) _ (up hl);exact⟨_,n1,l1,.stS (by have:=hl.u;omega) f1⟩
 |@loop x v m r m1 a h1 e1 i1=>
  intro hf hr n hl;obtain⟨a',n1,l1,f1⟩:=i1 ⟨hf,h1⟩ hr n hl;exact⟨_,n1,l1,.loop Zal f1⟩
 |@argS x v m z m1 a k l h1 h2 h3 e1 i1=>
  intro hf hr n hl;obtain⟨a',n1,l1,f1⟩:=i1 trivial hr n hl;exact⟨_,n1,l1,.argS Zal Zad (by rw[St.cutS_op];exact h3) f1⟩
 |@let_ x v m z m1 a k h1 h2 e1 i1=>
  intro hf hr n hl;obtain⟨a',n1,l1,f1⟩:=i1 trivial nofun n hl;have:=Ev.let_ (x:=x.cutS) Zal Zad f1;rw[St.cutS_name]at this;exact⟨_,n1,l1,this⟩
 |@set x v m z m1 a k h1 h2 h3 e1 i1=>
  intro hf hr n hl;obtain⟨a',n1,l1,f1⟩:=i1 trivial nofun n hl;have:=Ev.set (x:=x.cutS) Zal Zad (by rw[St.cutS_name];exact h3) f1;rw[St.cutS_name]at this;exact⟨_,n1,l1,this⟩
 |@say x v m z m1 a k h1 h2 e1 i1=>
  intro hf hr n hl;obtain⟨a',n1,l1,f1⟩:=i1 trivial nofun n hl;have:=Ev.say (x:=x.cutS) Zal Zad f1;exact⟨_,⟨n1.u,n1.s++[z],n1.c⟩,⟨by rw[l1.s],l1.c,l1.u⟩,this⟩
 |@put x v m z m1 y m2 a b k l h1 h2 e1 e2 h3 i1 i2=>
  intro hf hr n hl;obtain⟨a',n1,l1,f1⟩:=i1 trivial nofun n hl;obtain⟨b',n2,l2,f2⟩:=i2 trivial nofun n1 l1;have:=Ev.put (x:=x.cutS) Zal Zad f1 f2 h3;exact⟨_,⟨n2.u,n2.s,n2.c.set z y⟩,⟨l2.s,by rw[l2.c],l2.u⟩,this⟩
 |@putC x v m z m1 y m2 a b k l h1 h2 e1 e2 h3 i1 i2=>
  intro hf hr n hl;obtain⟨a',n1,l1,f1⟩:=i1 trivial nofun n hl;obtain⟨b',n2,l2,f2⟩:=i2 trivial nofun n1 l1;exact⟨_,n2,l2,.putC Zal Zad f1 f2 h3⟩
 |@putS x v m z m1 w m2 a b k l h1 h2 e1 e2 i1 i2=>
  intro hf hr n hl;obtain⟨a',n1,l1,f1⟩:=i1 trivial nofun n hl;obtain⟨b',n2,l2,f2⟩:=i2 trivial hr n1 l1;exact⟨_,n2,l2,.putS Zal Zad f1 f2⟩
 |@ift x v m z m1 r m2 a b k h1 h2 e1 h3 e2 i1 i2=>
  intro hf hr n hl;obtain⟨a',n1,l1,f1⟩:=i1 trivial nofun n hl;obtain⟨b',n2,l2,f2⟩:=i2 (CF hf).1 (fun h=>hr (by rw[h];rfl)) n1 l1;refine⟨_,n2,l2,.ift Zal Zad f1 h3 (b:=b') ?_⟩;rw[St.cutS_body]
  ·exact f2
  ·rintro⟨_,q1,q2⟩;rw[Ki h2]at q1 q2;obtain⟨d,hk⟩:=Bq hf h2;have:=(Cj hk q1 e1).1;rw[q2]at this;exact h3 (Rt.val.inj this)
 |@iff_ x v m m1 r m2 a b k h1 h2 e1 e2 i1 i2=>
  intro hf hr n hl;obtain⟨a',n1,l1,f1⟩:=i1 trivial nofun n hl;obtain⟨b',n2,l2,f2⟩:=i2 (CF hf).2 (fun h=>hr (by rw[h];rfl)) n1 l1;refine⟨_,n2,l2,.iff_ Zal Zad f1 (b:=b') ?_⟩;rw[St.cutS_els]
  ·exact f2
  ·rintro⟨_,q1,q2⟩;rw[Ki h2]at q1 q2;obtain⟨d,hk⟩:=Bq hf h2;have:=(Cj hk q1 e1).1;have h0:=(C5 hk q1).2.1;have:=Rt.val.inj this;omega
 |@bck x v m z m1 a k h1 h2 e1 i1=>
  intro hf hr n hl;obtain⟨a',n1,l1,f1⟩:=i1 trivial nofun n hl;exact⟨_,n1,l1,.bck Zal Zad f1⟩
 |@do_ x v m z m1 a k h1 h2 e1 i1=>
  intro hf hr n hl;obtain⟨a',n1,l1,f1⟩:=i1 trivial nofun n hl;exact⟨_,n1,l1,.do_ Zal Zad f1⟩
 |@lpS x v m z m1 a k h2 e1 i1=>
  intro hf hr n hl;obtain⟨a',n1,l1,f1⟩:=i1 trivial hr n hl;exact⟨_,n1,l1,.lpS Zad f1⟩
 |@lp0 x v m m1 a k h2 e1 i1=>
  intro hf hr n hl;obtain⟨a',n1,l1,f1⟩:=i1 trivial nofun n hl;exact⟨_,n1,l1,.lp0 Zad f1⟩
 |@lpB x v m z m1 w v1 m2 a b k h2 e1 h3 e2 i1 i2=>
  intro hf hr n hl;obtain⟨a',n1,l1,f1⟩:=i1 trivial nofun n hl;obtain⟨b',n2,l2,f2⟩:=i2 (CF hf.1).1 nofun n1 l1;exact⟨_,n2,l2,.lpB Zad f1 h3 ZaE⟩
 |@lpD x v m z m1 w m2 a b k h2 e1 h3 e2 i1 i2=>
  intro hf hr n hl;obtain⟨a',n1,l1,f1⟩:=i1 trivial nofun n hl;obtain⟨b',n2,l2,f2⟩:=i2 (CF hf.1).1 hr n1 l1;exact⟨_,n2,l2,.lpD Zad f1 h3 ZaE⟩
 |lpF h2 e1 h3 e2 h4 i1 i2=>exact fun _ hr=>absurd rfl hr
 |@lpN x v m z m1 v1 m2 r m3 a b c k h2 e1 h3 e2 h4 e3 i1 i2 i3=>
  intro hf hr n hl;obtain⟨a',n1,l1,f1⟩:=i1 trivial nofun n hl;obtain⟨b',n2,l2,f2⟩:=i2 (CF hf.1).1 nofun n1 l1;obtain⟨c',n3,l3,f3⟩:=i3 hf hr _ (up l2);exact⟨_,n3,l3,.lpN Zad f1 h3 ZaE (by have:=l2.u;omega) f3⟩
end Go.AE.Y
namespace Go.AE.Y
theorem M3 (l:List St):(At l).length=l.length:=by rw[Sc,Jr]
theorem Qa7v {op:Int}{name:List UInt8}{args:List Ex}{nb ne:Nat}(h:BF op name args nb ne=true):BF op name (Q2 args) nb ne=true:=by
 simp only[BF,Jb]at h⊢;obtain⟨⟨⟨⟨⟨⟨⟨h1,h2⟩,h3⟩,h4⟩,h5⟩,h6⟩,h7⟩,h8⟩:=h;have hv:=Jx.1 h5;refine⟨⟨⟨⟨⟨⟨⟨h1,by rw[HL];exact h2⟩,h3⟩,h4⟩,?_⟩,?_⟩,h7⟩,h8⟩
 ·rw[Dx,List.all_map];exact Jx.2 fun x hx=>Ex.fold_valid (hv x hx)
 ·rw[J9]at h6⊢;rcases h6 with h6|h6
  ·exact .inl h6
  ·right
   cases args with
   |nil=>exact h6
   |cons x r=>
    have cy:x.op=13:=(by simpa using h6);have hx:=hv x ZV;rw[Ex.valid,Jb]at hx;simp only[Q2,Jv];rw[Ex.fold_call hx.1 cy];simp[Ex.op]at cy⊢;cases x;exact cy
mutual
theorem St.fold_form:∀(x:St) (d:Int),x.form d=true→x.foldS.form d=true
 |.mk op name args body els,d,h=>by
  simp only[St.form,St.foldS,Jb]at h⊢;obtain⟨⟨⟨h1,h2⟩,h3⟩,h4⟩:=h;rw[M3,M3];exact⟨⟨⟨h1,Qa7v h2⟩,Sq body (d-1) h3⟩,Sq els (d-1) h4⟩
theorem Sq:∀(l:List St) (d:Int),Qx l d=true→Qx (At l) d=true
 |[],d,h=>by simp[At,Qx]
 |x::r,d,h=>by
  simp only[Qx,At,Jb]at h⊢;exact⟨x.fold_form d h.1,Sq r d h.2⟩
end
mutual
theorem St.fold_cnt:∀(x:St),x.foldS.cnt=x.cnt
 |.mk op name args body els=>by simp only[St.foldS,St.cnt,Sd body,Sd els]
theorem Sd:∀(l:List St),As (At l)=As l
 |[]=>by simp[At]
 |x::r=>by simp only[At,As,x.fold_cnt,Sd r]
end
mutual
theorem St.fold_size:∀(x:St) (d:Int),x.form d=true→x.foldS=x∨x.foldS.size<x.size
 |.mk op name args body els,d,h=>by
  have hv:=(Dc h).1;simp only[St.form,Jb]at h;obtain⟨⟨⟨h1,h2⟩,h3⟩,h4⟩:=h;have ha:Az args 6=true:=NR hv;have a1:=Sz args 6 ha;have a2:=GR body (d-1) h3;have a3:=GR els (d-1) h4;simp only[St.foldS,St.size];rcases a1 with a1|a1 <;> rcases a2 with a2|a2 <;> rcases a3 with a3|a3
  ·left;rw[a1,a2,a3]
  all_goals right
  ·rw[a1,a2];omega
  ·rw[a1,a3];omega
  ·rw[a1];omega
  ·rw[a2,a3];omega
  ·rw[a2];omega
  ·rw[a3];omega
  ·omega
theorem GR:∀(l:List St) (d:Int),Qx l d=true→At l=l∨Qj (At l)<Qj l
 |[],d,h=>by simp[At]
 |x::r,d,h=>by
  simp only[Qx,Jb]at h;have a1:=x.fold_size d h.1;have a2:=GR r d h.2;simp only[At,Qj];rcases a1 with a1|a1 <;> rcases a2 with a2|a2
  ·left;rw[a1,a2]
  ·right;rw[a1];omega
  ·right;rw[a2];omega
  ·right;omega
end
structure HdE (fns gns:List Fn)(k:Nat):Prop where
 ix:∀s,Ai (gns.take k) s=Ai (fns.take k) s
 ps:∀j:Nat,(gns[j]?.map fun f:Fn=>f.params.length)=(fns[j]?.map fun f:Fn=>f.params.length)
theorem HdE.map {fns:List Fn}{k:Nat}{F:Fn→Fn}(h:∀f,(F f).name=f.name∧(F f).params=f.params):HdE fns (fns.map F) k:=by
 refine⟨fun s=>?_,fun j=>?_⟩
 ·rw[←List.map_take];exact DV (fun f=>(h f).1) s
 ·rw[List.getElem?_map,Option.map_map];congr 1
  funext f;simp only[Function.comp,(h f).2]
theorem Qbhm {fns gns:List Fn}{k:Nat}{v w:Vars}{p q:Ex}(hd:HdE fns gns k)(hn:nm v=nm w)
  (ho:q.op=p.op) (hm:q.name=p.name) (hk:q.kids.length=p.kids.length) (h:AA fns k v q=0):AA gns k w p=0:=by
 unfold AA at h⊢;rw[ho,hm,hk]at h;by_cases nw:p.op=2
 ·rw[if_pos nw]at h⊢;have:(v.find p.name).isSome=true:=by
   split at h
   ·assumption
   ·omega
  rw[if_pos (DW hn this)]
 ·rw[if_neg nw]at h⊢;by_cases cy:p.op=13
  ·rw[if_pos cy]at h⊢;rw[hd.ix]
   cases kw:Ai (fns.take k) p.name with
   |none=>rw[kw]at h;exact h
   |some j=>rw[kw]at h;simp only[hd.ps]at h⊢;exact h
  ·rw[if_neg cy]
theorem Qbhn {fns:List Fn}{k:Nat}{v:Vars}{p:Ex}(h:¬(p.op=2∨p.op=13)):AA fns k v p=0:=by
 unfold AA;rw[if_neg (fun h2=>h (.inl h2)),if_neg (fun h2=>h (.inr h2))]
theorem Qble {v w:Vars}(h:nm v=nm w)(s:List UInt8):A6 v s=A6 w s:=by
 have key:∀v:Vars,A6 v s=((nm v).headD []).any fun p=>decide (p=s):=by
  intro v
  cases v with
  |nil=>rfl
  |cons b v=>simp only[A6,nm,Jat,Jv,List.any_map];rfl
 rw[key,key,h]
theorem Ie {fns:List Fn}{k:Nat}{op:Int}{name:List UInt8}{args:List Ex}{s:Ck}:nm (stC fns k op name args s).v=if op=1 then (name::(nm s.v).headD [])::(nm s.v).tail else nm s.v:=by
 unfold stC;by_cases h1:op=1
 ·simp only[if_pos h1];exact Es _ _ _
 ·simp only[if_neg h1];split <;> rfl
theorem Px {fns gns:List Fn}{k:Nat}{op:Int}{name:List UInt8}{args args':List Ex}{s s':Ck}(hd:HdE fns gns k)
  (hp:PreIn (Q7 args) (Q7 args')) (hn:nm s.v=nm s'.v) (hc:s'.c=0) (h:(stC fns k op name args s).c=0):(stC gns k op name args' s').c=0∧nm (stC gns k op name args' s').v=nm (stC fns k op name args s).v:=by
 refine⟨?_,by rw[Ie,Ie,hn]⟩;have key:Ax fns k s.v (Q7 args) s.c=0→Ax gns k s'.v (Q7 args') s'.c=0:=by
  intro h0;refine partsC_zero.2 ⟨hc,fun p fo=>?_⟩;by_cases ho:p.op=2∨p.op=13
  ·obtain⟨q,hq,r1,r2,r3⟩:=hp p fo ho;exact Qbhm hd hn r1 r2 r3 ((partsC_zero.1 h0).2 q hq)
  ·exact Qbhn ho
 unfold stC at h⊢;by_cases ho:op=1
 ·simp only[if_pos ho]at h⊢;obtain⟨a,b⟩:=fst0_zero.1 h;rw[←Qble hn];exact fst0_zero.2 ⟨key a,b⟩
 ·simp only[if_neg ho]at h⊢;by_cases gp:op=2
  ·simp only[if_pos gp]at h⊢;obtain⟨a,b⟩:=fst0_zero.1 h;refine fst0_zero.2 ⟨key a,?_⟩;have:(s.v.find name).isSome=true:=by
    split at b
    ·assumption
    ·omega
   rw[if_pos (DW hn this)]
  ·simp only[if_neg gp]at h⊢;exact key h
variable {fns gns:List Fn}{k:Nat}
theorem Qatw {args:List Ex}(hv:∀a∈args,a.valid=true):PreIn (Q7 args) (Q7 (Q2 args)):=Q2y args 6 (NR hv)
theorem DN {v w:Vars}(h:nm v=nm w):nm ([]::v)=nm ([]::w):=by simp only[nm,Jv]at h⊢;rw[h]
mutual
theorem St.fold_ck (hd:HdE fns gns k):∀(x:St) (d:Int) (s s':Ck),x.form d=true→(x.ck fns k s).c=0→s'.c=0→nm s.v=nm s'.v→(x.foldS.ck gns k s').c=0∧nm (x.foldS.ck gns k s').v=nm (x.ck fns k s).v
 |.mk op name args body els,d,s,s',hf,h,hc,hn=>by
  have hv:=(Dc hf).1;simp only[St.form,Jb]at hf;simp only[St.ck,St.foldS]at h⊢;obtain⟨h1,_⟩:=BN els h;obtain⟨h2,_⟩:=BN body h1;obtain⟨a1,a2⟩:=Px hd (Qatw hv) hn hc h2;have b1:=RQ hd body (d-1) _ ⟨[]::(stC gns k op name (Q2 args) s').v,(stC gns k op name (Q2 args) s').c,(stC gns k op name (Q2 args) s').n⟩ hf.1.2 h1 a1 (DN a2.symm);have c1:=RQ hd els (d-1) _ ⟨[]::(stC gns k op name (Q2 args) s').v,(Ae gns k (At body) ⟨[]::(stC gns k op name (Q2 args) s').v,(stC gns k op name (Q2 args) s').c,(stC gns k op name (Q2 args) s').n⟩).c,(Ae gns k (At body) ⟨[]::(stC gns k op name (Q2 args) s').v,(stC gns k op name (Q2 args) s').c,(stC gns k op name (Q2 args) s').n⟩).n⟩ hf.2 h b1 (DN a2.symm);exact⟨c1,a2⟩
theorem RQ (hd:HdE fns gns k):∀(l:List St) (d:Int) (s s':Ck),Qx l d=true→(Ae fns k l s).c=0→s'.c=0→nm s.v=nm s'.v→(Ae gns k (At l) s').c=0
 |[],d,s,s',hf,h,hc,hn=>by simp only[At,Ae];exact hc
 |x::r,d,s,s',hf,h,hc,hn=>by
  simp only[Qx,Jb]at hf;simp only[Ae,At]at h⊢;obtain⟨h1,_⟩:=BN r h;obtain⟨a1,a2⟩:=x.fold_ck hd d s s' hf.1 h1 hc hn;exact RQ hd r d _ _ hf.2 h a1 a2.symm
end
theorem Yh {x:St}{s:Ck}(h:x.op=6):(x.ck fns k s).v=s.v:=by
 rw[St.ck_eq];simp only[stC,h];rfl
theorem Q9d (op:Int)(name:List UInt8)(args:List Ex)(body els:List St):∃b e,A9 op name args body els=.mk op name args b e∧(b=body∨b=[])∧(e=els∨e=[]):=by
 unfold A9;split
 ·split
  ·exact⟨_,_,rfl,.inr rfl,.inl rfl⟩
  ·exact⟨_,_,rfl,.inl rfl,.inr rfl⟩
 ·exact⟨_,_,rfl,.inl rfl,.inl rfl⟩
mutual
theorem St.cut_ck (hd:HdE fns gns k):∀(x:St) (s s':Ck),(x.ck fns k s).c=0→s'.c=0→nm s.v=nm s'.v→(x.cutS.ck gns k s').c=0∧nm (x.cutS.ck gns k s').v=nm (x.ck fns k s).v
 |.mk op name args body els,s,s',h,hc,hn=>by
  simp only[St.ck]at h;obtain⟨h1,_⟩:=BN els h;obtain⟨h2,_⟩:=BN body h1;obtain⟨a1,a2⟩:=Px hd (.sub fun p hp=>hp) hn hc h2;simp only[St.cutS];obtain⟨b,e,j4,hb,he⟩:=Q9d op name args (Q4 body) (Q4 els);rw[j4];simp only[St.ck];have b1:(Ae gns k b ⟨[]::(stC gns k op name args s').v,(stC gns k op name args s').c,(stC gns k op name args s').n⟩).c=0:=by
   rcases hb with rfl|rfl
   ·exact Hl hd body _ _ h1 a1 (DN a2.symm)
   ·exact a1
  refine⟨?_,a2⟩;rcases he with rfl|rfl
  ·exact Hl hd els _ _ h b1 (DN a2.symm)
  ·exact b1
theorem Hl (hd:HdE fns gns k):∀(l:List St) (s s':Ck),(Ae fns k l s).c=0→s'.c=0→nm s.v=nm s'.v→(Ae gns k (Q4 l) s').c=0
 |[],s,s',h,hc,hn=>by simp only[Q4,Ae];exact hc
 |x::r,s,s',h,hc,hn=>by
  simp only[Ae,Q4]at h⊢;obtain⟨h1,_⟩:=BN r h;split
  ·rename_i hl
   refine Hl hd r _ s' h hc ?_;rw[Yh hl.1];exact hn
  ·obtain⟨a1,a2⟩:=x.cut_ck hd s s' h1 hc hn;simp only[Ae];split
   ·exact a1
   ·exact Hl hd r _ _ h a1 a2.symm
end
mutual
theorem St.cut_form:∀(x:St) (d:Int),x.form d=true→x.cutS.form d=true
 |.mk op name args body els,d,h=>by
  simp only[St.form,St.cutS,Jb]at h⊢;obtain⟨⟨⟨h1,h2⟩,h3⟩,h4⟩:=h;have b0:=Se body (d-1) h3;have e0:=Se els (d-1) h4;obtain⟨b,e,j4,hb,he⟩:=Q9d op name args (Q4 body) (Q4 els);rw[j4];simp only[St.form,Jb];simp only[BF,Jb]at h2⊢;obtain⟨⟨h2,h7⟩,h8⟩:=h2;refine⟨⟨⟨h1,⟨⟨h2,?_⟩,?_⟩⟩,?_⟩,?_⟩
  ·rw[J9]at h7⊢;rcases h7 with h7|h7
   ·exact .inl h7
   ·right;have:els=[]:=Jw.1 (of_decide_eq_true h7);subst this;rcases he with rfl|rfl <;> simp[Q4]
  ·rw[J9]at h8⊢;rcases h8 with h8|h8
   ·exact .inl h8
   ·right;have:body=[]:=Jw.1 (of_decide_eq_true h8);subst this;rcases hb with rfl|rfl <;> simp[Q4]
  ·rcases hb with rfl|rfl
   ·exact b0
   ·simp[Qx]
  ·rcases he with rfl|rfl
   ·exact e0
   ·simp[Qx]
theorem Se:∀(l:List St) (d:Int),Qx l d=true→Qx (Q4 l) d=true
 |[],d,h=>by simp[Q4,Qx]
 |x::r,d,h=>by
  simp only[Qx,Jb]at h;have h1:=x.cut_form d h.1;have h2:=Se r d h.2;simp only[Q4];split
  ·exact h2
  ·simp only[Qx,Jb];refine⟨h1,?_⟩;split
   ·simp[Qx]
   ·exact h2
end
theorem Th (x:St):1≤x.size:=by cases x;simp only[St.size];omega
mutual
theorem St.cut_cnt:∀(x:St),x.cutS.cnt≤x.cnt∧(x.cutS=x∨x.cutS.size<x.size)
 |.mk op name args body els=>by
  obtain⟨b1,b2⟩:=Hu body;obtain⟨e1,e2⟩:=Hu els;obtain⟨b,e,j4,hb,he⟩:=Q9d op name args (Q4 body) (Q4 els);simp only[St.cutS];rw[j4];have c1:As b≤As body∧(b=body∨Qj b<Qj body):=by
   rcases hb with rfl|rfl
   ·exact⟨b1,b2⟩
   ·refine⟨by simp[As],?_⟩
    cases body with
    |nil=>exact .inl rfl
    |cons y r=>right;have:=Th y;simp only[Qj];omega
  have c2:As e≤As els∧(e=els∨Qj e<Qj els):=by
   rcases he with rfl|rfl
   ·exact⟨e1,e2⟩
   ·refine⟨by simp[As],?_⟩
    cases els with
    |nil=>exact .inl rfl
    |cons y r=>right;have:=Th y;simp only[Qj];omega
  simp only[St.cnt,St.size];refine⟨ZT,?_⟩;rcases c1.2 with q1|q1 <;> rcases c2.2 with q2|q2
  ·left;rw[q1,q2]
  ·right;rw[q1];omega
  ·right;rw[q2];omega
  ·right;omega
theorem Hu:∀(l:List St),As (Q4 l)≤As l∧(Q4 l=l∨Qj (Q4 l)<Qj l)
 |[]=>by simp[Q4]
 |x::r=>by
  obtain⟨x1,x2⟩:=x.cut_cnt;obtain⟨r1,r2⟩:=Hu r;have hx:=Th x;simp only[Q4];split
  ·simp only[As,Qj];refine⟨ZT,.inr ?_⟩;rcases r2 with r2|r2
   ·rw[r2];omega
   ·omega
  ·split
   ·simp only[As,Qj];refine⟨ZT,?_⟩
    cases r with
    |nil=>
     rcases x2 with x2|x2
     ·left;rw[x2]
     ·right;simp only[Qj];omega
    |cons y r'=>
     right;have:=Th y;simp only[Qj];rcases x2 with x2|x2
     ·rw[x2];omega
     ·omega
   ·simp only[As,Qj];refine⟨ZT,?_⟩;rcases x2 with x2|x2 <;> rcases r2 with r2|r2
    ·left;rw[x2,r2]
    ·right;rw[x2];omega
    ·right;rw[r2];omega
    ·right;omega
end
end Go.AE.Y
namespace Go.AE.Y
variable {fns:List Fn}{S:Nat}
def foldA (fns:List Fn):List Fn:=fns.map Fn.foldF
def cutA (fns:List Fn):List Fn:=fns.map Fn.cutF
theorem Rb {F:Fn→Fn}(h:∀f:Fn,As (F f).body≤As f.body):∀l:List Fn,A7 (l.map F)≤A7 l
 |[]=>Jl _
 |f::r=>by have:=h f;have:=Rb h r;simp only[Jv,A7];omega
theorem FineP.mapF {F:Fn→Fn}(h:FineP fns)(h1:∀f,(F f).name=f.name∧(F f).params=f.params)(h2:∀f:Fn,Qx f.body 4=true→Qx (F f).body 4=true)(h3:∀f:Fn,As (F f).body≤As f.body)
  (h4:∀(k:Nat) (f:Fn) (s:Ck),Qx f.body 4=true→(Ae fns k f.body s).c=0→s.c=0→(Ae (fns.map F) k (F f).body s).c=0):FineP (fns.map F):=by
 have hv:=h.v;simp only[AW,Jb,decide_eq_true_eq]at hv;have gv:∀f∈fns,Fn.form f=true:=Jx.1 hv.1.2;have i4:∀f∈fns,Qx f.body 4=true:=fun f hf=>by
  have:=gv f hf;simp only[Fn.form,Jb]at this;exact this.2
 refine⟨?_,fun k hk=>?_,fun k hk=>?_⟩
 ·simp only[AW,Jb,decide_eq_true_eq,Jr];refine⟨⟨hv.1.1,Jx.2 fun f hf=>?_⟩,Nat.le_trans (Rb h3 fns) hv.2⟩;obtain⟨g,hg,rfl⟩:=J8.1 hf;have:=gv g hg;simp only[Fn.form,Jb]at this⊢;rw[(h1 g).1,(h1 g).2];exact⟨this.1,h2 g this.2⟩
 ·rw[Jr]at hk;have hc:=h.c k hk;rw[Jz,(h1 _).2];exact h4 k _ _ (i4 _ (Jp hk)) hc (BN _ hc).1
 ·rw[Jr]at hk;rw[Jz,(h1 _).1,DV fun f=>(h1 f).1];exact h.ix k hk
theorem GJ (h:FineP fns):FineP (foldA fns):=
 h.mapF (fun f=>⟨rfl,rfl⟩) (fun f hf=>Sq _ _ hf) (fun f=>Nat.le_of_eq (Sd _)) fun k f s hf hc hs=>RQ (.map (F:=Fn.foldF) fun f=>⟨rfl,rfl⟩) _ _ s s hf hc hs rfl
theorem Qbe5 (h:FineP fns):FineP (cutA fns):=
 h.mapF (fun f=>⟨rfl,rfl⟩) (fun f hf=>Se _ _ hf) (fun f=>(Hu _).1) fun k f s hf hc hs=>Hl (.map (F:=Fn.cutF) fun f=>⟨rfl,rfl⟩) _ s s hc hs rfl
theorem FineP.bodies (h:FineP fns):∀f∈fns,Qx f.body 4=true:=by
 have hv:=h.v;simp only[AW,Jb,decide_eq_true_eq]at hv;intro f hf;have:=Jx.1 hv.1.2 f hf;simp only[Fn.form,Jb]at this;exact this.2
theorem RG {F:Fn→Fn}(hn:∀f,(F f).name=f.name∧(F f).params=f.params):∀l:List Fn,(∀f∈l,(F f).body=f.body∨Qj (F f).body<Qj f.body)→l.map F=l∨Qn (l.map F)<Qn l
 |[],_=>.inl rfl
 |f::r,h=>by
  have h1:=h f ZV;have h2:=RG hn r fun g hg=>h g (by simp[hg]);have he:(F f).body=f.body→F f=f:=fun hb=>by
   obtain⟨a,b⟩:=hn f;cases hF:F f;cases f;rw[hF]at a b hb;simp only at a b hb;subst a;subst b;subst hb;rfl
  simp only[Jv,Qn];rcases h1 with h1|h1 <;> rcases h2 with h2|h2
  ·left;rw[he h1,h2]
  ·right;rw[he h1];omega
  ·right;rw[h2];omega
  ·right;omega
def AD (fns:List Fn):List Fn:=cutA (foldA fns)
theorem EA (h:FineP fns):FineP (AD fns):=Qbe5 (GJ h)
theorem E9 (h:FineP fns):AD fns=fns∨Qn (AD fns)<Qn fns:=by
 have h1:=RG (F:=Fn.foldF) (fun f=>⟨rfl,rfl⟩) fns fun f hf=>GR _ _ (h.bodies f hf);have h2:=RG (F:=Fn.cutF) (fun f=>⟨rfl,rfl⟩) (foldA fns) fun f hf=>(Hu _).2;rcases h1 with h1|h1
 ·have iR:foldA fns=fns:=h1;rw[AD,iR];rw[iR]at h2;exact h2
 ·right;rcases h2 with h2|h2
  ·rw[AD,show cutA (foldA fns)=foldA fns from h2];exact h1
  ·exact Nat.lt_trans h2 h1
def simN:Nat→List Fn→List Fn
 |0,l=>l
 |n+1,l=>simN n (AD l)
def Au (fns:List Fn):List Fn:=simN (Qn fns) fns
theorem Ds {l:List Fn}(h:AD l=l):∀n,simN n l=l
 |0=>rfl
 |n+1=>by rw[simN,h];exact Ds h n
theorem R0:∀(n:Nat) {l:List Fn},FineP l→Qn l≤n→FineP (simN n l)∧AD (simN n l)=simN n l
 |0,l,h,hn=>by
  rcases E9 h with h1|h1
  ·exact⟨h,h1⟩
  ·omega
 |n+1,l,h,hn=>by
  rcases E9 h with h1|h1
  ·rw[Ds h1];exact⟨h,h1⟩
  ·exact R0 n (EA h) ZT
theorem FG (h:FineP fns):FineP (Au fns)∧AD (Au fns)=Au fns:=R0 _ h (Jl _)
theorem R3:∀(n m:Nat) {l:List Fn},FineP l→Qn l≤n→n≤m→simN m l=simN n l
 |0,m,l,h,hn,hm=>by
  rcases E9 h with h1|h1
  ·rw[Ds h1,Ds h1]
  ·omega
 |n+1,0,l,h,hn,hm=>ZT
 |n+1,m+1,l,h,hn,hm=>by
  rcases E9 h with h1|h1
  ·rw[Ds h1,Ds h1]
  ·exact R3 n m (EA h) ZT ZT
theorem Rz (h:FineP fns):Au (AD fns)=Au fns:=by
 rcases E9 h with h1|h1
 ·rw[h1]
 ·obtain⟨n,hn⟩:∃n,Qn fns=n+1:=⟨Qn fns-1,ZT⟩;rw[Au,Au,hn,simN];exact (R3 _ _ (EA h) (Jl _) ZT).symm
theorem KY (h:FineP fns):Au (Au fns)=Au fns:=Ds (FG h).2 _
theorem Qbje (h:FineP fns):Qn (Au fns)≤Qn fns:=by
 have:∀(n:Nat) {l:List Fn},FineP l→Qn (simN n l)≤Qn l:=by
  intro n
  induction n with
  |zero=>intro l h;exact Jl _
  |succ n ih=>
   intro l h;rw[simN];have h1:=ih (EA h);rcases E9 h with h2|h2
   ·rw[h2]at h1⊢;exact h1
   ·omega
 exact this _ h
theorem Ed {F:Fn→Fn}(h0:0<fns.length):AI (fns.map F)=F (AI fns):=by
 have hk:fns.length-1<fns.length:=ZT
 rw[AI,AI,Dq hk,Dq (by rw[Jr];exact hk)];simp only[Jr,Jz]
theorem XY:ms0.by:=⟨rfl,fun x hx=>by rw[List.eq_of_mem_replicate hx];omega,fun x hx=>by simp[ms0]at hx⟩
theorem Qbkz (h:FineP fns){l:List Nat}{o:Oc}(hl:∀x∈l,x<256)(hr:RunR fns S l o):RunR (foldA fns) S l o:=by
 obtain⟨y,r,m',e,h1,h2⟩:=hr;have hk:fns.length-1<fns.length:=by have:=h.len.1;omega
 have hb:=h.bodies;obtain⟨y',e'⟩:=e.fold (fun f hf=>⟨4,hb f hf⟩) ⟨4,hb _ (by rw[AI,Dq hk];exact Jp hk)⟩ hl XY;refine⟨y',r,m',?_,h1,h2⟩;rw[foldA,Ed h.len.1];exact e'
theorem Qbpa (h:FineP fns){l:List Nat}{o:Oc}(hr:RunR fns S l o)(h3:o.e≠3):∃o',RunR (cutA fns) S l o'∧o'.e=o.e∧o'.v=o.v∧o'.s=o.s∧o'.c=o.c:=by
 obtain⟨y,r,m',e,h1,h2⟩:=hr;have hk:fns.length-1<fns.length:=by have:=h.len.1;omega
 have hb:=h.bodies;have gZ:r≠.dn 3:=fun hh=>h3 (by rw[h2,hh];rfl);obtain⟨y',m2,l2,e'⟩:=e.cut (fun f hf=>⟨4,hb f hf⟩) ⟨4,hb _ (by rw[AI,Dq hk];exact Jp hk)⟩ gZ ms0 ⟨rfl,rfl,Jl _⟩;refine⟨ocOf r m2,⟨y',r,m2,?_,h1,rfl⟩,?_⟩
 ·rw[cutA,Ed h.len.1];exact e'
 ·rw[h2];rcases h1 with ⟨z,rfl⟩|⟨z,rfl⟩ <;> exact⟨rfl,rfl,l2.s,l2.c⟩
theorem P0:∀(n:Nat) {fns:List Fn} {l:List Nat} {o:Oc},FineP fns→(∀x∈l,x<256)→RunR fns S l o→o.e≠3→∃o',RunR (simN n fns) S l o'∧o'.e=o.e∧o'.v=o.v∧o'.s=o.s∧o'.c=o.c
 |0,fns,l,o,h,hl,hr,h3=>⟨o,hr,rfl,rfl,rfl,rfl⟩
 |n+1,fns,l,o,h,hl,hr,h3=>by
  obtain⟨o1,r1,a1,a2,a3,a4⟩:=Qbpa (GJ h) (Qbkz h hl hr) h3;obtain⟨o2,r2,b1,b2,b3,b4⟩:=P0 n (EA h) hl r1 (by rw[a1];exact h3);exact⟨o2,r2,b1.trans a1,b2.trans a2,b3.trans a3,b4.trans a4⟩
theorem Qbno (h:FineP fns){l:List Nat}{o:Oc}(hl:∀x∈l,x<256)(hr:RunR fns S l o)(h3:o.e≠3):∃o',RunR (Au fns) S l o'∧o'.e=o.e∧o'.v=o.v∧o'.s=o.s∧o'.c=o.c:=P0 _ h hl hr h3
end Go.AE.Y
namespace Go.AE.Y
attribute [local go_sem] cond_true cond_false Bool.not_true Bool.not_false
open Go.Proofs.Tryz
variable {H H' H0:Heap}{K:V→Heap→Prop}
theorem De {n:Int}(hK:∀H',Upd H H' []→K (.ag (Ah n).cells) H'):Qm prog PM [.c (.int .i64 n)] H K:=by
 refine Q1 ?_;refine Qc Aa Qbqq ?_;refine Za ?_;intro x2 bB H1 h1;have kn:=(Kn.ao H).al bB h1;have gx:=kn.l 0 rfl;refine Qa ?_;simp only[go_sem,gx];intro H2 h2;have kn:=kn.ax 0 rfl h2;have gx:=kn.l 0 rfl;refine Qi ?_;simp only[go_sem,Qq,Q0,Ja,forall_eq,RS.op,gx];exact⟨_,(FrzL.cons (Qe rfl) (.cons (Qe rfl) (.cons (Qe rfl) (.cons FrzR.nil.sl .nil)))).ag,hK _ kn.fin⟩
theorem Yj {e:Ex}{n:Int}(hK:K (.c (.bool (isN e n))) H):Qm prog CZ [.ag e.cells,.c (.int .i64 n)] H K:=by
 refine Qc Aa Ya ?_;refine Qa ?_;simp only[go_sem,e.aa];rw[isN]at hK;refine Qa ?_;cases h:decide (e.op=1) <;> simp only[h,Jag,Jau]at hK
 all_goals
  simp only[go_sem,h];refine Zb ?_;exact hK
theorem Q2z:∀l:List Ex,CE l=l.all Ex.safe
 |[]=>rfl
 |x::r=>by simp only[CE,Jg,Q2z r]
theorem Qbl4:∀(n:Nat) (x:Ex) (d:Int) (H:Heap) (K:V→Heap→Prop),x.size≤n→x.size≤2^38→x.form d=true→K (.c (.bool x.safe)) H→Qm prog GE [.ag x.cells] H K:=by
 intro n
 induction n with
 |zero=>intro x d H K h;have:=x.size_pos;omega
 |succ n ih=>
 intro x d H K hn hb hf hK;have fk:=Dl hf;have aO:=x.size_kids;refine Qc Aa Qbml ?_;have retf:∀(b:Bool) (e:Env),b=x.safe→lk 2 e=.c (.bool b)→Qq Ac K .ret e H:=by
  intro b e hb h1;simp only[go_sem,Qq,Q0,Ja,forall_eq,RS.op,h1];rw[hb];exact hK
 refine Zu ?_;refine Qz (Qa ?_);have rest:¬x.op=12→¬x.op=13→(x.op=6∨x.op=7→divN x.kids=true)→Q6 prog Lf (Qq Ac K) [(1,.c (.pp [.int .i64 x.op,.int .i64 x.n,.str x.name,.sl false 4 (Ql x.kids)]))] H:=by
  intro n12 n13 iO;have jH:x.safe=CE x.kids:=by
   rw[Ex.safe_eq];simp only[n12,n13,decide_false,Bool.not_false,Jag];by_cases ho:x.op=6∨x.op=7
   ·rw[iO ho];simp
   ·simp[ho]
  refine Qz (Qa ?_);simp only[go_sem];refine Qf (Qg (Q3 (fun m e1 H1=>∃(i:Nat),m=x.kids.length-i∧i≤x.kids.length∧H1=H∧(∀k∈x.kids.take i,k.safe=true)∧e1=[(1,.c (.pp [.int .i64 x.op,.int .i64 x.n,.str x.name,.sl false 4 (Ql x.kids)])),(3,.c (.int .i64 i))]) x.kids.length ?_ ?_))
  ·exact⟨0,ZT,ZT,rfl,ZV,rfl⟩
  ·rintro m e1 H1 ⟨i,hm,hi,rfl,aG,rfl⟩;refine Qz (Qa ?_);simp only[go_sem,Qh];intro hl;simp only[LIM]at hl;refine Qf (Qb rfl ?_ ?_)
   ·intro hc;have af:i<x.kids.length:=(by have:=of_decide_eq_true hc;omega);obtain⟨k,hk⟩:∃k,x.kids[i]=k:=⟨_,rfl⟩;have rF:k∈x.kids:=(by rw[←hk];exact Jp af);have nG:=G8 rF;refine Zc ?_
    refine Qf (Qg ?_);refine Qa ?_;simp only[go_sem,af,Qh,Qs _ _ af,hk,k.aa];have hh:=fun K1=>ih k (d-1) H1 K1 ZT ZT (fk k rF);rw[k.aa]at hh;refine hh _ ?_;simp only[go_sem,M4]
    cases hs:k.safe with
    |false=>
     refine Qb rfl (fun _=>?_) (fun h=>by simp[lk]at h);refine Za ?_;refine Qi ?_;try simp only[AE.X.next]
     refine retf false _ ?_ rfl;rw[jH,Q2z];exact (List.all_eq_false.2 ⟨k,rF,by simp[hs]⟩).symm
    |true=>
     refine Qb rfl (fun h=>by simp[lk]at h) (fun _=>?_);refine Zf ?_
     refine Zk ?_;refine⟨Qv,x.kids.length-(i+1),ZT,i+1,rfl,ZT,fun k2 fw=>?_,rfl⟩;rw[Jq af]at fw;rcases Ju.1 fw with fw|fw
     ·exact aG k2 fw
     ·rw[Ja.1 fw,hk];exact hs
   ·intro hc;have aV:x.kids.length≤i:=(by have:=of_decide_eq_false hc;omega);rw[Ji aV]at aG;refine Zg ?_;refine Za ?_;refine Qi ?_;refine retf true _ ?_ rfl;rw[jH,Q2z];exact (Jx.2 aG).symm
 by_cases jg:x.op=12∨x.op=13
 ·have jH:x.safe=false:=by
   rw[Ex.safe_eq];rcases jg with h|h <;> simp[h]
  rcases jg with h|h
  ·simp only[go_sem,h,decide_true];refine Qf (Qb rfl (fun _=>?_) (fun h=>by simp[lk]at h));refine Za ?_;refine Qi ?_;exact retf false _ jH.symm rfl
  ·have dr:decide ((13:Int)=12)=false:=Zab
   simp only[go_sem,h,dr,decide_true];refine Qf (Qb rfl (fun _=>?_) (fun h=>by simp[lk]at h));refine Za ?_;refine Qi ?_;exact retf false _ jH.symm rfl
 ·have n12:¬x.op=12:=fun h=>jg (.inl h);have n13:¬x.op=13:=fun h=>jg (.inr h);have d12:decide (x.op=12)=false:=decide_eq_false n12;have d13:decide (x.op=13)=false:=decide_eq_false n13;simp only[go_sem,d12,d13];refine Qf (Qb rfl (fun h=>by simp[lk]at h) (fun _=>?_));refine Zc ?_
  refine Qz (Qa ?_);by_cases gH:x.op=6∨x.op=7
  ·obtain⟨a,b,cK⟩:∃a b,x.kids=[a,b]:=by
    obtain⟨op,n,name,kids⟩:=x;have:=(Dv hf).2.2.1 (by simp only[Ex.op]at gH;omega) (by simp only[Ex.op]at gH;omega)
    match kids,this with
    |[a,b],_=>exact⟨a,b,rfl⟩
   have h1:1<x.kids.length:=by rw[cK];simp
   have dD:x.kids[1]=b:=by simp[cK]
   have iO:divN x.kids=(decide (b.op=1)&&!decide (b.n=0)):=by rw[cK];rfl
   have jH:¬(divN x.kids=true)→x.safe=false:=fun h=>by
    rw[Ex.safe_eq];simp[gH,h]
   cases h6:decide (x.op=6) <;> cases h7:decide (x.op=7) <;> cases bh:decide (b.op=1) <;> cases fG:decide (b.n=0)
   all_goals
    first
    |(exfalso;have:=of_decide_eq_false h6;have:=of_decide_eq_false h7;omega)
    |skip
   all_goals
    simp only[go_sem,h6,h7,h1,Qh,Qs _ _ h1,dD,bh,fG,Ex.aa]
   all_goals simp only[show ((0:Int)≤1)=True from eq_true Zab,true_and]
   all_goals
    first
    |refine Qf (Qb rfl (fun _=>?_) (fun h=>by simp[lk]at h))
     refine Za ?_;refine Qi ?_;exact retf false _ (jH (by rw[iO,bh,fG];decide)).symm rfl
    |refine Qf (Qb rfl (fun h=>by simp[lk]at h) (fun _=>?_))
     refine Zc ?_
     exact rest n12 n13 (fun _=>by rw[iO,bh,fG];rfl)
  ·have d6:decide (x.op=6)=false:=decide_eq_false fun h=>gH (.inl h);have d7:decide (x.op=7)=false:=decide_eq_false fun h=>gH (.inr h);by_cases h1:1<x.kids.length
   ·simp only[go_sem,d6,d7,Qh,Qs _ _ h1,Ex.aa];refine Qf (Qb rfl (fun h=>by simp[lk]at h) (fun _=>?_));refine Zc ?_
    exact rest n12 n13 (fun h=>absurd h gH)
   ·have e1:(Ql x.kids).getD 1 []=[]:=by
     rw[Jae,Jam (by rw[Qh];omega)];rfl
    simp only[go_sem,d6,d7,Qh,e1,J6,Jaa,J7];refine Qf (Qb rfl (fun h=>by simp[lk]at h) (fun _=>?_));refine Zc ?_
    exact rest n12 n13 (fun h=>absurd h gH)
end Go.AE.Y
namespace Go.AE.Y
attribute [local go_sem] cond_true cond_false Bool.not_true Bool.not_false
open Go.Proofs.Tryz
variable {H H0:Heap}{K:V→Heap→Prop}{E E' L:List (Nat×Obj)}
structure ExVisP {α:Type}(ob:α→List (Nat×Obj))(step:α→Ex→α)(ok:α→Prop)(Pp:Ex→Prop)(f:Nat)(caps:List C):Prop where
 nm:∀a b,(ob a).map Prod.fst=(ob b).map Prod.fst
 nd:∀a,((ob a).map Prod.fst).Nodup
 ne:∀a,∀p∈ob a,p.2≠.none
 st:∀a s,ok a→ok (step a s)
 c:∀(a:α) (s:Ex) (H:Heap) (K:V→Heap→Prop),ok a→s.size≤2^40→Pp s→(∀p∈ob a,H p.1=p.2)→(∀H',Upd H H' (ob (step a s))→K (.tup []) H')→Qm prog f ([.ag s.cells]++caps.map .c) H K
theorem Qbao {α:Type}{ob:α→List (Nat×Obj)}{step:α→Ex→α}{ok:α→Prop}{f:Nat}{caps:List C}{Pp:Ex→Prop}(hv:ExVisP ob step ok Pp f caps) :
  ∀(n:Nat) (x:Ex) (a:α) (H:Heap) (K:V→Heap→Prop),x.size≤n→x.size≤2^40→(∀p∈x.pre,Pp p)→ok a→(∀p∈ob a,H p.1=p.2)→(∀H',Upd H H' (ob (x.pre.foldl step a))→K (.tup []) H')→
   Qm prog Q22 [.ag x.cells,.c (.fn f caps)] H K:=by
 intro n
 induction n with
 |zero=>intro x a H K h;have:=x.size_pos;omega
 |succ n ih=>
 intro x a H K hn hb hp ha hh hK;have aO:=x.size_kids;refine Q1 ?_;refine Qc Aa LF ?_;refine Zu ?_;refine Za ?_;have kn:Kn H H (ob a) []:=.startE (fun p hp=>⟨hh p hp,hv.ne a p hp⟩) (hv.nd a);have lr:=hv.c a x;rw[x.aa]at lr;refine lr _ _ ha hb (hp x (by rw[x.pre_eq];simp)) hh fun H1 hu=>?_;have kn:=kn.callAll hu (hv.nm _ _) (hv.ne _);have fp:=hv.st a x ha;simp only[go_sem];refine Qa ?_;simp only[go_sem,Qh];intro hl;simp only[LIM]at hl;refine Qg (Q3 (fun m e1 H1=>∃(i:Nat),m=x.kids.length-i∧i≤x.kids.length∧Kn H H1 (ob ((Q7 (x.kids.take i)).foldl step (step a x))) []∧
  e1=[(1,.c (.fn f caps)),(10,.c (.sl false 4 (Ql x.kids))),(11,.c (.int .i64 x.kids.length)),(12,.c (.int .i64 i))]) x.kids.length ?_ ?_)
 ·exact⟨0,ZT,ZT,by simpa[Q7]using kn,rfl⟩
 ·clear kn;rintro m e1 H2 ⟨i,bp,hi,kn,rfl⟩;obtain⟨a1,aX⟩:∃a1,(Q7 (x.kids.take i)).foldl step (step a x)=a1:=⟨_,rfl⟩;have ej:ok a1:=by rw[←aX];exact F8 hv.st _ _ fp
  rw[aX]at kn;refine Za ?_;refine Qf (Qb rfl ?_ ?_)
  ·intro hc;have af:i<x.kids.length:=ZU
   have dc:=Bn (Jp af);obtain⟨y,hy⟩:∃y,x.kids[i]=y:=⟨_,rfl⟩;have aY:=HK af;rw[hy]at dc aY;refine Zc ?_
   refine Qf (Qg ?_);refine Qa ?_;simp only[go_sem,af,Qh,Qs _ _ af,hy,y.aa];intro x5 cp H3 h3;have kn:=kn.al cp h3;have g5:=kn.l 0 rfl;simp only[go_sem,TF,g5];intro H4 h4;have kn:=kn.ax 0 rfl h4;have g5:=kn.l 0 rfl;refine ZB g5 ?_;have iK:=fun K=>ih y a1 H4 K;rw[y.aa]at iK;refine iK _ ZT ZT (fun p hpy=>hp p (by rw[x.pre_eq];exact Jy _ (RY (by rw[←hy];exact Jp af) p hpy))) ej (fun p hp=>(kn.get p (Jn _ hp)).1) fun H5 hu=>?_;have kn:=Kn.drop (A:=[]) (kn.callAll hu (hv.nm _ _) (hv.ne _));simp only[go_sem];refine Zk ?_;refine⟨Qv,x.kids.length-(i+1),ZT,i+1,rfl,ZT,?_,rfl⟩;rw[aY,List.foldl_append,aX];exact kn
  ·intro hc;have aV:x.kids.length≤i:=ZU
   rw[Ji aV]at aX;refine Qy ?_;simp only[go_sem,AE.X.next,Qq,Q0,AJ];refine⟨.tup [],.tup _ _ rfl fun j x x' h=>Zaa,hK _ ?_⟩;rw[x.pre_eq,Jal,aX];exact kn.fin
def AU (p:Ex):Bool:=!decide (p.op=12)&&!decide (p.op=13)&&(!decide (p.op=6∨p.op=7) || divN p.kids)
mutual
theorem Ex.safe_pre:∀x:Ex,x.safe=x.pre.all AU
 |.mk op n name kids=>by
  rw[Ex.safe,Ex.pre,Jg,NX kids,AU,Ex.op,Ex.kids]
theorem NX:∀l:List Ex,CE l=(Q7 l).all AU
 |[]=>by simp[CE,Q7]
 |x::r=>by rw[CE,Q7,List.all_append,x.safe_pre,NX r]
end
def PpS (p:Ex):Prop:=p.op=6∨p.op=7→∃a b,p.kids=[a,b]
mutual
theorem Ex.form_pp:∀(x:Ex) (d:Int),x.form d=true→∀p∈x.pre,PpS p
 |.mk op n name kids,d,h=>by
  intro p hp;rw[Ex.pre]at hp;have hm:=Dv h;rcases J3.1 hp with rfl|hp
  ·intro ho;simp only[Ex.op]at ho;have h2:=hm.2.2.1 ZT ZT
   match kids,h2 with
   |[a,b],_=>exact⟨a,b,rfl⟩
  ·exact Mx kids _ hm.1 p hp
theorem Mx:∀(l:List Ex) (d:Int),Az l d=true→∀p∈Q7 l,PpS p
 |[],_,_=>by simp[Q7]
 |x::r,d,h=>by
  intro p hp;simp only[Az,Jb]at h;rw[Q7]at hp;rcases Ju.1 hp with hp|hp
  ·exact x.form_pp d h.1 p hp
  ·exact Mx r d h.2 p hp
end
theorem Qbnn {l:Nat}{b:Bool}{p:Ex}(hp:PpS p)(hh:H l=.st [.bool b])(hK:∀H',Upd H H' [(l,.st [.bool (b&&AU p)])]→K (.tup []) H'):Qm prog SV ([.ag p.cells]++[C.ptr l 0].map .c) H K:=by
 have kn:Kn H H [(l,.st [.bool b])] []:=.start1 hh ZaO;have g:=kn.e 0 rfl;refine Qc Aa Qafe ?_;refine Qa ?_;simp only[go_sem,p.aa];have fin:∀v:Bool,v=(b&&AU p)→∀H',H'=H.set l (.st [.bool v])→Qq AJ K .nrm [] H':=by
  intro v hv H' h;have kn:=kn.stE 0 rfl h;simp only[Qq,Q0,AJ,go_sem];rw[hv]at kn;exact hK _ kn.upd
 refine Qr ?_;rcases Nat.lt_or_ge 1 p.kids.length with h1|h1
 ·obtain⟨y,hy⟩:∃y,p.kids[1]=y:=⟨_,rfl⟩;have iO:divN p.kids=(decide (y.op=1)&&!decide (y.n=0)):=by
   rcases hk:p.kids with _|⟨a,_|⟨c,r⟩⟩
   ·simp[hk]at h1
   ·simp[hk]at h1
   ·simp only[hk,List.getElem_cons_succ,List.getElem_cons_zero]at hy;rw[←hy];rfl
  have cd:AU p=(!decide (p.op=12)&&!decide (p.op=13)&&(!decide (p.op=6∨p.op=7) || (decide (y.op=1)&&!decide (y.n=0)))):=by rw[AU,iO]
  cases b with
  |false=>
   simp only[go_sem,g,h1,Qh,Qs _ _ h1,hy,Ex.aa];exact fun H' h=>fin false rfl H' h
  |true=>
   cases dr:decide (p.op=12) <;> cases cy:decide (p.op=13) <;> cases h6:decide (p.op=6) <;> cases h7:decide (p.op=7) <;> cases y1:decide (y.op=1) <;> cases y0:decide (y.n=0)
   all_goals
    simp only[go_sem,g,h1,dr,cy,h6,h7,y1,y0,Qh,Qs _ _ h1,hy,Ex.aa]
   all_goals try simp only[show ((0:Int)≤1)=True from eq_true Zab,true_and]
   all_goals
    refine fun H' h=>fin _ ?_ H' h;rw[cd,Bool.decide_or,dr,cy,h6,h7,y1,y0];rfl
 ·have e1:(Ql p.kids).getD 1 []=[]:=by
   rw[Jae,Jam (by rw[Qh];omega)];rfl
  have gH:¬(p.op=6∨p.op=7):=fun h=>by
   obtain⟨a,c,j5⟩:=hp h;rw[j5]at h1;simp at h1
  have cd:AU p=(!decide (p.op=12)&&!decide (p.op=13)):=by rw[AU,decide_eq_false gH];simp
  have h6:decide (p.op=6)=false:=decide_eq_false fun h=>gH (.inl h);have h7:decide (p.op=7)=false:=decide_eq_false fun h=>gH (.inr h)
  cases b with
  |false=>
   simp only[go_sem,g,h6,h7,Qh,e1,J6,Jaa,J7];exact fun H' h=>fin false rfl H' h
  |true=>
   cases dr:decide (p.op=12) <;> cases cy:decide (p.op=13)
   all_goals
    simp only[go_sem,g,dr,cy,h6,h7,Qh,e1,J6,Jaa,J7];refine fun H' h=>fin _ ?_ H' h;rw[cd,dr,cy];rfl
def sfOb (l:Nat)(b:Bool):List (Nat×Obj):=[(l,.st [.bool b])]
theorem Xg (l : Nat) : ExVisP (sfOb l) (fun b p => b && AU p) (fun _ => True) PpS SV [C.ptr l 0] :=
  ⟨fun _ _ => rfl, fun _ => by simp [sfOb], fun _ p hp => by simp [sfOb] at hp; rw [hp]; nofun, fun _ _ _ => trivial,
   fun b s H K _ _ hp hh hK => Qbnn hp (hh (l, _) (by simp [sfOb])) hK⟩
theorem LL:∀(l:List Ex) (b:Bool),l.foldl (fun b p=>b&&AU p) b=(b&&l.all AU)
 |[],b=>ZV
 |x::r,b=>by rw[Jal,LL r,Jg,Bool.and_assoc]
theorem F1 {x:Ex}(hv:x.valid=true)(gk:GK H)(hK:∀H',Upd H H' []→K (.c (.bool x.safe)) H'):Qm prog Q2e [.ag x.cells] H K:=by
 have kg:=hv;simp only[Ex.valid,Jb,decide_eq_true_eq]at kg;refine Q1 ?_;refine Qc Aa Qaus ?_;refine Zu ?_;refine Za ?_;have h:=fun K=>TJ (x:=x) (H:=H) (K:=K) ZT gk;rw[x.aa]at h;refine h _ fun H1 hu=>?_;rw[hv];have kn:=(Kn.ao H).ay hu;simp only[go_sem,Qtd];intro x3 bQ H1 h1;have kn:=kn.al bQ h1;have g3:=kn.l 0 rfl;simp only[go_sem,Qtc,g3];intro H1 h1;have kn:Kn H H1 [] (sfOb x3 true):=kn.ax 0 rfl h1;have g3:=kn.l 0 rfl;refine Qz (Qa ?_);simp only[go_sem,g3];refine Qf (Qb rfl (fun _=>?_) (fun h=>by simp[lk]at h));refine Zp ?_;have h:=fun K=>Qbao (Xg x3) x.size x true H1 K;rw[x.aa]at h;refine h _ (Jl _) ZT (x.form_pp 6 kg.1) trivial (fun p hp=>(kn.get p Zat).1) fun H2 hu=>?_;rw[LL,Jag,←x.safe_pre]at hu;have kn:Kn H H2 [] (sfOb x3 x.safe):=by
  have:=Kn.callLs (L:=sfOb x3 true) (M:=[]) ZaW hu rfl (fun p hp=>by simp[sfOb]at hp;rw[hp];nofun);simpa using this
 have g3:=kn.l 0 rfl;try simp only[go_sem,AE.X.next]
 refine Zd g3 ?_;refine Zb ?_;exact⟨_,.c _ _ (Qe rfl),hK _ kn.fin⟩
end Go.AE.Y
namespace Go.AE.Y
attribute [local go_sem] cond_true cond_false Bool.not_true Bool.not_false
open Go.Proofs.Tryz
variable {H H0:Heap}{K:V→Heap→Prop}{L:List (Nat×Obj)}
theorem GK.hideG (g:GK H):GK (Ap H):=by
 obtain⟨ks,rows,h3,h4⟩:=g.sign;have key:∀{l b:Nat} {c:List C},H l=.gl b c→Ap H l=.gl b c:=fun h=>by simp only[Ap,h]
 exact⟨key g.keys,ks,rows,key h3,h4⟩
theorem Qa14 {a b:Int}(hK:K (.tup [.c (.int .i64 (trI (a=0))),.c (.bool true)]) H) :
  Qm prog ED [.c (.int .i64 11),.c (.int .i64 a),.c (.int .i64 b)] H K:=by
 refine Qc Aa Hw ?_;refine Za ?_;refine Za ?_;refine Qz (Qa ?_);simp only[go_sem];refine Qf (Qg ?_);refine Za ?_;refine Qb rfl (fun h=>Zaa) fun _=>?_;refine Za ?_;refine Qb rfl (fun h=>Zaa) fun _=>?_;refine Za ?_;refine Qb rfl (fun h=>Zaa) fun _=>?_;refine Qz (Qa ?_);simp only[go_sem];refine Qf (Qb rfl (fun h=>Zaa) fun _=>?_);refine Zp ?_;refine Qb rfl (fun h=>Zaa) fun _=>?_;refine Za ?_;refine Qb rfl (fun h=>Zaa) fun _=>?_;refine Za ?_;refine Qb rfl (fun h=>Zaa) fun _=>?_;refine Za ?_;refine Qb rfl (fun h=>Zaa) fun _=>?_;refine Ze ?_;refine Za ?_;refine C1 ?_;rw[C2];simp only[go_sem,TX];refine ZS ?_;exact hK
theorem Qa13 {a b:Int}(hK:K (.tup [.c (.int .i64 (trI (a≠0∧b≠0))),.c (.bool true)]) H) :
  Qm prog ED [.c (.int .i64 10),.c (.int .i64 a),.c (.int .i64 b)] H K:=by
 refine Qc Aa Hw ?_;refine Za ?_;refine Za ?_;refine Qz (Qa ?_);simp only[go_sem];refine Qf (Qg ?_);refine Za ?_;refine Qb rfl (fun h=>Zaa) fun _=>?_;refine Za ?_;refine Qb rfl (fun h=>Zaa) fun _=>?_;refine Za ?_;refine Qb rfl (fun h=>Zaa) fun _=>?_;refine Qz (Qa ?_);simp only[go_sem];refine Qf (Qb rfl (fun h=>Zaa) fun _=>?_);refine Zp ?_;refine Qb rfl (fun h=>Zaa) fun _=>?_;refine Za ?_;refine Qb rfl (fun h=>Zaa) fun _=>?_;refine Za ?_;refine Qb rfl (fun h=>Zaa) fun _=>?_;refine Za ?_;refine Qb rfl (fun _=>?_) (fun h=>Zaa);refine Za ?_;refine C1 ?_;try rw[C2]
 simp only[go_sem,TR];refine ZS ?_;have e:trI ((bif !decide (a=0)then !decide (b=0)else false)=true)=trI (a≠0∧b≠0):=by
  by_cases h1:a=0 <;> by_cases h2:b=0 <;> simp[trI,h1,h2]
 first|exact hK|(rw[e];exact hK)
theorem Qbj9 {op a b:Int}(ha:byI a)(hb:byI b)(h3:3≤op)(bP:op≤10)(hK:K (.tup [.c (.int .i64 ((arF op a b).getD 0)),.c (.bool (arF op a b).isSome)]) H) :
  Qm prog ED [.c (.int .i64 op),.c (.int .i64 a),.c (.int .i64 b)] H K:=by
 by_cases h:op=10
 ·subst h;refine Qa13 ?_;rw[arF,if_pos rfl]at hK;exact hK
 ·refine Kh ha hb h3 ZT ?_;rw[arF,if_neg h]at hK;rw[arP]
  cases hr:arR op a b with
  |none=>rw[hr]at hK;exact hK
  |some z=>rw[hr]at hK;exact hK
def numC (n:Int):List C:=[.int .i64 1,.int .i64 n,.str [],.sl true 4 []]
theorem He (n:Int):OwL [] (numC n) (Ah n).cells:=.atom rfl (.atom rfl (.atom rfl (.sln .nil)))
theorem GF {n:Int}(hK:∀H',Kn H H' [] []→K (.ag (numC n)) H'):Qm prog Q66 [.c (.int .i64 n)] H K:=by
 refine Qc Aa Qax5 ?_;refine Za ?_;intro x2 bB H1 h1;have kn:=(Kn.ao H).al bB h1;have gx:=kn.l 0 rfl;refine Qa ?_;simp only[go_sem,gx];intro H2 h2;have kn:=kn.ax 0 rfl h2;have gx:=kn.l 0 rfl;refine Qi ?_;simp only[go_sem,Qq,Q0,Ja,forall_eq,RS.op,gx];exact hK _ (kn.sub (List.nil_sublist _))
theorem C7 {op n0 n:Int}{nm:List UInt8}{c:C}(hc:c.ah=false)(hK:K (.c (.bool (decide (op=1)&&decide (n0=n)))) H):Qm prog NW [.ag [.int .i64 op,.int .i64 n0,.str nm,c],.c (.int .i64 n)] H K:=by
 refine Qc Aa Qbax ?_;refine Zd hc ?_;refine Qa ?_;cases h:decide (op=1) <;> simp only[h,Jag,Jau]at hK
 all_goals
  simp only[go_sem,h];refine Zb ?_;exact hK
def FoR (L:List (Nat×Obj))(y:Ex)(cs:List C):Prop:=∃L',L'.Sublist L∧OwL L' cs y.cells
theorem Qa2e {op n : Int} {nm : List UInt8} {t : C} {kids : List Ex} (hq : kids = [] ∨ op = 13 ∨ op = 12) (ho : OwS L 4 (Ql kids) t) (hm : ∀ p ∈ L, H p.1 = p.2)
    (hK : ∀ H' cs, Kn H H' [] [] → FoR L (.mk op n nm kids) cs → K (.ag cs) H') : Qm prog HV [.ag [.int .i64 op, .int .i64 n, .str nm, t]] H K := by
  have aq := ho.ah;have cO := ho.a9;rw [Qh] at cO;refine Qc Aa TI ?_;refine Qa ?_;simp only [go_sem, aq];intro x2 bB H1 h1;have kn := (Kn.ao H).al bB h1;have cE : aT H1 t := by
    rcases ho with ⟨rfl, _⟩ | ⟨y, M, rows, rfl, rfl, _⟩
    · trivial
    · have g : H y = .vec 4 rows := hm (y, .vec 4 rows) ZV;have g2 : H1 y = .vec 4 rows := (kn.chg y (by rw [g]; nofun) ZV).trans g;simp [aT, g2]
  have i0 : kids = [] → decide ((kids.length : Int) = 0) = true := fun h => by rw [h]; rfl
  refine Qz (Qa ?_);cases hl : decide ((kids.length : Int) = 0) <;> cases cy : decide (op = 13) <;> cases dr : decide (op = 12)
  all_goals
    first
    | (exfalso; rcases hq with h | h | h
       · rw [i0 h] at hl; cases hl
       · rw [decide_eq_true h] at cy; cases cy
       · rw [decide_eq_true h] at dr; cases dr)
    | skip
  all_goals
    simp only [go_sem, aq, cO, cE, hl, cy, dr];intro _;refine Qf (Qb rfl (fun _ => ?_) (fun h => by simp [lk] at h));have g2 := kn.l 0 rfl;refine Qa ?_;simp only [go_sem, aq, g2];intro H2 h2;have kn := kn.ax 0 rfl h2;have g2 := kn.l 0 rfl;refine Qi ?_;simp only [go_sem, Qq, Q0, Ag, Ja, forall_eq, RS.op, aq, g2];exact hK _ _ (kn.sub (List.nil_sublist _)) ⟨L, List.Sublist.refl _, .atom rfl (.atom rfl (.atom rfl ho.one))⟩
abbrev z4:List C:=[.int .i64 0,.int .i64 0,.str [],.sl true 4 []]
theorem Qa2g {n:Int}{nm:List UInt8}{t:C}{a:Ex}{d:Int}(hf:(Ex.mk 11 n nm [a]).form d=true)(ho:OwS L 4 (Ql [a]) t)(hm:∀p∈L,H p.1=p.2)
  (hK:∀H' cs,Kn H H' [] []→FoR L (Aj 11 n nm [a]) cs→K (.ag cs) H'):Qm prog HV [.ag [.int .i64 11,.int .i64 n,.str nm,t]] H K:=by
 have rj:=ho;rcases ho with ⟨_,h0,_⟩|⟨y,M,rows,rfl,rfl,co,iE,_,ho⟩
 ·simp[Ql]at h0
 obtain⟨ra,rfl⟩:∃ra,rows=[ra]:=Jab.1 (by rw[←co,Qh];rfl);simp only[Ql,List.flatten_cons,List.flatten_nil,Jk]at ho;obtain⟨ta,rfl,nC⟩:=OwL.ex ho;have bE:=nC.ah;have gy0:H y=.vec 4 [[.int .i64 a.op,.int .i64 a.n,.str a.name,ta]]:=hm (y,.vec 4 _) ZV;refine Qc Aa TI ?_;refine Za ?_;intro x2 bB H1 h1;have kn:=(Kn.ao H).al bB h1;have gy:H1 y=_:=(kn.chg y ZaC ZV).trans gy0;refine Qz (Qa ?_);simp only[go_sem,gy];intro _;refine Qf (Qb rfl (fun h=>Zaa) (fun _=>?_));refine Zc ?_
 refine An ?_;have c1:((1:Nat):Int)=1:=rfl;have c10:(1:Int)-1=0:=rfl;simp only[go_sem,gy,bE,c1,c10,Jc,Jf,Jd,Je,Jh,Jg,Jj];refine⟨ZT,Qv,ZT,fun x3 bQ H2 h2=>?_⟩;have kn:=kn.al bQ h2;have gy:H2 y=_:=(kn.chg y ZaC ZV).trans gy0;have g3:=kn.l 1 rfl;simp only[go_sem,Vr,g3,gy,bE,c1,c10,Jc,Jf,Jd,Je,Jh,Jg,Jj];refine⟨ZT,ZT,fun x4 bW H3 h3=>?_⟩;have kn:=kn.al bW h3;have gy:H3 y=_:=(kn.chg y ZaC ZV).trans gy0;have g3:=kn.l 1 rfl;simp only[go_sem,Vs,g3,gy,bE,c1,c10,Jc,Jf,Jd,Je,Jh,Jg,Jj];refine⟨ZT,ZT,fun H4 h4=>?_⟩;have kn:=kn.ax 1 rfl h4;have gy:H4 y=_:=(kn.chg y ZaC ZV).trans gy0;have g4:=kn.l 2 rfl;simp only[go_sem,Vt,g4,gy,bE,c1,c10,Jc,Jf,Jd,Je,Jh,Jg,Jj];refine⟨ZT,fun H5 h5=>?_⟩;have kn:Kn H H5 [] [(x2,.st z4),(x3,.st [.int .i64 a.op,.int .i64 a.n,.str a.name,ta]),(x4,.st [.int .i64 a.op,.int .i64 a.n,.str a.name,ta])]:=kn.ax 2 rfl h5;have gy:H5 y=_:=(kn.chg y ZaC ZV).trans gy0;have g2:=kn.l 0 rfl;have g3:=kn.l 1 rfl;have g4:=kn.l 2 rfl;have retf:∀(cs:List C) (H6:Heap) (e:Env),(∃o3 o4,Kn H H6 [] [(x2,.st cs),(x3,o3),(x4,o4)])→cs.length=4→ai cs=true→FoR ((y,.vec 4 [[.int .i64 a.op,.int .i64 a.n,.str a.name,ta]])::M) (Aj 11 n nm [a]) cs→lk 2 e=.c (.ptr x2 0)→Qq Ag K .ret e H6:=by
  rintro cs H6 e ⟨o3,o4,kn⟩ hl bO hr h2;have g2:=kn.l 0 rfl;have aY:List.take 4 cs=cs:=Ji ZT;have mM:(cs.all fun c=>!c.ah)=true:=bO;simp only[go_sem,Qq,Q0,Ja,forall_eq,RS.op,h2,g2,hl,aY,mM];exact hK _ _ (kn.sub (List.nil_sublist _)) hr
 refine Qz (Qa ?_);cases h1:decide (a.op=1)
 ·simp only[go_sem,g3,g4,bE,h1];refine Qf (Qb rfl (fun h=>by simp[lk]at h) (fun _=>?_));refine Zc ?_
  have iR:=of_decide_eq_false h1;have jc:a.form (d-1)=true:=Dl hf a (by simp[Ex.kids]);have end35:Aj 11 n nm [a]=.mk 11 n nm [a]→Q6 prog SR (Qq Ag K) [(1,.c (.pp [.int .i64 11,.int .i64 n,.str nm,.aw y 4 0 1])),(2,.c (.ptr x2 0))] H5:=by
   intro he;refine Zd g2 ?_;intro H6 h6;have kn:=kn.ax 0 rfl h6;refine Qi ?_;exact retf _ _ _ ⟨_,_,kn⟩ rfl rfl ⟨_,List.Sublist.refl _,by rw[he];exact .atom rfl (.atom rfl (.atom rfl rj.one))⟩ rfl
  refine Qz (Qa ?_);simp only[go_sem];refine Qf (Qg ?_);refine Za ?_;refine Qb rfl (fun _=>?_) (fun h=>Zaa);refine Qa ?_;rcases nC with ⟨rfl,he,rfl⟩|⟨ya,Ma,rowsA,rfl,rfl,gY,kS,_,j1⟩
  ·have jS:a.kids=[]:=Jw.1 (by rw[←Qh,he];rfl);have cM:¬a.op=11:=fun h=>by
    have:=CX jc h;rw[jS]at this;simp at this
   have d11:decide (a.op=11)=false:=decide_eq_false cM;simp only[go_sem,g3,d11,List.getD_nil,J6,Jaa,J7];refine Qb rfl (fun h=>by simp[lk]at h) (fun _=>?_);refine Zf ?_
   exact end35 (by simp[Aj,iR,cM])
  ·have gya0:H ya=.vec 4 rowsA:=hm (ya,.vec 4 rowsA) ZV;have gya:H5 ya=.vec 4 rowsA:=(kn.chg ya (by rw[gya0];nofun) ZV).trans gya0;by_cases cM:a.op=11
   ·have d11:decide (a.op=11)=true:=decide_eq_true cM;have eN:=CX jc cM;obtain⟨k,hk⟩:∃k,kid0 a=k:=⟨_,rfl⟩;rw[hk]at eN;rw[eN]at gY j1;obtain⟨rk,rfl⟩:∃rk,rowsA=[rk]:=Jab.1 (by rw[←gY,Qh];rfl);simp only[Ql,List.flatten_cons,List.flatten_nil,Jk]at j1;have hZ:=j1;obtain⟨tk,rfl,bf⟩:=OwL.ex j1;have aY:=bf.ah;cases kY:decide (k.op=11)
    ·simp only[go_sem,g3,d11,gya,kY,aY,Jc,Jf,Jd,Je,Jh,Jg,Jj];refine⟨ZT,?_⟩;refine Qb rfl (fun h=>by simp[lk]at h) (fun _=>?_);refine Zf ?_
     exact end35 (by simp[Aj,iR,cM,hk,of_decide_eq_false kY])
    ·simp only[go_sem,g3,d11,gya,kY,aY,Jc,Jf,Jd,Je,Jh,Jg,Jj];refine⟨ZT,?_⟩;refine Qb rfl (fun _=>?_) (fun h=>by simp[lk]at h);refine Qa ?_;simp only[go_sem,g2,g3,gya,aY,Jc,Jf,Jd,Je,Jh,Jg,Jj];refine⟨ZT,fun H6 h6=>?_⟩;have kn:=kn.ax 0 rfl h6;refine Qi ?_;have e:Aj 11 n nm [a]=k:=(by simp[Aj,iR,cM,hk,of_decide_eq_true kY]);exact retf _ _ _ ⟨_,_,kn⟩ rfl hZ.ai ⟨Ma,(List.sublist_append_right [_,_] Ma),by rw[e];exact hZ⟩ rfl
   ·have d11:decide (a.op=11)=false:=decide_eq_false cM;have fin:Q6 prog Qw0 (X.inBlock 0 (X.sq prog SR (Qq Ag K))) [(1,.c (.pp [.int .i64 11,.int .i64 n,.str nm,.aw y 4 0 1])),(2,.c (.ptr x2 0)),(3,.c (.ptr x3 0)),(69,.c (.bool false))] H5:=by
     refine Qb rfl (fun h=>by simp[lk]at h) (fun _=>?_);refine Zf ?_
     exact end35 (by simp[Aj,iR,cM])
    rcases rowsA with _|⟨rk,rs⟩
    ·simp only[go_sem,g3,d11,gya,Jf,List.getD_nil,J6,Jaa,J7];exact fin
    ·obtain⟨k,kr,hk⟩:∃k kr,a.kids=k::kr:=by
      rcases ha:a.kids with _|⟨k,kr⟩
      ·rw[ha]at gY;simp[Ql]at gY
      ·exact⟨k,kr,rfl⟩
     rw[hk]at j1;simp only[Ql]at j1;obtain⟨L1,L2,rfl,lD,_⟩:=j1.uncons (by rw[kS rk (by simp),k.ae]);obtain⟨tk,rfl,bf⟩:=OwL.ex lD;simp only[go_sem,g3,d11,gya,Jc,Jd,Je,J0];exact fin
 ·simp only[go_sem,g3,g4,bE,h1];refine Qf (Qb rfl (fun _=>?_) (fun h=>by simp[lk]at h));have iR:=of_decide_eq_true h1;refine Zr g3 g4 bE ?_;refine Qa14 ?_;simp only[go_sem,Vq,Jd,Jt];refine Za ?_;refine Qb rfl (fun _=>?_) (fun h=>by simp[lk]at h);refine Za ?_;refine GF fun H6 k6=>?_;have kn:=kn.comp0 k6;have g2:=kn.l 0 rfl;simp only[go_sem,Vp,g2,numC];intro H7 h7;have kn:=kn.ax 0 rfl h7;refine Qi ?_;refine retf (numC (trI (a.n=0))) _ _ ⟨_,_,kn⟩ rfl rfl ⟨[],List.nil_sublist _,?_⟩ rfl;have e:Aj 11 n nm [a]=Ah (trI (a.n=0)):=by simp[Aj,iR]
  rw[e];exact He _
theorem Qa2f {op n:Int}{nm:List UInt8}{t:C}{a b:Ex}(h3:3≤op)(bP:op≤10)(dG:a.valid=true)(lt:b.valid=true)(gk:GK H)(ho:OwS L 4 (Ql [a,b]) t)(hm:∀p∈L,H p.1=p.2)
  (hK:∀H' cs,Kn H H' [] []→FoR L (Aj op n nm [a,b]) cs→K (.ag cs) H'):Qm prog HV [.ag [.int .i64 op,.int .i64 n,.str nm,t]] H K:=by
 have rj:=ho;have jc:a.form 6=true:=Zbk
 have i4:b.form 6=true:=Zbl
 rcases ho with ⟨_,h0,_⟩|⟨y,M,rows,rfl,rfl,co,iE,_,ho⟩
 ·simp[Ql]at h0
 obtain⟨ra,rb,rfl⟩:∃ra rb,rows=[ra,rb]:=by
  have:rows.length=2:=by rw[←co,Qh];rfl
  match rows,this with
  |[ra,rb],_=>exact⟨ra,rb,rfl⟩
 simp only[Ql]at ho;obtain⟨La,Lb,rfl,fq,ho⟩:=ho.uncons (by rw[iE ra (by simp),a.ae]);simp only[List.flatten_cons,List.flatten_nil,Jk]at ho;have gn:=ho;obtain⟨ta,rfl,nC⟩:=OwL.ex fq;obtain⟨tb,rfl,bC⟩:=OwL.ex gn;have bE:=nC.ah;have bt:=bC.ah;have gy0:H y=.vec 4 [[.int .i64 a.op,.int .i64 a.n,.str a.name,ta],[.int .i64 b.op,.int .i64 b.n,.str b.name,tb]]:=hm (y,.vec 4 _) ZV;have n11:decide (op=11)=false:=decide_eq_false ZT;have n12:decide (op=12)=false:=decide_eq_false ZT;have n13:decide (op=13)=false:=decide_eq_false ZT;have c2:((2:Nat):Int)=2:=rfl;have c20:decide ((2:Int)=0)=false:=rfl;have c21:(2:Int)-1=1:=rfl;refine Qc Aa TI ?_;refine Za ?_;intro x2 bB H1 h1;have kn:=(Kn.ao H).al bB h1;have gy:H1 y=_:=(kn.chg y ZaC ZV).trans gy0;refine Qz (Qa ?_);simp only[go_sem,gy,c2,c20,n13,n12,Jc,Jf];intro _;refine Qf (Qb rfl (fun h=>by simp[lk]at h) (fun _=>?_));refine Zc ?_
 refine An ?_;simp only[go_sem,gy,bE,bt,c2,c21,Jc,Jf,Jd,Jt,Je,Jh,Jg,Jj];refine⟨ZT,Qv,ZT,fun x3 bQ H2 h2=>?_⟩;have kn:=kn.al bQ h2;have gy:H2 y=_:=(kn.chg y ZaC ZV).trans gy0;have g3:=kn.l 1 rfl;simp only[go_sem,Vr,g3,gy,bE,bt,c2,c21,Jc,Jf,Jd,Jt,Je,Jh,Jg,Jj];refine⟨ZT,ZT,fun x4 bW H3 pI=>?_⟩;have kn:=kn.al bW pI;have gy:H3 y=_:=(kn.chg y ZaC ZV).trans gy0;have g3:=kn.l 1 rfl;simp only[go_sem,Vs,g3,gy,bE,bt,c2,c21,Jc,Jf,Jd,Jt,Je,Jh,Jg,Jj];refine⟨ZT,ZT,fun H4 h4=>?_⟩;have kn:=kn.ax 1 rfl h4;have gy:H4 y=_:=(kn.chg y ZaC ZV).trans gy0;have g4:=kn.l 2 rfl;simp only[go_sem,Vt,g4,gy,bE,bt,c2,c21,Jc,Jf,Jd,Jt,Je,Jh,Jg,Jj];refine⟨ZT,fun H5 h5=>?_⟩;have kn:Kn H H5 [] [(x2,.st z4),(x3,.st [.int .i64 a.op,.int .i64 a.n,.str a.name,ta]),(x4,.st [.int .i64 b.op,.int .i64 b.n,.str b.name,tb])]:=kn.ax 2 rfl h5;have gy:H5 y=_:=(kn.chg y ZaC ZV).trans gy0;have g2:=kn.l 0 rfl;have g3:=kn.l 1 rfl;have g4:=kn.l 2 rfl;have retf:∀(cs:List C) (H6:Heap) (e:Env),(∃o3 o4,Kn H H6 [] [(x2,.st cs),(x3,o3),(x4,o4)])→cs.length=4→ai cs=true→FoR ((y,.vec 4 [[.int .i64 a.op,.int .i64 a.n,.str a.name,ta],[.int .i64 b.op,.int .i64 b.n,.str b.name,tb]])::(La++Lb)) (Aj op n nm [a,b]) cs→lk 2 e=.c (.ptr x2 0)→Qq Ag K .ret e H6:=by
  rintro cs H6 e ⟨o3,o4,kn⟩ hl bO hr h2;have g2:=kn.l 0 rfl;have aY:List.take 4 cs=cs:=Ji ZT;have mM:(cs.all fun c=>!c.ah)=true:=bO;simp only[go_sem,Qq,Q0,Ja,forall_eq,RS.op,h2,g2,hl,aY,mM];exact hK _ _ (kn.sub (List.nil_sublist _)) hr
 have end35:Aj op n nm [a,b]=.mk op n nm [a,b]→Q6 prog SR (Qq Ag K) [(1,.c (.pp [.int .i64 op,.int .i64 n,.str nm,.aw y 4 0 2])),(2,.c (.ptr x2 0))] H5:=by
  intro he;refine Zd g2 ?_;intro H6 h6;have kn:=kn.ax 0 rfl h6;refine Qi ?_;exact retf _ _ _ ⟨_,_,kn⟩ rfl rfl ⟨_,List.Sublist.refl _,by rw[he];exact .atom rfl (.atom rfl (.atom rfl rj.one))⟩ rfl
 have rest36:∀e:Env,Aj op n nm [a,b]=Aw op n nm a b→lk 1 e=.c (.pp [.int .i64 op,.int .i64 n,.str nm,.aw y 4 0 2])→lk 2 e=.c (.ptr x2 0)→lk 3 e=.c (.ptr x3 0)→lk 4 e=.c (.ptr x4 0)→Q6 prog Qtk (Qq Ag K) e H5:=by
  intro e hF l1 l2 l3 l4;refine Qz (Qa ?_);simp only[go_sem,l1,l2,l3,l4];refine Qf (Qg ?_);refine Zd n11 ?_;refine Qb rfl (fun h=>by simp[lk]at h) (fun _=>?_);have o8:op=3∨op=4∨op=5∨op=6∨op=7∨op=8∨op=9∨op=10:=by omega
  rcases o8 with rfl|rfl|rfl|rfl|rfl|rfl|rfl|rfl
  ·skip
   have d3:decide ((3:Int)=3)=true:=Zab
   have d4:decide ((3:Int)=4)=false:=Zab
   have d5:decide ((3:Int)=5)=false:=Zab
   have d6:decide ((3:Int)=6)=false:=Zab
   have d10:decide ((3:Int)=10)=false:=Zab
   refine Zj d3 d4 d5 d6 d10 ?_;refine Qb rfl (fun h=>by simp[lk]at h) (fun _=>?_);refine Zj d3 d4 d5 d6 d10 ?_;refine Qb rfl (fun _=>?_) (fun h=>by simp[lk]at h);refine Qz (Qa ?_);simp only[go_sem,g4,bt];refine C7 bt ?_;rw[show (decide (b.op=1)&&decide (b.n=0))=isN b 0 from rfl];try simp only[go_sem]
   cases zb:isN b 0
   rotate_left
   ·refine Qf (Qb rfl (fun _=>?_) (fun h=>by simp[lk]at h));refine Zr g2 g3 bE ?_;intro H6 h6;have kn:=kn.ax 0 rfl h6;refine Qi ?_;exact retf [.int .i64 a.op,.int .i64 a.n,.str a.name,ta] _ _ ⟨_,_,kn⟩ rfl fq.ai ⟨_,(List.sublist_append_left La Lb).cons _,by rw[hF,show Aw _ n nm a b=a from by simp[Aw,zb]];exact fq⟩ rfl
   ·refine Qf (Qb rfl (fun h=>by simp[lk]at h) (fun _=>?_));refine Zf ?_
    refine Zi g3 bE ?_;refine C7 bE ?_;rw[show (decide (a.op=1)&&decide (a.n=0))=isN a 0 from rfl];try simp only[go_sem]
    cases za:isN a 0
    rotate_left
    ·refine Qb rfl (fun _=>?_) (fun h=>by simp[lk]at h);refine Zr g2 g4 bt ?_;intro H6 h6;have kn:=kn.ax 0 rfl h6;refine Qi ?_;exact retf [.int .i64 b.op,.int .i64 b.n,.str b.name,tb] _ _ ⟨_,_,kn⟩ rfl gn.ai ⟨_,(List.sublist_append_right La Lb).cons _,by rw[hF,show Aw _ n nm a b=b from by simp[Aw,za,zb]];exact gn⟩ rfl
    ·refine Qb rfl (fun h=>by simp[lk]at h) (fun _=>?_);refine Zf ?_
     exact end35 (by rw[hF];simp[Aw,za,zb])
  ·skip
   have d3:decide ((4:Int)=3)=false:=Zab
   have d4:decide ((4:Int)=4)=true:=Zab
   have d5:decide ((4:Int)=5)=false:=Zab
   have d6:decide ((4:Int)=6)=false:=Zab
   have d10:decide ((4:Int)=10)=false:=Zab
   refine Zj d3 d4 d5 d6 d10 ?_;refine Qb rfl (fun h=>by simp[lk]at h) (fun _=>?_);refine Zj d3 d4 d5 d6 d10 ?_;refine Qb rfl (fun h=>by simp[lk]at h) (fun _=>?_);refine Zj d3 d4 d5 d6 d10 ?_;refine Qb rfl (fun _=>?_) (fun h=>by simp[lk]at h);refine Zi g4 bt ?_;refine C7 bt ?_;rw[show (decide (b.op=1)&&decide (b.n=0))=isN b 0 from rfl];try simp only[go_sem]
   cases zb:isN b 0
   rotate_left
   ·refine Qb rfl (fun _=>?_) (fun h=>by simp[lk]at h);refine Zr g2 g3 bE ?_;intro H6 h6;have kn:=kn.ax 0 rfl h6;refine Qi ?_;exact retf [.int .i64 a.op,.int .i64 a.n,.str a.name,ta] _ _ ⟨_,_,kn⟩ rfl fq.ai ⟨_,(List.sublist_append_left La Lb).cons _,by rw[hF,show Aw _ n nm a b=a from by simp[Aw,zb]];exact fq⟩ rfl
   ·refine Qb rfl (fun h=>by simp[lk]at h) (fun _=>?_);refine Zf ?_
    exact end35 (by rw[hF];simp[Aw,zb])
  ·skip
   have d3:decide ((5:Int)=3)=false:=Zab
   have d4:decide ((5:Int)=4)=false:=Zab
   have d5:decide ((5:Int)=5)=true:=Zab
   have d6:decide ((5:Int)=6)=false:=Zab
   have d10:decide ((5:Int)=10)=false:=Zab
   refine Zj d3 d4 d5 d6 d10 ?_;refine Qb rfl (fun h=>by simp[lk]at h) (fun _=>?_);refine Zj d3 d4 d5 d6 d10 ?_;refine Qb rfl (fun h=>by simp[lk]at h) (fun _=>?_);refine Zj d3 d4 d5 d6 d10 ?_;refine Qb rfl (fun h=>by simp[lk]at h) (fun _=>?_);refine Zj d3 d4 d5 d6 d10 ?_;refine Qb rfl (fun _=>?_) (fun h=>by simp[lk]at h);refine Qg (Qa ?_);simp only[go_sem,g4,bt];refine C7 bt ?_;rw[show (decide (b.op=1)&&decide (b.n=1))=isN b 1 from rfl];try simp only[go_sem,Qqk]
   cases ob:isN b 1
   rotate_left
   ·refine Qb rfl (fun _=>?_) (fun h=>by simp[lk]at h);refine Zr g2 g3 bE ?_;intro H6 h6;have kn:=kn.ax 0 rfl h6;refine Qi ?_;exact retf [.int .i64 a.op,.int .i64 a.n,.str a.name,ta] _ _ ⟨_,_,kn⟩ rfl fq.ai ⟨_,(List.sublist_append_left La Lb).cons _,by rw[hF,show Aw _ n nm a b=a from by simp[Aw,ob]];exact fq⟩ rfl
   ·refine Qb rfl (fun h=>by simp[lk]at h) (fun _=>?_);refine Zi g3 bE ?_;refine C7 bE ?_;rw[show (decide (a.op=1)&&decide (a.n=1))=isN a 1 from rfl];try simp only[go_sem,Qql]
    cases oa:isN a 1
    rotate_left
    ·refine Qb rfl (fun _=>?_) (fun h=>by simp[lk]at h);refine Zr g2 g4 bt ?_;intro H6 h6;have kn:=kn.ax 0 rfl h6;refine Qi ?_;exact retf [.int .i64 b.op,.int .i64 b.n,.str b.name,tb] _ _ ⟨_,_,kn⟩ rfl gn.ai ⟨_,(List.sublist_append_right La Lb).cons _,by rw[hF,show Aw _ n nm a b=b from by simp[Aw,ob,oa]];exact gn⟩ rfl
    ·refine Qb rfl (fun h=>by simp[lk]at h) (fun _=>?_);refine Qz (Qa ?_);simp only[go_sem,g4,bt];refine C7 bt ?_;rw[show (decide (b.op=1)&&decide (b.n=0))=isN b 0 from rfl];try simp only[go_sem]
     cases zb:isN b 0
     rotate_left
     ·simp only[go_sem,V4,g3,bE];have oK:∀p∈La,H5 p.1=p.2:=fun p hp=>by
       have h1:=hm p Zap;obtain⟨z,r,h2,_⟩:=fq.vecs p hp;rw[kn.chg p.1 Zcb ZV,h1]
      refine RZ (v:=.c (.bool a.safe)) (lntL La) (args':=[.ag a.cells]) rfl (Cu (fq.frzA oK)) rfl (fun K' hk=>F1 dG (gk.kn kn).hideG hk) ?_;simp only[go_sem,V5];cases sa:a.safe
      rotate_left
      ·refine Qf (Qb rfl (fun _=>?_) (fun h=>by simp[lk]at h));refine Zc ?_
       refine Qb rfl (fun _=>?_) (fun h=>by simp[lk]at h);refine Za ?_;refine GF fun H6 k6=>?_;have kn:=kn.comp0 k6;have g2:=kn.l 0 rfl;simp only[go_sem,SQ,g2,numC];intro H7 h7;have kn:=kn.ax 0 rfl h7;refine Qi ?_;exact retf (numC 0) _ _ ⟨_,_,kn⟩ rfl rfl ⟨[],List.nil_sublist _,by rw[hF,show Aw _ n nm a b=Ah 0 from by simp[Aw,ob,oa,zb,sa]];exact He _⟩ rfl
      ·skip
       refine Qf (Qb rfl (fun h=>by simp[lk]at h) (fun _=>?_));refine ZE g3 bE ?_;refine C7 bE ?_;rw[show (decide (a.op=1)&&decide (a.n=0))=isN a 0 from rfl];try simp only[go_sem]
       cases za:isN a 0
       rotate_left
       ·simp only[go_sem,Ia,g4,bt];have nE:∀p∈Lb,H5 p.1=p.2:=fun p hp=>by
         have h1:=hm p Zap;obtain⟨z,r,h2,_⟩:=gn.vecs p hp;rw[kn.chg p.1 Zcb ZV,h1]
        refine RZ (v:=.c (.bool b.safe)) (lntL Lb) (args':=[.ag b.cells]) rfl (Cu (gn.frzA nE)) rfl (fun K' hk=>F1 lt (gk.kn kn).hideG hk) ?_;simp only[go_sem,Ib];cases sb:b.safe
        rotate_left
        ·try simp only[go_sem,AE.X.next]
         refine Qb rfl (fun _=>?_) (fun h=>by simp[lk]at h);refine Za ?_;refine GF fun H6 k6=>?_;have kn:=kn.comp0 k6;have g2:=kn.l 0 rfl;simp only[go_sem,SQ,g2,numC];intro H7 h7;have kn:=kn.ax 0 rfl h7;refine Qi ?_;exact retf (numC 0) _ _ ⟨_,_,kn⟩ rfl rfl ⟨[],List.nil_sublist _,by rw[hF,show Aw _ n nm a b=Ah 0 from by simp[Aw,ob,oa,zb,sa,za,sb]];exact He _⟩ rfl
        ·try simp only[go_sem,AE.X.next]
         refine Qb rfl (fun h=>by simp[lk]at h) (fun _=>?_);refine Zf ?_
         exact end35 (by rw[hF];simp[Aw,ob,oa,zb,sa,za,sb])
       ·simp only[go_sem,Ia,Ib,AE.X.next];refine Qb rfl (fun h=>by simp[lk]at h) (fun _=>?_);refine Zf ?_
        exact end35 (by rw[hF];simp[Aw,ob,oa,zb,sa,za])
     ·simp only[go_sem,V4,V5];refine Qf (Qb rfl (fun h=>by simp[lk]at h) (fun _=>?_));refine ZE g3 bE ?_;refine C7 bE ?_;rw[show (decide (a.op=1)&&decide (a.n=0))=isN a 0 from rfl];try simp only[go_sem]
      cases za:isN a 0
      rotate_left
      ·simp only[go_sem,Ia,g4,bt];have nE:∀p∈Lb,H5 p.1=p.2:=fun p hp=>by
        have h1:=hm p Zap;obtain⟨z,r,h2,_⟩:=gn.vecs p hp;rw[kn.chg p.1 Zcb ZV,h1]
       refine RZ (v:=.c (.bool b.safe)) (lntL Lb) (args':=[.ag b.cells]) rfl (Cu (gn.frzA nE)) rfl (fun K' hk=>F1 lt (gk.kn kn).hideG hk) ?_;simp only[go_sem,Ib];cases sb:b.safe
       rotate_left
       ·try simp only[go_sem,AE.X.next]
        refine Qb rfl (fun _=>?_) (fun h=>by simp[lk]at h);refine Za ?_;refine GF fun H6 k6=>?_;have kn:=kn.comp0 k6;have g2:=kn.l 0 rfl;simp only[go_sem,SQ,g2,numC];intro H7 h7;have kn:=kn.ax 0 rfl h7;refine Qi ?_;exact retf (numC 0) _ _ ⟨_,_,kn⟩ rfl rfl ⟨[],List.nil_sublist _,by rw[hF,show Aw _ n nm a b=Ah 0 from by simp[Aw,ob,oa,zb,za,sb]];exact He _⟩ rfl
       ·try simp only[go_sem,AE.X.next]
        refine Qb rfl (fun h=>by simp[lk]at h) (fun _=>?_);refine Zf ?_
        exact end35 (by rw[hF];simp[Aw,ob,oa,zb,za,sb])
      ·simp only[go_sem,Ia,Ib,AE.X.next];refine Qb rfl (fun h=>by simp[lk]at h) (fun _=>?_);refine Zf ?_
       exact end35 (by rw[hF];simp[Aw,ob,oa,zb,za])
  ·skip
   have d3:decide ((6:Int)=3)=false:=Zab
   have d4:decide ((6:Int)=4)=false:=Zab
   have d5:decide ((6:Int)=5)=false:=Zab
   have d6:decide ((6:Int)=6)=true:=Zab
   have d10:decide ((6:Int)=10)=false:=Zab
   refine Zj d3 d4 d5 d6 d10 ?_;refine Qb rfl (fun h=>by simp[lk]at h) (fun _=>?_);refine Zj d3 d4 d5 d6 d10 ?_;refine Qb rfl (fun h=>by simp[lk]at h) (fun _=>?_);refine Zj d3 d4 d5 d6 d10 ?_;refine Qb rfl (fun h=>by simp[lk]at h) (fun _=>?_);refine Zj d3 d4 d5 d6 d10 ?_;refine Qb rfl (fun h=>by simp[lk]at h) (fun _=>?_);refine Zj d3 d4 d5 d6 d10 ?_;refine Qb rfl (fun _=>?_) (fun h=>by simp[lk]at h);refine Zi g4 bt ?_;refine C7 bt ?_;rw[show (decide (b.op=1)&&decide (b.n=1))=isN b 1 from rfl];try simp only[go_sem]
   cases ob:isN b 1
   rotate_left
   ·refine Qb rfl (fun _=>?_) (fun h=>by simp[lk]at h);refine Zr g2 g3 bE ?_;intro H6 h6;have kn:=kn.ax 0 rfl h6;refine Qi ?_;exact retf [.int .i64 a.op,.int .i64 a.n,.str a.name,ta] _ _ ⟨_,_,kn⟩ rfl fq.ai ⟨_,(List.sublist_append_left La Lb).cons _,by rw[hF,show Aw _ n nm a b=a from by simp[Aw,ob]];exact fq⟩ rfl
   ·refine Qb rfl (fun h=>by simp[lk]at h) (fun _=>?_);refine Zf ?_
    exact end35 (by rw[hF];simp[Aw,ob])
  ·skip
   have d3:decide ((7:Int)=3)=false:=Zab
   have d4:decide ((7:Int)=4)=false:=Zab
   have d5:decide ((7:Int)=5)=false:=Zab
   have d6:decide ((7:Int)=6)=false:=Zab
   have d10:decide ((7:Int)=10)=false:=Zab
   refine Zj d3 d4 d5 d6 d10 ?_;refine Qb rfl (fun h=>by simp[lk]at h) (fun _=>?_);refine Zj d3 d4 d5 d6 d10 ?_;refine Qb rfl (fun h=>by simp[lk]at h) (fun _=>?_);refine Zj d3 d4 d5 d6 d10 ?_;refine Qb rfl (fun h=>by simp[lk]at h) (fun _=>?_);refine Zj d3 d4 d5 d6 d10 ?_;refine Qb rfl (fun h=>by simp[lk]at h) (fun _=>?_);refine Zj d3 d4 d5 d6 d10 ?_;refine Qb rfl (fun h=>by simp[lk]at h) (fun _=>?_);refine Zf ?_
   exact end35 Zcc
  ·skip
   have d3:decide ((8:Int)=3)=false:=Zab
   have d4:decide ((8:Int)=4)=false:=Zab
   have d5:decide ((8:Int)=5)=false:=Zab
   have d6:decide ((8:Int)=6)=false:=Zab
   have d10:decide ((8:Int)=10)=false:=Zab
   refine Zj d3 d4 d5 d6 d10 ?_;refine Qb rfl (fun h=>by simp[lk]at h) (fun _=>?_);refine Zj d3 d4 d5 d6 d10 ?_;refine Qb rfl (fun h=>by simp[lk]at h) (fun _=>?_);refine Zj d3 d4 d5 d6 d10 ?_;refine Qb rfl (fun h=>by simp[lk]at h) (fun _=>?_);refine Zj d3 d4 d5 d6 d10 ?_;refine Qb rfl (fun h=>by simp[lk]at h) (fun _=>?_);refine Zj d3 d4 d5 d6 d10 ?_;refine Qb rfl (fun h=>by simp[lk]at h) (fun _=>?_);refine Zf ?_
   exact end35 Zcc
  ·skip
   have d3:decide ((9:Int)=3)=false:=Zab
   have d4:decide ((9:Int)=4)=false:=Zab
   have d5:decide ((9:Int)=5)=false:=Zab
   have d6:decide ((9:Int)=6)=false:=Zab
   have d10:decide ((9:Int)=10)=false:=Zab
   refine Zj d3 d4 d5 d6 d10 ?_;refine Qb rfl (fun h=>by simp[lk]at h) (fun _=>?_);refine Zj d3 d4 d5 d6 d10 ?_;refine Qb rfl (fun h=>by simp[lk]at h) (fun _=>?_);refine Zj d3 d4 d5 d6 d10 ?_;refine Qb rfl (fun h=>by simp[lk]at h) (fun _=>?_);refine Zj d3 d4 d5 d6 d10 ?_;refine Qb rfl (fun h=>by simp[lk]at h) (fun _=>?_);refine Zj d3 d4 d5 d6 d10 ?_;refine Qb rfl (fun h=>by simp[lk]at h) (fun _=>?_);refine Zf ?_
   exact end35 Zcc
  ·skip
   have d3:decide ((10:Int)=3)=false:=Zab
   have d4:decide ((10:Int)=4)=false:=Zab
   have d5:decide ((10:Int)=5)=false:=Zab
   have d6:decide ((10:Int)=6)=false:=Zab
   have d10:decide ((10:Int)=10)=true:=Zab
   refine Zj d3 d4 d5 d6 d10 ?_;refine Qb rfl (fun _=>?_) (fun h=>by simp[lk]at h);refine Zi g3 bE ?_;refine C7 bE ?_;rw[show (decide (a.op=1)&&decide (a.n=0))=isN a 0 from rfl];try simp only[go_sem]
   cases za:isN a 0
   rotate_left
   ·refine Qb rfl (fun _=>?_) (fun h=>by simp[lk]at h);refine Za ?_;refine GF fun H6 k6=>?_;have kn:=kn.comp0 k6;have g2:=kn.l 0 rfl;simp only[go_sem,Qqj,g2,numC];intro H7 h7;have kn:=kn.ax 0 rfl h7;refine Qi ?_;exact retf (numC 0) _ _ ⟨_,_,kn⟩ rfl rfl ⟨[],List.nil_sublist _,by rw[hF,show Aw _ n nm a b=Ah 0 from by simp[Aw,za]];exact He _⟩ rfl
   ·refine Qb rfl (fun h=>by simp[lk]at h) (fun _=>?_);refine Zf ?_
    exact end35 (by rw[hF];simp[Aw,za])
 refine Qz (Qa ?_);by_cases cK:a.op=1∧b.op=1
 ·have a1:decide (a.op=1)=true:=decide_eq_true cK.1;have b1:decide (b.op=1)=true:=decide_eq_true cK.2;simp only[go_sem,g3,g4,bE,bt,a1,b1];refine Qf (Qb rfl (fun _=>?_) (fun h=>by simp[lk]at h));refine ZG g3 g4 bE bt ?_;refine Qbj9 (C5 jc cK.1).2 (C5 i4 cK.2).2 h3 bP ?_;simp only[go_sem,Vq,Jd,Jt];refine Za ?_
  cases hr:arF op a.n b.n with
  |some z=>
   simp only[Option.isSome_some,Option.getD_some];refine Qb rfl (fun _=>?_) (fun h=>by simp[lk]at h);refine Za ?_;refine GF fun H6 k6=>?_;have kn:=kn.comp0 k6;have g2:=kn.l 0 rfl;simp only[go_sem,Vp,g2,numC];intro H7 h7;have kn:=kn.ax 0 rfl h7;refine Qi ?_;have e:Aj op n nm [a,b]=Ah z:=by simp[Aj,h3,bP,cK,hr]
   exact retf (numC z) _ _ ⟨_,_,kn⟩ rfl rfl ⟨[],List.nil_sublist _,by rw[e];exact He _⟩ rfl
  |none=>
   simp only[Option.isSome_none];refine Qb rfl (fun h=>by simp[lk]at h) (fun _=>?_);refine Zc ?_
   exact rest36 _ ZbJ rfl rfl rfl rfl
 ·have hF:Aj op n nm [a,b]=Aw op n nm a b:=Za2
  cases a1:decide (a.op=1) <;> cases b1:decide (b.op=1)
  all_goals
   first
   |(exfalso;exact cK ⟨of_decide_eq_true a1,of_decide_eq_true b1⟩)
   |skip
  all_goals
   simp only[go_sem,g3,g4,bE,bt,a1,b1];refine Qf (Qb rfl (fun h=>by simp[lk]at h) (fun _=>?_));refine Zc ?_
   exact rest36 _ hF rfl rfl rfl rfl
theorem GK.same {H1:Heap}(g:GK H)(h:∀m,H m≠.none→H1 m=H m):GK H1:=by
 obtain⟨ks,rows,h3,h4⟩:=g.sign;exact⟨(h _ Zb3).trans g.keys,ks,rows,(h _ (by rw[h3];nofun)).trans h3,h4⟩
theorem Ti {x y:Ex}(h:x.valid=true)(hy:y∈x.kids):y.valid=true:=by
 rw[Ex.valid,Jb,decide_eq_true_eq]at h⊢;have:=G8 hy;exact⟨y.form_le 5 6 (Dl h.1 y hy) ZT,ZT⟩
theorem Qa2h {op n:Int}{nm:List UInt8}{t:C}{kids:List Ex}(hv:(Ex.mk op n nm kids).valid=true)(gk:GK H)(ho:OwS L 4 (Ql kids) t)(hm:∀p∈L,H p.1=p.2)
  (hK:∀H' cs,Kn H H' [] []→FoR L (Aj op n nm kids) cs→K (.ag cs) H'):Qm prog HV [.ag [.int .i64 op,.int .i64 n,.str nm,t]] H K:=by
 have hf:(Ex.mk op n nm kids).form 6=true:=Zbm
 have aZ:=Dv hf;have oT:∀y∈kids,y.valid=true:=fun y hy=>Ti hv hy;by_cases hq:kids=[]∨op=13∨op=12
 ·have e:Aj op n nm kids=.mk op n nm kids:=by
   rcases hq with h|h|h
   ·subst h;rfl
   ·subst h;unfold Aj;split
    ·rw[if_neg Zab]
    ·rw[if_neg ZT]
    ·rfl
   ·subst h;unfold Aj;split
    ·rw[if_neg Zab]
    ·rw[if_neg ZT]
    ·rfl
  rw[e]at hK;exact Qa2e hq ho hm hK
 ·have h0:kids≠[]:=fun h=>hq (.inl h);have h1:¬(op=1∨op=2):=fun h=>h0 (aZ.2.1 h);have cy:op≠13:=fun h=>hq (.inr (.inl h));have dr:op≠12:=fun h=>hq (.inr (.inr h));by_cases cM:op=11
  ·subst cM;have hl:=aZ.2.2.2.1 (.inl rfl)
   match kids,hl with
   |[a],_=>exact Qa2g hf ho hm hK
  ·have hl:=aZ.2.2.1 ZT ZT
   match kids,hl with
   |[a,b],_=>exact Qa2f ZT ZT (oT a ZV) (oT b ZV) gk ho hm hK
theorem Q60 {x:Ex}(hv:x.valid=true):(Ex.mk x.op x.n x.name (x.kids.map Ex.fold)).valid=true:=by
 rw[Ex.valid,Jb,decide_eq_true_eq]at hv⊢;obtain⟨h1,h2⟩:=hv;rw[Ex.form_eq,Jb,Jb]at h1;obtain⟨h3,h4⟩:=ER x.kids _ h1.2;rw[Dx]at h3 h4;refine⟨?_,?_⟩
 ·simp only[Ex.form,Jb,h4];exact⟨h1.1,h3⟩
 ·have h5:=Sz x.kids _ h1.2;rw[Dx]at h5;have:=x.size_kids;simp only[Ex.size];rcases h5 with h5|h5
  ·rw[h5];omega
  ·omega
theorem Qbpy:∀(n:Nat) (x:Ex) {H:Heap} {K:V→Heap→Prop},x.size≤n→x.valid=true→GK H→(∀H' L cs,Kn H H' [] L→OwL L cs x.fold.cells→K (.ag cs) H')→Qm prog HC [.ag x.cells] H K:=by
 intro n
 induction n with
 |zero=>intro x H K h;have:=x.size_pos;omega
 |succ n ih=>
 intro x H K hn hv gk hK;have aO:=x.size_kids;refine Qc Aa Qbgy ?_;refine Zu ?_;intro x1 dD H1 h1;have kn:=(Kn.ao H).al dD h1;simp only[go_sem,E5];intro x2 bB H2 h2;have kn:=kn.al bB h2;have g1:=kn.l 0 rfl;refine Zd g1 ?_;have gk2:=gk.kn kn;refine RH (g:=Ex.fold) (caps:=[]) (fun y hy H3 K' ko cP=>ih y (by have:=Bn hy;omega) (Ti hv hy) (gk2.same ko) cP) fun H3 L t k2 ho=>?_;have kn:=kn.comp0 k2;have g1:=kn.l 0 rfl;have aq:=ho.ah;simp only[go_sem,Sl,g1,aq];intro H4 h4;have kn:Kn H H4 [] ([(x1,.st [.int .i64 x.op,.int .i64 x.n,.str x.name,t]),(x2,.st z4)]++L):=kn.ax 0 rfl h4;have g1:=kn.l 0 rfl;refine Zi g1 aq ?_;refine Qa2h (Q60 hv) (gk.kn kn) ho (fun p hp=>(kn.get p Zap).1) fun H5 cs k5 hr=>?_;obtain⟨L',hs,hr⟩:=hr;have cG:cs.length=4:=by rw[←hr.len,Ex.ae]
 have bO:(cs.all fun c=>!c.ah)=true:=hr.ai;have aY:List.take 4 cs=cs:=Ji ZT;have kn:=kn.comp0 k5;rw[Jk]at kn;have g2:=kn.l 1 rfl;simp only[go_sem,OO,g2,cG,bO,J6,Jk];intro H6 h6;have kn:Kn H H6 [] ([(x1,.st [.int .i64 x.op,.int .i64 x.n,.str x.name,t]),(x2,.st cs)]++L):=kn.ax 1 rfl h6;have g2:=kn.l 1 rfl;refine Qi ?_;simp only[go_sem,Qq,Q0,Ja,forall_eq,RS.op,g2,cG,bO,aY];refine hK _ L' _ (kn.sub ?_) (by rw[x.fold_eq,Dx];exact hr);exact hs.trans (List.sublist_append_right [_,_] _)
end Go.AE.Y
namespace Go.AE
theorem Cr {α:Type}{l1 l2:List α}(h:∀f:List α→Nat,(∀a b,f (a++b)=f a+f b)→f []=0→(∀x l,f (x::l)=f [x]+f l)→(∀a b:List α,a.Perm b→f a=f b)→f l1=f l2):l1.Perm l2:=by
 classical
 exact List.perm_iff_count.2 fun a=>h (List.count a) (fun _ _=>List.count_append) rfl (fun x l=>by rw[Jas,Jas];simp;omega) (fun _ _ hp=>hp.count_eq a)
end Go.AE
namespace Go.AE.Y
attribute [local go_sem] cond_true cond_false Bool.not_true Bool.not_false
open Go.Proofs.Tryz
variable {H H0:Heap}{K:V→Heap→Prop}{L:List (Nat×Obj)}
def St.foldA (x:St):St:=.mk x.op x.name (x.args.map Ex.fold) x.body x.els
theorem Qa2d (x:St):x.foldA.cells=[.int .i64 x.op,.str x.name,.sl false 4 (Ql (x.args.map Ex.fold)),.sl false 5 (Qk x.body),.sl false 5 (Qk x.els)]:=by rw[St.foldA,St.cells]
def BlkO (f:Nat)(B:List St→List St)(Pl:List St→Prop):Prop:=∀(l:List St) (L:List (Nat×Obj)) (t:C) (H:Heap) (K:V→Heap→Prop),Pl l→GK H→OwS L 5 (Qk l) t→(∀p∈L,H p.1=p.2)→(L.map Prod.fst).Nodup→
 (∀H' E' N Lr rest t',Kn H H' E' N→E'.map Prod.fst=L.map Prod.fst→(E'++N).Perm (Lr++rest)→OwS Lr 5 (Qk (B l)) t'→K (.c t') H')→Qm prog f [.c t] H K
theorem Qbaj:BlkO VP (fun l=>l.map St.foldA) (fun l=>∀x∈l,∀a∈x.args,a.valid=true):=by
 intro l L t H K hv gk ho hm hd hK;rcases ho with ⟨rfl,h1,rfl⟩|⟨y,M,rows,rfl,rfl,co,iE,_,ho⟩
 ·have:l=[]:=Jw.1 (by rw[←Qp,h1];rfl);subst this;refine Qc Aa Ql7 ?_;refine Za ?_;refine Qz (Qa ?_);simp only[go_sem];refine Qf (Qg (Q3 (fun m e1 H1=>H1=H∧e1=[(0,.c (.sl true 5 [])),(5,.c (.int .i64 0)),(6,.c (.int .i64 0))]) 0 ?_ ?_))
  ·exact⟨rfl,rfl⟩
  ·rintro m e1 H1 ⟨rfl,rfl⟩;refine Za ?_;refine Qf (Qb rfl (fun h=>by simp[lk]at h) (fun _=>?_));refine Zg ?_;refine Za ?_;refine Zb ?_;exact hK _ [] [] [] [] _ (Kn.ao _) rfl ZV (.inl ⟨rfl,rfl,rfl⟩)
 ·have jn:l.length=rows.length:=by rw[←Qp];exact co
  refine Qc Aa Ql7 ?_;refine Za ?_;have gy0:H y=.vec 5 rows:=hm (y,.vec 5 rows) ZV;refine Qz (Qa ?_);simp only[go_sem,gy0];refine⟨ZT,fun eq=>?_⟩;simp only[LIM]at eq;refine Qf (Qg (Q3 (fun m e1 H1=>∃(i:Nat) (dn td:List (List C)) (Md Mt N G:List (Nat×Obj)),m=l.length-i∧i≤l.length∧dn.length=i∧td.length=l.length-i∧(∀r∈dn,r.length=5)∧(∀r∈td,r.length=5)∧
   OwL Md dn.flatten (Qk ((l.take i).map St.foldA)).flatten∧OwL Mt td.flatten (Qk (l.drop i)).flatten∧(M++N).Perm (Md++(Mt++G))∧Kn H H1 ((y,.vec 5 (dn++td))::M) N∧
   e1=[(0,.c (.aw y 5 0 rows.length)),(5,.c (.int .i64 rows.length)),(6,.c (.int .i64 i))]) l.length ?_ ?_))
  ·exact⟨0,[],rows,[],M,[],[],ZT,ZT,rfl,ZT,ZV,iE,.nil,ho,ZV,.startE (fun p hp=>⟨hm p hp,by
    rcases J3.1 hp with rfl|hp
    ·nofun
    ·obtain⟨z,r,h1,_⟩:=ho.vecs p hp;rw[h1];nofun⟩) hd,rfl⟩
  ·rintro m e1 H1 ⟨i,dn,td,Md,Mt,N,G,bp,hi,jt,jF,qc,kh,rg,gm,eV,kn,rfl⟩;have gy:=kn.e 0 rfl;refine Za ?_;refine Qf (Qb rfl ?_ ?_)
   ·intro hc;have af:i<l.length:=(by have:=of_decide_eq_true hc;omega);have aD:i<rows.length:=ZT;obtain⟨x,hx⟩:∃x,l[i]=x:=⟨_,rfl⟩;have iy:x∈l:=ZaF;have dw:l.drop i=x::l.drop (i+1):=(by rw[Jaf af,hx]);have aY:l.take (i+1)=l.take i++[x]:=(by rw[Jq af,hx]);obtain⟨r,td,rfl⟩:∃r td',td=r::td':=by
     cases td with
     |nil=>simp at jF;omega
     |cons r td'=>exact⟨r,td',rfl⟩
    have hr:=kh r ZV;rw[dw,show Qk (x::l.drop (i+1))=x.cells::Qk (l.drop (i+1)) from by simp[Dj]]at gm;obtain⟨M1,M2,rfl,lD,gp⟩:=gm.uncons (by rw[hr,x.ae]);obtain⟨Ma,Mb,Mc,ta,tb,tc,rfl,rfl,ha,br,bU⟩:=OwL.st lD;have bE:=ha.ah;have bt:=br.ah;have cL:=bU.ah;have aM:∀r:List C,(dn++r::td).length=rows.length:=fun r=>by
     simp only[List.length_append,Jc]at jF⊢;omega
    have nU:∀r:List C,List.take rows.length (dn++r::td)=dn++r::td:=fun r=>Ji (by rw[aM r];omega);have fO:∀p∈Ma,p∈M++N:=fun p hp=>(eV.mem_iff).2 Zap;have oK:∀p∈Ma,H1 p.1=p.2:=fun p hp=>(kn.get p (by
     rcases Ju.1 (fO p hp)with h|h
     ·exact Jn _ (Jy _ h)
     ·exact Js _ h)).1
    have gk1:GK H1:=by
     refine gk.upd kn.upd ?_ ?_
     all_goals
      intro hh;obtain⟨p,hp,he⟩:=J8.1 hh;have h1:H p.1=p.2∨p.1=y:=by
       rcases J3.1 hp with rfl|hp
       ·exact .inr rfl
       ·exact .inl (hm p Zap)
      have qF:∃z r,H p.1=.vec z r:=by
       rcases h1 with h1|h1
       ·rcases J3.1 hp with rfl|hp
        ·exact⟨_,_,gy0⟩
        ·obtain⟨z,r,h2,_⟩:=ho.vecs p hp;exact⟨z,r,by rw[h1,h2]⟩
       ·exact⟨_,_,by rw[h1];exact gy0⟩
      obtain⟨z,r,h2⟩:=qF;rw[he]at h2
      first
      |(rw[gk.keys]at h2;cases h2)
      |(obtain⟨_,_,h3,_⟩:=gk.sign;rw[h3]at h2;cases h2)
    refine Zc ?_
    refine Qf (Qg ?_);refine Za ?_;refine Qr ?_;simp only[go_sem,gy,aM,aD,nU,IU jt,bE,bt,cL];refine⟨ZT,ZT,?_⟩;refine Q2w (x':=.c (.sl false 4 (Ql (x.args.map Ex.fold)))) (lntL Ma) (args':=[.c (.sl false 4 (Ql x.args)),.c (.fn HC [])]) rfl (Ii (ha.lendC oK) (.c _ _ (.same _ rfl))) (fun K' hk=>RH (g:=Ex.fold) (caps:=[]) (fun z hz H3 K'' ko hK''=>Qbpy z.size z (Jl _) (hv x iy z hz) (gk1.hideG.same ko) hK'') fun H' L t kn ho=>hk H' L (.c t) kn ho.one) fun H2 Ln v k2 bB=>?_;obtain⟨tn,rfl,hn⟩:=bB.c1;have htn:=hn.ah;have kn:=kn.comp0 k2;have gy:=kn.e 0 rfl;simp only[go_sem,Qgz,gy,aM,aD,Yr jt,bE,bt,cL,htn];refine⟨ZT,ZT,fun H3 h3=>?_⟩;rw[XI jt]at h3;have kn:Kn H H3 ((y,.vec 5 (dn++([.int .i64 x.op,.str x.name,tn,tb,tc]:List C)::td))::M) (N++Ln):=kn.stE 0 rfl h3;try simp only[go_sem,AE.X.next]
    refine Zk ?_;refine⟨Qv,l.length-(i+1),ZT,i+1,dn++[[.int .i64 x.op,.str x.name,tn,tb,tc]],td,Md++(Ln++(Mb++Mc)),M2,N++Ln,G++Ma,rfl,ZT,ZbA,by simp only[Jc]at jF;omega,?_,fun r hr=>kh r Zbz,?_,gp,?_,?_,rfl⟩
    ·intro r hr;rcases Ju.1 hr with hr|hr
     ·exact qc r hr
     ·rw[Ja.1 hr];rfl
    ·rw[aY,Jan,←BR,List.flatten_append,List.flatten_append];refine rg.app ?_;simp only[Jv,Jav,Qk,Qa2d,List.flatten_cons,List.flatten_nil,Jk];exact .atom rfl (.atom rfl (hn.cons (br.cons bU.one)))
    ·refine Cr fun f hf h0 hc hp=>?_;have:=hp _ _ eV;simp only[hf]at this⊢;omega
    ·simpa only[Jm,Jai,Jao,List.singleton_append]using kn
   ·intro hc;have aV:l.length≤i:=(by have:=of_decide_eq_false hc;omega);rw[Ji aV]at rg;have qJ:td=[]:=Jw.1 ZT;subst qJ;rw[Jk]at kn;have nD:rows.length=dn.length:=ZT;refine Zg ?_;refine Za ?_;refine Zb ?_;refine hK _ _ N ((y,.vec 5 dn)::Md) (Mt++G) _ kn rfl ?_ (.inr ⟨y,Md,dn,by rw[nD],rfl,by rw[Qp,Jr];omega,qc,B9,rg⟩);exact (eV.cons _)
def cutB:List St→List St
 |[]=>[]
 |x::r=>if x.op=6∧isN (AC x.args) 0=true then cutB r else A9 x.op x.name x.args x.body x.els::(if x.op=7 then []else cutB r)
theorem Qbe6:BlkO Vb cutB (fun l=>∀x∈l,0<x.args.length):=by
 intro l L t H K hv gk ho hm hd hK;obtain⟨Ly,M,rows,rfl,jU,co,iE,_,ho⟩:=ho.gr;have aq:=jU.ah;have cO:=jU.a9;refine Qc Aa Qauw ?_;refine Zd aq ?_;refine Zd aq ?_;refine Qz (Qa ?_);have cE:aT H t:=by
  rcases jU with ⟨rfl,_,_⟩|⟨y,rfl,rfl⟩
  ·trivial
  ·have g:H y=.vec 5 rows:=hm (y,.vec 5 rows) ZV;simp[aT,g]
 simp only[go_sem,aq,cO,cE];intro eq;simp only[LIM]at eq;have jn:l.length=rows.length:=by rw[←Qp];exact co
 refine Qf (Qg (Q3 (fun m e1 H1=>∃(i:Nat) (t3:C) (Lg Mo Mt G:List (Nat×Obj)) (dn td ro:List (List C)) (out:List St),m=l.length-i∧i≤l.length∧dn.length=i∧td.length=l.length-i∧rows=dn++td∧(∀r∈td,r.length=5)∧
  Gr Lg 5 ro t3∧ro.length=out.length∧(∀r∈ro,r.length=5)∧OwL Mo ro.flatten (Qk out).flatten∧OwL Mt td.flatten (Qk (l.drop i)).flatten∧M.Perm (Mo++(Mt++G))∧Kn H H1 (Ly++M) Lg∧out++cutB (l.drop i)=cutB l∧out.length≤i∧
  e1=[(3,.c t3),(6,.c t),(7,.c (.int .i64 rows.length)),(8,.c (.int .i64 i))]) l.length ?_ ?_))
 ·refine⟨0,_,[],[],M,[],[],rows,[],[],ZT,ZT,rfl,ZT,rfl,iE,.nil 5,rfl,ZV,.nil,ho,ZV,.startE (fun p hp=>⟨hm p hp,?_⟩) hd,rfl,Jl _,rfl⟩;rcases Ju.1 hp with hp|hp
  ·rcases jU with ⟨_,_,rfl⟩|⟨y,_,rfl⟩
   ·simp at hp
   ·rw[Ja.1 hp];nofun
  ·obtain⟨z,r,h1,_⟩:=ho.vecs p hp;rw[h1];nofun
 ·rintro m e1 H1 ⟨i,t3,Lg,Mo,Mt,G,dn,td,ro,out,bp,hi,jt,jF,bv,kh,b9,fi,kl,cn,gm,eV,kn,eZ,pU,rfl⟩;have dv:=b9.ah;refine Zi dv aq ?_;refine Qf (Qb rfl ?_ ?_)
  ·intro hc;have af:i<l.length:=by have:=of_decide_eq_true hc;omega
   have aD:i<rows.length:=ZT
   rcases jU with ⟨_,h0,_⟩|⟨y,rfl,rfl⟩
   ·rw[h0]at aD;simp at aD
   have gy:=kn.e 0 rfl;obtain⟨x,hx⟩:∃x,l[i]=x:=⟨_,rfl⟩;have iy:x∈l:=ZaF
   have dw:l.drop i=x::l.drop (i+1):=by rw[Jaf af,hx]
   obtain⟨r,td,rfl⟩:∃r td',td=r::td':=by
    cases td with
    |nil=>simp at jF;omega
    |cons r td'=>exact⟨r,td',rfl⟩
   have hr:=kh r ZV;rw[dw,show Qk (x::l.drop (i+1))=x.cells::Qk (l.drop (i+1)) from by simp[Dj]]at gm;obtain⟨M1,M2,rfl,lD,gp⟩:=gm.uncons (by rw[hr,x.ae]);have ho10:=lD;obtain⟨Ma,Mb,Mc,ta,tb,tc,rfl,rfl,ha,br,bU⟩:=OwL.st lD;have bE:=ha.ah;have bt:=br.ah;have cL:=bU.ah;have aI:rows.getD i []=[.int .i64 x.op,.str x.name,ta,tb,tc]:=by rw[bv];exact IU jt
   have bg:∀p∈M,H1 p.1=p.2:=fun p hp=>(kn.get p Zap).1;have oK:∀p∈Ma,H1 p.1=p.2:=fun p hp=>bg p ((eV.mem_iff).2 Zap);obtain⟨a,ar,mY⟩:∃a ar,x.args=a::ar:=by
    have:=hv x iy;rcases hA:x.args with _|⟨a,ar⟩
    ·rw[hA]at this;simp at this
    ·exact⟨a,ar,rfl⟩
   have iQ:AC x.args=a:=by rw[mY];rfl
   rcases ha with ⟨_,h0,_⟩|⟨ya,Na,rowsA,rfl,rfl,gY,kS,qV,j1⟩
   ·rw[mY]at h0;simp[Ql]at h0
   have hZ:OwS ((ya,.vec 4 rowsA)::Na) 4 (Ql x.args) (.aw ya 4 0 rowsA.length):=.inr ⟨ya,Na,rowsA,rfl,rfl,gY,kS,qV,j1⟩;have gya:H1 ya=.vec 4 rowsA:=oK (ya,.vec 4 rowsA) ZV;rw[mY]at gY j1;obtain⟨ra,rs,rfl⟩:∃ra rs,rowsA=ra::rs:=by
    rcases rowsA with _|⟨ra,rs⟩
    ·simp[Ql]at gY
    ·exact⟨ra,rs,rfl⟩
   simp only[Ql]at j1;obtain⟨N1,N2,rfl,rh,_⟩:=j1.uncons (by rw[kS ra (by simp),a.ae]);obtain⟨tka,rfl,kW⟩:=OwL.ex rh;have iY:=kW.ah;have bR:(C.aw ya 4 0 (rs.length+1)).ah=false:=rfl;refine Zc ?_
   refine Qf (Qg ?_);refine Qa ?_;simp only[go_sem,dv,gy,aD,aI,bt,cL,bR,List.take_length,Jc,Jf,Jg,Jj,Je,Jh];refine⟨ZT,ZT,fun x5 cp H2 h2=>?_⟩;have kn:=(kn.al cp h2).perm J1;have g5:=kn.l 0 rfl;simp only[go_sem,Qte,g5,bt,cL,bR];intro H3 h3;have kn:Kn H H3 ([(y,.vec 5 rows)]++M) ([(x5,.st [.int .i64 x.op,.str x.name,.aw ya 4 0 (rs.length+1),tb,tc])]++Lg):=kn.ax 0 rfl h3;have g5:=kn.l 0 rfl;have gya:H3 ya=.vec 4 ([.int .i64 a.op,.int .i64 a.n,.str a.name,tka]::rs):=(kn.get (ya,.vec 4 _) (Jn _ (Js _ ((eV.mem_iff).2 ZV)))).1;refine Qf (Qg ?_);refine Qa ?_;cases c6:decide (x.op=6)
   ·have n6:=of_decide_eq_false c6;have cF:¬(x.op=6∧isN (AC x.args) 0=true):=fun h=>n6 h.1;simp only[go_sem,g5,gya,bR,bt,cL,iY,c6,Jc,Jd,Je,Jh,J0,Jg,Jj];simp only[go_sem,Vu];refine Qb rfl (fun h=>by simp[lk]at h) (fun _=>?_);refine Qa ?_;cases c5:decide (x.op=5)
    ·have n5:=of_decide_eq_false c5;have bu:A9 x.op x.name x.args x.body x.els=.mk x.op x.name x.args x.body x.els:=(by rw[A9,if_neg (fun h=>n5 h.1)]);simp only[go_sem,g5,gya,bR,bt,cL,iY,c5,Jc,Jd,Je,Jh,J0,Jg,Jj];simp only[go_sem,SS];refine Qb rfl (fun h=>by simp[lk]at h) (fun _=>?_);refine Qa ?_;simp only[go_sem,g5,gya,bR,bt,cL,iY,c5,Jc,Jd,Je,Jh,J0,Jg,Jj];refine Qb rfl (fun h=>by simp[lk]at h) (fun _=>?_);refine Zf ?_
     refine Qa ?_;simp only[go_sem,dv,g5,bR,bt,cL,Jc,Jf];refine Kn.aQ (B:=[(x5,.st [.int .i64 x.op,.str x.name,.aw ya 4 0 (rs.length+1),tb,tc])]) kn b9 (new:=[[.int .i64 x.op,.str x.name,.aw ya 4 0 (rs.length+1),tb,tc]]) (.mk' _ true 5 _) ZaL ZaM fun t4 Lg2 H6 bS aW kn=>?_;have g5:=kn.l 0 rfl;have iV:OwL (Mo++(((ya,Obj.vec 4 ([.int .i64 a.op,.int .i64 a.n,.str a.name,tka]::rs))::(N1++N2))++(Mb++Mc))) (ro++[[.int .i64 x.op,.str x.name,.aw ya 4 0 (rs.length+1),tb,tc]]).flatten (Qk (out++[St.mk x.op x.name x.args x.body x.els])).flatten:=by
      rw[←BR,List.flatten_append,List.flatten_append];refine cn.app ?_;simp only[Qk,St.cells,List.flatten_cons,List.flatten_nil,Jk];exact .atom rfl (.atom rfl (hZ.cons (br.cons bU.one)))
     have dj:∀r∈ro++[([.int .i64 x.op,.str x.name,.aw ya 4 0 (rs.length+1),tb,tc]:List C)],r.length=5:=by
      intro r hr;rcases Ju.1 hr with hr|hr
      ·exact kl r hr
      ·rw[Ja.1 hr];rfl
     simp only[go_sem,Ha,aW];refine Zj g5 aW bR bt cL ?_;refine Qb rfl (fun h7=>?_) (fun h7=>?_)
     ·have gG:x.op=7:=of_decide_eq_true h7;refine Zy ?_
      refine Zd aW ?_;refine Zq aW ?_;rw[dw,cutB,if_neg cF,if_pos gG,bu]at eZ;refine hK _ _ Lg2 (Lg2++(Mo++(((ya,Obj.vec 4 ([.int .i64 a.op,.int .i64 a.n,.str a.name,tka]::rs))::(N1++N2))++(Mb++Mc)))) ((y,.vec 5 rows)::(M2++G)) _ (kn.sub (List.sublist_append_right _ _)) rfl ?_ Zao;refine Cr fun f hf h0 hc hp=>?_;have h1:=hp _ _ eV;have h2:=hc (y,.vec 5 rows) M;have h3:=hc (y,.vec 5 rows) (M2++G);simp only[hf]at h1 h2 h3⊢;omega
     ·have gG:¬x.op=7:=of_decide_eq_false h7;rw[dw,cutB,if_neg cF,if_neg gG,bu]at eZ;refine Zf ?_
      refine Zl aW ?_;refine⟨Qv,l.length-(i+1),ZT,i+1,t4,Lg2,Mo++(((ya,Obj.vec 4 ([.int .i64 a.op,.int .i64 a.n,.str a.name,tka]::rs))::(N1++N2))++(Mb++Mc)),M2,G,dn++[[.int .i64 x.op,.str x.name,.aw ya 4 0 (rs.length+1),tb,tc]],td,ro++[[.int .i64 x.op,.str x.name,.aw ya 4 0 (rs.length+1),tb,tc]],out++[St.mk x.op x.name x.args x.body x.els],rfl,ZT,ZbA,by simp only[Jc]at jF;omega,ZbU,fun r hr=>kh r Zbz,bS,Zcg,dj,iV,gp,?_,kn.sub (List.sublist_append_right _ _),by rw[Jm];exact eZ,by simp;omega,rfl⟩;refine Cr fun f hf h0 hc hp=>?_;have h1:=hp _ _ eV;simp only[hf]at h1⊢;omega
    ·have e5:=of_decide_eq_true c5;simp only[go_sem,g5,gya,bR,bt,cL,iY,c5,Jc,Jd,Je,Jh,J0,Jg,Jj];refine⟨⟨ZT,ZT,ZT⟩,⟨ZT,ZT⟩,?_⟩;refine C7 iY ?_;rw[show (decide (a.op=1)&&decide (a.n=0))=isN a 0 from rfl];simp only[go_sem,SS];cases za:isN a 0
     ·refine Qb rfl (fun h=>by simp[lk]at h) (fun _=>?_);refine Qa ?_;cases a1:decide (a.op=1)
      ·have bu:A9 x.op x.name x.args x.body x.els=.mk x.op x.name x.args x.body x.els:=(by rw[A9,if_neg (fun h=>by rw[iQ]at h;exact of_decide_eq_false a1 h.2)]);simp only[go_sem,g5,gya,bR,bt,cL,iY,c5,a1,Jc,Jd,Je,Jh,J0,Jg,Jj];refine⟨⟨ZT,ZT,ZT⟩,⟨ZT,ZT⟩,?_⟩;refine Qb rfl (fun h=>by simp[lk]at h) (fun _=>?_);refine Zf ?_
       refine Qa ?_;simp only[go_sem,dv,g5,bR,bt,cL,Jc,Jf];refine Kn.aQ (B:=[(x5,.st [.int .i64 x.op,.str x.name,.aw ya 4 0 (rs.length+1),tb,tc])]) kn b9 (new:=[[.int .i64 x.op,.str x.name,.aw ya 4 0 (rs.length+1),tb,tc]]) (.mk' _ true 5 _) ZaL ZaM fun t4 Lg2 H6 bS aW kn=>?_;have g5:=kn.l 0 rfl;have iV:OwL (Mo++(((ya,Obj.vec 4 ([.int .i64 a.op,.int .i64 a.n,.str a.name,tka]::rs))::(N1++N2))++(Mb++Mc))) (ro++[[.int .i64 x.op,.str x.name,.aw ya 4 0 (rs.length+1),tb,tc]]).flatten (Qk (out++[St.mk x.op x.name x.args x.body x.els])).flatten:=by
        rw[←BR,List.flatten_append,List.flatten_append];refine cn.app ?_;simp only[Qk,St.cells,List.flatten_cons,List.flatten_nil,Jk];exact .atom rfl (.atom rfl (hZ.cons (br.cons bU.one)))
       have dj:∀r∈ro++[([.int .i64 x.op,.str x.name,.aw ya 4 0 (rs.length+1),tb,tc]:List C)],r.length=5:=by
        intro r hr;rcases Ju.1 hr with hr|hr
        ·exact kl r hr
        ·rw[Ja.1 hr];rfl
       simp only[go_sem,Ha,aW];refine Zj g5 aW bR bt cL ?_;refine Qb rfl (fun h7=>?_) (fun h7=>?_)
       ·have gG:x.op=7:=of_decide_eq_true h7;refine Zy ?_
        refine Zd aW ?_;refine Zq aW ?_;rw[dw,cutB,if_neg cF,if_pos gG,bu]at eZ;refine hK _ _ Lg2 (Lg2++(Mo++(((ya,Obj.vec 4 ([.int .i64 a.op,.int .i64 a.n,.str a.name,tka]::rs))::(N1++N2))++(Mb++Mc)))) ((y,.vec 5 rows)::(M2++G)) _ (kn.sub (List.sublist_append_right _ _)) rfl ?_ Zao;refine Cr fun f hf h0 hc hp=>?_;have h1:=hp _ _ eV;have h2:=hc (y,.vec 5 rows) M;have h3:=hc (y,.vec 5 rows) (M2++G);simp only[hf]at h1 h2 h3⊢;omega
       ·have gG:¬x.op=7:=of_decide_eq_false h7;rw[dw,cutB,if_neg cF,if_neg gG,bu]at eZ;refine Zf ?_
        refine Zl aW ?_;refine⟨Qv,l.length-(i+1),ZT,i+1,t4,Lg2,Mo++(((ya,Obj.vec 4 ([.int .i64 a.op,.int .i64 a.n,.str a.name,tka]::rs))::(N1++N2))++(Mb++Mc)),M2,G,dn++[[.int .i64 x.op,.str x.name,.aw ya 4 0 (rs.length+1),tb,tc]],td,ro++[[.int .i64 x.op,.str x.name,.aw ya 4 0 (rs.length+1),tb,tc]],out++[St.mk x.op x.name x.args x.body x.els],rfl,ZT,ZbA,by simp only[Jc]at jF;omega,ZbU,fun r hr=>kh r Zbz,bS,Zcg,dj,iV,gp,?_,kn.sub (List.sublist_append_right _ _),by rw[Jm];exact eZ,by simp;omega,rfl⟩;refine Cr fun f hf h0 hc hp=>?_;have h1:=hp _ _ eV;simp only[hf]at h1⊢;omega
      ·have a1':=of_decide_eq_true a1;have hn0:¬a.n=0:=fun h=>(by rw[isN_iff.2 ⟨a1',h⟩]at za;cases za);have bu:A9 x.op x.name x.args x.body x.els=.mk x.op x.name x.args x.body []:=(by rw[A9,if_pos ⟨e5,by rw[iQ];exact a1'⟩,iQ,if_neg hn0]);simp only[go_sem,g5,gya,bR,bt,cL,iY,c5,a1,Jc,Jd,Je,Jh,J0,Jg,Jj];refine⟨⟨ZT,ZT,ZT⟩,⟨ZT,ZT⟩,?_⟩;refine Qb rfl (fun _=>?_) (fun h=>by simp[lk]at h);refine Qr ?_;simp only[go_sem,g5,bR,bt,cL];intro H4 h4;have kn:Kn H H4 ([(y,.vec 5 rows)]++M) ([(x5,.st [.int .i64 x.op,.str x.name,.aw ya 4 0 (rs.length+1),tb,.sl true 5 []])]++Lg):=kn.ax 0 rfl h4;have g5:=kn.l 0 rfl;try simp only[go_sem,AE.X.next]
       refine Qa ?_;simp only[go_sem,dv,g5,bR,bt,cL,Jc,Jf];refine Kn.aQ (B:=[(x5,.st [.int .i64 x.op,.str x.name,.aw ya 4 0 (rs.length+1),tb,.sl true 5 []])]) kn b9 (new:=[[.int .i64 x.op,.str x.name,.aw ya 4 0 (rs.length+1),tb,.sl true 5 []]]) (.mk' _ true 5 _) ZaL ZaM fun t4 Lg2 H6 bS aW kn=>?_;have g5:=kn.l 0 rfl;have iV:OwL (Mo++(((ya,Obj.vec 4 ([.int .i64 a.op,.int .i64 a.n,.str a.name,tka]::rs))::(N1++N2))++Mb)) (ro++[[.int .i64 x.op,.str x.name,.aw ya 4 0 (rs.length+1),tb,.sl true 5 []]]).flatten (Qk (out++[St.mk x.op x.name x.args x.body []])).flatten:=by
        rw[←BR,List.flatten_append,List.flatten_append];refine cn.app ?_;simp only[Qk,St.cells,List.flatten_cons,List.flatten_nil,Jk];exact .atom rfl (.atom rfl (hZ.cons (by have:=br.cons (OwL.sln (sz:=5) OwL.nil);rwa [Jk]at this)))
       have dj:∀r∈ro++[([.int .i64 x.op,.str x.name,.aw ya 4 0 (rs.length+1),tb,.sl true 5 []]:List C)],r.length=5:=by
        intro r hr;rcases Ju.1 hr with hr|hr
        ·exact kl r hr
        ·rw[Ja.1 hr];rfl
       simp only[go_sem,Ha,aW];refine Zj g5 aW bR bt cL ?_;refine Qb rfl (fun h7=>?_) (fun h7=>?_)
       ·have gG:x.op=7:=of_decide_eq_true h7;refine Zy ?_
        refine Zd aW ?_;refine Zq aW ?_;rw[dw,cutB,if_neg cF,if_pos gG,bu]at eZ;refine hK _ _ Lg2 (Lg2++(Mo++(((ya,Obj.vec 4 ([.int .i64 a.op,.int .i64 a.n,.str a.name,tka]::rs))::(N1++N2))++Mb))) ((y,.vec 5 rows)::(M2++(G++Mc))) _ (kn.sub (List.sublist_append_right _ _)) rfl ?_ Zao;refine Cr fun f hf h0 hc hp=>?_;have h1:=hp _ _ eV;have h2:=hc (y,.vec 5 rows) M;have h3:=hc (y,.vec 5 rows) (M2++(G++Mc));simp only[hf]at h1 h2 h3⊢;omega
       ·have gG:¬x.op=7:=of_decide_eq_false h7;rw[dw,cutB,if_neg cF,if_neg gG,bu]at eZ;refine Zf ?_
        refine Zl aW ?_;refine⟨Qv,l.length-(i+1),ZT,i+1,t4,Lg2,Mo++(((ya,Obj.vec 4 ([.int .i64 a.op,.int .i64 a.n,.str a.name,tka]::rs))::(N1++N2))++Mb),M2,(G++Mc),dn++[[.int .i64 x.op,.str x.name,.aw ya 4 0 (rs.length+1),tb,tc]],td,ro++[[.int .i64 x.op,.str x.name,.aw ya 4 0 (rs.length+1),tb,.sl true 5 []]],out++[St.mk x.op x.name x.args x.body []],rfl,ZT,ZbA,by simp only[Jc]at jF;omega,ZbU,fun r hr=>kh r Zbz,bS,Zcg,dj,iV,gp,?_,kn.sub (List.sublist_append_right _ _),by rw[Jm];exact eZ,by simp;omega,rfl⟩;refine Cr fun f hf h0 hc hp=>?_;have h1:=hp _ _ eV;simp only[hf]at h1⊢;omega
     ·have z1:=isN_iff.1 za;have bu:A9 x.op x.name x.args x.body x.els=.mk x.op x.name x.args [] x.els:=(by rw[A9,if_pos ⟨e5,by rw[iQ];exact z1.1⟩,iQ,if_pos z1.2]);refine Qb rfl (fun _=>?_) (fun h=>by simp[lk]at h);refine Qr ?_;simp only[go_sem,g5,bR,bt,cL];intro H4 h4;have kn:Kn H H4 ([(y,.vec 5 rows)]++M) ([(x5,.st [.int .i64 x.op,.str x.name,.aw ya 4 0 (rs.length+1),.sl true 5 [],tc])]++Lg):=kn.ax 0 rfl h4;have g5:=kn.l 0 rfl;try simp only[go_sem,AE.X.next]
      refine Qa ?_;simp only[go_sem,dv,g5,bR,bt,cL,Jc,Jf];refine Kn.aQ (B:=[(x5,.st [.int .i64 x.op,.str x.name,.aw ya 4 0 (rs.length+1),.sl true 5 [],tc])]) kn b9 (new:=[[.int .i64 x.op,.str x.name,.aw ya 4 0 (rs.length+1),.sl true 5 [],tc]]) (.mk' _ true 5 _) ZaL ZaM fun t4 Lg2 H6 bS aW kn=>?_;have g5:=kn.l 0 rfl;have iV:OwL (Mo++(((ya,Obj.vec 4 ([.int .i64 a.op,.int .i64 a.n,.str a.name,tka]::rs))::(N1++N2))++Mc)) (ro++[[.int .i64 x.op,.str x.name,.aw ya 4 0 (rs.length+1),.sl true 5 [],tc]]).flatten (Qk (out++[St.mk x.op x.name x.args [] x.els])).flatten:=by
       rw[←BR,List.flatten_append,List.flatten_append];refine cn.app ?_;simp only[Qk,St.cells,List.flatten_cons,List.flatten_nil,Jk];exact .atom rfl (.atom rfl (hZ.cons (.sln bU.one)))
      have dj:∀r∈ro++[([.int .i64 x.op,.str x.name,.aw ya 4 0 (rs.length+1),.sl true 5 [],tc]:List C)],r.length=5:=by
       intro r hr;rcases Ju.1 hr with hr|hr
       ·exact kl r hr
       ·rw[Ja.1 hr];rfl
      simp only[go_sem,Ha,aW];refine Zj g5 aW bR bt cL ?_;refine Qb rfl (fun h7=>?_) (fun h7=>?_)
      ·have gG:x.op=7:=of_decide_eq_true h7;refine Zy ?_
       refine Zd aW ?_;refine Zq aW ?_;rw[dw,cutB,if_neg cF,if_pos gG,bu]at eZ;refine hK _ _ Lg2 (Lg2++(Mo++(((ya,Obj.vec 4 ([.int .i64 a.op,.int .i64 a.n,.str a.name,tka]::rs))::(N1++N2))++Mc))) ((y,.vec 5 rows)::(M2++(G++Mb))) _ (kn.sub (List.sublist_append_right _ _)) rfl ?_ Zao;refine Cr fun f hf h0 hc hp=>?_;have h1:=hp _ _ eV;have h2:=hc (y,.vec 5 rows) M;have h3:=hc (y,.vec 5 rows) (M2++(G++Mb));simp only[hf]at h1 h2 h3⊢;omega
      ·have gG:¬x.op=7:=of_decide_eq_false h7;rw[dw,cutB,if_neg cF,if_neg gG,bu]at eZ;refine Zf ?_
       refine Zl aW ?_;refine⟨Qv,l.length-(i+1),ZT,i+1,t4,Lg2,Mo++(((ya,Obj.vec 4 ([.int .i64 a.op,.int .i64 a.n,.str a.name,tka]::rs))::(N1++N2))++Mc),M2,(G++Mb),dn++[[.int .i64 x.op,.str x.name,.aw ya 4 0 (rs.length+1),tb,tc]],td,ro++[[.int .i64 x.op,.str x.name,.aw ya 4 0 (rs.length+1),.sl true 5 [],tc]],out++[St.mk x.op x.name x.args [] x.els],rfl,ZT,ZbA,by simp only[Jc]at jF;omega,ZbU,fun r hr=>kh r Zbz,bS,Zcg,dj,iV,gp,?_,kn.sub (List.sublist_append_right _ _),by rw[Jm];exact eZ,by simp;omega,rfl⟩;refine Cr fun f hf h0 hc hp=>?_;have h1:=hp _ _ eV;simp only[hf]at h1⊢;omega
   ·have e6:=of_decide_eq_true c6;have c5:decide (x.op=5)=false:=decide_eq_false ZT;simp only[go_sem,g5,gya,bR,bt,cL,iY,c6,Jc,Jd,Je,Jh,J0,Jg,Jj];refine⟨⟨ZT,ZT,ZT⟩,⟨ZT,ZT⟩,?_⟩;refine C7 iY ?_;rw[show (decide (a.op=1)&&decide (a.n=0))=isN a 0 from rfl];simp only[go_sem,Vu];cases za:isN a 0
    ·have cF:¬(x.op=6∧isN (AC x.args) 0=true):=fun h=>(by rw[iQ,za]at h;cases h.2);have bu:A9 x.op x.name x.args x.body x.els=.mk x.op x.name x.args x.body x.els:=(by rw[A9,if_neg (fun h=>of_decide_eq_false c5 h.1)]);refine Qb rfl (fun h=>by simp[lk]at h) (fun _=>?_);refine Qa ?_;simp only[go_sem,g5,gya,bR,bt,cL,iY,c5,Jc,Jd,Je,Jh,J0,Jg,Jj];simp only[go_sem,SS];refine Qb rfl (fun h=>by simp[lk]at h) (fun _=>?_);refine Qa ?_;simp only[go_sem,g5,gya,bR,bt,cL,iY,c5,Jc,Jd,Je,Jh,J0,Jg,Jj];refine Qb rfl (fun h=>by simp[lk]at h) (fun _=>?_);refine Zf ?_
     refine Qa ?_;simp only[go_sem,dv,g5,bR,bt,cL,Jc,Jf];refine Kn.aQ (B:=[(x5,.st [.int .i64 x.op,.str x.name,.aw ya 4 0 (rs.length+1),tb,tc])]) kn b9 (new:=[[.int .i64 x.op,.str x.name,.aw ya 4 0 (rs.length+1),tb,tc]]) (.mk' _ true 5 _) ZaL ZaM fun t4 Lg2 H6 bS aW kn=>?_;have g5:=kn.l 0 rfl;have iV:OwL (Mo++(((ya,Obj.vec 4 ([.int .i64 a.op,.int .i64 a.n,.str a.name,tka]::rs))::(N1++N2))++(Mb++Mc))) (ro++[[.int .i64 x.op,.str x.name,.aw ya 4 0 (rs.length+1),tb,tc]]).flatten (Qk (out++[St.mk x.op x.name x.args x.body x.els])).flatten:=by
      rw[←BR,List.flatten_append,List.flatten_append];refine cn.app ?_;simp only[Qk,St.cells,List.flatten_cons,List.flatten_nil,Jk];exact .atom rfl (.atom rfl (hZ.cons (br.cons bU.one)))
     have dj:∀r∈ro++[([.int .i64 x.op,.str x.name,.aw ya 4 0 (rs.length+1),tb,tc]:List C)],r.length=5:=by
      intro r hr;rcases Ju.1 hr with hr|hr
      ·exact kl r hr
      ·rw[Ja.1 hr];rfl
     simp only[go_sem,Ha,aW];refine Zj g5 aW bR bt cL ?_;refine Qb rfl (fun h7=>?_) (fun h7=>?_)
     ·have gG:x.op=7:=of_decide_eq_true h7;refine Zy ?_
      refine Zd aW ?_;refine Zq aW ?_;rw[dw,cutB,if_neg cF,if_pos gG,bu]at eZ;refine hK _ _ Lg2 (Lg2++(Mo++(((ya,Obj.vec 4 ([.int .i64 a.op,.int .i64 a.n,.str a.name,tka]::rs))::(N1++N2))++(Mb++Mc)))) ((y,.vec 5 rows)::(M2++G)) _ (kn.sub (List.sublist_append_right _ _)) rfl ?_ Zao;refine Cr fun f hf h0 hc hp=>?_;have h1:=hp _ _ eV;have h2:=hc (y,.vec 5 rows) M;have h3:=hc (y,.vec 5 rows) (M2++G);simp only[hf]at h1 h2 h3⊢;omega
     ·have gG:¬x.op=7:=of_decide_eq_false h7;rw[dw,cutB,if_neg cF,if_neg gG,bu]at eZ;refine Zf ?_
      refine Zl aW ?_;refine⟨Qv,l.length-(i+1),ZT,i+1,t4,Lg2,Mo++(((ya,Obj.vec 4 ([.int .i64 a.op,.int .i64 a.n,.str a.name,tka]::rs))::(N1++N2))++(Mb++Mc)),M2,G,dn++[[.int .i64 x.op,.str x.name,.aw ya 4 0 (rs.length+1),tb,tc]],td,ro++[[.int .i64 x.op,.str x.name,.aw ya 4 0 (rs.length+1),tb,tc]],out++[St.mk x.op x.name x.args x.body x.els],rfl,ZT,ZbA,by simp only[Jc]at jF;omega,ZbU,fun r hr=>kh r Zbz,bS,Zcg,dj,iV,gp,?_,kn.sub (List.sublist_append_right _ _),by rw[Jm];exact eZ,by simp;omega,rfl⟩;refine Cr fun f hf h0 hc hp=>?_;have h1:=hp _ _ eV;simp only[hf]at h1⊢;omega
    ·have cF:x.op=6∧isN (AC x.args) 0=true:=⟨e6,by rw[iQ];exact za⟩;rw[dw,cutB,if_pos cF]at eZ;refine Qb rfl (fun _=>?_) (fun h=>by simp[lk]at h);refine Zy ?_
     refine Zl dv ?_;refine⟨Qv,l.length-(i+1),ZT,i+1,t3,Lg,Mo,M2,G++(((ya,Obj.vec 4 ([.int .i64 a.op,.int .i64 a.n,.str a.name,tka]::rs))::(N1++N2))++(Mb++Mc)),dn++[[.int .i64 x.op,.str x.name,.aw ya 4 0 (rs.length+1),tb,tc]],td,ro,out,rfl,ZT,ZbA,by simp only[Jc]at jF;omega,ZbU,fun r hr=>kh r Zbz,b9,fi,kl,cn,gp,?_,kn.sub (List.sublist_append_right _ _),eZ,ZT,rfl⟩;refine Cr fun f hf h0 hc hp=>?_;have h1:=hp _ _ eV;simp only[hf]at h1⊢;omega
  ·intro hc;have aV:l.length≤i:=by have:=of_decide_eq_false hc;omega
   rw[List.drop_of_length_le aV,cutB,Jk]at eZ;refine Zg ?_;refine Zd dv ?_;refine Zq dv ?_;refine hK _ _ Lg (Lg++Mo) (Ly++(Mt++G)) _ kn rfl ?_ (by rw[←eZ];exact b9.ows (by rw[Qp];omega) kl B9 cn);refine Cr fun f hf h0 hc hp=>?_;have h1:=hp _ _ eV;simp only[hf]at h1⊢;omega
end Go.AE.Y
namespace Go.AE.Y
attribute [local go_sem] cond_true cond_false Bool.not_true Bool.not_false
open Go.Proofs.Tryz
variable {H H0:Heap}{K:V→Heap→Prop}{L E:List (Nat×Obj)}{fns:List Fn}
abbrev fnnO (x:Fn):Obj:=.st [.str x.name,.sl false 1 (Q5 x.params),.sl false 5 (Qk x.body)]
def St.wk (G:List St→List St)(x:St):St:=.mk x.op x.name x.args (G x.body) (G x.els)
theorem Qbky (x:St):x.foldS=(x.wk At).foldA:=by cases x;simp only[St.foldS,St.wk,St.foldA,St.op,St.name,St.args,St.body,St.els,Dx]
theorem Qbef (l:List St):At l=(l.map (St.wk At)).map St.foldA:=by
 rw[Sc,List.map_map];exact List.map_congr_left fun x _=>Qbky x
theorem Rw:∀l:List St,Q4 l=cutB (l.map (St.wk Q4))
 |[]=>by simp[Q4,cutB]
 |x::r=>by
  rw[Q4,Jv,cutB,Rw r,St.cutS_eq];cases x;simp only[St.wk,St.op,St.name,St.args,St.body,St.els];rfl
def wkO (x5 fB:Nat):Nat×Obj:=(x5,.st [.fn Fq [.pp [.fn fB []],.ptr x5 0]])
theorem PX {g:Fn→Fn}{f:Nat}{caps:List C}{l:List Fn}{fl:Bool}
  (hf:∀x∈l,∀(H1:Heap) (K':V→Heap→Prop),(∀m,H m≠.none→H1 m=H m)→(∀H2 L cs,Kn H1 H2 [] L→OwL L cs (g x).cells→K' (.ag cs) H2)→Qm prog f ([.ag x.cells]++caps.map .c) H1 K')
  (hK:∀H' L t,Kn H H' [] L→OwS L 3 (Qo (l.map g)) t→K (.c t) H'):Qm prog VA [.c (.sl fl 3 (Qo l)),.c (.fn f caps)] H K:=by
 refine Qc Aa Q9s ?_;refine Za ?_;refine Za ?_;refine Qz (Qa ?_);simp only[go_sem,Qu];intro hl;simp only[LIM]at hl;refine Qf (Qg (Q3 (fun m e1 H1=>∃(i:Nat) (t:C) (Lg M:List (Nat×Obj)) (rows:List (List C)),m=l.length-i∧i≤l.length∧Gr Lg 3 rows t∧rows.length=i∧(∀r∈rows,r.length=3)∧OwL M rows.flatten (Qo ((l.take i).map g)).flatten∧Kn H H1 [] (M++Lg)∧
  e1=[(1,.c (.fn f caps)),(5,.c t),(8,.c (.sl fl 3 (Qo l))),(9,.c (.int .i64 l.length)),(10,.c (.int .i64 i))]) l.length ?_ ?_))
 ·exact⟨0,_,[],[],[],ZT,ZT,.nil 3,rfl,ZV,.nil,Kn.ao H,rfl⟩
 ·rintro m e1 H1 ⟨i,t,Lg,M,rows,hm,hi,b9,co,iE,an,kn,rfl⟩;have aq:=b9.ah;refine Zd aq ?_;refine Qf (Qb rfl ?_ ?_)
  ·intro hc;have af:i<l.length:=ZU
   obtain⟨x,hx⟩:∃x,l[i]=x:=⟨_,rfl⟩;have iz:x∈l:=ZaF
   have aY:Qo ((l.take (i+1)).map g)=Qo ((l.take i).map g)++[(g x).cells]:=by
    rw[RU,Jq af,hx];simp
   refine Zc ?_
   refine Qf (Qg ?_);refine Qa ?_;simp only[go_sem,aq,af,Qu,AB _ _ af,hx,Fn.cells];intro x7 i8 H3 h3;have kn:Kn H H3 [] ([(x7,.st [.str [],.sl true 1 [],.sl true 5 []])]++(M++Lg)):=(kn.al i8 h3).perm J1;have g7:=kn.l 0 rfl;simp only[go_sem,Qki,g7,aq];intro H4 h4;have kn:Kn H H4 [] ([(x7,fnnO x)]++(M++Lg)):=kn.ax 0 rfl h4;have g7:=kn.l 0 rfl;refine Qr ?_;simp only[go_sem,fnnO,g7,aq];have cZ:=hf x iz H4;rw[show x.cells=[.str x.name,.sl false 1 (Q5 x.params),.sl false 5 (Qk x.body)] from rfl]at cZ;refine cZ _ (fun m hm=>kn.chg m hm ZV) fun H5 L2 cs k2 ho=>?_;have cG:cs.length=3:=ZbI
   have kn:=kn.comp0 k2;have kn:Kn H H5 [] (([(x7,fnnO x)]++(M++L2))++Lg):=kn.perm (by
    simp only[Jm];exact (Jak M J1).append_left _)
   simp only[go_sem,Qkk,aq,cG];refine kn.aQ b9 (new:=[cs]) (.mk' _ true 3 _) ZbX (by simp only[co,Jc,Jf,LIM];omega) fun t2 Lg2 H6 bS aW kn=>?_;simp only[go_sem,E3,aW];refine Zl aW ?_;refine⟨Qv,l.length-(i+1),ZT,i+1,t2,Lg2,M++L2,rows++[cs],rfl,ZT,bS,by simp[co],?_,?_,kn.sub ?_,rfl⟩
   ·intro r hr;rcases Ju.1 hr with hr|hr
    ·exact iE r hr
    ·rw[Ja.1 hr];exact cG
   ·rw[aY];simp only[List.flatten_append,List.flatten_cons,List.flatten_nil,Jk];exact an.app ho
   ·simp only[Jm];exact List.sublist_append_right _ _
  ·intro hc;have aV:l.length≤i:=ZU
   rw[Ji aV]at an;refine Zg ?_;refine Zd aq ?_;refine Zq aq ?_;exact hK _ _ _ (kn.perm J1) (b9.ows (by simp only[Qu,Jr];omega) iE YM an)
theorem Y4 {x5 fB:Nat}{G:List St→List St}{x:St}(hh:H x5=(wkO x5 fB).2)(gk:GK H)
  (hw:∀(l:List St) (fl:Bool) (H1:Heap) (K':V→Heap→Prop),(l=x.body∨l=x.els)→(∀m,H m≠.none→H1 m=H m)→(∀H' L t,Kn H1 H' [] L→OwS L 5 (Qk (G l)) t→K' (.c t) H')→Qm prog Fq ([.c (.sl fl 5 (Qk l))]++[C.pp [.fn fB []],.ptr x5 0].map .c) H1 K')
  (hK:∀H' L cs,Kn H H' [] L→OwL L cs (x.wk G).cells→K (.ag cs) H'):Qm prog Ql0 ([.ag x.cells]++[C.ptr x5 0].map .c) H K:=by
 refine Qc Aa Q7n ?_;refine Zu ?_;intro x2 bB H1 h1;have kn:=(Kn.ao H).al bB h1;simp only[go_sem,Qir];intro x3 bQ H2 h2;have kn:=kn.al bQ h2;have g2:=kn.l 0 rfl;refine Zd g2 ?_;refine RH (g:=id) (caps:=[]) (fun y hy H1 K' _ cP=>Pd y.size y (Jl _) cP) fun H3 La ta k2 ha=>?_;rw[Jaw]at ha;have kn:=kn.comp0 k2;have g2:=kn.l 0 rfl;have bE:=ha.ah;simp only[go_sem,Qis,g2,bE];intro H4 h4;have kn:=kn.ax 0 rfl h4;have g2:=kn.l 0 rfl;have keep:∀{H':Heap} {L:List (Nat×Obj)},Kn H H' [] L→H' x5=.st [.fn Fq [.pp [.fn fB []],.ptr x5 0]]:=fun k=>(k.chg x5 (by rw[hh];nofun) ZV).trans hh;have g5:=keep kn;refine Zr g2 g5 bE ?_;refine hw x.body false _ _ (.inl rfl) (fun m hm=>kn.chg m hm ZV) fun H3 Lb tb k2 hb=>?_;have kn:=kn.comp0 k2;have g2:=kn.l 0 rfl;have bt:=hb.ah;simp only[go_sem,Qit,g2,bE,bt];intro H4 h4;have kn:=kn.ax 0 rfl h4;have g2:=kn.l 0 rfl;have g5:=keep kn;refine ZG g2 g5 bE bt ?_;refine hw x.els false _ _ (.inr rfl) (fun m hm=>kn.chg m hm ZV) fun H3 Lc tc k2 hc=>?_;have kn:=kn.comp0 k2;have g2:=kn.l 0 rfl;have cL:=hc.ah;simp only[go_sem,Qiu,g2,bE,bt,cL];intro H4 h4;have kn:=kn.ax 0 rfl h4;have g2:=kn.l 0 rfl;have g3:=kn.l 1 rfl;refine Zj g2 g3 bE bt cL ?_;intro H5 h5;have kn:=kn.ax 1 rfl h5;have g3:=kn.l 1 rfl;refine Qi ?_;simp only[go_sem,Qq,Q0,Ja,forall_eq,RS.op,g3,bE,bt,cL];refine hK _ (La++(Lb++Lc)) _ (kn.sub ?_) (by rw[St.wk,St.cells];exact .atom rfl (.atom rfl (ha.cons (hb.cons hc.one))));show (La++(Lb++Lc)).Sublist ((_::_::La)++Lb++Lc);rw[Jm];exact List.sublist_append_right [_,_] _
theorem YC {x5 fB:Nat}{B G:List St→List St}{Pl:List St→Prop}(hB:BlkO fB B Pl)(hG:∀l,G l=B (l.map (St.wk G)))(hP:∀(l:List St) (d:Int),Qx l d=true→Pl (l.map (St.wk G))) :
  ∀(n:Nat) (l:List St) (fl:Bool) (d:Int) (H:Heap) (K:V→Heap→Prop),Qj l≤n→Qx l d=true→GK H→H x5=(wkO x5 fB).2→(∀H' L t,Kn H H' [] L→OwS L 5 (Qk (G l)) t→K (.c t) H')→
   Qm prog Fq ([.c (.sl fl 5 (Qk l))]++[C.pp [.fn fB []],.ptr x5 0].map .c) H K:=by
 intro n
 induction n using Nat.strongRecOn with
 |ind n ih=>
 intro l fl d H K hn hf gk hh hK;refine Qc Aa Qaja ?_;refine Za ?_;refine An ?_;simp only[go_sem];refine Ec (g:=St.wk G) (caps:=[.ptr x5 0]) (fun y hy H1 K' ko cP=>?_) fun H1 L t k2 ho=>?_
 ·have hys:=Bw hy;have aO:=y.size_eq;have hsp:=y.size_pos2;obtain⟨dG,i4,da⟩:=Dc (Jx.1 Zb5 y hy);have h1:H1 x5=(wkO x5 fB).2:=(ko x5 (by rw[hh];nofun)).trans hh;have gk1:=gk.same ko;refine Y4 (G:=G) h1 gk1 (fun l2 fl2 H2 K2 eW jR pB=>?_) cP;have gR:Qj l2<n∧Qx l2 (d-1)=true:=by
   rcases eW with rfl|rfl
   ·exact⟨ZT,i4⟩
   ·exact⟨ZT,da⟩
  exact ih _ gR.1 l2 fl2 (d-1) H2 K2 (Jl _) gR.2 (gk1.same jR) ((jR x5 (by rw[h1];nofun)).trans h1) pB
 ·have kn:=(Kn.ao H).comp0 k2;have aq:=ho.ah;simp only[go_sem,Qn5,aq];refine hB _ L t H1 _ (hP l d hf) (gk.kn k2) ho (fun p hp=>(k2.get p Zat).1) k2.dL fun H2 E' N Lr rest t' k3 hE eV gK=>?_;have aR:=gK.ah;have k4:=Kn.comp (L2:=[]) (by simpa using k2) k3 hE;simp only[go_sem,GO,aR];refine Zq aR ?_;have k5:Kn H H2 [] (Lr++rest):=k4.perm (by simpa using eV);exact hK _ Lr t' (k5.sub (List.sublist_append_left _ _)) (by rw[hG];exact gK)
def Fn.wkF (G:List St→List St)(f:Fn):Fn:=⟨f.name,f.params,G f.body⟩
theorem c2_c {x5 fB:Nat}{G:List St→List St}{f:Fn}(hh:H x5=(wkO x5 fB).2)(hl:f.params.length≤2^38)
  (hw:∀(fl:Bool) (H1:Heap) (K':V→Heap→Prop),(∀m,H m≠.none→H1 m=H m)→(∀H' L t,Kn H1 H' [] L→OwS L 5 (Qk (G f.body)) t→K' (.c t) H')→Qm prog Fq ([.c (.sl fl 5 (Qk f.body))]++[C.pp [.fn fB []],.ptr x5 0].map .c) H1 K')
  (hK:∀H' L cs,Kn H H' [] L→OwL L cs (f.wkF G).cells→K (.ag cs) H'):Qm prog Qs0 ([.ag f.cells]++[C.ptr x5 0].map .c) H K:=by
 refine Qc Aa Qajb ?_;refine ZP ?_;intro x2 bB H1 h1;have kn:=(Kn.ao H).al bB h1;simp only[go_sem,Qn6];intro x3 bQ H2 h2;have kn:=kn.al bQ h2;have g2:=kn.l 0 rfl;refine Zd g2 ?_;refine Oa hl fun H3 La ta k2 ha=>?_;have kn:=kn.comp0 k2;have g2:=kn.l 0 rfl;have bE:=ha.ah;simp only[go_sem,Qn7,g2,bE];intro H4 h4;have kn:=kn.ax 0 rfl h4;have g2:=kn.l 0 rfl;have g5:H4 x5=.st [.fn Fq [.pp [.fn fB []],.ptr x5 0]]:=(kn.chg x5 (by rw[hh];nofun) ZV).trans hh;refine Zr g2 g5 bE ?_;refine hw false _ _ (fun m hm=>kn.chg m hm ZV) fun H3 Lb tb k2 hb=>?_;have kn:=kn.comp0 k2;have g2:=kn.l 0 rfl;have bt:=hb.ah;simp only[go_sem,Qn8,g2,bE,bt];intro H4 h4;have kn:=kn.ax 0 rfl h4;have g2:=kn.l 0 rfl;have g3:=kn.l 1 rfl;refine ZG g2 g3 bE bt ?_;intro H5 h5;have kn:=kn.ax 1 rfl h5;have g3:=kn.l 1 rfl;refine Qi ?_;simp only[go_sem,Qq,Q0,Ja,forall_eq,RS.op,g3,bE,bt];exact hK _ (La++Lb) _ (kn.sub (List.sublist_append_right [_,_] _)) (.atom rfl (ha.cons hb.one))
theorem M0 {fB:Nat}{B G:List St→List St}{Pl:List St→Prop}{fl:Bool}(hB:BlkO fB B Pl)(hG:∀l,G l=B (l.map (St.wk G)))(hP:∀(l:List St) (d:Int),Qx l d=true→Pl (l.map (St.wk G)))
  (gk:GK H) (hf:∀f∈fns,Qx f.body 4=true∧f.params.length≤2^38) (hK:∀H' L cs,Kn H H' [] L→OwL L cs [.sl false 3 (Qo (fns.map (Fn.wkF G)))]→K (.ag cs) H') :
  Qm prog S4 [.ag [.sl fl 3 (Qo fns)],.c (.fn fB [])] H K:=by
 refine Qc Aa Qax1 ?_;refine Za ?_;intro x4 bW H1 h1;have kn:=(Kn.ao H).al bW h1;refine Za ?_;intro x5 cp H2 h2;have kn:=kn.al cp h2;have g5:=kn.l 1 rfl;refine Zd g5 ?_;intro H3 h3;have kn:Kn H H3 [] [(x4,.st [.sl true 3 []]),wkO x5 fB]:=kn.ax 1 rfl h3;have g4:=kn.l 0 rfl;have g5:H3 x5=(wkO x5 fB).2:=(kn.get (wkO x5 fB) ZV).1;refine Za ?_;have gk3:=gk.kn kn;refine PX (g:=Fn.wkF G) (caps:=[.ptr x5 0]) (fun f gv H4 K' ko cP=>?_) fun H4 L t k2 ho=>?_
 ·have h1:H4 x5=(wkO x5 fB).2:=(ko x5 (by rw[g5];nofun)).trans g5;exact c2_c (G:=G) h1 (hf f gv).2 (fun fl2 H5 K5 jR hK5=>YC hB hG hP (Qj f.body) f.body fl2 4 H5 K5 (Jl _) (hf f gv).1 ((gk3.same ko).same jR) ((jR x5 (by rw[h1];nofun)).trans h1) hK5) cP
 have kn:=kn.comp0 k2;have g4:=kn.l 0 rfl;have aq:=ho.ah;simp only[go_sem,Qwn,g4,aq];intro H5 h5;have kn:=kn.ax 0 rfl h5;have g4:=kn.l 0 rfl;refine ZC g4 aq ?_;exact hK _ L _ (kn.sub (List.sublist_append_right [_,_] _)) ho.one
theorem RX (h:FineP fns):∀f∈fns,Qx f.body 4=true∧f.params.length≤2^38:=fun f hf=>⟨h.bodies f hf,by have:=Qayn h.v f hf;omega⟩
theorem Qbpz (l:List St)(d:Int)(h:Qx l d=true):∀x∈l.map (St.wk At),∀a∈x.args,a.valid=true:=by
 intro x hx a ha;obtain⟨y,hy,rfl⟩:=J8.1 hx;exact (Dc (Jx.1 Zcd y hy)).1 a (show a∈y.args from ha)
theorem Y2 (l:List St)(d:Int)(h:Qx l d=true):∀x∈l.map (St.wk Q4),0<x.args.length:=by
 intro x hx;obtain⟨y,hy,rfl⟩:=J8.1 hx;have h1:=Jx.1 Zcd y hy;rw[St.form_eq]at h1;simp only[Jb,BF,decide_eq_true_eq]at h1;have h2:=h1.1.1.2.1.1.1.1.1.1.2;show 0<y.args.length;rw[h2,AO];split <;> omega
theorem Qbfz (h:FineP fns){fl:Bool}(gk:GK H)(aO:Qn fns≤2^38)(hK:∀H' L cs,Kn H H' [] L→OwL L cs [.sl false 3 (Qo (foldA fns))]→K (.tup [.ag cs,.c (.bool true)]) H') :
  Qm prog V0 [.ag [.sl fl 3 (Qo fns)]] H K:=by
 refine Qc Aa Qafd ?_;refine Za ?_;intro x2 bB H1 h1;have kn:=(Kn.ao H).al bB h1;simp only[go_sem,Cq];refine Qz (Qa ?_);simp only[go_sem];refine RJ aO (gk.kn kn) fun H2 hu=>?_;have kn:=kn.ay hu;have g2:=kn.l 0 rfl;simp only[go_sem,GU,GU,fine_iff.2 h];refine Qf (Qb rfl (fun hc=>by cases hc) fun _=>Qd ?_);try simp only[go_sem]
 refine Za ?_;refine M0 (fns:=fns) (G:=At) Qbaj Qbef Qbpz (gk.kn kn) (RX h) fun H3 L cs k2 ho=>?_;have kn:=kn.comp0 k2;have g2:=kn.l 0 rfl;obtain⟨t,rfl,ht⟩:∃t,cs=[t]∧OwS L 3 (Qo (foldA fns)) t:=ho.inv_one;have aq:=ht.ah;simp only[go_sem,Sy,HQ,g2,aq];intro H4 h4;have kn:=kn.ax 0 rfl h4;have g2:=kn.l 0 rfl;refine ZC g2 aq ?_;exact hK _ L _ (kn.sub (List.sublist_append_right [_] _)) ht.one
theorem Qbla (h:FineP fns){fl:Bool}(gk:GK H)(aO:Qn fns≤2^38)(hK:∀H' L cs,Kn H H' [] L→OwL L cs [.sl false 3 (Qo (cutA fns))]→K (.tup [.ag cs,.c (.bool true)]) H') :
  Qm prog Vy [.ag [.sl fl 3 (Qo fns)]] H K:=by
 refine Qc Aa Qai6 ?_;refine Za ?_;intro x2 bB H1 h1;have kn:=(Kn.ao H).al bB h1;simp only[go_sem,Cq];refine Qz (Qa ?_);simp only[go_sem];refine RJ aO (gk.kn kn) fun H2 hu=>?_;have kn:=kn.ay hu;have g2:=kn.l 0 rfl;simp only[go_sem,GU,GU,fine_iff.2 h];refine Qf (Qb rfl (fun hc=>by cases hc) fun _=>Qd ?_);try simp only[go_sem]
 refine Za ?_;refine M0 (fns:=fns) (G:=Q4) Qbe6 Rw Y2 (gk.kn kn) (RX h) fun H3 L cs k2 ho=>?_;have kn:=kn.comp0 k2;have g2:=kn.l 0 rfl;obtain⟨t,rfl,ht⟩:∃t,cs=[t]∧OwS L 3 (Qo (cutA fns)) t:=ho.inv_one;have aq:=ht.ah;simp only[go_sem,Sy,HQ,g2,aq];intro H4 h4;have kn:=kn.ax 0 rfl h4;have g2:=kn.l 0 rfl;refine ZC g2 aq ?_;exact hK _ L _ (kn.sub (List.sublist_append_right [_] _)) ht.one
end Go.AE.Y
namespace Go.AE.Y
attribute [local go_sem] cond_true cond_false Bool.not_true Bool.not_false
open Go.Proofs.Tryz
variable {H H0 F:Heap}{K:V→Heap→Prop}{E B Lg:List (Nat×Obj)}{fns:List Fn}
theorem Do {α:Type}{l m:List α}{i:Nat}(h:l.take i=m.take i)(h1:i<l.length)(h2:i<m.length)(e:l[i]=m[i]):l.take (i+1)=m.take (i+1):=by
 rw[Jq h1,Jq h2,h,e]
theorem Ew {α:Type}{l m:List α}{i:Nat}(h:l.take i=m.take i)(h1:l.length≤i)(h2:l.length=m.length):l=m:=by
 rwa [Ji h1,Ji ZT]at h
theorem Bt {α:Type}{l m:List α}{i:Nat}(h1:i<l.length)(h2:i<m.length)(e:¬l[i]=m[i]):¬l=m:=fun h=>e (by subst h;rfl)
theorem fiff {P:Prop}(h:¬P):(false=true↔P):=⟨fun e=>(by cases e),fun e=>absurd e h⟩
theorem tiff {P:Prop}(h:P):(true=true↔P):=⟨fun _=>h,fun _=>rfl⟩
theorem Ex.ext4 {x y:Ex}(h1:x.op=y.op)(h2:x.n=y.n)(h3:x.name=y.name)(h4:x.kids=y.kids):x=y:=by
 cases x;cases y;simp only[Ex.op,Ex.n,Ex.name,Ex.kids]at h1 h2 h3 h4;rw[h1,h2,h3,h4]
theorem St.ext5 {x y:St}(h1:x.op=y.op)(h2:x.name=y.name)(h3:x.args=y.args)(h4:x.body=y.body)(h5:x.els=y.els):x=y:=by
 cases x;cases y;simp only[St.op,St.name,St.args,St.body,St.els]at h1 h2 h3 h4 h5;rw[h1,h2,h3,h4,h5]
theorem Fn.ext3 {x y:Fn}(h1:x.name=y.name)(h3:x.params=y.params)(h4:x.body=y.body):x=y:=by
 cases x;cases y;simp only at h1 h3 h4;rw[h1,h3,h4]
theorem Ce {α:Type}{l m:List α}(e:¬l.length=m.length):¬l=m:=fun h=>e Zau
theorem Ml {f:Nat}{l l':List Ex}{fl fl2:Bool}
  (hf:∀x∈l,∀(y:Ex) (H1:Heap) (K':V→Heap→Prop),(∀r H2,(r=true↔x=y)→Upd H1 H2 []→K' (.c (.bool r)) H2)→Qm prog f [.ag x.cells,.ag y.cells] H1 K')
  (hK:∀r H',(r=true↔l=l')→Upd H H' []→K (.c (.bool r)) H'):Qm prog Ta [.c (.sl fl 4 (Ql l)),.c (.sl fl2 4 (Ql l')),.c (.fn f [])] H K:=by
 refine Q1 ?_;refine Qc Aa Q27 ?_;refine Za ?_;refine Qz (Qa ?_);simp only[go_sem,Qh];intro hl eW;try intro _
 simp only[LIM]at hl eW;refine Qf (Qb rfl (fun hc=>?_) (fun hc=>?_))
 ·have aP:¬l.length=l'.length:=fun h=>ZaB
  refine Za ?_;refine Zb ?_;exact⟨_,.c _ _ (Qe rfl),hK _ _ (fiff (Ce aP)) (Kn.ao H).fin⟩
 have aE:l.length=l'.length:=(by have:(l.length:Int)=l'.length:=(by simpa using hc);omega);refine Zc ?_
 refine Qz (Qa ?_);simp only[go_sem,Qh];try intro _
 refine Qf (Qg (Q3 (fun m e1 H1=>∃(i:Nat),m=l.length-i∧i≤l.length∧l.take i=l'.take i∧Kn H H1 [] []∧
  e1=[(1,.c (.sl fl2 4 (Ql l'))),(2,.c (.fn f [])),(15,.c (.sl fl 4 (Ql l))),(16,.c (.int .i64 l.length)),(17,.c (.int .i64 i))]) l.length ?_ ?_))
 ·exact⟨0,ZT,ZT,ZV,Kn.ao H,rfl⟩
 ·rintro m e1 H1 ⟨i,hm,hi,fo,kn,rfl⟩;refine Za ?_;refine Qf (Qb rfl ?_ ?_)
  ·intro hc;have af:i<l.length:=ZU
   have aD:i<l'.length:=ZT
   obtain⟨x,hx⟩:∃x,l[i]=x:=⟨_,rfl⟩;obtain⟨y,hy⟩:∃y,l'[i]=y:=⟨_,rfl⟩;have iz:x∈l:=ZaF
   refine Zc ?_
   refine Qf (Qg ?_);refine Qa ?_;simp only[go_sem,af,Qh,Qs _ _ af,hx,x.aa];intro x8 cC H3 h3;have kn:=kn.al cC h3;have g8:=kn.l 0 rfl;simp only[go_sem,Qhb,g8];intro H4 h4;have kn:=kn.ax 0 rfl h4;have g8:=kn.l 0 rfl;refine Qa ?_;simp only[go_sem,aD,Qh,Qs _ _ aD,hy,y.aa];intro x9 eR H5 h5;have kn:=kn.al eR h5;have g9:=kn.l 1 rfl;simp only[go_sem,Qhc,g9];intro H6 h6;have kn:=kn.ax 1 rfl h6;have g8:=kn.l 0 rfl;have g9:=kn.l 1 rfl;refine Zi g8 g9 ?_;have cZ:=hf x iz y H6;simp only[x.aa,y.aa]at cZ;refine cZ _ fun rr H7 gX hu=>?_;have kn:=kn.ay hu;simp only[go_sem,GP];refine Qb rfl (fun au=>?_) (fun au=>?_)
   ·have aP:¬l[i]=l'[i]:=fun h=>ZaS;refine Za ?_;refine Zh ?_;exact⟨_,.c _ _ (Qe rfl),hK _ _ (fiff (Bt af aD aP)) kn.fin⟩
   have ik:l[i]=l'[i]:=ZaT
   have kn:=Kn.drop (A:=[]) kn;refine Zt ?_;refine Zk ?_;exact⟨Qv,l.length-(i+1),ZT,i+1,rfl,ZT,Do fo af aD ik,kn,rfl⟩
  ·intro hc;have iL:l.length≤i:=ZU
   refine Zg ?_;refine Za ?_;refine Zb ?_;exact⟨_,.c _ _ (Qe rfl),hK _ _ (tiff (Ew fo iL aE)) kn.fin⟩
theorem Q85 {f:Nat}{l l':List St}{fl fl2:Bool}
  (hf:∀x∈l,∀(y:St) (H1:Heap) (K':V→Heap→Prop),(∀r H2,(r=true↔x=y)→Upd H1 H2 []→K' (.c (.bool r)) H2)→Qm prog f [.ag x.cells,.ag y.cells] H1 K')
  (hK:∀r H',(r=true↔l=l')→Upd H H' []→K (.c (.bool r)) H'):Qm prog IM [.c (.sl fl 5 (Qk l)),.c (.sl fl2 5 (Qk l')),.c (.fn f [])] H K:=by
 refine Q1 ?_;refine Qc Aa Q28 ?_;refine Za ?_;refine Qz (Qa ?_);simp only[go_sem,Qp];intro hl eW;try intro _
 simp only[LIM]at hl eW;refine Qf (Qb rfl (fun hc=>?_) (fun hc=>?_))
 ·have aP:¬l.length=l'.length:=fun h=>ZaB
  refine Za ?_;refine Zb ?_;exact⟨_,.c _ _ (Qe rfl),hK _ _ (fiff (Ce aP)) (Kn.ao H).fin⟩
 have aE:l.length=l'.length:=(by have:(l.length:Int)=l'.length:=(by simpa using hc);omega);refine Zc ?_
 refine Qz (Qa ?_);simp only[go_sem,Qp];try intro _
 refine Qf (Qg (Q3 (fun m e1 H1=>∃(i:Nat),m=l.length-i∧i≤l.length∧l.take i=l'.take i∧Kn H H1 [] []∧
  e1=[(1,.c (.sl fl2 5 (Qk l'))),(2,.c (.fn f [])),(15,.c (.sl fl 5 (Qk l))),(16,.c (.int .i64 l.length)),(17,.c (.int .i64 i))]) l.length ?_ ?_))
 ·exact⟨0,ZT,ZT,ZV,Kn.ao H,rfl⟩
 ·rintro m e1 H1 ⟨i,hm,hi,fo,kn,rfl⟩;refine Za ?_;refine Qf (Qb rfl ?_ ?_)
  ·intro hc;have af:i<l.length:=ZU
   have aD:i<l'.length:=ZT
   obtain⟨x,hx⟩:∃x,l[i]=x:=⟨_,rfl⟩;obtain⟨y,hy⟩:∃y,l'[i]=y:=⟨_,rfl⟩;have iz:x∈l:=ZaF
   refine Zc ?_
   refine Qf (Qg ?_);refine Qa ?_;simp only[go_sem,af,Qp,Q9 _ _ af,hx,x.aa];intro x8 cC H3 h3;have kn:=kn.al cC h3;have g8:=kn.l 0 rfl;simp only[go_sem,Qhe,g8];intro H4 h4;have kn:=kn.ax 0 rfl h4;have g8:=kn.l 0 rfl;refine Qa ?_;simp only[go_sem,aD,Qp,Q9 _ _ aD,hy,y.aa];intro x9 eR H5 h5;have kn:=kn.al eR h5;have g9:=kn.l 1 rfl;simp only[go_sem,Qhf,g9];intro H6 h6;have kn:=kn.ax 1 rfl h6;have g8:=kn.l 0 rfl;have g9:=kn.l 1 rfl;refine Zi g8 g9 ?_;have cZ:=hf x iz y H6;simp only[x.aa,y.aa]at cZ;refine cZ _ fun rr H7 gX hu=>?_;have kn:=kn.ay hu;simp only[go_sem,GP];refine Qb rfl (fun au=>?_) (fun au=>?_)
   ·have aP:¬l[i]=l'[i]:=fun h=>ZaS;refine Za ?_;refine Zh ?_;exact⟨_,.c _ _ (Qe rfl),hK _ _ (fiff (Bt af aD aP)) kn.fin⟩
   have ik:l[i]=l'[i]:=ZaT
   have kn:=Kn.drop (A:=[]) kn;refine Zt ?_;refine Zk ?_;exact⟨Qv,l.length-(i+1),ZT,i+1,rfl,ZT,Do fo af aD ik,kn,rfl⟩
  ·intro hc;have iL:l.length≤i:=ZU
   refine Zg ?_;refine Za ?_;refine Zb ?_;exact⟨_,.c _ _ (Qe rfl),hK _ _ (tiff (Ew fo iL aE)) kn.fin⟩
theorem Qbj2 {f:Nat}{l l':List Fn}{fl fl2:Bool}
  (hf:∀x∈l,∀(y:Fn) (H1:Heap) (K':V→Heap→Prop),(∀r H2,(r=true↔x=y)→Upd H1 H2 []→K' (.c (.bool r)) H2)→Qm prog f [.ag x.cells,.ag y.cells] H1 K')
  (hK:∀r H',(r=true↔l=l')→Upd H H' []→K (.c (.bool r)) H'):Qm prog VD [.c (.sl fl 3 (Qo l)),.c (.sl fl2 3 (Qo l')),.c (.fn f [])] H K:=by
 refine Q1 ?_;refine Qc Aa Q90 ?_;refine Za ?_;refine Qz (Qa ?_);simp only[go_sem,Qu];intro hl eW;try intro _
 simp only[LIM]at hl eW;refine Qf (Qb rfl (fun hc=>?_) (fun hc=>?_))
 ·have aP:¬l.length=l'.length:=fun h=>ZaB
  refine Za ?_;refine Zb ?_;exact⟨_,.c _ _ (Qe rfl),hK _ _ (fiff (Ce aP)) (Kn.ao H).fin⟩
 have aE:l.length=l'.length:=(by have:(l.length:Int)=l'.length:=(by simpa using hc);omega);refine Zc ?_
 refine Qz (Qa ?_);simp only[go_sem,Qu];try intro _
 refine Qf (Qg (Q3 (fun m e1 H1=>∃(i:Nat),m=l.length-i∧i≤l.length∧l.take i=l'.take i∧Kn H H1 [] []∧
  e1=[(1,.c (.sl fl2 3 (Qo l'))),(2,.c (.fn f [])),(15,.c (.sl fl 3 (Qo l))),(16,.c (.int .i64 l.length)),(17,.c (.int .i64 i))]) l.length ?_ ?_))
 ·exact⟨0,ZT,ZT,ZV,Kn.ao H,rfl⟩
 ·rintro m e1 H1 ⟨i,hm,hi,fo,kn,rfl⟩;refine Za ?_;refine Qf (Qb rfl ?_ ?_)
  ·intro hc;have af:i<l.length:=ZU
   have aD:i<l'.length:=ZT
   obtain⟨x,hx⟩:∃x,l[i]=x:=⟨_,rfl⟩;obtain⟨y,hy⟩:∃y,l'[i]=y:=⟨_,rfl⟩;have iz:x∈l:=ZaF
   refine Zc ?_
   refine Qf (Qg ?_);refine Qa ?_;simp only[go_sem,af,Qu,AB _ _ af,hx,Fn.cells];intro x8 cC H3 h3;have kn:=kn.al cC h3;have g8:=kn.l 0 rfl;simp only[go_sem,Qk4,g8];intro H4 h4;have kn:=kn.ax 0 rfl h4;have g8:=kn.l 0 rfl;refine Qa ?_;simp only[go_sem,aD,Qu,AB _ _ aD,hy,Fn.cells];intro x9 eR H5 h5;have kn:=kn.al eR h5;have g9:=kn.l 1 rfl;simp only[go_sem,Qk5,g9];intro H6 h6;have kn:=kn.ax 1 rfl h6;have g8:=kn.l 0 rfl;have g9:=kn.l 1 rfl;refine Zi g8 g9 ?_;have cZ:=hf x iz y H6;simp only[Fn.cells]at cZ;refine cZ _ fun rr H7 gX hu=>?_;have kn:=kn.ay hu;simp only[go_sem,GP];refine Qb rfl (fun au=>?_) (fun au=>?_)
   ·have aP:¬l[i]=l'[i]:=fun h=>ZaS;refine Za ?_;refine Zh ?_;exact⟨_,.c _ _ (Qe rfl),hK _ _ (fiff (Bt af aD aP)) kn.fin⟩
   have ik:l[i]=l'[i]:=ZaT
   have kn:=Kn.drop (A:=[]) kn;refine Zt ?_;refine Zk ?_;exact⟨Qv,l.length-(i+1),ZT,i+1,rfl,ZT,Do fo af aD ik,kn,rfl⟩
  ·intro hc;have iL:l.length≤i:=ZU
   refine Zg ?_;refine Za ?_;refine Zb ?_;exact⟨_,.c _ _ (Qe rfl),hK _ _ (tiff (Ew fo iL aE)) kn.fin⟩
theorem Qbj3 {f g:Bool}{ns ms:List (List UInt8)}(hK:∀r,(r=true↔ns=ms)→K (.c (.bool r)) H):Qm prog Qnf [.c (.sl f 1 (Q5 ns)),.c (.sl g 1 (Q5 ms))] H K:=by
 refine Qc Aa Q91 ?_;refine Za ?_;refine Qz (Qa ?_);simp only[go_sem,Qt];intro hl eW;try intro _
 simp only[LIM]at hl eW;refine Qf (Qb rfl (fun hc=>?_) (fun hc=>?_))
 ·have aP:¬ns.length=ms.length:=fun h=>ZaB
  refine Za ?_;refine Zb ?_;exact hK _ (fiff (Ce aP))
 have aE:ns.length=ms.length:=(by have:(ns.length:Int)=ms.length:=(by simpa using hc);omega);refine Zc ?_
 refine Qz (Qa ?_);simp only[go_sem,Qt];try intro _
 refine Qf (Qg (Q3 (fun m e1 H1=>∃(i:Nat),m=ns.length-i∧i≤ns.length∧ns.take i=ms.take i∧H1=H∧e1=[(0,.c (.sl f 1 (Q5 ns))),(1,.c (.sl g 1 (Q5 ms))),(12,.c (.int .i64 ns.length)),(13,.c (.int .i64 i))]) ns.length ?_ ?_))
 ·exact⟨0,ZT,ZT,ZV,rfl,rfl⟩
 ·rintro m e1 H1 ⟨i,hm,hi,hp,rfl,rfl⟩;refine Za ?_;refine Qf (Qb rfl ?_ ?_)
  ·intro hc;have af:i<ns.length:=ZU
   have aD:i<ms.length:=ZT
   refine Zc ?_
   refine Qf (Qg ?_);refine Za ?_;refine An ?_;simp only[go_sem,af,aD,Qt,BT _ _ af,BT _ _ aD];refine Qb rfl (fun au=>?_) (fun au=>?_)
   ·have aP:¬ns[i]=ms[i]:=(by simpa[J5 af,J5 aD]using au);refine Za ?_;refine Zh ?_;exact hK _ (fiff (Bt af aD aP))
   have ik:ns[i]=ms[i]:=by simpa[J5 af,J5 aD]using au
   refine Zc ?_
   refine Zk ?_;exact⟨Qv,ns.length-(i+1),ZT,i+1,rfl,ZT,Do hp af aD ik,rfl⟩
  ·intro hc;have iL:ns.length≤i:=ZU
   refine Zg ?_;refine Za ?_;refine Zb ?_;exact hK _ (tiff (Ew hp iL aE))
theorem Qaud:∀(n:Nat) (x y:Ex) {H:Heap} {K:V→Heap→Prop},x.size≤n→(∀r H',(r=true↔x=y)→Upd H H' []→K (.c (.bool r)) H')→Qm prog SI [.ag x.cells,.ag y.cells] H K:=by
 intro n
 induction n with
 |zero=>intro x y H K h;have:=x.size_pos;omega
 |succ n ih=>
 intro x y H K hn hK;have aO:=x.size_kids;refine Q1 ?_;refine Qc Aa Qaut ?_;have kn:=Kn.ao H;refine Qa ?_;simp only[go_sem,x.aa,y.aa];have no:∀(H':Heap),¬x=y→Upd H H' []→K (.c (.bool false)) H':=fun H' h hu=>hK _ _ (fiff h) hu;by_cases eop:x.op=y.op
 rotate_left
 ·have dop:decide (x.op=y.op)=false:=decide_eq_false eop;refine Qa ?_;simp only[go_sem,dop,ES];refine Zb ?_;exact⟨_,.c _ _ (Qe rfl),no _ (fun h=>eop Zau) kn.fin⟩
 have dop:decide (x.op=y.op)=true:=decide_eq_true eop;by_cases en:x.n=y.n
 rotate_left
 ·have dn:decide (x.n=y.n)=false:=decide_eq_false en;refine Qa ?_;simp only[go_sem,dop,dn,ES];refine Zb ?_;exact⟨_,.c _ _ (Qe rfl),no _ (fun h=>en Zau) kn.fin⟩
 have dn:decide (x.n=y.n)=true:=decide_eq_true en;by_cases ename:x.name=y.name
 rotate_left
 ·have dname:decide (x.name=y.name)=false:=decide_eq_false ename;refine Qa ?_;simp only[go_sem,dop,dn,dname,ES];refine Zb ?_;exact⟨_,.c _ _ (Qe rfl),no _ (fun h=>ename Zau) kn.fin⟩
 have dname:decide (x.name=y.name)=true:=decide_eq_true ename;refine Qa ?_;simp only[go_sem,dop,dn,dname];refine Ml (fun z hz w H1 K' cP=>ih z w (by have:=Bn hz;omega) cP) fun r0 H1 h0 hu=>?_;have kn:=kn.ay hu;simp only[go_sem,ES];refine Zb ?_;refine⟨_,.c _ _ (Qe rfl),hK _ _ ⟨fun h=>?_,fun h=>h0.2 Zau⟩ kn.fin⟩;have k0:=h0.1 h;exact Ex.ext4 eop en ename k0
theorem Qaue:∀(n:Nat) (x y:St) {H:Heap} {K:V→Heap→Prop},x.size≤n→(∀r H',(r=true↔x=y)→Upd H H' []→K (.c (.bool r)) H')→Qm prog HU [.ag x.cells,.ag y.cells] H K:=by
 intro n
 induction n with
 |zero=>intro x y H K h;have:=x.size_pos;omega
 |succ n ih=>
 intro x y H K hn hK;have aO:=x.size_eq;refine Q1 ?_;refine Qc Aa Qauy ?_;have kn:=Kn.ao H;refine Qa ?_;simp only[go_sem,x.aa,y.aa];have no:∀(H':Heap),¬x=y→Upd H H' []→K (.c (.bool false)) H':=fun H' h hu=>hK _ _ (fiff h) hu;by_cases eop:x.op=y.op
 rotate_left
 ·have dop:decide (x.op=y.op)=false:=decide_eq_false eop;refine Qa ?_;simp only[go_sem,dop,GX,GY,GZ];refine Zb ?_;exact⟨_,.c _ _ (Qe rfl),no _ (fun h=>eop Zau) kn.fin⟩
 have dop:decide (x.op=y.op)=true:=decide_eq_true eop;by_cases ename:x.name=y.name
 rotate_left
 ·have dname:decide (x.name=y.name)=false:=decide_eq_false ename;refine Qa ?_;simp only[go_sem,dop,dname,GX,GY,GZ];refine Zb ?_;exact⟨_,.c _ _ (Qe rfl),no _ (fun h=>ename Zau) kn.fin⟩
 have dname:decide (x.name=y.name)=true:=decide_eq_true ename;refine Zi dop dname ?_;refine Ml (fun z hz w H1 K' cP=>Qaud z.size z w (Jl _) cP) fun r0 H1 h0 hu=>?_;have kn:=kn.ay hu
 cases r0 with
 |false=>
  simp only[go_sem,GX,GY,GZ];refine Zb ?_;exact⟨_,.c _ _ (Qe rfl),no _ (fun h=>by simpa using h0.2 Zau) kn.fin⟩
 |true=>
  simp only[go_sem,GX];refine Q85 (fun z hz w H1 K' cP=>ih z w (by have:=Bw hz;omega) cP) fun r1 H2 h1 hu=>?_;have kn:=kn.ay hu
  cases r1 with
  |false=>
   simp only[go_sem,GX,GY,GZ];refine Zb ?_;exact⟨_,.c _ _ (Qe rfl),no _ (fun h=>by simpa using h1.2 Zau) kn.fin⟩
  |true=>
   simp only[go_sem,GY];refine Q85 (fun z hz w H1 K' cP=>ih z w (by have:=Bw hz;omega) cP) fun r2 H3 h2 hu=>?_;have kn:=kn.ay hu;simp only[go_sem,GZ];refine Zb ?_;refine⟨_,.c _ _ (Qe rfl),hK _ _ ⟨fun h=>?_,fun h=>h2.2 Zau⟩ kn.fin⟩;have k0:=h0.1 rfl;have k1:=h1.1 rfl;have k2:=h2.1 h;exact St.ext5 eop ename k0 k1 k2
theorem XH {x y:Fn}(hK:∀r H',(r=true↔x=y)→Upd H H' []→K (.c (.bool r)) H'):Qm prog VV [.ag x.cells,.ag y.cells] H K:=by
 refine Q1 ?_;refine Qc Aa Qz4 ?_;have kn:=Kn.ao H;refine ZP ?_;have no:∀(H':Heap),¬x=y→Upd H H' []→K (.c (.bool false)) H':=fun H' h hu=>hK _ _ (fiff h) hu;by_cases ename:x.name=y.name
 rotate_left
 ·have dname:decide (x.name=y.name)=false:=decide_eq_false ename;refine Qa ?_;simp only[go_sem,dname,Tc,Td];refine Zb ?_;exact⟨_,.c _ _ (Qe rfl),no _ (fun h=>ename Zau) kn.fin⟩
 have dname:decide (x.name=y.name)=true:=decide_eq_true ename;refine Zd dname ?_;refine Qbj3 fun r0 h0=>?_
 cases r0 with
 |false=>
  simp only[go_sem,Tc,Td];refine Zb ?_;exact⟨_,.c _ _ (Qe rfl),no _ (fun h=>by simpa using h0.2 Zau) kn.fin⟩
 |true=>
  simp only[go_sem,Tc];refine Q85 (fun z hz w H1 K' cP=>Qaue z.size z w (Jl _) cP) fun r1 H2 h1 hu=>?_;have kn:=kn.ay hu;simp only[go_sem,Td];refine Zb ?_;refine⟨_,.c _ _ (Qe rfl),hK _ _ ⟨fun h=>?_,fun h=>h1.2 Zau⟩ kn.fin⟩;have k0:=h0.1 rfl;have k1:=h1.1 h;exact Fn.ext3 ename k0 k1
theorem Vz {f g:Bool}{gns:List Fn}(hK:∀r H',(r=true↔fns=gns)→Upd H H' []→K (.c (.bool r)) H'):Qm prog Qm7 [.ag [.sl f 3 (Qo fns)],.ag [.sl g 3 (Qo gns)]] H K:=by
 refine Qc Aa Q9o ?_;refine Za ?_;refine Za ?_;refine Qbj2 (fun x hx y H1 K' cP=>XH cP) fun r H1 hr hu=>?_;simp only[go_sem,GO];refine Zb ?_;exact hK _ _ hr hu
end Go.AE.Y
namespace Go.AE.Y
attribute [local go_sem] cond_true cond_false Bool.not_true Bool.not_false
open Go.Proofs.Tryz
variable {H H0:Heap}{K:V→Heap→Prop}{L E:List (Nat×Obj)}{fns:List Fn}
theorem Qban {fl:Bool}(hp:∀f∈fns,f.params.length≤2^38)(hK:∀H' L cs,Kn H H' [] L→OwL L cs [.sl false 3 (Qo fns)]→K (.ag cs) H'):Qm prog Qna [.ag [.sl fl 3 (Qo fns)]] H K:=by
 refine Qc Aa Q9r ?_;refine Za ?_;intro x2 bB H1 h1;have kn:=(Kn.ao H).al bB h1;refine Za ?_;refine PX (g:=id) (caps:=[]) (fun f gv H4 K' ko cP=>Qa98 (hp f gv) cP) fun H4 L t k2 ho=>?_;rw[Jaw]at ho;have kn:=kn.comp0 k2;have g2:=kn.l 0 rfl;have aq:=ho.ah;simp only[go_sem,Qkh,g2,aq];intro H4 h4;have kn:=kn.ax 0 rfl h4;have g2:=kn.l 0 rfl;refine ZC g2 aq ?_;exact hK _ L _ (kn.sub (List.sublist_append_right [_] _)) ho.one
theorem Qbf0 (h:FineP fns){fl:Bool}(gk:GK H)(aO:Qn fns≤2^38)(hK:∀H' L x,Kn H H' [] L→OwV L x (.tup [.ag [.sl false 3 (Qo (foldA fns))],.c (.bool true)])→K x H') :
  Qm prog V0 [.ag [.sl fl 3 (Qo fns)]] H K:=Qbfz h gk aO fun H' L cs kn ho=>hK H' L _ kn (show OwL L (.bool true::cs) _ from .atom rfl ho)
theorem Qblb (h:FineP fns){fl:Bool}(gk:GK H)(aO:Qn fns≤2^38)(hK:∀H' L x,Kn H H' [] L→OwV L x (.tup [.ag [.sl false 3 (Qo (cutA fns))],.c (.bool true)])→K x H') :
  Qm prog Vy [.ag [.sl fl 3 (Qo fns)]] H K:=Qbla h gk aO fun H' L cs kn ho=>hK H' L _ kn (show OwL L (.bool true::cs) _ from .atom rfl ho)
theorem Qbai (h:FineP fns):Qn (foldA fns)≤Qn fns:=by
 have h1:=RG (F:=Fn.foldF) (fun f=>⟨rfl,rfl⟩) fns fun f hf=>GR _ _ (h.bodies f hf);rcases h1 with h1|h1
 ·rw[show foldA fns=fns from h1];exact Jl _
 ·exact Nat.le_of_lt h1
def simR (fns:List Fn):List (List C):=Qo (if Bl fns then Au fns else [])
theorem Qaxn {fl:Bool}(aO:Qn fns≤2^36)(gk0:GK H)(hK:∀H' L x,Kn H H' [] L→OwV L x (.tup [.ag [.sl false 3 (simR fns)],.c (.bool (Bl fns))])→K x H') :
  Qm prog VO [.ag [.sl fl 3 (Qo fns)]] H K:=by
 refine Qc Aa Q26 ?_;refine Za ?_;intro x2 bB H1 h1;have kn:=(Kn.ao H).al bB h1;have gk:=gk0.kn kn;simp only[go_sem,Cq];refine Qz (Qa ?_);simp only[go_sem];refine RJ ZT gk fun H2 hu=>?_;have kn:=kn.ay hu;have gk:=gk0.kn kn;have g2:=kn.l 0 rfl;simp only[go_sem,S8];refine Qf (Qb rfl ?_ ?_)
 ·intro hc;have hb:Bl fns=false:=ZU
  refine Zd g2 ?_;intro H3 h3;have kn:=kn.ax 0 rfl h3;have g2:=kn.l 0 rfl;simp only[go_sem,Cq];refine Qi ?_;simp only[go_sem,AE.X.next,Qq,Q0,Jap,Jar,RS.op,g2];simp only[simR,hb]at hK;exact⟨fun _=>trivial,hK _ [] _ (kn.sub (List.nil_sublist _)) (.atom rfl (.sln .nil))⟩
 intro hc;have hb:Bl fns=true:=ZU
 have hg:=fine_iff.1 hb;simp only[simR,hb,if_true]at hK;refine Zc ?_
 refine Za ?_;refine Qban (fun f hf=>(RX hg f hf).2) fun H3 L cs k2 nC=>?_;obtain⟨t,rfl,ho⟩:=nC.inv_one;have aq:=ho.ah;have kn:=kn.comp0 k2;simp only[go_sem,Qg4,aq];intro x4 bW H4 h4;have kn:=(kn.al bW h4).swap;have g4:=kn.l 1 rfl;simp only[go_sem,Qg3,g4,aq];intro H5 h5;have kn:Kn H H5 [] ([(x2,.st [.sl true 3 []]),(x4,.st [t])]++L):=kn.ax 1 rfl h5;refine Qg (Q3 (fun m e1 H1=>∃(now:List Fn) (L:List (Nat×Obj)) (t:C) (x4:Nat),m=Qn now∧FineP now∧Qn now≤Qn fns∧Au now=Au fns∧OwS L 3 (Qo now) t∧
  Kn H H1 [] ([(x2,.st [.sl true 3 []]),(x4,.st [t])]++L)∧e1=[(2,.c (.ptr x2 0)),(4,.c (.ptr x4 0))]) (Qn fns) ?_ ?_)
 ·exact⟨fns,L,t,x4,rfl,hg,Jl _,rfl,ho,kn,rfl⟩
 ·rintro m e1 H1 ⟨now,L,t,x4,rfl,hn,oC,oB,ho,kn,rfl⟩;have aq:=ho.ah;have g2:=kn.l 0 rfl;have g4:=kn.l 1 rfl;have gk:=gk0.kn kn;refine Qf (Qg ?_);refine Zi g4 aq ?_;refine Q2w (x':=.tup [.ag [.sl false 3 (Qo (foldA now))],.c (.bool true)]) (lntL L) (args':=[.ag [.sl false 3 (Qo now)]]) rfl (Cu (ho.lend fun p hp=>(kn.get p Zap).1)) (fun K' hk=>Qbf0 hn gk.hideG ZT hk) fun H2 L5 x k2 hx=>?_;obtain⟨t5,rfl,sZ⟩:=hx.tup1;have qK:=sZ.ah;have kn:=kn.comp0 k2;have hnf:=GJ hn;have hnfs:=Qbai hn;simp only[go_sem,Qg7,Jd,Jt,qK];intro x5 cp H3 h3;have kn:Kn H H3 [] ([(x2,.st [.sl true 3 []]),(x4,.st [t]),(x5,_)]++L++L5):=(kn.al cp h3).perm (by
   simp only[Jm,Jai,Jao];refine .cons _ (.cons _ ?_);rw[←Jm];exact J1)
  have g5:=kn.l 2 rfl;simp only[go_sem,Qg6,g5,qK];intro H4 h4;have kn:Kn H H4 [] ([(x2,.st [.sl true 3 []]),(x4,.st [t]),(x5,.st [t5])]++L++L5):=kn.ax 2 rfl h4;have g5:=kn.l 2 rfl;simp only[go_sem,Qg5];refine Qz (Qa ?_);simp only[go_sem];refine Qf (Qb rfl ?_ (fun h=>Zaa));intro _;refine Zi g5 qK ?_;have gk:=gk0.kn kn;refine Q2w (x':=.tup [.ag [.sl false 3 (Qo (AD now))],.c (.bool true)]) (lntL L5) (args':=[.ag [.sl false 3 (Qo (foldA now))]]) rfl (Cu (sZ.lend fun p hp=>(kn.get p Zap).1)) (fun K' hk=>Qblb hnf gk.hideG ZT hk) fun H5 L6 x k2 hx=>?_;obtain⟨t6,rfl,ri⟩:=hx.tup1;have nV:=ri.ah;have kn:=kn.comp0 k2;have g5:=kn.l 2 rfl;simp only[go_sem,Qgm,Jd,Jt,g5,nV];intro H6 h6;have kn:Kn H H6 [] ([(x2,.st [.sl true 3 []]),(x4,.st [t]),(x5,.st [t6])]++L++L5++L6):=kn.ax 2 rfl h6;have kn:Kn H H6 [] ([(x2,.st [.sl true 3 []]),(x4,.st [t]),(x5,.st [t6])]++L++L6):=kn.sub (by
   simp only[Jm];exact ((List.sublist_append_right L5 L6).append_left L).append_left _)
  have g2:=kn.l 0 rfl;have g4:=kn.l 1 rfl;have g5:=kn.l 2 rfl;simp only[go_sem,Qg8];refine Qz (Qa ?_);simp only[go_sem,g4,g5,aq,nV];obtain⟨b,bM⟩:∃b:Bool,(b=true↔AD now=now):=by
   by_cases h:AD now=now
   ·exact⟨true,tiff h⟩
   ·exact⟨false,fiff h⟩
  refine RZ (v:=.c (.bool b)) (lntL (L6++L)) (args':=[.ag [.sl false 3 (Qo (AD now))],.ag [.sl false 3 (Qo now)]]) rfl (Ii ?_ ?_) rfl (fun K' hk=>Vz fun r H' hr hu=>by
    rw[Bool.eq_iff_iff.2 (hr.trans bM.symm)];exact hk _ hu) ?_
  ·exact (ri.one.frz (S:=lntL (L6++L)) fun p hp=>⟨(kn.get p Zap).1,DI Zap⟩).ag
  ·exact (ho.one.frz (S:=lntL (L6++L)) fun p hp=>⟨(kn.get p Zap).1,DI Zap⟩).ag
  simp only[go_sem,Qgn];refine Qf (Qb rfl ?_ ?_)
  ·intro hc;have he:AD now=now:=bM.1 ZU;refine Zr g4 g2 aq ?_;intro H7 h7;have kn:Kn H H7 [] ([(x2,.st [t]),(x4,.st [t]),(x5,.st [t6])]++L++L6):=kn.ax 0 rfl h7;have g2:=kn.l 0 rfl;simp only[go_sem,Qgo];refine Qi ?_;simp only[go_sem,AE.X.next,Qq,Q0,Jap,Jar,RS.op,g2,aq];have hx:Au fns=now:=by rw[←oB];exact Ds he _
   rw[hx]at hK;exact⟨fun _=>trivial,hK _ L _ (kn.sub ((List.sublist_append_right _ _).trans (List.sublist_append_left _ _))) (show OwL L [.bool true,t] _ from .atom rfl ho.one)⟩
  ·intro hc;have he:¬AD now=now:=fun h=>by rw[bM.2 h]at hc;simp at hc
   have af:=(E9 hn).resolve_left he;refine Zc ?_
   refine Qr ?_;simp only[go_sem,AE.X.next,g4,g5,nV];intro H7 h7;have kn:Kn H H7 [] ([(x2,.st [.sl true 3 []]),(x4,.st [t6]),(x5,.st [t6])]++L++L6):=kn.ax 1 rfl h7;have g4:=kn.l 1 rfl;refine Zi g4 nV ?_;refine Zp ?_;intro y4 hy4 H8 h8;have kn:=(Kn.al (kn.sub (L':=[(x2,.st [.sl true 3 []])]++L6) (by
    simp only[Jm,Jai,Jao];exact .cons_cons _ (.cons _ (.cons _ (List.sublist_append_right _ _))))) hy4 h8).swap
   have g4:=kn.l 1 rfl;simp only[go_sem,Qgp,g4,nV];intro H9 h9;have kn:=kn.ax 1 rfl h9;simp only[go_sem,AE.X.next];exact⟨Qn (AD now),af,AD now,L6,t6,y4,rfl,EA hn,ZT,by rw[Rz hn,oB],ri,kn,rfl⟩
end Go.AE.Y
namespace Go.AE.Y
open Go.Proofs.Tryz
def Ll:=dY 0xf01a0062
def Lj:=dY 0xf07a0062
def Qbi2:=dZ 0x87062101f1d01242801802441223 .skip Lj
def Qbi3:=dZ 0x922f000403a0229f096f882423217062101f1d01442801801e411c3 Qbi2 Ll
def Qbi4:=dZ 0x91cf500050d901c9f086f88241d21706200f0b90069f01009f0a401842801801861163 Qbi3
def Qbi5:=dZ 0x9d500050790169f056f88241721706200f0590069f01009f0a401009f004011428018011710f3 Qbi4
def Qbi6:=dZ 0x965000500900f9f046f7241021706200f0e80069f01009f0a401042801800b61093 Qbi5
def Qbi7:=dZ 0x90500050a80099f036f1240a21004 Qbi6
def Qbi8:=dZ 0x8706201f00f00621293
def Qbi9:=dZ 0x8706200f0ea0069f01942801802c512b3
def Qbde:=dZ 0x706200f01b0069f01a42801802f51
def Qbdf:=dZ 0x19092bf0130066f0240802a212 Qbi9 [] Qbde
def Qbdg:=dZ 0x190929f000400f02428028212 Qbi8 [] Qbdf
def Qbdh:=dZ 0x19095000407008112 Qbi7 [] Qbdg
def Qbq4:=dZ 0x9000300f00f00621 Qbdh
theorem Qbqp:mFn prog F9 3 50 Qbq4 B4=true:=ZW
end Go.AE.Y
namespace Go.AE.Y
attribute [local go_sem] cond_true cond_false Bool.not_true Bool.not_false
open Go.Proofs.Tryz
variable {H H' H0:Heap}{K:V→Heap→Prop}
theorem ET {p:Prop} [Decidable p]:(if decide p=true then (1:Int)else 0)=trI p:=by simp[trI]
def twI (r:Option Int):Int×Int:=match r with
 |some z=>(z,0)
 |none=>(0,1)
theorem Qblz {op a b:Int}(ha:byI a)(hb:byI b)(h3:3≤op)(h9:op≤9)(hK:K (.tup [.c (.int .i64 (twI (arR op a b)).1),.c (.int .i64 (twI (arR op a b)).2)]) H) :
  Qm prog F9 [.c (.int .i64 op),.c (.int .i64 a),.c (.int .i64 b)] H K:=by
 obtain⟨a0,a1⟩:=ha;obtain⟨b0,b1⟩:=hb;refine Qc Aa Qbqp ?_;have retf:∀(v t:Int) (e:Env),twI (arR op a b)=(v,t)→lk 6 e=.c (.int .i64 v)→lk 7 e=.c (.int .i64 t)→Qq B4 K .ret e H:=by
  intro v t e h1 h2 h3;simp only[go_sem,Qq,Q0,RS.op,h2,h3];rw[h1]at hK;exact hK
 refine Za ?_;refine Qz (Qa ?_);simp only[go_sem];refine Qf (Qg ?_);refine Za ?_;refine Qb rfl (fun hc=>?_) (fun hc=>?_)
 ·have ho:op=3:=of_decide_eq_true hc;subst ho;refine Za ?_;refine⟨Qv,ZT,?_⟩;refine Zn ?_;refine retf _ _ _ ?_ rfl rfl;rw[B8 ZT];rfl
 have n3:=of_decide_eq_false hc;refine Za ?_;refine Qb rfl (fun hc=>?_) (fun hc=>?_)
 ·have ho:op=4:=of_decide_eq_true hc;subst ho;refine Za ?_;refine⟨Qv,Qv,ZT,?_⟩;refine Zn ?_;refine retf _ _ _ ?_ rfl rfl;rw[B8 ZT];rfl
 have n4:=of_decide_eq_false hc;refine Za ?_;refine Qb rfl (fun hc=>?_) (fun hc=>?_)
 ·have ho:op=5:=of_decide_eq_true hc;subst ho;have cK:0≤a * b:=Int.mul_nonneg a0 b0;have su:a * b≤255 * 255:=Int.mul_le_mul a1 b1 b0 ZT;refine Za ?_;refine⟨Qv,ZT,?_⟩;refine Zn ?_;refine retf _ _ _ ?_ rfl rfl;rw[B8 cK];rfl
 have n5:=of_decide_eq_false hc;refine Za ?_;refine Qb rfl (fun hc=>?_) (fun hc=>?_)
 ·have ho:op=8:=of_decide_eq_true hc;subst ho;refine Za ?_;refine Tl ?_;rw[ET];simp only[go_sem,Ll];refine Zn ?_;exact retf _ _ _ rfl rfl rfl
 have n8:=of_decide_eq_false hc;refine Za ?_;refine Qb rfl (fun hc=>?_) (fun hc=>?_)
 ·have ho:op=9:=of_decide_eq_true hc;subst ho;refine Za ?_;refine Tl ?_;rw[ET];simp only[go_sem,Lj];refine Zn ?_;exact retf _ _ _ rfl rfl rfl
 have n9:=of_decide_eq_false hc;refine Zf ?_
 have gH:op=6∨op=7:=ZT
 refine Qz (Qa ?_);simp only[go_sem];refine Qf (Qb rfl (fun hc=>?_) (fun hc=>?_))
 ·have hb:b=0:=of_decide_eq_true hc;subst hb;refine Za ?_;refine Zn ?_;rcases gH with rfl|rfl <;> exact retf _ _ _ rfl rfl rfl
 have hb:¬b=0:=of_decide_eq_false hc;refine Zc ?_
 refine Qz (Qa ?_);simp only[go_sem];refine Qf (Qb rfl (fun hc=>?_) (fun hc=>?_))
 ·have ho:op=6:=of_decide_eq_true hc;subst ho;have hd1:0≤a / b:=Int.ediv_nonneg a0 b0;have eY:a / b≤a:=Int.ediv_le_self _ a0;refine Za ?_;refine⟨⟨hb,by rw[Ek a0];exact Qv⟩,?_⟩;refine Zn ?_;refine retf _ _ _ ?_ rfl rfl;rw[Ek a0,arR];simp[hb,twI]
 ·have ho:op=7:=by have:=of_decide_eq_false hc;omega
  subst ho;refine Zc ?_
  refine Za ?_;refine⟨hb,?_⟩;refine Qi ?_;try simp only[go_sem]
  refine retf _ _ _ ?_ rfl rfl;rw[B8 a0,arR];simp[hb,twI]
theorem K7 {x:Ex}(h1:x.op=1){f g:Bool}(hK:K (.tup [.c (.int .i64 x.n),.c (.int .i64 0)]) H):Qm prog EL [.ag x.cells,.c (.sl f 1 []),.c (.sl g 1 [])] H K:=by
 refine Qc Aa PY ?_;refine Zu ?_;refine Qz (Qa ?_);simp only[go_sem];refine Qf (Qg ?_);refine Za ?_;refine Qb rfl (fun hc=>?_) (fun hc=>by simp[h1]at hc);refine Za ?_;refine ZR ?_;exact hK
theorem Qbgm {op n:Int}{nm:List UInt8}{a b:Ex}(h1:a.op=1)(h2:b.op=1)(ha:byI a.n)(hb:byI b.n)(h3:3≤op)(bP:op≤10){f g:Bool}
  (hK:K (.tup [.c (.int .i64 (twI (arF op a.n b.n)).1),.c (.int .i64 (twI (arF op a.n b.n)).2)]) H):Qm prog EL [.ag (Ex.mk op n nm [a,b]).cells,.c (.sl f 1 []),.c (.sl g 1 [])] H K:=by
 have n1:decide (op=1)=false:=decide_eq_false ZT;have n2:decide (op=2)=false:=decide_eq_false ZT;have n11:decide (op=11)=false:=decide_eq_false ZT;have hl:(Ql [a,b]).length=2:=by rw[Qh];rfl
 have g0:(Ql [a,b]).getD 0 []=a.cells:=by simp only[Ql];rfl
 have g1:(Ql [a,b]).getD 1 []=b.cells:=by simp only[Ql];rfl
 refine Qc Aa PY ?_;refine ZI ?_;refine Qz (Qa ?_);simp only[go_sem];refine Qf (Qg ?_);refine Zd n1 ?_;refine Qb rfl (fun hc=>Zam) (fun _=>?_);refine Zd n2 ?_;refine Qb rfl (fun hc=>Zam) (fun _=>?_);refine Zt ?_;refine Qa ?_;simp only[go_sem,hl,g0,Ex.bA,Ex.aU,Ex.ae];refine⟨ZT,K7 h1 ?_⟩;simp only[go_sem,Nl,Jd,Jt];refine Qz (Qa ?_);simp only[go_sem];refine Qf (Qb rfl (fun hc=>Zam) (fun _=>?_));refine Zc ?_
 refine Qz (Qa ?_);simp only[go_sem,n11];refine Qf (Qb rfl (fun hc=>Zam) (fun _=>?_));refine Zc ?_
 refine Qz ?_;have rest:∀q:V,Q6 prog Nm (Qq B4 K) [(1,.c (.sl f 1 [])),(2,.c (.sl g 1 [])),(3,.c (.pp [.int .i64 op,.int .i64 n,.str nm,.sl false 4 (Ql [a,b])])),(9,.c (.int .i64 a.n)),(10,.c (.int .i64 0)),(63,q)] H∨(op=10∧a.n=0):=by
  intro q;by_cases hz:op=10∧a.n=0
  ·exact .inr hz
  left;refine Qa ?_;simp only[go_sem,hl,g1,Ex.bA,Ex.aU,Ex.ae];refine⟨ZT,K7 h2 ?_⟩;simp only[go_sem,Ow,Jd,Jt];refine Qz (Qa ?_);simp only[go_sem];refine Qf (Qb rfl (fun hc=>Zam) (fun _=>?_));refine Zc ?_
  refine Qz ?_;by_cases ho:op=10
  ·subst ho;have j6:¬a.n=0:=fun h=>hz ⟨rfl,h⟩;refine Za ?_;refine Qf (Qb rfl (fun _=>?_) (fun hc=>Zam));refine Za ?_;refine Tl ?_;simp only[go_sem,Ov];refine ZR ?_;have e:twI (arF 10 a.n b.n)=((if (!decide (b.n=0))=true then 1 else 0),0):=by
    rw[arF,if_pos rfl,twI,trI];by_cases fG:b.n=0 <;> simp[j6,fG]
   rw[e]at hK;exact hK
  ·have n10:decide (op=10)=false:=decide_eq_false ho;refine Zd n10 ?_;refine Qf (Qb rfl (fun hc=>Zam) (fun _=>?_));refine Zc ?_
   refine Za ?_;refine Qblz ha hb h3 ZT ?_;simp only[go_sem,Ou,Jd,Jt];refine ZR ?_;rw[arF,if_neg ho]at hK;exact hK
 cases n10:decide (op=10)with
 |false=>
  have ho:¬op=10:=of_decide_eq_false n10;refine Zd n10 ?_;refine Qf (Qb rfl (fun hc=>Zam) (fun _=>?_));refine Zc ?_
  exact (rest _).resolve_right fun h=>ho h.1
 |true=>
  have ho:op=10:=of_decide_eq_true n10;refine Zd n10 ?_;refine Qf (Qb rfl (fun hc=>?_) (fun hc=>?_))
  ·have j6:a.n=0:=ZU
   refine Za ?_;refine ZR ?_;have e:twI (arF op a.n b.n)=(0,0):=by rw[arF,if_pos ho,twI,trI];simp[j6]
   rw[e]at hK;exact hK
  ·have j6:¬a.n=0:=ZU
   refine Zc ?_
   exact (rest _).resolve_right fun h=>j6 h.2
theorem fzE {S:Nat→Bool}(x:Ex):FrzV H S (.ag x.cells) (.ag x.cells):=by
 rw[x.aa];exact (FrzL.cons (Qe rfl) (.cons (Qe rfl) (.cons (Qe rfl) (.cons (Y.FrzR.same (Bb _)).sl .nil)))).ag
theorem Qbgo {op n:Int}{nm:List UInt8}{kids:List Ex}(hq:¬(3≤op∧op≤10))(cM:op≠11)
  (hK:∀H',Upd H H' []→K (.ag (Ex.mk op n nm kids).cells) H'):Qm prog Hq [.ag (Ex.mk op n nm kids).cells] H K:=by
 have n11:decide (op=11)=false:=decide_eq_false cM;have i310:decide ((3:Int)≤op∧op≤10)=false:=decide_eq_false hq;refine Q1 ?_;refine Qc Aa F4 ?_;refine ZI ?_;intro x2 bB H1 h1;have kn:=(Kn.ao H).al bB h1;refine Qz (Qa ?_);cases hl:decide ((kids.length:Int)=1)
 all_goals
  simp only[go_sem,Qh,hl,n11];try intro _
  refine Qf (Qb rfl (fun h=>by simp[lk]at h) (fun _=>?_));refine Zc ?_
  refine Qz (Qa ?_);simp only[go_sem];refine C6 ?_;simp only[go_sem,Q47,i310];refine Qf (Qb rfl (fun _=>?_) (fun h=>by simp[lk]at h));have g2:=kn.l 0 rfl;refine Zd g2 ?_;intro H2 h2;have kn:=kn.ax 0 rfl h2;have g2:=kn.l 0 rfl;refine Zq g2 ?_;have:=fzE (H:=H2) (S:=un H) (Ex.mk op n nm kids);have hk:=hK _ kn.fin;simp only[Ex.aa,Ex.op,Ex.n,Ex.name,Ex.kids]at this hk;exact⟨_,this,hk⟩
theorem Qbgq {n:Int}{nm:List UInt8}{a:Ex}{d:Int}(hf:(Ex.mk 11 n nm [a]).form d=true)
  (hK:∀H',Upd H H' []→K (.ag (Aj 11 n nm [a]).cells) H'):Qm prog Hq [.ag (Ex.mk 11 n nm [a]).cells] H K:=by
 have hl:(Ql [a]).length=1:=by rw[Qh];rfl
 have c11:decide (((1:Nat):Int)=1)=true:=rfl;have e0:(Ql [a]).getD 0 []=[.int .i64 a.op,.int .i64 a.n,.str a.name,.sl false 4 (Ql a.kids)]:=by simp only[Ql];exact a.aa
 refine Q1 ?_;refine Qc Aa F4 ?_;refine ZI ?_;intro x2 bB H1 h1;have kn:=(Kn.ao H).al bB h1;refine Qz (Qa ?_);simp only[go_sem,hl,c11];try intro _
 refine Qf (Qb rfl (fun _=>?_) (fun h=>by simp[lk]at h));refine Qa ?_;simp only[go_sem,hl,e0,Jc,Jf,Je,Jh,Jg,Jj];refine⟨ZT,fun x3 bQ H2 h2=>?_⟩;have kn:=kn.al bQ h2;have g3:=kn.l 1 rfl;simp only[go_sem,MK,g3,Jc,Jf,Je,Jh,Jg,Jj];intro H3 h3;have kn:Kn H H3 [] [(x2,.st z4),(x3,.st [.int .i64 a.op,.int .i64 a.n,.str a.name,.sl false 4 (Ql a.kids)])]:=kn.ax 1 rfl h3;have g2:=kn.l 0 rfl;have g3:=kn.l 1 rfl;have retf:∀(x:Ex) (H6:Heap) (e:Env),(∃o3,Kn H H6 [] [(x2,.st x.cells),(x3,o3)])→Aj 11 n nm [a]=x→lk 2 e=.c (.ptr x2 0)→Qq Ag (fun x H'=>∃x',FrzV H' (un H) x x'∧K x' (H'.frz (un H))) .ret e H6:=by
  rintro x H6 e ⟨o3,kn⟩ hx l2;have g2:=kn.l 0 rfl;simp only[go_sem,Qq,Q0,Ja,forall_eq,RS.op,l2,g2,x.ae,x.bA,x.aU];exact⟨_,fzE x,by rw[←hx];exact hK _ kn.fin⟩
 refine Qz (Qa ?_);by_cases a1:a.op=1
 ·have d1:decide (a.op=1)=true:=decide_eq_true a1;simp only[go_sem,g3,d1];refine Qf (Qb rfl (fun _=>?_) (fun h=>by simp[lk]at h));refine Zd g3 ?_;refine Tl ?_;rw[ET];simp only[go_sem,MI];refine De fun H6 hu=>?_;have kn:=kn.ay hu;have g2:=kn.l 0 rfl;simp only[go_sem,MJ,g2,Ex.aa,Ex.op,Ex.n,Ex.name,Ex.kids,Ah];intro H7 h7;have kn:=kn.ax 0 rfl h7;refine Qi ?_;exact retf (Ah (trI (a.n=0))) _ _ ⟨_,kn⟩ (by simp[Aj,a1]) rfl
 have d1:decide (a.op=1)=false:=decide_eq_false a1;simp only[go_sem,g3,d1];refine Qf (Qb rfl (fun h=>by simp[lk]at h) (fun _=>?_));refine Zc ?_
 refine Qz ?_;have stay:∀(e:Env),Aj 11 n nm [a]=.mk 11 n nm [a]→lk 1 e=.c (.pp [.int .i64 11,.int .i64 n,.str nm,.sl false 4 (Ql [a])])→lk 2 e=.c (.ptr x2 0)→Q6 prog Lh (Qq Ag (fun x H'=>∃x',FrzV H' (un H) x x'∧K x' (H'.frz (un H)))) e H3:=by
  intro e he l1 l2;refine Zr l1 l2 g2 ?_;intro H6 h6;have kn:=kn.ax 0 rfl h6;refine Qi ?_;exact retf _ _ _ ⟨_,by rw[Ex.aa];exact kn⟩ he rfl
 by_cases a11:a.op=11
 ·have d11:decide (a.op=11)=true:=decide_eq_true a11;obtain⟨k,hk⟩:∃k,a.kids=[k]:=by
   have hm:=(Dv hf).1;simp only[Az,Jb]at hm;have aZ:=hm.1;obtain⟨o2,n2,nm2,ks⟩:=a;have:=(Dv aZ).2.2.2.1 (.inl a11);simp only[Ex.kids]
   match ks,this with
   |[k],_=>exact⟨k,rfl⟩
  have fT:(Ql a.kids).length=1:=by rw[Qh,hk];rfl
  have ek:(Ql a.kids).getD 0 []=[.int .i64 k.op,.int .i64 k.n,.str k.name,.sl false 4 (Ql k.kids)]:=by rw[hk];simp only[Ql];exact k.aa
  have jS:kid0 a=k:=by rw[kid0,hk];rfl
  refine Qa ?_;by_cases k11:k.op=11
  ·have dk:decide (k.op=11)=true:=decide_eq_true k11;simp only[go_sem,g3,d11,fT,ek,dk];refine⟨ZT,?_⟩;refine Qf (Qb rfl (fun _=>?_) (fun h=>by simp[lk]at h));refine ZG g3 g2 fT ek ?_;refine⟨ZT,fun H6 h6=>?_⟩;have kn:=kn.ax 0 rfl h6;refine Qi ?_;exact retf k _ _ ⟨_,by rw[k.aa];exact kn⟩ (by simp[Aj,a11,jS,k11]) rfl
  ·have dk:decide (k.op=11)=false:=decide_eq_false k11;simp only[go_sem,g3,d11,fT,ek,dk];refine⟨ZT,?_⟩;refine Qf (Qb rfl (fun h=>by simp[lk]at h) (fun _=>?_));refine Zc ?_
   exact stay _ (by simp[Aj,a11,jS,k11]) rfl rfl
 ·have d11:decide (a.op=11)=false:=decide_eq_false a11;refine Qa ?_;have ek:(Ql a.kids).getD 0 []=[]∨∃z r,(Ql a.kids).getD 0 []=.int .i64 z::r:=by
   cases h:a.kids with
   |nil=>left;rfl
   |cons k r=>right;exact⟨k.op,_,by simp only[Ql];exact k.aa⟩
  rcases ek with ek|⟨z,r,ek⟩
  all_goals
   simp only[go_sem,g3,d11,ek,Jaa,J7,Je,Jat];refine Qf (Qb rfl (fun h=>by simp[lk]at h) (fun _=>?_));refine Zc ?_
   exact stay _ (by simp[Aj,a1,a11]) rfl rfl
theorem Dp {e:Ex}{n:Int}(hK:K (.c (.bool (isN e n))) H):Qm prog CZ [.ag [.int .i64 e.op,.int .i64 e.n,.str e.name,.sl false 4 (Ql e.kids)],.c (.int .i64 n)] H K:=by
 have:=Yj hK
 rwa [e.aa]at this
theorem FW {e:Ex}{d:Int}(hs:e.size≤2^38)(hf:e.form d=true)(hK:K (.c (.bool e.safe)) H):Qm prog GE [.ag [.int .i64 e.op,.int .i64 e.n,.str e.name,.sl false 4 (Ql e.kids)]] H K:=by
 have:=Qbl4 e.size e d H K (Jl _) hs hf hK
 rwa [e.aa]at this
theorem Hv (z:Int):(Ah z).cells=[.int .i64 1,.int .i64 z,.str [],.sl false 4 []]:=by rw[Ex.aa];rfl
theorem XQ {op n:Int}{nm:List UInt8}{a b:Ex}(h1:a.op=1)(h2:b.op=1)(ha:byI a.n)(hb:byI b.n)(h3:3≤op)(bP:op≤10){f g:Bool}
  (hK:K (.tup [.c (.int .i64 (twI (arF op a.n b.n)).1),.c (.int .i64 (twI (arF op a.n b.n)).2)]) H):Qm prog EL [.ag [.int .i64 op,.int .i64 n,.str nm,.sl false 4 (Ql [a,b])],.c (.sl f 1 []),.c (.sl g 1 [])] H K:=by
 have:=Qbgm (n:=n) (nm:=nm) (f:=f) (g:=g) h1 h2 ha hb h3 bP hK
 rwa [show (Ex.mk op n nm [a,b]).cells=[.int .i64 op,.int .i64 n,.str nm,.sl false 4 (Ql [a,b])] from Ex.aa _]at this
theorem Qbgp {op n:Int}{nm:List UInt8}{a b:Ex}(h3:3≤op)(bP:op≤10)(dG:a.valid=true)(lt:b.valid=true)
  (hK:∀H',Upd H H' []→K (.ag (Aj op n nm [a,b]).cells) H'):Qm prog Hq [.ag (Ex.mk op n nm [a,b]).cells] H K:=by
 have jc:a.form 6=true:=Zbk
 have i4:b.form 6=true:=Zbl
 have jI:a.size≤2^38:=by simp only[Ex.valid,Jb,decide_eq_true_eq]at dG;omega
 have eG:b.size≤2^38:=by simp only[Ex.valid,Jb,decide_eq_true_eq]at lt;omega
 have n11:decide (op=11)=false:=decide_eq_false ZT;have i310:decide ((3:Int)≤op∧op≤10)=true:=decide_eq_true ⟨h3,bP⟩;have hl:(Ql [a,b]).length=2:=by rw[Qh];rfl
 have c21:decide (((2:Nat):Int)=1)=false:=rfl;have e0:(Ql [a,b]).getD 0 []=[.int .i64 a.op,.int .i64 a.n,.str a.name,.sl false 4 (Ql a.kids)]:=by simp only[Ql];exact a.aa
 have e1:(Ql [a,b]).getD 1 []=[.int .i64 b.op,.int .i64 b.n,.str b.name,.sl false 4 (Ql b.kids)]:=by simp only[Ql];exact b.aa
 refine Q1 ?_;refine Qc Aa F4 ?_;refine ZI ?_;intro x2 bB H1 h1;have kn:=(Kn.ao H).al bB h1;refine Qz (Qa ?_);simp only[go_sem,hl,c21];try intro _
 refine Qf (Qb rfl (fun h=>by simp[lk]at h) (fun _=>?_));refine Zc ?_
 refine Qz (Qa ?_);simp only[go_sem];refine C6 ?_;simp only[go_sem,Q47,i310];refine Qf (Qb rfl (fun h=>by simp[lk]at h) (fun _=>?_));refine Zc ?_
 refine Qa ?_;simp only[go_sem,hl,e0,Jc,Jf,Je,Jh,Jg,Jj];refine⟨ZT,fun x4 bW H2 h2=>?_⟩;have kn:=kn.al bW h2;have g4:=kn.l 1 rfl;simp only[go_sem,On,g4,Jc,Jf,Je,Jh,Jg,Jj];intro H3 pI;have kn:=kn.ax 1 rfl pI;refine Qa ?_;simp only[go_sem,hl,e1,Jc,Jf,Je,Jh,Jg,Jj];refine⟨ZT,fun x5 cp H4 h4=>?_⟩;have kn:=kn.al cp h4;have g5:=kn.l 2 rfl;simp only[go_sem,Om,g5,Jc,Jf,Je,Jh,Jg,Jj];intro H5 h5;have kn:Kn H H5 [] [(x2,.st z4),(x4,.st [.int .i64 a.op,.int .i64 a.n,.str a.name,.sl false 4 (Ql a.kids)]),(x5,.st [.int .i64 b.op,.int .i64 b.n,.str b.name,.sl false 4 (Ql b.kids)])]:=kn.ax 2 rfl h5;have g2:=kn.l 0 rfl;have g4:=kn.l 1 rfl;have g5:=kn.l 2 rfl;have retf:∀(x:Ex) (H6:Heap) (e:Env),(∃o3 o4,Kn H H6 [] [(x2,.st x.cells),(x4,o3),(x5,o4)])→Aj op n nm [a,b]=x→lk 2 e=.c (.ptr x2 0)→Qq Ag (unK H K) .ret e H6:=by
  rintro x H6 e ⟨o3,o4,kn⟩ hx l2;have g2:=kn.l 0 rfl;simp only[go_sem,Qq,Q0,Ja,forall_eq,RS.op,l2,g2,x.ae,x.bA,x.aU];exact⟨_,fzE x,by rw[←hx];exact hK _ kn.fin⟩
 have end35:∀e:Env,Aj op n nm [a,b]=.mk op n nm [a,b]→lk 1 e=.c (.pp [.int .i64 op,.int .i64 n,.str nm,.sl false 4 (Ql [a,b])])→lk 2 e=.c (.ptr x2 0)→Q6 prog GQ (Qq Ag (unK H K)) e H5:=by
  intro e he l1 l2;refine Zr l1 l2 g2 ?_;intro H6 h6;have kn:=kn.ax 0 rfl h6;refine Qi ?_;exact retf _ _ _ ⟨_,_,by rw[Ex.aa];exact kn⟩ he rfl
 have rest36:∀e:Env,Aj op n nm [a,b]=Aw op n nm a b→lk 1 e=.c (.pp [.int .i64 op,.int .i64 n,.str nm,.sl false 4 (Ql [a,b])])→lk 2 e=.c (.ptr x2 0)→lk 4 e=.c (.ptr x4 0)→lk 5 e=.c (.ptr x5 0)→Q6 prog ML (Qq Ag (unK H K)) e H5:=by
  intro e hF l1 l2 l4 l5;have o8:op=3∨op=4∨op=5∨op=6∨op=7∨op=8∨op=9∨op=10:=ZT
  have kD:¬(op=10∧isN a 0=true)→¬((isN b 0=true∧(op=3∨op=4))∨(isN b 1=true∧(op=5∨op=6)))→¬((isN a 0=true∧op=3)∨(isN a 1=true∧op=5))→Q6 prog MN (X.inBlock 0 (X.sq prog GQ (Qq Ag (unK H K)))) [(1,.c (.pp [.int .i64 op,.int .i64 n,.str nm,.sl false 4 (Ql [a,b])])),(2,.c (.ptr x2 0)),(4,.c (.ptr x4 0)),(5,.c (.ptr x5 0)),(110,.c (.bool false))] H5:=by
   intro q1 q2 q3;have pY:(op=5∧((isN b 0=true∧a.safe=true)∨(isN a 0=true∧b.safe=true)))→Aj op n nm [a,b]=Ah 0:=fun h=>by rw[hF,Aw,if_neg q1,if_neg q2,if_neg q3,if_pos h]
   have pN:¬(op=5∧((isN b 0=true∧a.safe=true)∨(isN a 0=true∧b.safe=true)))→Aj op n nm [a,b]=.mk op n nm [a,b]:=fun h=>by rw[hF,Aw,if_neg q1,if_neg q2,if_neg q3,if_neg h]
   refine Qb rfl (fun h=>by simp[lk]at h) (fun _=>?_);refine Qa ?_;by_cases o5:op=5
   rotate_left
   ·have d5:decide (op=5)=false:=decide_eq_false o5;simp only[go_sem,d5,Sn,HO,EP,Dz];refine Qb rfl (fun h=>by simp[lk]at h) (fun _=>?_);refine Zf ?_
    exact end35 _ (pN fun h=>o5 h.1) rfl rfl
   have d5:decide (op=5)=true:=decide_eq_true o5;simp only[go_sem,g5,d5];refine Dp ?_;cases zb0:isN b 0
   ·skip
    simp only[go_sem,Sn];simp only[go_sem,HO,g4];refine Dp ?_;cases za0:isN a 0
    ·skip
     simp only[go_sem,EP,Dz];refine Qb rfl (fun h=>by simp[lk]at h) (fun _=>?_);refine Zf ?_
     exact end35 _ (pN (by simp[za0,zb0])) rfl rfl
    ·skip
     simp only[go_sem,EP,g5];refine FW eG i4 ?_;cases sb:b.safe
     ·skip
      simp only[go_sem,Dz];refine Qb rfl (fun h=>by simp[lk]at h) (fun _=>?_);refine Zf ?_
      exact end35 _ (pN (by simp[sb,zb0])) rfl rfl
     ·skip
      simp only[go_sem,Dz];refine Qb rfl (fun _=>?_) (fun h=>by simp[lk]at h);refine Za ?_;refine De fun H6 hu=>?_;have kn:=kn.ay hu;have g2:=kn.l 0 rfl;simp only[go_sem,Sm,g2,Hv];intro H7 h7;have kn:=kn.ax 0 rfl h7;refine Qi ?_;exact retf (Ah 0) _ _ ⟨_,_,kn⟩ (pY ⟨o5,.inr ⟨za0,sb⟩⟩) rfl
   ·skip
    simp only[go_sem,Sn,g4];refine FW jI jc ?_;cases sa:a.safe
    ·skip
     simp only[go_sem,HO,g4];refine Dp ?_;cases za0:isN a 0
     ·skip
      simp only[go_sem,EP,Dz];refine Qb rfl (fun h=>by simp[lk]at h) (fun _=>?_);refine Zf ?_
      exact end35 _ (pN (by simp[za0,sa])) rfl rfl
     ·skip
      simp only[go_sem,EP,g5];refine FW eG i4 ?_;cases sb:b.safe
      ·skip
       simp only[go_sem,Dz];refine Qb rfl (fun h=>by simp[lk]at h) (fun _=>?_);refine Zf ?_
       exact end35 _ (pN (by simp[sb,sa])) rfl rfl
      ·skip
       simp only[go_sem,Dz];refine Qb rfl (fun _=>?_) (fun h=>by simp[lk]at h);refine Za ?_;refine De fun H6 hu=>?_;have kn:=kn.ay hu;have g2:=kn.l 0 rfl;simp only[go_sem,Sm,g2,Hv];intro H7 h7;have kn:=kn.ax 0 rfl h7;refine Qi ?_;exact retf (Ah 0) _ _ ⟨_,_,kn⟩ (pY ⟨o5,.inr ⟨za0,sb⟩⟩) rfl
    ·skip
     simp only[go_sem,HO,EP,Dz];refine Qb rfl (fun _=>?_) (fun h=>by simp[lk]at h);refine Za ?_;refine De fun H6 hu=>?_;have kn:=kn.ay hu;have g2:=kn.l 0 rfl;simp only[go_sem,Sm,g2,Hv];intro H7 h7;have kn:=kn.ax 0 rfl h7;refine Qi ?_;exact retf (Ah 0) _ _ ⟨_,_,kn⟩ (pY ⟨o5,.inl ⟨zb0,sa⟩⟩) rfl
  have kC:¬(op=10∧isN a 0=true)→¬((isN b 0=true∧(op=3∨op=4))∨(isN b 1=true∧(op=5∨op=6)))→Q6 prog Q46 (X.inBlock 0 (X.sq prog GQ (Qq Ag (unK H K)))) [(1,.c (.pp [.int .i64 op,.int .i64 n,.str nm,.sl false 4 (Ql [a,b])])),(2,.c (.ptr x2 0)),(4,.c (.ptr x4 0)),(5,.c (.ptr x5 0)),(84,.c (.bool false))] H5:=by
   intro q1 q2;have pY:((isN a 0=true∧op=3)∨(isN a 1=true∧op=5))→Aj op n nm [a,b]=b:=fun h=>by rw[hF,Aw,if_neg q1,if_neg q2,if_pos h]
   refine Qb rfl (fun h=>by simp[lk]at h) (fun _=>?_);refine Qz (Qa ?_);simp only[go_sem,g4];refine Dp ?_;by_cases y:isN a 0=true∧op=3
   ·have d3:decide (op=3)=true:=decide_eq_true y.2;simp only[go_sem,Tx,y.1,d3];refine Qf (Qb rfl (fun _=>?_) (fun h=>by simp[lk]at h));refine Zc ?_
    refine Qb rfl (fun _=>?_) (fun h=>by simp[lk]at h);refine Zi g2 g5 ?_;intro H6 h6;have kn:=kn.ax 0 rfl h6;refine Qi ?_;exact retf b _ _ ⟨_,_,by rw[b.aa];exact kn⟩ (pY (.inl y)) rfl
   cases za0:isN a 0 <;> cases d3:decide (op=3)
   all_goals
    first|(exfalso;exact y ⟨za0,of_decide_eq_true d3⟩)|skip
   all_goals
    simp only[go_sem,Tx,d3];refine Qf (Qb rfl (fun h=>by simp[lk]at h) (fun _=>?_));refine ZB g4 ?_;refine Dp ?_;cases za1:isN a 1 <;> cases d5:decide (op=5)
    all_goals simp only[go_sem,Oi,d5]
    ·exact kD q1 q2 fun h=>h.elim y fun h2=>by rw[za1]at h2;cases h2.1
    ·exact kD q1 q2 fun h=>h.elim y fun h2=>by rw[za1]at h2;cases h2.1
    ·exact kD q1 q2 fun h=>h.elim y fun h2=>of_decide_eq_false d5 h2.2
    ·refine Qb rfl (fun _=>?_) (fun h=>by simp[lk]at h);refine Zi g2 g5 ?_;intro H6 h6;have kn:=kn.ax 0 rfl h6;refine Qi ?_;exact retf b _ _ ⟨_,_,by rw[b.aa];exact kn⟩ (pY (.inr ⟨za1,of_decide_eq_true d5⟩)) rfl
  have kB:¬(op=10∧isN a 0=true)→Q6 prog MM (X.inBlock 0 (X.sq prog GQ (Qq Ag (unK H K)))) [(1,.c (.pp [.int .i64 op,.int .i64 n,.str nm,.sl false 4 (Ql [a,b])])),(2,.c (.ptr x2 0)),(4,.c (.ptr x4 0)),(5,.c (.ptr x5 0)),(75,.c (.bool false))] H5:=by
   intro q1;have pY:((isN b 0=true∧(op=3∨op=4))∨(isN b 1=true∧(op=5∨op=6)))→Aj op n nm [a,b]=a:=fun h=>by rw[hF,Aw,if_neg q1,if_pos h]
   refine Qb rfl (fun h=>by simp[lk]at h) (fun _=>?_);refine Qz (Qa ?_);simp only[go_sem,g5];refine Dp ?_;have giveA:∀(v:Bool),v=true→Aj op n nm [a,b]=a→Q6 prog Q46 (X.inBlock 0 (X.sq prog GQ (Qq Ag (unK H K)))) [(1,.c (.pp [.int .i64 op,.int .i64 n,.str nm,.sl false 4 (Ql [a,b])])),(2,.c (.ptr x2 0)),(4,.c (.ptr x4 0)),(5,.c (.ptr x5 0)),(84,.c (.bool v))] H5:=by
    intro v hv hx;subst hv;refine Qb rfl (fun _=>?_) (fun h=>by simp[lk]at h);refine Zi g2 g4 ?_;intro H6 h6;have kn:=kn.ax 0 rfl h6;refine Qi ?_;exact retf a _ _ ⟨_,_,by rw[a.aa];exact kn⟩ (hx) rfl
   by_cases y:isN b 0=true∧(op=3∨op=4)
   ·have hz:=y.1;cases d3:decide (op=3) <;> cases d4:decide (op=4)
    all_goals
     first|(exfalso;exact y.2.elim (of_decide_eq_false d3) (of_decide_eq_false d4))|skip
    all_goals
     simp only[go_sem,Tz,hz,d3,d4];refine Qf (Qb rfl (fun _=>?_) (fun h=>by simp[lk]at h));refine Zc ?_
     exact giveA _ rfl (pY (.inl y))
   cases zb0:isN b 0 <;> cases d3:decide (op=3) <;> cases d4:decide (op=4)
   all_goals
    first|(exfalso;exact y ⟨zb0,.inl (of_decide_eq_true d3)⟩)|(exfalso;exact y ⟨zb0,.inr (of_decide_eq_true d4)⟩)|skip
   all_goals
    simp only[go_sem,Tz,d3,d4];refine Qf (Qb rfl (fun h=>by simp[lk]at h) (fun _=>?_));refine ZB g5 ?_;refine Dp ?_;by_cases y2:isN b 1=true∧(op=5∨op=6)
    ·have hz:=y2.1;cases d5:decide (op=5) <;> cases d6:decide (op=6)
     all_goals
      first|(exfalso;exact y2.2.elim (of_decide_eq_false d5) (of_decide_eq_false d6))|skip
     all_goals
      simp only[go_sem,Ty,hz,d5,d6];exact giveA _ rfl (pY (.inr y2))
    cases zb1:isN b 1 <;> cases d5:decide (op=5) <;> cases d6:decide (op=6)
    all_goals
     first|(exfalso;exact y2 ⟨zb1,.inl (of_decide_eq_true d5)⟩)|(exfalso;exact y2 ⟨zb1,.inr (of_decide_eq_true d6)⟩)|skip
    all_goals
     simp only[go_sem,Ty,d5,d6];exact kC q1 (fun h=>h.elim y y2)
  refine Qf (Qg ?_);refine Qa ?_;cases d10:decide (op=10)
  ·skip
   simp only[go_sem,l1,l2,l4,l5,d10,So];exact kB fun h=>of_decide_eq_false d10 h.1
  ·skip
   simp only[go_sem,l1,l2,l4,l5,g4,d10];refine Dp ?_;cases za0:isN a 0
   ·skip
    simp only[go_sem,l1,l2,l4,l5,So];exact kB fun h=>by rw[za0]at h;cases h.2
   ·skip
    simp only[go_sem,l1,l2,l4,l5,So];refine Qb rfl (fun _=>?_) (fun h=>by simp[lk]at h);refine Za ?_;refine De fun H6 hu=>?_;have kn:=kn.ay hu;have g2:=kn.l 0 rfl;simp only[go_sem,Oj,g2,Hv];intro H7 h7;have kn:=kn.ax 0 rfl h7;refine Qi ?_;exact retf (Ah 0) _ _ ⟨_,_,kn⟩ (by rw[hF,Aw,if_pos ⟨of_decide_eq_true d10,za0⟩]) rfl
 refine Qz (Qa ?_);by_cases cK:a.op=1∧b.op=1
 ·have a1:decide (a.op=1)=true:=decide_eq_true cK.1;have b1:decide (b.op=1)=true:=decide_eq_true cK.2;simp only[go_sem,g4,g5,a1,b1];refine Qf (Qb rfl (fun _=>?_) (fun h=>by simp[lk]at h));refine Zi g4 g5 ?_;refine XQ cK.1 cK.2 (C5 jc cK.1).2 (C5 i4 cK.2).2 h3 bP ?_;simp only[go_sem,Ol,Jd,Jt];refine Za ?_
  cases hr:arF op a.n b.n with
  |some z=>
   simp only[twI];refine Qb rfl (fun _=>?_) (fun h=>by simp[lk]at h);refine Za ?_;refine De fun H6 hu=>?_;have kn:=kn.ay hu;have g2:=kn.l 0 rfl;simp only[go_sem,Ok,g2,Hv];intro H7 h7;have kn:=kn.ax 0 rfl h7;refine Qi ?_;exact retf (Ah z) _ _ ⟨_,_,kn⟩ ZbJ rfl
  |none=>
   simp only[twI];refine Qb rfl (fun h=>by simp[lk]at h) (fun _=>?_);refine Zc ?_
   exact rest36 _ ZbJ rfl rfl rfl rfl
 ·have hF:Aj op n nm [a,b]=Aw op n nm a b:=Za2
  cases a1:decide (a.op=1) <;> cases b1:decide (b.op=1)
  all_goals
   first
   |(exfalso;exact cK ⟨of_decide_eq_true a1,of_decide_eq_true b1⟩)
   |skip
  all_goals
   simp only[go_sem,g4,g5,a1,b1];refine Qf (Qb rfl (fun h=>by simp[lk]at h) (fun _=>?_));refine Zc ?_
   exact rest36 _ hF rfl rfl rfl rfl
end Go.AE.Y
namespace Go.AE
variable {P:Program}{H H':Heap}
theorem Qber {f:Nat}{args args':List V}{K:V→Heap→Prop}(S:Nat→Bool)(jo:args'.length=args.length)
  (ha:∀(j:Nat) (x y:V),args[j]? = some x→args'[j]? = some y→FrzV H S x y) (h:Qm P f args' (H.frz S) K):Qm P f args H K:=by
 refine⟨h.1,fun g w vs hs hl hv=>?_⟩;have gV:=C3 hs S;have lw:∀(j:Nat) (x:V) (u:Value),args'[j]? = some x→vs[j]? = some u→RepV w (g.frz H S) x u:=fun j y u h1 h2=>by
  obtain⟨x,hx⟩:=AG jo h1;exact EI hs (ha j x y hx h1) u (hv j x u hx h2)
 refine Calls.mono (h.2 (g.frz H S) w vs gV.sat (by rw[jo];exact hl) lw) ?_;rintro e w' (⟨v,x,H',g',he,hx,aC,hr⟩|⟨v,H',g',he,hx,aC⟩)
 ·exact .inl ⟨v,x,H',g',he,hx,gV.trans aC,hr⟩
 ·exact .inr ⟨v,H',g',he,hx,gV.trans aC⟩
end Go.AE
namespace Go.AE.Y
attribute [local go_sem] cond_true cond_false Bool.not_true Bool.not_false
open Go.Proofs.Tryz
variable {H H' H0:Heap}{K:V→Heap→Prop}
theorem Qbl2 {op n:Int}{nm:List UInt8}{kids:List Ex}(hv:(Ex.mk op n nm kids).valid=true)
  (hK:∀H',Upd H H' []→K (.ag (Aj op n nm kids).cells) H'):Qm prog Hq [.ag (Ex.mk op n nm kids).cells] H K:=by
 have hf:(Ex.mk op n nm kids).form 6=true:=Zbm
 have aZ:=Dv hf;have oT:∀y∈kids,y.valid=true:=fun y hy=>Ti hv hy;by_cases cM:op=11
 ·subst cM;have hl:=aZ.2.2.2.1 (.inl rfl)
  match kids,hl with
  |[a],_=>exact Qbgq hf hK
 by_cases hq:3≤op∧op≤10
 ·have hl:=aZ.2.2.1 hq.1 hq.2
  match kids,hl with
  |[a,b],_=>exact Qbgp hq.1 hq.2 (oT a ZV) (oT b ZV) hK
 ·have e:Aj op n nm kids=.mk op n nm kids:=by
   unfold Aj;split
   ·rw[if_neg cM]
   ·rw[if_neg hq]
   ·rfl
  rw[e]at hK;exact Qbgo hq cM hK
theorem Qbl1:∀(n:Nat) (x:Ex) {H:Heap} {K:V→Heap→Prop},x.size≤n→x.valid=true→(∀H',Upd H H' []→K (.ag x.fold.cells) H')→Qm prog KF [.ag x.cells] H K:=by
 intro n
 induction n with
 |zero=>intro x H K h;have:=x.size_pos;omega
 |succ n ih=>
 intro x H K hn hv hK;have aO:=x.size_kids;refine Q1 ?_;refine Qc Aa Qbmj ?_;refine Zu ?_;intro x1 dD H1 h1;have kn:=(Kn.ao H).al dD h1;simp only[go_sem,E5];intro x2 bB H2 h2;have kn:Kn H H2 [] ([(x1,.st [.int .i64 x.op,.int .i64 x.n,.str x.name,.sl false 4 (Ql x.kids)]),(x2,.st z4)]++[]):=kn.al bB h2;refine Za ?_;refine Qz (Qa ?_);simp only[go_sem];refine Qf (Qg (Q3 (fun m e1 H1=>∃(i:Nat) (t:C) (Lg:List (Nat×Obj)),m=x.kids.length-i∧i≤x.kids.length∧Gr Lg 4 (Ql ((x.kids.take i).map Ex.fold)) t∧
  Kn H H1 [] ([(x1,.st [.int .i64 x.op,.int .i64 x.n,.str x.name,.sl false 4 (Ql x.kids)]),(x2,.st z4)]++Lg)∧e1=[(1,.c (.ptr x1 0)),(2,.c (.ptr x2 0)),(3,.c t),(4,.c (.int .i64 i))]) x.kids.length ?_ ?_))
 ·exact⟨0,_,[],ZT,ZT,.nil 4,kn,rfl⟩
 ·clear kn h1 h2;rintro m e1 H1 ⟨i,t,Lg,hm,hi,b9,kn,rfl⟩;have aq:=b9.ah;have g1:=kn.l 0 rfl;refine Qz (Qa ?_);simp only[go_sem,g1,aq,Qh];intro hl;simp only[LIM]at hl;refine Qf (Qb rfl ?_ ?_)
  ·intro hc;have af:i<x.kids.length:=ZU
   obtain⟨y,hy⟩:∃y,x.kids[i]=y:=⟨_,rfl⟩;have ir:y∈x.kids:=by rw[←hy];exact Jp af
   have dc:=Bn ir;have aY:Ql ((x.kids.take (i+1)).map Ex.fold)=Ql ((x.kids.take i).map Ex.fold)++[y.fold.cells]:=by
    rw[Dm,Jq af,hy];simp
   refine Zc ?_
   refine Qf (Qg ?_);refine Qr ?_;simp only[go_sem,g1,aq,af,Qh,Qs _ _ af,hy,Ex.bA,Ex.aU,Ex.ae];refine ih y ZT (Ti hv ir) fun H2 hu=>?_;have kn:=kn.ay hu;have g1:=kn.l 0 rfl;simp only[go_sem,DS,aq,Ex.ae];refine kn.aQ b9 (new:=[y.fold.cells]) (.mk' _ true 4 _) (by simpa using y.fold.ai) Zbq fun t2 Lg2 H6 bS aW kn=>?_;simp only[go_sem,FH,aW];try simp only[AE.X.next]
   refine Zl aW ?_;exact⟨Qv,x.kids.length-(i+1),ZT,i+1,t2,Lg2,rfl,ZT,by rw[aY];exact bS,kn,rfl⟩
  ·intro hc;have aV:x.kids.length≤i:=ZU
   rw[Ji aV]at b9;refine Zg ?_;have g1:=kn.l 0 rfl;refine Zi g1 aq ?_;intro H2 h2;have kn:Kn H H2 [] ([(x1,.st [.int .i64 x.op,.int .i64 x.n,.str x.name,t]),(x2,.st z4)]++Lg):=kn.ax 0 rfl h2;have g1:=kn.l 0 rfl;have f1:FrzC H2 (fun m=>(Lg.map Prod.fst).contains m) t (.sl false 4 (Ql (x.kids.map Ex.fold))):=Gr.frzm b9 (fun p hp=>⟨(kn.get p Zap).1,DR hp⟩) (FrzR.same (Bb _));refine Zi g1 aq ?_;refine Qber (args':=[.ag (Ex.mk x.op x.n x.name (x.kids.map Ex.fold)).cells]) _ rfl (Cu (by
    rw[Ex.aa];exact (FrzL.cons (Qe rfl) (.cons (Qe rfl) (.cons (Qe rfl) (.cons f1 .nil)))).ag)) ?_
   refine Qbl2 (Q60 hv) fun H3 hu=>?_;have e:Aj x.op x.n x.name (x.kids.map Ex.fold)=x.fold:=by rw[x.fold_eq,Dx]
   rw[e];have kn:=kn.frzN.ay hu;have g2:=kn.l 1 rfl;simp only[go_sem,MO,g2,Ex.bA,Ex.aU,Ex.ae,J6,Jk];intro H4 h4;have kn:Kn H H4 [] [(x1,.st [.int .i64 x.op,.int .i64 x.n,.str x.name,t]),(x2,.st x.fold.cells)]:=kn.ax 1 rfl h4;have g2:=kn.l 1 rfl;refine Qi ?_;simp only[go_sem,Qq,Q0,Ja,forall_eq,RS.op,g2,Ex.bA,Ex.aU,Ex.ae];exact⟨_,fzE _,hK _ kn.fin⟩
theorem PL (x:St):x.foldS=.mk x.op x.name (x.args.map Ex.fold) (At x.body) (At x.els):=by cases x;simp only[St.foldS,St.op,St.name,St.args,St.body,St.els,Dx]
theorem Qbgn:∀(n:Nat) (l:List St) {fl:Bool} {d:Int} {H:Heap} {K:V→Heap→Prop},Qj l≤n→Qx l d=true→(∀H',Upd H H' []→K (.c (.sl false 5 (Qk (At l)))) H')→Qm prog LO [.c (.sl fl 5 (Qk l))] H K:=by
 intro n
 induction n using Nat.strongRecOn with
 |_ n ih=>
 intro l fl d H K hn hf hK;have od:=BM l;refine Q1 ?_;refine Qc Aa Qbg8 ?_;refine Za ?_;refine Za ?_;refine Qz (Qa ?_);simp only[go_sem];refine Qf (Qg (Q3 (fun m e1 H1=>∃(i:Nat) (os:List OSt) (Lz:List (Nat×Obj)) (t:C),m=l.length-i∧i≤l.length∧os.map OSt.x=(l.take i).map St.foldS∧(∀o∈os,o.ok)∧Gr Lz 5 (os.map OSt.row) t∧Kn H H1 [] (os.flatMap OSt.al++Lz)∧
  e1=[(0,.c (.sl fl 5 (Qk l))),(3,.c t),(4,.c (.int .i64 i))]) l.length ?_ ?_))
 ·exact⟨0,[],[],.sl true 5 [],ZT,ZT,ZV,ZV,.nil 5,Kn.ao H,rfl⟩
 ·rintro m e1 H1 ⟨i,os,Lz,t,hm,hi,jK,ho,hz,kn,rfl⟩;have aq:=hz.ah;refine Qz (Qa ?_);simp only[go_sem,Qp,aq];intro hl;simp only[LIM]at hl;refine Qf (Qb rfl ?_ ?_)
  ·intro hc;have af:i<l.length:=ZU
   have dc:=Bw (Jp af);obtain⟨x,hx⟩:∃x,l[i]=x:=⟨_,rfl⟩;have iz:x∈l:=ZaF
   rw[hx]at dc;have gW:=x.size_eq;obtain⟨dG,i4,da⟩:=Dc (Jx.1 Zb5 x iz);have pU:os.length=i:=by
    have:=congrArg List.length jK;rw[Jr,Jr,Jaj]at this;omega
   refine Zc ?_
   refine Qf (Qg ?_);refine ZF aq af hx ?_;intro x5 cp H3 h3;have kn:Kn H H3 [] ((os.flatMap OSt.al++Lz)++(x5,.st [.int .i64 0,.str [],.sl true 4 [],.sl true 5 [],.sl true 5 []])::[]):=kn.al cp h3;have g5:=kn.getM;simp only[go_sem,Eh,g5,aq];intro H4 h4;have kn:Kn H H4 [] ((os.flatMap OSt.al++Lz)++(x5,stX x.op x.name (.sl false 4 (Ql x.args)) (.sl false 5 (Qk x.body)) (.sl false 5 (Qk x.els)))::[]):=kn.stM h4;refine Zd aq ?_;refine Qz (Qa ?_);simp only[go_sem,aq];refine Qf (Qg (Q3 (fun m2 e2 H5=>∃(j:Nat) (La:List (Nat×Obj)) (ta:C),m2=x.args.length-j∧j≤x.args.length∧Gr La 4 (Ql ((x.args.take j).map Ex.fold)) ta∧Kn H H5 [] ((os.flatMap OSt.al++Lz)++(x5,stX x.op x.name (.sl false 4 (Ql x.args)) (.sl false 5 (Qk x.body)) (.sl false 5 (Qk x.els)))::La)∧
    e2=[(0,.c (.sl fl 5 (Qk l))),(3,.c t),(4,.c (.int .i64 i)),(5,.c (.ptr x5 0)),(6,.c ta),(7,.c (.int .i64 j))]) x.args.length ?_ ?_))
   ·exact⟨0,[],.sl true 4 [],ZT,ZT,.nil 4,kn,rfl⟩
   ·clear kn g5 h4 h3;rintro m2 e2 H5 ⟨j,La,ta,aZ,hj,jr,kn,rfl⟩;have dx:=jr.ah;have g5:=kn.getM;refine Qz (Qa ?_);simp only[go_sem,aq,dx,g5,Qh];intro eW;simp only[LIM]at eW;refine Qf (Qb rfl ?_ ?_)
    ·intro au;have aD:j<x.args.length:=ZZ;obtain⟨y,hy⟩:∃y,x.args[j]=y:=⟨_,rfl⟩;have ir:y∈x.args:=(by rw[←hy];exact Jp aD);have aY:Ql ((x.args.take (j+1)).map Ex.fold)=Ql ((x.args.take j).map Ex.fold)++[y.fold.cells]:=by
      rw[Dm,Jq aD,hy];simp
     refine Zc ?_
     refine Qf (Qg ?_);refine Qr ?_;simp only[go_sem,aq,dx,g5,aD,Qh,Qs _ _ aD,hy,Ex.bA,Ex.aU,Ex.ae];refine Qbl1 y.size y (Jl _) (dG y ir) fun H6 hu=>?_;have kn:=kn.ay hu;simp only[go_sem,Ef,aq,dx,Ex.ae];have kn:Kn H H6 [] (((os.flatMap OSt.al++Lz)++[(x5,stX x.op x.name (.sl false 4 (Ql x.args)) (.sl false 5 (Qk x.body)) (.sl false 5 (Qk x.els)))])++La):=(by rw[Jm _ [_]];exact kn);refine kn.aQ jr (new:=[y.fold.cells]) (.mk' _ true 4 _) (by simpa using y.fold.ai) Zbq fun ta' La' H7 ie ip kn=>?_;rw[←aY]at ie;simp only[go_sem,FY,aq,ip];refine Qr ?_;simp only[go_sem,AE.X.next,aq,ip];refine⟨Qv,x.args.length-(j+1),ZT,j+1,La',ta',rfl,ZT,ie,?_,rfl⟩;rw[Jm _ [_]]at kn;exact kn
    ·intro au;have jV:x.args.length≤j:=ZZ;rw[Ji jV]at jr;refine Zg ?_;refine Zr aq dx g5 ?_;intro H6 h6;have kn:Kn H H6 [] ((os.flatMap OSt.al++Lz)++(x5,stX x.op x.name ta (.sl false 5 (Qk x.body)) (.sl false 5 (Qk x.els)))::La):=kn.stM h6;have g5:=kn.getM;refine Zr aq dx g5 ?_;refine ih (Qj x.body) ZT x.body (Jl _) i4 fun H6 hu=>?_;have kn:=kn.ay hu;have g5:=kn.getM;simp only[go_sem,Ot,aq,dx,g5];intro H7 h7;have kn:Kn H H7 [] ((os.flatMap OSt.al++Lz)++(x5,stX x.op x.name ta (.sl false 5 (Qk (At x.body))) (.sl false 5 (Qk x.els)))::La):=kn.stM h7;have g5:=kn.getM;refine Zr aq dx g5 ?_;refine ih (Qj x.els) ZT x.els (Jl _) da fun H7 hu=>?_;have kn:=kn.ay hu;have g5:=kn.getM;simp only[go_sem,Oq,aq,dx,g5];intro H8 h8;have kn:Kn H H8 [] ((os.flatMap OSt.al++Lz)++(x5,stX x.op x.name ta (.sl false 5 (Qk (At x.body))) (.sl false 5 (Qk (At x.els))))::La):=kn.stM h8;have g5:=kn.getM;refine Qr ?_;simp only[go_sem,aq,dx,g5];have kn:Kn H H8 [] ((os.flatMap OSt.al++(x5,stX x.op x.name ta (.sl false 5 (Qk (At x.body))) (.sl false 5 (Qk (At x.els))))::La)++Lz):=kn.perm (by
      rw[Jm,Jm];exact Jak _ J1)
     have bf:OSt.ok ⟨x.foldS,ta,La⟩:=(by rw[OSt.ok,PL];exact jr);have di:OSt.row ⟨x.foldS,ta,La⟩=[.int .i64 x.op,.str x.name,ta,.sl false 5 (Qk (At x.body)),.sl false 5 (Qk (At x.els))]:=(by rw[PL];rfl);rw[←di];refine kn.aQ hz (new:=[OSt.row ⟨x.foldS,ta,La⟩]) (.mk' _ true 5 _) (by simpa using OSt.ai bf) (by simp only[Jr,Jc,Jf,LIM];omega) fun t' Lz' H8 bF aR kn=>?_;have kn:Kn H H8 [] ((os++[(⟨x.foldS,ta,La⟩:OSt)]).flatMap OSt.al++Lz'):=by
      refine kn.sub ?_;rw[List.flatMap_append,List.flatMap_cons,List.flatMap_nil,Jk];exact List.Sublist.append (List.Sublist.append (List.Sublist.refl _) (List.sublist_cons_self _ _)) (List.Sublist.refl _)
     simp only[go_sem,Oo,aR];try simp only[AE.X.next]
     refine Zl aR ?_;refine⟨Qv,l.length-(i+1),ZT,i+1,os++[(⟨x.foldS,ta,La⟩:OSt)],Lz',t',rfl,ZT,?_,?_,?_,kn,rfl⟩
     ·rw[Jan,jK,Jq af,hx];simp
     ·intro o cn;rcases Ju.1 cn with cn|cn
      ·exact ho o cn
      ·simp only[Ja]at cn;subst cn;exact bf
     ·rw[Jan];exact bF
  ·intro hc;have aV:l.length≤i:=ZU
   rw[Ji aV]at jK;refine Zg ?_;refine Zd aq ?_;refine Zq aq ?_;have fQ:=F3 (H:=H1) (S:=un H) ho hz fun p hp=>⟨(kn.get p Zat).1,BP (kn.loc p hp)⟩;rw[jK]at fQ;exact⟨_,.c _ _ fQ,by rw[←Sc];exact hK _ kn.fin⟩
end Go.AE.Y
