/- Part 5 of the proof: the engine, codes, walks and plain laws, each named where it stands. -/
import Derived.Test.YthnafimjdcihlaaGreatDoorZD
open Nat (reduceEqDiff reduceAdd reduceLeDiff reduceLT)
set_option linter.unusedVariables false
set_option linter.unusedSimpArgs false
set_option maxRecDepth 4000
set_option maxHeartbeats 4000000
open Bool renaming and_eq_true->Jj,not_false->Jav
open Int renaming le_refl->Jal
open List renaming mem_singleton->Ja,getElem_mem->Jb,getD_eq_getElem?_getD->Jd,take_succ_eq_append_getElem->Je,append_assoc->Jf,take_of_length_le->Jg,perm_append_comm->Jh,length_map->Ji,mem_cons_of_mem->Jk,getD_cons_zero->Jm,mem_append->Jn,append_nil->Jo,length_cons->Jp,cons_append->Jq,length_nil->Jr,nil_append->Js,take_zero->Jt,mem_map->Ju,getD_cons_succ->Jv,flatMap_cons->Jw,flatMap_append->Jx,mem_cons_self->Jy,set_cons_zero->Jz,take_append_drop->J0,map_append->J2,map_cons->J3,mem_cons->J4,length_set->J5,map_set->J6,mem_append_right->J7,mem_append_left->J8,set_set->J9,all_eq_true->Jaa,length_take->Jab,set_cons_succ->Jac,drop_eq_getElem_cons->Jad,mem_or_eq_of_mem_set->Jae,length_eq_zero_iff->Jag,mem_iff_getElem->Jaj,getElem_of_mem->Jam,replicate_succ->Jan,getElem?_map->Jao,nodup_append->Jap,mem_flatMap->Jaq,not_mem_nil->Jar,sum_append->Jau,all_cons->Jaw,all_nil->Jay
open List.cons renaming injEq->Jat
open Nat renaming le_refl->Jc,zero_add->Jl,le_trans->J1,le_succ->Jah,min_eq_left->Jai,mul_le_mul_right->Jak,add_assoc->Jax,add_zero->Jaz,zero_le->Ja0
open Option renaming isSome_iff_exists->Jaf,getD_some->Jas
namespace Go.AE.Y
theorem IF (w:Lv)(d:Int)(fi:List UInt8→Int)(op:Int)(name:List UInt8)(args:List Ex) :
  (w.one d fi op name args).v=(if op=1 then A9 w.v name w.next else w.v)∧(w.one d fi op name args).next=w.next+if op=1 then 1 else 0:=by
 unfold Lv.one;by_cases h1:op=1
 ·simp only[h1,if_true];exact⟨trivial,trivial⟩
 ·simp only[h1,if_false];split
  ·exact⟨rfl,rfl⟩
  ·split
   ·exact⟨rfl,rfl⟩
   ·split
    ·exact⟨rfl,rfl⟩
    ·split <;> exact⟨rfl,rfl⟩
theorem St.low_v (d:Int)(fi:List UInt8→Int)(x:St)(w:Lv):(x.low d fi w).v=if x.op=1 then A9 w.v x.name w.next else w.v:=by
 cases x with
 |mk op name args body els=>
  simp only[St.low,St.op,St.name];by_cases h6:op=6
  ·simp only[h6,if_true];rfl
  ·simp only[h6,if_false];by_cases h5:op=5
   ·simp only[h5,if_true];rfl
   ·simp only[h5,if_false];exact (IF w d fi op name args).1
theorem O7 {op:Int}{name:List UInt8}{args:List Ex}{body els:List St}{dp:Int}(h:(St.mk op name args body els).form dp=true) :
  AD body (dp-1)=true∧AD els (dp-1)=true∧(op≠5→els=[])∧(op≠5→op≠6→body=[])∧args.length=argN op∧(∀a∈args,a.valid=true)∧(1≤op∧op≤8):=by
 simp only[St.form,Jj,BX,decide_eq_true_eq,Bool.or_eq_true,Jaa]at h;obtain⟨⟨⟨_,⟨⟨⟨⟨⟨⟨h1,h2⟩,_⟩,_⟩,h3⟩,_⟩,h4⟩,h5⟩,h6⟩,h7⟩:=h;refine⟨h6,h7,fun h=>Jag.1 (by omega),fun h h'=>Jag.1 (by omega),h2,h3,h1⟩
mutual
theorem St.low_n {d:Int}{fi:List UInt8→Int}:∀(x:St) (dp:Int) (w:Lv),x.form dp=true→(x.low d fi w).next=w.next+x.lets
 |.mk op name args body els,dp,w,hf=>by
  obtain⟨f1,f2,f3,f4,_⟩:=O7 hf;simp only[St.low,St.lets];by_cases h6:op=6
  ·subst h6;have:=f3 (by decide);subst this;simp only[if_true,An];rw[D8 body _ _ f1];simp
  ·simp only[h6,if_false];by_cases h5:op=5
   ·subst h5;simp only[if_true];rw[D8 els _ _ f2];simp only[];rw[D8 body _ _ f1];simp;omega
   ·simp only[h5,if_false];have e1:=f3 h5;have e2:=f4 h5 h6;subst e1;subst e2;simp only[An];exact (IF w d fi op name args).2
theorem D8 {d:Int}{fi:List UInt8→Int}:∀(l:List St) (dp:Int) (w:Lv),AD l dp=true→(Q9 d fi l w).next=w.next+An l
 |[],dp,w,_=>by simp[Q9,An]
 |x::r,dp,w,hf=>by
  simp only[AD,Jj]at hf;simp only[Q9,An];rw[D8 r dp _ hf.2,St.low_n x dp w hf.1];omega
end
theorem Qb1z {fns:List Fn}{k:Nat}{op:Int}{name:List UInt8}{args:List Ex}{v:Vars}{n:Nat}(h:(stC fns k op name args ⟨v,0,n⟩).c=0) :
  AllV v (Ap args)∧(op=2→(v.find name).isSome=true)∧stC fns k op name args ⟨v,0,n⟩=⟨if op=1 then A9 v name n else v,0,n+if op=1 then 1 else 0⟩:=by
 have h2:A5 fns k v (Ap args) 0=0:=by
  unfold stC at h;simp only at h;split at h
  ·exact (fst0_zero.1 h).1
  ·split at h
   ·exact (fst0_zero.1 h).1
   ·exact h
 obtain⟨_,h4⟩:=partsC_zero.1 h2;refine⟨fun e he ho=>?_,fun ho=>?_,?_⟩
 ·have:=h4 e he;rw[AT,if_pos ho]at this
  cases hs:(v.find e.name).isSome with
  |true=>rfl
  |false=>rw[hs]at this;simp at this
 ·unfold stC at h;simp only[ho]at h;have:=(fst0_zero.1 h).2
  cases hs:(v.find name).isSome with
  |true=>rfl
  |false=>rw[hs]at this;simp at this
 ·unfold stC at h⊢;simp only at h⊢;by_cases h1:op=1
  ·simp only[h1,if_true]at h⊢;rw[h]
  ·simp only[h1,if_false]at h⊢;by_cases h3:op=2
   ·simp only[h3,if_true]at h⊢;rw[h];rfl
   ·simp only[h3,if_false]at h⊢;rw[h];rfl
theorem VOk.st {v:Vars}{n:Nat}(h:VOk v n)(op:Int)(name:List UInt8):VOk (if op=1 then A9 v name n else v) (n+if op=1 then 1 else 0):=by
 by_cases h1:op=1
 ·simp only[h1,if_true];exact h.put name
 ·simp only[h1,if_false];exact h
theorem KJ {fns:List Fn}{k:Nat}{op:Int}{name:List UInt8}{args:List Ex}{body els:List St}{v:Vars}{n:Nat}(h:((St.mk op name args body els).ck fns k ⟨v,0,n⟩).c=0) :
  AllV v (Ap args)∧(op=2→(v.find name).isSome=true)∧
  (Ai fns k body ⟨[]::(if op=1 then A9 v name n else v),0,n+if op=1 then 1 else 0⟩).c=0∧
  (Ai fns k els ⟨[]::(if op=1 then A9 v name n else v),0,(n+if op=1 then 1 else 0)+An body⟩).c=0∧
  (St.mk op name args body els).ck fns k ⟨v,0,n⟩=⟨if op=1 then A9 v name n else v,0,n+(St.mk op name args body els).lets⟩:=by
 have hn:=St.ck_nr fns k (.mk op name args body els) ⟨v,0,n⟩;have hc:=h;simp only[St.ck]at h;have h1:=(DV els h).1;simp only at h1;have h2:=(DV body h1).1;simp only at h2;obtain⟨a1,a2,a3⟩:=Qb1z h2;rw[a3]at h h1;simp only at h h1;have gn:=Ew fns k body ⟨[]::(if op=1 then A9 v name n else v),0,n+if op=1 then 1 else 0⟩;simp only at gn;rw[h1,gn]at h;refine⟨a1,a2,h1,h,?_⟩;have hv:((St.mk op name args body els).ck fns k ⟨v,0,n⟩).v=if op=1 then A9 v name n else v:=by
  simp only[St.ck];rw[a3]
 generalize (St.mk op name args body els).ck fns k ⟨v,0,n⟩=R at *;obtain⟨rv,rc,rn⟩:=R;simp only at hv hc hn;rw[hv,hc,hn]
theorem VN {fns:List Fn}{k:Nat}{x:St}{r:List St}{v:Vars}{n:Nat}(h:(Ai fns k (x::r) ⟨v,0,n⟩).c=0) :
  (x.ck fns k ⟨v,0,n⟩).c=0∧(Ai fns k r ⟨if x.op=1 then A9 v x.name n else v,0,n+x.lets⟩).c=0:=by
 simp only[Ai]at h;have h1:=(DV r h).1;refine⟨h1,?_⟩
 cases x with
 |mk op name args body els=>
  rw[(KJ h1).2.2.2.2]at h;exact h
def parW (ps:List (List UInt8))(v:Vars)(n:Nat):Vars×Nat:=ps.foldl (fun s p=>(A9 s.1 p s.2,s.2+1)) (v,n)
theorem IX:∀(ps:List (List UInt8)) (v:Vars) (n:Nat),VOk v n→VOk (parW ps v n).1 (parW ps v n).2∧(parW ps v n).2=n+ps.length
 |[],v,n,h=>⟨h,rfl⟩
 |p::r,v,n,h=>by
  obtain⟨h1,h2⟩:=IX r _ _ (h.put p);refine⟨h1,?_⟩;have:parW (p::r) v n=parW r (A9 v p n) (n+1):=rfl;rw[this,h2,Jp];omega
theorem IZ:∀(ps:List (List UInt8)) (v:Vars) (n:Nat),(AC ps ⟨v,0,n⟩).c=0→AC ps ⟨v,0,n⟩=⟨(parW ps v n).1,0,(parW ps v n).2⟩
 |[],v,n,h=>rfl
 |p::r,v,n,h=>by
  have e:AC (p::r) ⟨v,0,n⟩=AC r ⟨A9 v p n,Ah 0 (if AL v p then 2 else 0),n+1⟩:=rfl;rw[e]at h⊢;have h0:=LJ h;simp only at h0;rw[h0]at h⊢;exact IZ r _ _ h
theorem vok0:VOk [[]] 0:=⟨by simp,by simp⟩
theorem FineP.fn {fns:List Fn}(h:FineP fns){k:Nat}(hk:k<fns.length) :
  AC fns[k].params ⟨[[]],0,0⟩=⟨(parV fns[k].params).1,0,fns[k].params.length⟩∧VOk (parV fns[k].params).1 fns[k].params.length∧(Ai fns k fns[k].body ⟨(parV fns[k].params).1,0,fns[k].params.length⟩).c=0∧
   fns[k].params.all Aw=true∧Aw fns[k].name=true∧fns[k].params.length≤3∧AD fns[k].body 4=true:=by
 have hc:=h.c k hk;have h1:=IZ _ _ _ (DV _ hc).1;obtain⟨h2,h3⟩:=IX fns[k].params [[]] 0 vok0;rw[Jl]at h3;rw[h3]at h1 h2;have hv:=h.v;simp only[B9,Jj,decide_eq_true_eq,Jaa]at hv;have hf:=hv.1.2 _ (Jb hk);simp only[Fn.form,Jj,decide_eq_true_eq]at hf;refine⟨h1,h2,?_,hf.1.1.1,hf.1.1.2,hf.1.2,hf.2⟩;rw[h1]at hc;exact hc
def Lw.ok (s:Lw):Prop:=s.at_<s.bs.length
theorem Lw.put_len (s:Lw)(op to n:Int)(args:List Int):(s.put op to n args).bs.length=s.bs.length:=by simp[Lw.put]
theorem Lw.add_len (s:Lw)(n:Nat):(s.add n).bs.length=s.bs.length+n:=by simp[Lw.add]
open Go.Proofs.Tryz
variable {F H:Heap}{w:Nat}{s:LS}{K:V→Heap→Prop}
def intB (l:List (List C)):List Int:=l.map fun r=>match r with
 |[.int _ n]=>n
 |_=>0
theorem Vz (l:List Int):intB (intsOf l)=l:=by
 induction l with
 |nil=>rfl
 |cons x r ih=>exact congrArg (x::·) ih
def rowI (r:List C):InsD:=match r with
 |[.int _ op,.int _ to,.sl _ _ a,.int _ n]=>⟨op,to,intB a,n⟩
 |_=>⟨0,0,[],0⟩
theorem FM (op to n:Int)(fl:Bool)(args:List Int):rowI [.int .i64 op,.int .i64 to,.sl fl 1 (intsOf args),.int .i64 n]=⟨op,to,args,n⟩:=by simp only[rowI,Vz]
def Blk.d (b:Blk):BlkD:=⟨[],b.ak.map rowI,b.jump,b.on,b.next⟩
def LS.d (s:LS):Lw:=⟨s.ae,s.blocks.map Blk.d,s.at_⟩
theorem LS.dlen (s:LS):s.blocks.length=s.d.bs.length:=by simp[LS.d]
structure LTo (s:LS)(l:Lw)(rows:List (List C))(n:Int):Prop where
 d:s.d=l
 vars:s.vars=rows
 next:s.next=n
theorem LTo.refl (s:LS):LTo s s.d s.vars s.next:=⟨rfl,rfl,rfl⟩
theorem HE {α β:Type}(f:α→β)(g:β→β)(l:List α)(i:Nat)(x:α)(h:∀hi:i<l.length,f x=g (f l[i])):(l.set i x).map f=(l.map f).modify i g:=by
 refine List.ext_getElem? fun j=>?_;rw[Jao,List.getElem?_set,List.getElem?_modify,Jao];by_cases e:i=j
 ·subst e;by_cases hi:i<l.length
  ·simp[hi,h hi]
  ·simp[hi,List.getElem?_eq_none (Nat.le_of_not_lt hi)]
 ·simp[e]
theorem LInv.addInsX {K:V→Heap→Prop}{y i:Nat}{fl:Bool}{r:List C}(h:LInv F H w s)(hi:i<s.blocks.length)(cK:s.bc=.aG y 5 0 s.blocks.length)(dT:s.lb=[(y,.vec 5 (s.blocks.map Blk.row))])
  (hr:InsRow r) (hl:s.blocks[i].ak.length+1≤LIM)
  (hK:∀(z:Nat) (H1:Heap),H1 w=s.o→H1 y=.vec 5 (s.blocks.map Blk.row)→
   (∀H2,H2=H1.set y (.vec 5 ((s.blocks.map Blk.row).set i (Blk.row { s.blocks[i]with ic:=.aG z 4 0 (s.blocks[i].ak.length+1) })))→
    ∃b':Blk,b'.ak.length=s.blocks[i].ak.length+1∧b'.d={ s.blocks[i].d with ins:=s.blocks[i].d.ins++[rowI r] }∧LInv F H2 w { s with lb:=[(y,.vec 5 ((s.blocks.set i b').map Blk.row))],blocks:=s.blocks.set i b' })→K (.c (.aG z 4 0 (s.blocks[i].ak.length+1))) H1) :
  appQ H 4 s.blocks[i].ic (.sl fl 4 [r]) K:=by
 have hm:=Jb hi;have kn:=h.kn;simp only[LS.L]at kn;have kn:Kn F H [] (([(w,s.o)]++(s.lb++(s.lv++(s.blocks.eraseIdx i).flatMap Blk.lg)))++s.blocks[i].lg):=kn.perm (by
  have h1:(s.blocks.flatMap Blk.lg).Perm ((s.blocks.eraseIdx i).flatMap Blk.lg++s.blocks[i].lg):=(CQ Blk.lg s.blocks i hi).trans Jh;refine ((h1.append_left _).append_left _ |>.append_left _).trans ?_;simp only[Jf];exact .refl _)
 refine kn.grow (h.gi _ hm) (.mk' _ _ _ _) (by intro r' aP;simp only[Ja]at aP;subst aP;exact hr.ar) (by simpa using hl) fun z H1 kn=>?_;have e1:s.blocks[i].ak.length+[r].length=s.blocks[i].ak.length+1:=by simp
 rw[e1];simp only[dT]at kn;refine hK z H1 (kn.l 0 rfl) (kn.l 1 rfl) fun H2 h2=>?_;refine⟨{ s.blocks[i]with ic:=.aG z 4 0 (s.blocks[i].ak.length+1),ak:=s.blocks[i].ak++[r],lg:=[(z,.vec 4 (s.blocks[i].ak++[r]))] },by simp,by simp[Blk.d],?_⟩;have av:Blk.row { s.blocks[i]with ic:=.aG z 4 0 (s.blocks[i].ak.length+1) }=Blk.row { s.blocks[i]with ic:=.aG z 4 0 (s.blocks[i].ak.length+1),ak:=s.blocks[i].ak++[r],lg:=[(z,.vec 4 (s.blocks[i].ak++[r]))] }:=rfl;rw[av,Ik]at h2;refine⟨?_,?_,h.gv,fun b hb=>?_,fun b hb=>?_,h.rv⟩
 ·have kn:=kn.aT 1 (x:=y) rfl h2;refine kn.perm ?_;simp only[LS.L];have h1:=(DE Blk.lg s.blocks i { s.blocks[i]with ic:=.aG z 4 0 (s.blocks[i].ak.length+1),ak:=s.blocks[i].ak++[r],lg:=[(z,.vec 4 (s.blocks[i].ak++[r]))] } hi).symm;have h3:=(Jh.trans h1).append_left ([(w,s.o)]++([(y,Obj.vec 5 ((s.blocks.set i { s.blocks[i]with ic:=.aG z 4 0 (s.blocks[i].ak.length+1),ak:=s.blocks[i].ak++[r],lg:=[(z,.vec 4 (s.blocks[i].ak++[r]))] }).map Blk.row))]++s.lv));refine List.Perm.trans ?_ (h3.trans ?_)
  ·simp only[List.set,Jq,Js,Jf];exact .refl _
  ·simp only[Jq,Js];exact .refl _
 ·simp only[cK];exact .mk _ _ _ (by simp)
 ·rcases CB hb with rfl|hb
  ·exact .mk _ _ _ (by simp)
  ·exact h.gi b hb
 ·rcases CB hb with rfl|hb
  ·intro r' aP;rcases Jn.1 aP with aP|aP
   ·exact h.ri _ hm r' aP
   ·simp at aP;subst aP;exact hr
  ·exact h.ri b hb
theorem Fi {N:Nat}(h:LInv F H w s)(aM:s.ok N)(hN:N+1≤2^38)(hK:∀(s':LS) (H':Heap),LInv F H' w s'→LStep s s' 1→LTo s' s.d.fresh s.vars s.next→K (.c (.int .i64 s.ae)) H') :
  Qi prog DM [.c (.ptr w 0)] H K:=by
 have hw:=h.hw;have h0:=aM.r0;have h1:=aM.r1;refine Qb Ab Qa43 ?_;refine Qa ?_;simp only[go_sem];refine Qa ?_;simp only[go_sem,hw,LS.o];refine⟨Ql,fun H1 ft=>?_⟩;have h':LInv F H1 w { s with ae:=s.ae+1 }:=h.setw ft rfl rfl rfl rfl h.gv h.rv;have cZ:=h'.hw;refine Qa ?_;simp only[go_sem,cZ,LS.o];refine⟨Ql,?_⟩;refine Qg ?_;simp only[go_sem,Qq,Q1,Ad,Ja,forall_eq,RS.op];refine hK _ H1 h' ⟨Jc _,fun M hM=>⟨?_,?_,hM.n0,?_,?_,?_,?_⟩,Jc _,fun h=>h,rfl,rfl,rfl⟩ ⟨rfl,rfl,rfl⟩
 ·have:=hM.r0;show 0≤s.ae+1;omega
 ·have:=hM.r1;show s.ae+1≤_;omega
 ·have:=hM.n1;show s.next≤_;omega
 ·have:=hM.b1;show s.blocks.length≤_;omega
 ·intro b hb;have:=hM.i1 b hb;omega
 ·have:=hM.v1;show s.vars.length≤_;omega
theorem DH {N:Nat}(h:LInv F H w s)(aM:s.ok N)(hN:N+1≤2^38)(hK:∀(s':LS) (H':Heap),LInv F H' w s'→LStep s s' 1→s.blocks.length<s'.blocks.length→LTo s' (s.d.add 1) s.vars s.next→K (.c (.int .i64 s.blocks.length)) H') :
  Qi prog Dg [.c (.ptr w 0)] H K:=by
 have hw:=h.hw;have aV:=aM.b1;have cU:=h.gb.ah;refine Qb Ab Qa42 ?_;refine Qa ?_;simp only[go_sem];refine Qa ?_;simp only[go_sem,hw,LS.o,cU];refine h.addBlk (b:=⟨.sl true 4 [],[],[],0,0,true,[]⟩) (by simp only[LIM];omega) rfl rfl rfl fun y H1 cZ cont=>?_;simp only[go_sem,Qyg,cZ,LS.o];intro H2 h2;have h':=cont H2 h2;have mX:=h'.hw;obtain⟨y2,dQ,jO,hv3⟩:=h'.bvec (by simp);simp only[C.aG.injEq]at dQ;obtain⟨rfl,_⟩:=dQ;refine Qa ?_;simp only[go_sem,mX,LS.o,hv3,Ji,List.length_append];refine⟨by omega,fun hl=>⟨Ql,?_⟩⟩;refine Qg ?_;simp only[go_sem,Qq,Q1,Ad,Ja,forall_eq,RS.op];have e1:(((s.blocks.length+1:Nat):Int)-1)=s.blocks.length:=by omega
 rw[e1];refine hK _ H2 h' ⟨by simp,fun M hM=>⟨hM.r0,?_,hM.n0,?_,?_,?_,?_⟩,Jc _,fun ha=>by simp;show s.at_<_;omega,rfl,rfl,rfl⟩ (by simp) ⟨by simp[LS.d,Lw.add,Blk.d,blk0],rfl,rfl⟩
 ·have:=hM.r1;show s.ae≤_;omega
 ·have:=hM.n1;show s.next≤_;omega
 ·have:=hM.b1;simp;omega
 ·intro b hb;rcases Jn.1 hb with hb|hb
  ·have:=hM.i1 b hb;omega
  ·simp at hb;subst hb;simp
 ·have:=hM.v1;show s.vars.length≤_;omega
theorem Ba {N:Nat}{op to n:Int}{fl:Bool}{args:List Int}(h:LInv F H w s)(az:s.at_<s.blocks.length)(aM:s.ok N)(hN:N+1≤2^38)
  (hK:∀(s':LS) (H':Heap),LInv F H' w s'→LStep s s' 1→LTo s' (s.d.put op to n args) s.vars s.next→K (.c (.int .i64 to)) H') :
  Qi prog C7 [.c (.ptr w 0),.c (.int .i64 op),.c (.int .i64 to),.c (.int .i64 n),.c (.sl fl 1 (intsOf args))] H K:=by
 have hw:=h.hw;obtain⟨y,cK,dT,hy⟩:=h.bvec (by omega);have hm:=Jb az;have qA:=aM.i1 _ hm;have iz:=(h.gi _ hm).ah;have dJ:List.getD (List.map Blk.row s.blocks) s.at_ []=s.blocks[s.at_].row:=by simp[Jd,az]
 have dU:List.getD (List.take s.blocks.length (List.map Blk.row s.blocks)) s.at_ []=s.blocks[s.at_].row:=by
  rw[Jg (by simp)];exact dJ
 refine Qb Ab Qbf6 ?_;refine Qa ?_;simp only[go_sem];refine Ak ?_;simp only[go_sem,hw,LS.o,cK,hy,az,Jl,Ji];refine Qa ?_;simp only[go_sem,hy,az,dU,Blk.row,iz,Jl,Ji];refine h.addInsX az cK dT ⟨op,to,n,fl,args,rfl⟩ (by simp only[LIM];omega) fun z H1 cZ gA cont=>?_;simp only[go_sem,Q8x,gA,dJ,az,Blk.row,Jl,Ji];intro H2 h2;obtain⟨b',aR,oo,h'⟩:=cont H2 h2;refine Qa ?_;simp only[go_sem];refine Qg ?_;simp only[go_sem,Qq,Q1,M5,Ja,forall_eq,RS.op];refine hK _ H2 h' ⟨by simp,fun M hM=>⟨hM.r0,?_,hM.n0,?_,?_,?_,?_⟩,Jc _,fun ha=>by simp;show s.at_<_;omega,rfl,rfl,rfl⟩ ⟨by
  simp only[LS.d,Lw.put];rw[HE Blk.d (fun b=>{ b with ins:=b.ins++[⟨op,to,args,n⟩] }) _ _ _ fun _=>by rw[oo,FM]],rfl,rfl⟩
 ·have:=hM.r1;show s.ae≤_;omega
 ·have:=hM.n1;show s.next≤_;omega
 ·have:=hM.b1;simp;omega
 ·intro b hb;rcases CB hb with rfl|hb
  ·have:=hM.i1 _ hm;omega
  ·have:=hM.i1 b hb;omega
 ·have:=hM.v1;show s.vars.length≤_;omega
theorem DO {N:Nat}{kind on:Int}{at':Nat}{fl:Bool}{next:List Int}(h:LInv F H w s)(az:s.at_<s.blocks.length)(jf:at'<s.blocks.length)
  (hK:∀(s':LS) (H':Heap),LInv F H' w s'→LStep s s' 0→LTo s' (s.d.jump kind on next at') s.vars s.next→K (.tup []) H') :
  Qi prog Dd [.c (.ptr w 0),.c (.int .i64 kind),.c (.int .i64 on),.c (.sl fl 1 (intsOf next)),.c (.int .i64 at')] H K:=by
 have hw:=h.hw;obtain⟨y,cK,dT,hy⟩:=h.bvec (by omega);have hm:=Jb az;have dJ:List.getD (List.map Blk.row s.blocks) s.at_ []=s.blocks[s.at_].row:=by simp[Jd,az]
 refine Qb Ab Qbav ?_;refine Ak ?_;simp only[go_sem,hw,LS.o,cK,hy,az,Jl,Ji];refine Qa ?_;simp only[go_sem,hy,dJ,az,Blk.row,Jl,Ji];intro H1 h1;have h1:H1=H.set y (.vec 5 ((s.blocks.set s.at_ { s.blocks[s.at_]with jump:=kind }).map Blk.row)):=by rw[h1,←Ik];rfl
 have hv:=h.setBlk az cK dT h1 rfl rfl rfl;obtain⟨b1,aV,lY,qX⟩:∃b1:Blk,b1={ s.blocks[s.at_]with jump:=kind }∧b1.ak=s.blocks[s.at_].ak∧b1.ic=s.blocks[s.at_].ic:=⟨_,rfl,rfl,rfl⟩;rw[←aV]at hv h1;have gA:H1 y=.vec 5 ((s.blocks.set s.at_ b1).map Blk.row):=by rw[h1];exact Heap.ay _ _ _
 have dU:List.getD ((s.blocks.set s.at_ b1).map Blk.row) s.at_ []=b1.row:=by simp[Jd,az]
 refine Qa ?_;simp only[go_sem,gA,dU,az,Blk.row,Jl,Ji,J5];intro H2 h2;have h2:H2=H1.set y (.vec 5 (((s.blocks.set s.at_ b1).set s.at_ { b1 with on:=on }).map Blk.row)):=by rw[h2];simp only[J6];rfl
 have hv:=hv.setBlk (i:=s.at_) (b':={ b1 with on:=on }) (by simpa using az) (by simpa using cK) (by rfl) h2 (by simp) (by simp) (by simp);simp only[J9]at hv h2;obtain⟨b2,br,lX⟩:∃b2:Blk,b2={ b1 with on:=on }∧b2.ak=b1.ak:=⟨_,rfl,rfl⟩;rw[←br]at hv h2;have iE:H2 y=.vec 5 ((s.blocks.set s.at_ b2).map Blk.row):=by rw[h2];exact Heap.ay _ _ _
 have nV:List.getD ((s.blocks.set s.at_ b2).map Blk.row) s.at_ []=b2.row:=by simp[Jd,az]
 refine Qa ?_;simp only[go_sem,iE,nV,az,Blk.row,Jl,Ji,J5];intro H3 h3;have h3:H3=H2.set y (.vec 5 (((s.blocks.set s.at_ b2).set s.at_ { b2 with next:=next,nfl:=fl }).map Blk.row)):=by rw[h3];simp only[J6];rfl
 have hv:=hv.setBlk (i:=s.at_) (b':={ b2 with next:=next,nfl:=fl }) (by simpa using az) (by simpa using cK) (by rfl) h3 (by simp) (by simp) (by simp);simp only[J9]at hv;have ik:=hv.hw;refine Qn ?_;simp only[go_sem,ik,LS.o];intro H4 h4;have h':=hv.setw (s':={ s with lb:=[(y,.vec 5 ((s.blocks.set s.at_ { b2 with next:=next,nfl:=fl }).map Blk.row))],blocks:=s.blocks.set s.at_ { b2 with next:=next,nfl:=fl },at_:=at' }) h4 rfl rfl rfl rfl hv.gv hv.rv;simp only[Qq,Q1,Av];refine⟨by simp,hK _ H4 h' ⟨by simp,fun M hM=>⟨hM.r0,hM.r1,hM.n0,hM.n1,?_,?_,hM.v1⟩,Jc _,fun ha=>by simpa using jf,rfl,rfl,rfl⟩ ⟨by
  simp only[LS.d,Lw.jump];rw[HE Blk.d (fun b=>{ b with jump:=kind,on:=on,next:=next }) _ _ _ fun _=>by rw[br,aV];rfl],rfl,rfl⟩⟩
 ·have:=hM.b1;simpa using this
 ·intro b hb;rcases CB hb with rfl|hb
  ·show b2.ak.length≤_;rw[lX,lY];exact hM.i1 _ hm
  ·exact hM.i1 b hb
end Go.AE.Y
namespace Go.AE.Y
open Go.Proofs.Tryz
def SY:List Item:=[fB 3 false]
def SX:List Item:=[oJ 7 6]
def SW:List Item:=[fB 3 false]
def Q99:SC:=cT 7 (sR (fI 8 (.bld [.sl true 3 []] [])::sJ 1 2 8::SW) [2,3] .ret) .skip
def SV:List Item:=[sJ 1 4 13]
def SU:List Item:=fI 13 (.bld [.sl true 3 []] [(0,1,.t 12)])::eI 4 (.alloc [.sl true 3 []])::SV
def ST:List Item:=[oJ 16 15]
def SS:List Item:=[fB 3 false]
def Qaaa:SC:=cT 16 (sR (fI 17 (.bld [.sl true 3 []] [])::sJ 1 2 17::SS) [2,3] .ret) .skip
def SR:List Item:=[fB 3 true]
def Q6i:SC:=sR (tJ 18 1 4::sJ 1 2 18::SR) [2,3] .ret
def Q6j:SC:=.seq (sR (tJ 14 1 4::aJ 15 Sz [.t 14]::ST) [2,4,16] Qaaa) Q6i
def Q6k:SC:=sR (fJ 9 0 1::lJ 10 9::fI 11 (.mkf Rh [.t 1])::aJ 12 Rf [.t 10,.t 11]::SU) [2,4] Q6j
def Q6l:SC:=.seq (sR (tJ 5 1 1::aJ 6 GP [.t 5]::SX) [1,2,7] Q99) Q6k
def Qaf3:SC:=sR (vJ 1 0::eI 2 (.alloc [.sl true 3 []])::SY) [1,2] Q6l
def Dn:List RS:=[.cell 2 1 true,.tmp 3]
theorem Qr9:mFn prog HV 1 19 Qaf3 Dn=true:=by kernel_rfl
def Tt:List Item:=[sJ 3 3 6]
def Qzb:SC:=sR (tJ 4 1 1::tJ 5 3 2::aJ 6 PI [.t 4,.t 5]::Tt) [3] .ret
def Q6m:SC:=sR [vJ 2 0,eI 3 (.alloc [.int .i64 0,.int .i64 0,.sl true 5 []])] [1,2,3] Qzb
def SZ:List RS:=[.cell 3 3 true]
theorem Qmi:mFn prog Rh 2 7 Q6m SZ=true:=by kernel_rfl
def RZ:List Item:=[mJ 5 11]
def Ss:List Item:=[kJ 22 13,fJ 23 1 22,fJ 24 1 23,sJ 1 24 18]
def Sr:List Item:=hJ 15 14::.chk 16 none (.len (.t 15))::kJ 19 12::fJ 20 1 19::fJ 21 0 20::sJ 1 21 16::Ss
def Sq:List Item:=[mJ 6 25]
def Qax6:SC:=.reg [mJ 34 6,kJ 35 34,fJ 36 0 35,lJ 37 36,mJ 38 8,mJ 39 7,.e none none (.upd 1 (.t 37) (.t 38) (.t 39))] [3,4,5,6,27,28,29]
def Qax7:SC:=.reg [cJ 40 .add 29 1,mJ 29 40] [3,4,5,6,27,28,29]
def Qax8:SC:=.seq (.block 1 (sR [mJ 31 29,iJ 32 1 27 29,lJ 33 32,mJ 7 31,mJ 8 33] [3,4,5,6,7,8,27,28,29] Qax6)) Qax7
def Qarh:SC:=sR [bJ 30 .lss 29 28] [3,4,5,6,27,28,29,30] (cX 30 0 Qax8)
def Sp:List Item:=[aJ 52 Q5 [.t 43,.t 45,.t 46,.t 51]]
def So:List Item:=[hJ 59 58,eI 60 (.call Qo [.t 53,kI 3,.t 55,.t 59,.k (.c (.sl true 1 []))])]
def Qaq9:SC:=sR [mJ 61 5,kJ 62 61,fJ 63 1 62,tJ 64 3 63,sJ 3 4 64] [4] .ret
def Qara:SC:=.seq (.aH 8 [0,1,3,4,5,6,2,6,7] ( mJ 53 5::mJ 54 5::mJ 56 5::kJ 57 56::fJ 58 4 57::lJ 59 58::eI 55 (.call Qw [.t 54,kI 1,kI 0,.k (.c (.sl true 1 []))])::So) [4,5]) Qaq9
def Qarb:SC:=sR (mJ 43 5::fJ 44 2 3::lJ 45 44::mJ 46 6::fJ 47 1 3::lJ 48 47::nJ 49 48::fI 50 (.bld [.int .i64 0] [(0,1,.t 49)])::eI 51 (.boxm (.t 50))::Sp) [4,5] Qara
def Qarc:SC:=sR [mJ 41 5,aJ 42 De [.t 41,kI 1]] [3,4,5,6] Qarb
def Qard:SC:=.seq (sR [fJ 26 1 3,lJ 27 26,nJ 28 27,zJ 29 0] [3,4,5,6,27,28,29] (bL 0 Qarh)) Qarc
def Qare:SC:=sR (aJ 25 CC [.k (.c .pnil)]::Sq) [3,4,5,6] Qard
def Qarf:SC:=.seq (.aH 15 [0,1,2,3,4,5,6,3,4,7,8,9,10,11,12,13,14] ( mJ 12 5::mJ 13 5::fJ 14 1 3::lJ 15 14::nJ 16 15::tJ 17 3 3::aJ 18 RV [.t 17]::Sr) [3,4,5]) Qare
def Qarg:SC:=sR (tJ 9 1 2::fI 10 (.bld [.sl true 3 [],.int .i64 0,.int .i64 0,.sl true 5 [],.int .i64 0] [(0,1,.t 9)])::eI 11 (.boxm (.t 10))::RZ) [3,4,5] Qarf
def Qbbr:SC:=sR [vJ 2 0,vJ 3 1,eI 4 (.alloc [.int .i64 0,.int .i64 0,.sl true 5 []])] [2,3,4] Qarg
theorem Nt:mFn prog PI 2 65 Qbbr Dm=true:=by kernel_rfl
def Qju:List Item:=[sJ 5 9 21]
def Qjv:List Item:=[mJ 10 26]
def Qjw:List Item:=[mJ 11 38]
def Qjx:List Item:=[hJ 49 4,hJ 51 50,aJ 55 Q5 [.t 49,.t 51,.t 53,.t 54]]
def Q2t:SC:=sR [lJ 56 4,mJ 57 10,cJ 58 .add 57 2,mJ 59 10,fI 60 (.bw 1 [.t 59]),aJ 61 Qo [.t 56,kI 1,kI 0,.t 58,.t 60]] [3,4,6,16,17,18] (.exit 1)
def Q2u:SC:=.seq (.aH 7 [0,1,2,3,5,4,0,2,6] ( lJ 49 4::fJ 50 3 9::lJ 51 50::lJ 52 6::mJ 54 3::aJ 53 CC [.t 52]::Qjx) [3,4,6,10,16,17,18]) Q2t
def Q2v:SC:=sR [lJ 39 4,mJ 40 11,mJ 41 10,cJ 42 .add 41 1,mJ 43 10,cJ 44 .add 43 1,mJ 45 10,cJ 46 .add 45 2,fI 47 (.bw 1 [.t 44,.t 46]),aJ 48 Qo [.t 39,kI 2,.t 40,.t 42,.t 47]] [3,4,6,9,10,16,17,18] Q2u
def Q2w:SC:=.seq (.aH 8 [0,1,2,3,4,5,6,7] ( lJ 32 4::fJ 33 2 9::lJ 34 33::fI 35 (.iad 4 (.t 34) (kI 0))::tJ 36 4 35::lJ 37 6::aJ 38 Df [.t 32,.t 36,.t 37]::Qjw) [3,4,6,9,10,11,16,17,18]) Q2v
def Q2x:SC:=sR [lJ 27 4,mJ 28 10,mJ 29 10,fI 30 (.bw 1 [.t 29]),aJ 31 Qo [.t 27,kI 1,kI 0,.t 28,.t 30]] [3,4,6,9,10,16,17,18] Q2w
def Q2y:SC:=cT 24 (sR (lJ 25 4::aJ 26 De [.t 25,kI 3]::Qjv) [3,4,6,9,10,16,17,18] Q2x) .skip
def Qit:List Item:=[mJ 12 65]
def Qzm:SC:=.aH 11 [0,1,2,3,4,5,6,7,8,9,10] ( lJ 87 4::lJ 88 6::kJ 89 88::fJ 90 0 89::lJ 91 90::fJ 92 1 9::lJ 93 92::fI 94 (.lup 1 (.c (.int .i64 0)) (.t 91) (.t 93))::mJ 95 12::fI 96 (.bld [.int .i64 0,.int .i64 0,.sl true 1 [],.int .i64 0] [(0,1,kI 2),(1,1,.t 94),(2,1,.t 95),(3,1,kI 0)])::aJ 97 CD [.t 87,.t 96]::[]) [3,4,6,16,17,18]
def Qzn:SC:=sR [mJ 80 3,kJ 81 80,fJ 82 0 81,lJ 83 82,cJ 84 .add 83 1,kJ 85 80,fJ 86 0 85,sJ 1 86 84] [3,4,6,9,12,16,17,18] Qzm
def Qiu:List Item:=[mJ 100 104,fI 105 (.ext (.t 100) 0),fI 106 (.ext (.t 100) 1),mJ 13 105,mJ 14 106]
def Qzo:SC:=.reg [lJ 107 4,mJ 108 13,mJ 109 12,fI 110 (.bld [.int .i64 0,.int .i64 0,.sl true 1 [],.int .i64 0] [(0,1,kI 2),(1,1,.t 108),(2,1,.t 109),(3,1,kI 0)]),aJ 111 CD [.t 107,.t 110]] [3,4,6,16,17,18]
def Qiv:List Item:=[mJ 15 127]
def Qiw:List Item:=[hJ 138 4,hJ 140 139,aJ 144 Q5 [.t 138,.t 140,.t 142,.t 143]]
def Qix:List Item:=[hJ 152 4,hJ 154 153,aJ 158 Q5 [.t 152,.t 154,.t 156,.t 157]]
def Qzp:SC:=.reg [lJ 159 4,mJ 160 15,cJ 161 .add 160 2,mJ 162 15,cJ 163 .add 162 2,fI 164 (.bw 1 [.t 163]),aJ 165 Qo [.t 159,kI 1,kI 0,.t 161,.t 164]] [3,4,6,16,17,18]
def Qzq:SC:=.seq (.aH 7 [0,1,2,3,5,4,0,2,6] ( lJ 152 4::fJ 153 4 9::lJ 154 153::lJ 155 6::mJ 157 3::aJ 156 CC [.t 155]::Qix) [3,4,6,15,16,17,18]) Qzp
def Qzr:SC:=sR [lJ 145 4,mJ 146 15,cJ 147 .add 146 1,mJ 148 15,cJ 149 .add 148 2,fI 150 (.bw 1 [.t 149]),aJ 151 Qo [.t 145,kI 1,kI 0,.t 147,.t 150]] [3,4,6,9,15,16,17,18] Qzq
def Qzs:SC:=.seq (.aH 7 [0,1,2,3,5,4,0,2,6] ( lJ 138 4::fJ 139 3 9::lJ 140 139::lJ 141 6::mJ 143 3::aJ 142 CC [.t 141]::Qiw) [3,4,6,9,15,16,17,18]) Qzr
def Qzt:SC:=.seq (.aH 10 [0,1,2,3,4,5,6,7,8,9] ( lJ 128 4::mJ 129 12::fI 130 (.iad 1 (.t 129) (kI 0))::lJ 131 130::mJ 132 15::mJ 133 15::mJ 134 15::cJ 135 .add 134 1::fI 136 (.bw 1 [.t 133,.t 135])::aJ 137 Qo [.t 128,kI 2,.t 131,.t 132,.t 136]::[]) [3,4,6,9,15,16,17,18]) Qzs
def Qiy:List Item:=[hJ 168 4,.chk 170 none (.iad 1 (.t 169) (kI 0)),hJ 171 170,eI 174 (.call Qo [.t 168,kI 3,.t 171,.t 173,.k (.c (.sl true 1 []))])]
def Qzu:SC:=cT 166 (.aH 7 [0,1,2,3,4,5,0,2,3,6] ( lJ 168 4::mJ 169 12::fI 170 (.iad 1 (.t 169) (kI 0))::lJ 171 170::lJ 172 4::aJ 173 De [.t 172,kI 1]::Qiy) [3,4,6,16,17,18]) .skip
def Qzv:SC:=cT 124 (sR (lJ 126 4::aJ 127 De [.t 126,kI 3]::Qiv) [3,4,6,9,12,15,16,17,18] Qzt) (sR [cJ 167 .eql 67 7,mJ 166 167] [3,4,6,12,16,17,18,166] Qzu)
def Qzw:SC:=cT 118 (.reg [lJ 120 4,mJ 121 12,fI 122 (.bld [.int .i64 0,.int .i64 0,.sl true 1 [],.int .i64 0] [(0,1,kI 12),(1,1,kI (-1)),(2,1,.t 121),(3,1,kI 0)]),aJ 123 CD [.t 120,.t 122]] [3,4,6,16,17,18]) (sR [cJ 125 .eql 67 5,mJ 124 125] [3,4,6,9,12,16,17,18,67,124] Qzv)
def Qzx:SC:=cT 112 (.reg [lJ 114 4,mJ 115 12,fI 116 (.bld [.int .i64 0,.int .i64 0,.sl true 1 [],.int .i64 0] [(0,1,kI 13),(1,1,kI (-1)),(2,1,.t 115),(3,1,kI 0)]),aJ 117 CD [.t 114,.t 116]] [3,4,6,16,17,18]) (sR [cJ 119 .eql 67 4,mJ 118 119] [3,4,6,9,12,16,17,18,67,118] Qzw)
def Qzy:SC:=cT 98 (sR (lJ 101 6::fJ 102 1 9::lJ 103 102::aJ 104 Fa [.t 101,.t 103]::Qiu) [3,4,6,12,13,16,17,18] Qzo) (sR [cJ 113 .eql 67 3,mJ 112 113] [3,4,6,9,12,16,17,18,67,112] Qzx)
def Qzz:SC:=cT 68 (.seq (.aH 11 [0,1,2,3,4,5,6,7,8,9,10] ( lJ 70 6::kJ 71 70::fJ 72 0 71::lJ 73 72::fJ 74 1 9::lJ 75 74::mJ 76 3::kJ 77 76::fJ 78 0 77::lJ 79 78::.e none none (.upd 1 (.t 73) (.t 75) (.t 79))::[]) [3,4,6,9,12,16,17,18]) Qzn) (sR [cJ 99 .eql 67 2,mJ 98 99] [3,4,6,9,12,16,17,18,67,98] Qzy)
def Qz0:SC:=.block 2 (sR [cJ 69 .eql 67 1,mJ 68 69] [3,4,6,9,12,16,17,18,67,68] Qzz)
def Qz1:SC:=sR [fJ 66 0 9,lJ 67 66] [3,4,6,9,12,16,17,18,67] Qz0
def Qz2:SC:=sR (fJ 62 2 9::lJ 63 62::fI 64 (.mkf KF [.t 4,.t 6])::aJ 65 Fe [.t 63,.t 64]::Qit) [3,4,6,9,12,16,17,18] Qz1
def Qz3:SC:=.seq (sR [fJ 22 0 9,lJ 23 22,cJ 24 .eql 23 6] [3,4,6,9,16,17,18,24] Q2y) Qz2
def Qjs:SC:=.reg [cJ 175 .add 18 1,mJ 18 175] [3,4,6,16,17,18]
def Qjt:SC:=.seq (.block 1 (sR (iJ 20 5 16 18::tJ 21 5 20::eI 9 (.alloc [.int .i64 0,.str [],.sl true 4 [],.sl true 5 [],.sl true 5 []])::Qju) [3,4,6,9,16,17,18] Qz3)) Qjs
def Qwk:SC:=sR [bJ 19 .lss 18 17] [3,4,6,16,17,18,19] (cX 19 0 Qjt)
def Qz4:SC:=sR [mJ 16 1,nJ 17 16,zJ 18 0] [3,4,6,16,17,18] (bL 0 Qwk)
def Qaag:SC:=sR [vJ 4 0,vJ 6 2] [1,3,4,6] Qz4
theorem Q9r:mFn prog Q5 4 176 Qaag Av=true:=by kernel_rfl
def Tq:List Item:=[mJ 4 8]
def Qs9:SC:=sR (lJ 5 1::tJ 6 4 3::lJ 7 2::aJ 8 Df [.t 5,.t 6,.t 7]::Tq) [4] .ret
def Qz5:SC:=sR [vJ 3 0,zJ 4 0] [1,2,3] Qs9
theorem Qjn:mFn prog KF 3 9 Qz5 Aa=true:=by kernel_rfl
def SQ:List Item:=[kJ 31 23,fJ 32 4 31,sJ 1 32 26]
def SP:List Item:=kJ 29 22::fJ 30 3 29::sJ 1 30 25::SQ
def Qaah:SC:=.reg [mJ 33 0,mJ 34 3,kJ 35 33,fJ 36 4 35,sJ 1 36 34] []
def Qaai:SC:=sR (mJ 21 10::mJ 22 10::mJ 23 10::mJ 24 1::mJ 25 2::mJ 26 4::kJ 27 21::fJ 28 2 27::sJ 1 28 24::SP) [0,3] Qaah
def Qage:SC:=.seq (.aH 11 [0,1,2,3,4,5,6,7,8,9,10] ( mJ 11 0::kJ 12 11::fJ 13 1 12::fJ 14 2 13::lJ 15 14::mJ 16 0::kJ 17 16::fJ 18 4 17::lJ 19 18::iJ 20 5 15 19::mJ 10 20::[]) [0,1,2,3,4,10]) Qaai
theorem Qsa:mFn prog Qo 5 37 Qage Av=true:=by kernel_rfl
def Ql1:List Item:=[mJ 6 22]
def Ql2:List Item:=[mJ 25 29,fI 30 (.ext (.t 25) 0),fI 31 (.ext (.t 25) 1),mJ 7 30,mJ 8 31]
def Q6x:SC:=sR [mJ 32 7,mJ 6 32] [6] .ret
def Ql3:List Item:=[mJ 9 41]
def Ql4:List Item:=[mJ 10 43]
def Ql5:List Item:=[mJ 11 45]
def Ql6:List Item:=[mJ 12 60]
def Ql7:List Item:=[mJ 13 64]
def Q6y:SC:=sR [mJ 78 10,mJ 6 78] [6] .ret
def Q6z:SC:=sR [lJ 71 3,mJ 72 11,cJ 73 .add 72 1,mJ 74 11,cJ 75 .add 74 1,fI 76 (.bw 1 [.t 75]),aJ 77 Qo [.t 71,kI 1,kI 0,.t 73,.t 76]] [10] Q6y
def Q2z:SC:=sR [lJ 65 3,mJ 66 10,mJ 67 13,fI 68 (.bw 1 [.t 67]),fI 69 (.bld [.int .i64 0,.int .i64 0,.sl true 1 [],.int .i64 0] [(0,1,kI 10),(1,1,.t 66),(2,1,.t 68),(3,1,kI 0)]),aJ 70 CD [.t 65,.t 69]] [3,10,11] Q6z
def Q20:SC:=sR (lJ 61 3::mJ 62 12::fI 63 (.bw 1 [.t 62])::aJ 64 Qw [.t 61,kI 10,kI 0,.t 63]::Ql7) [3,10,11,13] Q2z
def Q21:SC:=.seq (.aH 8 [0,1,2,3,4,5,6,7] ( lJ 54 3::fJ 55 3 4::lJ 56 55::fI 57 (.iad 4 (.t 56) (kI 1))::tJ 58 4 57::lJ 59 5::aJ 60 Df [.t 54,.t 58,.t 59]::Ql6) [3,10,11,12]) Q20
def Q22:SC:=sR [lJ 46 3,mJ 47 9,mJ 48 11,mJ 49 11,mJ 50 11,cJ 51 .add 50 1,fI 52 (.bw 1 [.t 49,.t 51]),aJ 53 Qo [.t 46,kI 2,.t 47,.t 48,.t 52]] [3,4,5,10,11] Q21
def Q23:SC:=sR (lJ 44 3::aJ 45 De [.t 44,kI 2]::Ql5) [3,4,5,9,10,11] Q22
def Q24:SC:=sR (lJ 42 3::eI 43 (.call Qw [.t 42,kI 1,kI 0,.k (.c (.sl true 1 []))])::Ql4) [3,4,5,9,10] Q23
def Q25:SC:=cT 33 (.seq (.aH 8 [0,1,2,3,4,5,6,7] ( lJ 35 3::fJ 36 3 4::lJ 37 36::fI 38 (.iad 4 (.t 37) (kI 0))::tJ 39 4 38::lJ 40 5::aJ 41 Df [.t 35,.t 39,.t 40]::Ql3) [3,4,5,9]) Q24) .skip
def Q26:SC:=cT 23 (sR (lJ 26 5::fJ 27 2 4::lJ 28 27::aJ 29 Fa [.t 26,.t 28]::Ql2) [7] Q6x) (sR [cJ 34 .eql 16 10,mJ 33 34] [3,4,5,33] Q25)
def Q27:SC:=cT 17 (sR (lJ 19 3::fJ 20 1 4::lJ 21 20::eI 22 (.call Qw [.t 19,kI 1,.t 21,.k (.c (.sl true 1 []))])::Ql1) [6] .ret) (sR [cJ 24 .eql 16 2,mJ 23 24] [3,4,5,16,23] Q26)
def Q28:SC:=.block 0 (sR [cJ 18 .eql 16 1,mJ 17 18] [3,4,5,16,17] Q27)
def Qjy:List Item:=[mJ 14 82]
def Qjz:List Item:=[mJ 6 89]
def Qj0:List Item:=[mJ 6 94]
def Qj1:List Item:=[mJ 6 106]
def Qj2:List Item:=hJ 97 3::aJ 106 Qw [.t 97,kI 14,.t 104,.t 105]::Qj1
def Q29:SC:=cT 95 (.seq (.aH 11 [0,1,2,3,4,5,6,8,7,0,9,10] ( lJ 97 3::lJ 98 3::kJ 99 98::fJ 100 0 99::tJ 101 1 100::fJ 102 2 4::lJ 103 102::mJ 105 14::aJ 104 HC [.t 101,.t 103]::Qj2) [6]) .ret) .skip
def Q3a:SC:=cT 90 (sR (lJ 92 3::mJ 93 14::aJ 94 Qw [.t 92,kI 11,kI 0,.t 93]::Qj0) [6] .ret) (sR [cJ 96 .eql 84 13,mJ 95 96] [3,4,14,95] Q29)
def Q3b:SC:=cT 85 (sR (lJ 87 3::mJ 88 14::aJ 89 Qw [.t 87,kI 10,kI 0,.t 88]::Qjz) [6] .ret) (sR [cJ 91 .eql 84 12,mJ 90 91] [3,4,14,84,90] Q3a)
def Q3c:SC:=.block 1 (sR [cJ 86 .eql 84 11,mJ 85 86] [3,4,14,84,85] Q3b)
def Qj3:List Item:=[mJ 6 111]
def Q3d:SC:=sR (lJ 107 3::fJ 108 0 4::lJ 109 108::mJ 110 14::aJ 111 Qw [.t 107,.t 109,kI 0,.t 110]::Qj3) [6] .ret
def Q3e:SC:=.seq (sR [fJ 83 0 4,lJ 84 83] [3,4,14,84] Q3c) Q3d
def Q3f:SC:=sR (fJ 79 3 4::lJ 80 79::fI 81 (.mkf Kc [.t 3,.t 5])::aJ 82 Fe [.t 80,.t 81]::Qjy) [3,4,14] Q3e
def Q3g:SC:=.seq (sR [fJ 15 0 4,lJ 16 15] [3,4,5,16] Q28) Q3f
def Qadf:SC:=sR [vJ 3 0,vJ 4 1,vJ 5 2,zJ 6 0] [3,4,5] Q3g
theorem Qach:mFn prog Df 3 112 Qadf AB=true:=by kernel_rfl
def Tv:List Item:=[mJ 4 8]
def Qwl:SC:=sR (lJ 5 1::tJ 6 4 3::lJ 7 2::aJ 8 Df [.t 5,.t 6,.t 7]::Tv) [4] .ret
def Q3h:SC:=sR [vJ 3 0,zJ 4 0] [1,2,3] Qwl
theorem Qlp:mFn prog Kc 3 9 Q3h Aa=true:=by kernel_rfl
def Te:List Item:=[mJ 9 11]
def Q60:SC:=sR [mJ 19 9,mJ 8 19] [8] .ret
def Q61:SC:=sR [mJ 12 0,mJ 13 1,mJ 14 9,mJ 15 3,mJ 16 2,fI 17 (.bld [.int .i64 0,.int .i64 0,.sl true 1 [],.int .i64 0] [(0,1,.t 13),(1,1,.t 14),(2,1,.t 15),(3,1,.t 16)]),aJ 18 CD [.t 12,.t 17]] [9] Q60
def Q62:SC:=sR (mJ 10 0::aJ 11 Rd [.t 10]::Te) [0,1,2,3,9] Q61
def Qadg:SC:=sR [zJ 8 0] [0,1,2,3] Q62
def SE:List RS:=[.tmp 8]
theorem Qqj:mFn prog Qw 4 20 Qadg SE=true:=by kernel_rfl
def SO:List Item:=[kJ 23 15,fJ 24 1 23,sJ 1 24 22]
def Qaaj:SC:=.aH 11 [0,1,2,3,4,5,6,7,8,9,10] ( mJ 15 4::mJ 16 4::kJ 17 16::fJ 18 1 17::lJ 19 18::tJ 20 4 3::fI 21 (.bw 4 [.t 20])::xJ 22 4 19 21::SO) []
def Qaak:SC:=.seq (.aH 11 [0,1,2,3,4,5,6,7,8,9,10] ( mJ 5 0::kJ 6 5::fJ 7 1 6::fJ 8 2 7::lJ 9 8::mJ 10 0::kJ 11 10::fJ 12 4 11::lJ 13 12::iJ 14 5 9 13::mJ 4 14::[]) [3,4]) Qaaj
def Qagf:SC:=sR [vJ 3 1] [0,3] Qaak
theorem Qsb:mFn prog CD 2 25 Qagf Av=true:=by kernel_rfl
def Qaal:SC:=sR [mJ 12 0,kJ 13 12,fJ 14 1 13,fJ 15 1 14,lJ 16 15,cJ 17 .sub 16 1,mJ 2 17] [2] .ret
def Qaam:SC:=sR [mJ 3 0,kJ 4 3,fJ 5 1 4,fJ 6 1 5,lJ 7 6,cJ 8 .add 7 1,kJ 9 3,fJ 10 1 9,fJ 11 1 10,sJ 1 11 8] [0] Qaal
def Qagg:SC:=sR [zJ 2 0] [0] Qaam
theorem Qsc:mFn prog Rd 1 18 Qagg Ad=true:=by kernel_rfl
def Tm:List Item:=[sJ 3 7 13]
def Tl:List Item:=[mJ 5 19]
def Tk:List Item:=fI 18 (.bw 3 [.t 17])::xJ 19 3 14 18::Tl
def Q3i:SC:=.reg (mJ 14 5::mJ 15 1::tJ 16 3 7::eI 17 (.bv (.t 15) [.t 16])::Tk) [1,5,8,9,10]
def Q3j:SC:=.reg [cJ 20 .add 10 1,mJ 10 20] [1,5,8,9,10]
def Q3k:SC:=.seq (.block 1 (sR (iJ 12 3 8 10::tJ 13 3 12::eI 7 (.alloc [.str [],.sl true 1 [],.sl true 5 []])::Tm) [1,5,7,8,9,10] Q3i)) Q3j
def Q0c:SC:=sR [bJ 11 .lss 10 9] [1,5,8,9,10,11] (cX 11 0 Q3k)
def Q3l:SC:=sR [mJ 21 5,mJ 4 21] [4] .ret
def Q3m:SC:=.seq (sR [mJ 8 0,nJ 9 8,zJ 10 0] [1,5,8,9,10] (bL 0 Q0c)) Q3l
def Q3n:SC:=sR [fI 5 (.mv (.k (.c (.sl true 3 []))))] [0,1,5] Q3m
def Qaan:SC:=sR [fI 4 (.mv (.k (.c (.sl true 3 []))))] [0,1] Q3n
theorem Qoi:mFn prog Rf 2 22 Qaan Aa=true:=by kernel_rfl
def Qx9:List Item:=[sJ 1 3 6]
def Qarn:SC:=sR [lJ 11 3,mJ 2 11] [2] .ret
def Qaro:SC:=sR [fJ 7 2 1,lJ 8 7,fI 9 (.mkf S8 [.t 3]),aJ 10 HH [.t 8,kI 1,.t 9]] [3] Qarn
def Qarp:SC:=sR (fJ 4 1 1::lJ 5 4::nJ 6 5::eI 3 (.alloc [.int .i64 0])::Qx9) [1,3] Qaro
def Qa6a:SC:=sR [vJ 1 0,zJ 2 0] [1] Qarp
theorem Qa4y:mFn prog RV 1 12 Qa6a Ad=true:=by kernel_rfl
def Qadn:SC:=cT 7 (.reg [lJ 8 2,cJ 9 .add 8 1,sJ 1 2 9] []) .skip
def Qado:SC:=sR [fJ 5 0 3,lJ 6 5,cJ 7 .eql 6 1] [2,7] Qadn
def Qalc:SC:=sR [vJ 3 0] [2,3] Qado
theorem Qaj1:mFn prog S8 3 10 Qalc Av=true:=by kernel_rfl
def Qm7:List Item:=[fB 3 false]
def Qm8:List Item:=[oJ 7 6]
def Qm9:List Item:=[fB 3 false]
def Qabh:SC:=cT 7 (sR (fI 8 (.bld [.sl true 3 []] [])::sJ 1 2 8::Qm9) [2,3] .ret) .skip
def Qna:List Item:=[sJ 1 4 10]
def Qnb:List Item:=eI 4 (.alloc [.sl true 3 []])::Qna
def Qnc:List Item:=[oJ 13 12]
def Qnd:List Item:=[fB 3 false]
def Qabi:SC:=cT 13 (sR (fI 14 (.bld [.sl true 3 []] [])::sJ 1 2 14::Qnd) [2,3] .ret) .skip
def Qne:List Item:=[fB 3 true]
def Q7k:SC:=sR (tJ 15 1 4::sJ 1 2 15::Qne) [2,3] .ret
def Q7l:SC:=.seq (sR (tJ 11 1 4::aJ 12 Sf [.t 11]::Qnc) [2,4,13] Qabi) Q7k
def Q7m:SC:=sR (tJ 9 1 1::aJ 10 Gn [.t 9]::Qnb) [2,4] Q7l
def Q7n:SC:=.seq (sR (tJ 5 1 1::aJ 6 Gs [.t 5]::Qm8) [1,2,7] Qabh) Q7m
def Qah7:SC:=sR (vJ 1 0::eI 2 (.alloc [.sl true 3 []])::Qm7) [1,2] Q7n
theorem Qafr:mFn prog Rc 1 16 Qah7 Dn=true:=by kernel_rfl
def Td:List Item:=[kJ 20 12,fJ 21 1 20,fJ 22 2 21,sJ 1 22 19]
def Q63:SC:=sR [mJ 23 5,mJ 4 23] [4] .ret
def Q64:SC:=sR (mJ 12 0::mJ 13 0::kJ 14 13::fJ 15 1 14::fJ 16 2 15::lJ 17 16::mJ 18 1::eI 19 (.apz 5 [.sl true 2 [],.sl true 4 [],.int .i64 0,.int .i64 0,.sl true 1 []] (.t 17) (.t 18))::Td) [5] Q63
def Q65:SC:=sR [mJ 6 0,kJ 7 6,fJ 8 1 7,fJ 9 2 8,lJ 10 9,nJ 11 10,mJ 5 11] [0,1,5] Q64
def Qadh:SC:=sR [zJ 4 0] [0,1] Q65
theorem Qqk:mFn prog De 2 24 Qadh Aa=true:=by kernel_rfl
def Qiz:List Item:=[sJ 4 7 13]
def Qi0:List Item:=[mJ 5 19]
def Qi1:List Item:=fI 18 (.bw 1 [.t 17])::xJ 19 1 14 18::Qi0
def Qz6:SC:=.reg (mJ 14 5::mJ 15 1::tJ 16 4 7::eI 17 (.bv (.t 15) [.t 16])::Qi1) [1,5,8,9,10]
def Qz7:SC:=.reg [cJ 20 .add 10 1,mJ 10 20] [1,5,8,9,10]
def Qz8:SC:=.seq (.block 1 (sR (iJ 12 4 8 10::tJ 13 4 12::eI 7 (.alloc [.int .i64 0,.int .i64 0,.str [],.sl true 4 []])::Qiz) [1,5,7,8,9,10] Qz6)) Qz7
def Qwm:SC:=sR [bJ 11 .lss 10 9] [1,5,8,9,10,11] (cX 11 0 Qz8)
def Qz9:SC:=.seq (.seq .gh (.reg [mJ 21 5,mJ 4 21] [4])) .ret
def Q0a:SC:=.seq (sR [mJ 8 0,nJ 9 8,zJ 10 0] [1,5,8,9,10] (bL 0 Qwm)) Qz9
def Q0b:SC:=sR [fI 5 (.mv (.k (.c (.sl true 1 []))))] [0,1,5] Q0a
def Q66:SC:=sR [fI 4 (.mv (.k (.c (.sl true 1 []))))] [0,1] Q0b
theorem Q55:mFn prog Fe 2 22 Q66 Aa=true:=by kernel_rfl
structure IS where
 fns:List Fn
 pfl:Bool
 params:Int
 ae:Int
 bc:C
 lb:List (Nat×Obj)
 blocks:List Blk
 at_:Nat
def IS.o (s:IS):Obj:=.st [.sl s.pfl 3 (Ae s.fns),.int .i64 s.params,.int .i64 s.ae,s.bc,.int .i64 s.at_]
def IS.L (s:IS)(w:Nat):List (Nat×Obj):=[(w,s.o)]++(s.lb++s.blocks.flatMap Blk.lg)
structure IInv (F H:Heap)(w:Nat)(s:IS):Prop where
 kn:Kn F H [] (s.L w)
 gb:Gr s.lb 5 (s.blocks.map Blk.row) s.bc
 gi:∀b∈s.blocks,Gr b.lg 4 b.ak b.ic
 ri:∀b∈s.blocks,∀r∈b.ak,InsRow r
structure IS.ok (s:IS)(N:Nat):Prop where
 r0:0≤s.ae
 r1:s.ae≤N
 b1:s.blocks.length≤N
 i1:∀b∈s.blocks,b.ak.length≤N
theorem IS.ok.mono {s:IS}{N M:Nat}(h:s.ok N)(hm:N≤M):s.ok M:=
 ⟨h.r0,by have:=h.r1;omega,by have:=h.b1;omega,fun b hb=>by have:=h.i1 b hb;omega⟩
def IS.d (s:IS):Lw:=⟨s.ae,s.blocks.map Blk.d,s.at_⟩
theorem IS.dlen (s:IS):s.blocks.length=s.d.bs.length:=by simp[IS.d]
theorem IS.dregs (s:IS):s.ae=s.d.ae:=rfl
variable {F H H':Heap}{w:Nat}{s:IS}{K:V→Heap→Prop}
theorem IInv.hw (h:IInv F H w s):H w=s.o:=h.kn.l 0 rfl
theorem IInv.bvec (h:IInv F H w s)(hb:0<s.blocks.length):∃y,s.bc=.aG y 5 0 s.blocks.length∧s.lb=[(y,.vec 5 (s.blocks.map Blk.row))]∧H y=.vec 5 (s.blocks.map Blk.row):=by
 rcases h.gb with ⟨_,h2,_⟩|⟨y,h1,h2⟩
 ·simp at h2;rw[h2]at hb;simp at hb
 ·refine⟨y,by rw[h1];simp,h2,?_⟩;exact (h.kn.get (y,.vec 5 (s.blocks.map Blk.row)) (by simp[IS.L,h2])).1
theorem IInv.setw {s':IS}(h:IInv F H w s)(h1:H'=H.set w s'.o)(a1:s'.lb=s.lb)(a3:s'.blocks=s.blocks)(a4:s'.bc=s.bc):IInv F H' w s':=by
 refine⟨?_,by rw[a1,a3,a4];exact h.gb,by rw[a3];exact h.gi,by rw[a3];exact h.ri⟩;have:=h.kn.aT 0 (x:=w) (o:=s.o) rfl h1 (by simp[IS.o]);simp only[IS.L,a1,a3];exact this
theorem IInv.re {H2:Heap}(h:IInv F H w s)(kn:Kn F H2 [] (s.L w)):IInv F H2 w s:=⟨kn,h.gb,h.gi,h.ri⟩
def blkZ:Blk:=⟨.sl true 4 [],[],[],0,0,true,[]⟩
theorem Qb2s (n:Nat):(List.replicate n blkZ).flatMap Blk.lg=[]:=by
 induction n with
 |zero=>rfl
 |succ n ih=>rw[Jan,Jw,ih];rfl
theorem IInv.addBlks {n:Nat}(h:IInv F H w s)(hl:s.blocks.length+n≤LIM)
  (hK:∀(y:Nat) (H1:Heap),H1 w=s.o→(∀H2,H2=H1.set w (IS.o { s with bc:=.aG y 5 0 (s.blocks.length+n) })→
   IInv F H2 w { s with bc:=.aG y 5 0 (s.blocks.length+n),lb:=[(y,.vec 5 ((s.blocks++List.replicate n blkZ).map Blk.row))],blocks:=s.blocks++List.replicate n blkZ })→K (.c (.aG y 5 0 (s.blocks.length+n))) H1) :
  appQ H 5 s.bc (.sl false 5 (List.replicate n blkZ.row)) K:=by
 have kn:=h.kn;have kn:Kn F H [] (([(w,s.o)]++s.blocks.flatMap Blk.lg)++s.lb):=kn.perm (by
  simp only[IS.L,Jf];exact .append_left _ Jh)
 refine kn.grow h.gb (.mk' _ _ _ _) (by
  intro r hr;obtain⟨_,rfl⟩:=List.mem_replicate.1 hr;rfl) (by simpa using hl) fun y H1 kn=>?_
 have e1:(s.blocks.map Blk.row).length+(List.replicate n blkZ.row).length=s.blocks.length+n:=by simp
 rw[e1];refine hK y H1 (kn.l 0 rfl) fun H2 h2=>⟨?_,?_,?_,?_⟩
 ·have:=kn.aT 0 (x:=w) (o:=s.o) rfl h2 (by simp[IS.o]);simp only[IS.L,Jx,Qb2s,Jo,J2,List.map_replicate];simp only[Jq,Js,Jz]at this⊢;refine this.perm (.cons _ ?_);exact Jh
 ·exact .mk _ _ _ (by simp)
 ·intro b' aR;rcases Jn.1 aR with aR|aR
  ·exact h.gi b' aR
  ·obtain⟨_,rfl⟩:=List.mem_replicate.1 aR;exact .nil 4
 ·intro b' aR;rcases Jn.1 aR with aR|aR
  ·exact h.ri b' aR
  ·obtain⟨_,rfl⟩:=List.mem_replicate.1 aR;simp[blkZ]
theorem IInv.setBlk {b':Blk}{y i:Nat}(h:IInv F H w s)(hi:i<s.blocks.length)(cK:s.bc=.aG y 5 0 s.blocks.length)(dT:s.lb=[(y,.vec 5 (s.blocks.map Blk.row))])
  (h1:H'=H.set y (.vec 5 ((s.blocks.set i b').map Blk.row))) (a1:b'.lg=s.blocks[i].lg) (a2:b'.ic=s.blocks[i].ic) (a3:b'.ak=s.blocks[i].ak) :
  IInv F H' w { s with lb:=[(y,.vec 5 ((s.blocks.set i b').map Blk.row))],blocks:=s.blocks.set i b' }:=by
 have hm:=Jb hi;refine⟨?_,?_,fun b hb=>?_,fun b hb=>?_⟩
 ·have kn:=h.kn;simp only[IS.L,dT]at kn;have kn:=kn.aT 1 (x:=y) rfl h1;refine kn.perm ?_;simp only[IS.L,Jq,Js,Jz,Jac];refine .cons _ (.cons _ ?_);refine (CQ Blk.lg s.blocks i hi).trans ?_;rw[←a1];exact (DE Blk.lg s.blocks i b' hi).symm
 ·simp only[cK];exact .mk _ _ _ (by simp)
 ·rcases CB hb with rfl|hb
  ·rw[a1,a2,a3];exact h.gi _ hm
  ·exact h.gi b hb
 ·rcases CB hb with rfl|hb
  ·rw[a3];exact h.ri _ hm
  ·exact h.ri b hb
theorem IInv.addInsX {K:V→Heap→Prop}{y i:Nat}{fl:Bool}{r:List C}(h:IInv F H w s)(hi:i<s.blocks.length)(cK:s.bc=.aG y 5 0 s.blocks.length)(dT:s.lb=[(y,.vec 5 (s.blocks.map Blk.row))])
  (hr:InsRow r) (hl:s.blocks[i].ak.length+1≤LIM)
  (hK:∀(z:Nat) (H1:Heap),H1 w=s.o→H1 y=.vec 5 (s.blocks.map Blk.row)→
   (∀H2,H2=H1.set y (.vec 5 ((s.blocks.map Blk.row).set i (Blk.row { s.blocks[i]with ic:=.aG z 4 0 (s.blocks[i].ak.length+1) })))→
    ∃b':Blk,b'.ak.length=s.blocks[i].ak.length+1∧b'.d={ s.blocks[i].d with ins:=s.blocks[i].d.ins++[rowI r] }∧IInv F H2 w { s with lb:=[(y,.vec 5 ((s.blocks.set i b').map Blk.row))],blocks:=s.blocks.set i b' })→K (.c (.aG z 4 0 (s.blocks[i].ak.length+1))) H1) :
  appQ H 4 s.blocks[i].ic (.sl fl 4 [r]) K:=by
 have hm:=Jb hi;have kn:=h.kn;simp only[IS.L]at kn;have kn:Kn F H [] (([(w,s.o)]++(s.lb++((s.blocks.eraseIdx i).flatMap Blk.lg)))++s.blocks[i].lg):=kn.perm (by
  have h1:(s.blocks.flatMap Blk.lg).Perm ((s.blocks.eraseIdx i).flatMap Blk.lg++s.blocks[i].lg):=(CQ Blk.lg s.blocks i hi).trans Jh;refine ((h1.append_left _).append_left _).trans ?_;simp only[Jf];exact .refl _)
 refine kn.grow (h.gi _ hm) (.mk' _ _ _ _) (by intro r' aP;simp only[Ja]at aP;subst aP;exact hr.ar) (by simpa using hl) fun z H1 kn=>?_;have e1:s.blocks[i].ak.length+[r].length=s.blocks[i].ak.length+1:=by simp
 rw[e1];simp only[dT]at kn;refine hK z H1 (kn.l 0 rfl) (kn.l 1 rfl) fun H2 h2=>?_;refine⟨{ s.blocks[i]with ic:=.aG z 4 0 (s.blocks[i].ak.length+1),ak:=s.blocks[i].ak++[r],lg:=[(z,.vec 4 (s.blocks[i].ak++[r]))] },by simp,by simp[Blk.d],?_⟩;have av:Blk.row { s.blocks[i]with ic:=.aG z 4 0 (s.blocks[i].ak.length+1) }=Blk.row { s.blocks[i]with ic:=.aG z 4 0 (s.blocks[i].ak.length+1),ak:=s.blocks[i].ak++[r],lg:=[(z,.vec 4 (s.blocks[i].ak++[r]))] }:=rfl;rw[av,Ik]at h2;refine⟨?_,?_,fun b hb=>?_,fun b hb=>?_⟩
 ·have kn:=kn.aT 1 (x:=y) rfl h2;refine kn.perm ?_;simp only[IS.L];have h1:=(DE Blk.lg s.blocks i { s.blocks[i]with ic:=.aG z 4 0 (s.blocks[i].ak.length+1),ak:=s.blocks[i].ak++[r],lg:=[(z,.vec 4 (s.blocks[i].ak++[r]))] } hi).symm;have h3:=(Jh.trans h1).append_left ([(w,s.o)]++([(y,Obj.vec 5 ((s.blocks.set i { s.blocks[i]with ic:=.aG z 4 0 (s.blocks[i].ak.length+1),ak:=s.blocks[i].ak++[r],lg:=[(z,.vec 4 (s.blocks[i].ak++[r]))] }).map Blk.row))]));refine List.Perm.trans ?_ (h3.trans ?_)
  ·simp only[List.set,Jq,Js,Jf];exact .refl _
  ·simp only[Jq,Js];exact .refl _
 ·simp only[cK];exact .mk _ _ _ (by simp)
 ·rcases CB hb with rfl|hb
  ·exact .mk _ _ _ (by simp)
  ·exact h.gi b hb
 ·rcases CB hb with rfl|hb
  ·intro r' aP;rcases Jn.1 aP with aP|aP
   ·exact h.ri _ hm r' aP
   ·simp at aP;subst aP;exact hr
  ·exact h.ri b hb
structure IStep (s s':IS)(d:Nat):Prop where
 bl:s.blocks.length≤s'.blocks.length
 ok:∀N,s.ok N→s'.ok (N+d)
 at_:s.at_<s.blocks.length→s'.at_<s'.blocks.length
 fn:s'.fns=s.fns∧s'.pfl=s.pfl∧s'.params=s.params
theorem IStep.trans {s s' s'':IS}{d e:Nat}(h:IStep s s' d)(k:IStep s' s'' e):IStep s s'' (d+e):=
 ⟨J1 h.bl k.bl,fun N hN=>by rw[←Jax];exact k.ok _ (h.ok N hN),fun ha=>k.at_ (h.at_ ha),k.fn.1.trans h.fn.1,k.fn.2.1.trans h.fn.2.1,k.fn.2.2.trans h.fn.2.2⟩
theorem IStep.refl (s:IS):IStep s s 0:=⟨Jc _,fun N h=>h,fun h=>h,rfl,rfl,rfl⟩
theorem IStep.mono {s s':IS}{d e:Nat}(h:IStep s s' d)(hd:d≤e):IStep s s' e:=⟨h.bl,fun N hN=>(h.ok N hN).mono (by omega),h.at_,h.fn⟩
theorem Qb03 {N:Nat}(h:IInv F H w s)(aM:s.ok N)(hN:N+1≤2^38)(hK:∀(s':IS) (H':Heap),IInv F H' w s'→IStep s s' 1→s'.d=s.d.fresh→K (.c (.int .i64 s.ae)) H') :
  Qi prog Rd [.c (.ptr w 0)] H K:=by
 have hw:=h.hw;have h0:=aM.r0;have h1:=aM.r1;refine Qb Ab Qsc ?_;refine Qa ?_;simp only[go_sem];refine Qa ?_;simp only[go_sem,hw,IS.o];refine⟨Ql,fun H1 ft=>?_⟩;have h':IInv F H1 w { s with ae:=s.ae+1 }:=h.setw ft rfl rfl rfl;have cZ:=h'.hw;refine Qa ?_;simp only[go_sem,cZ,IS.o];refine⟨Ql,?_⟩;refine Qg ?_;simp only[go_sem,Qq,Q1,Ad,Ja,forall_eq,RS.op];refine hK _ H1 h' ⟨Jc _,fun M hM=>⟨?_,?_,?_,?_⟩,fun h=>h,rfl,rfl,rfl⟩ rfl
 ·have:=hM.r0;show 0≤s.ae+1;omega
 ·have:=hM.r1;show s.ae+1≤_;omega
 ·have:=hM.b1;show s.blocks.length≤_;omega
 ·intro b hb;have:=hM.i1 b hb;omega
theorem IInv.bget (h:IInv F H w s):bt H s.bc=True∧ax s.bc=s.blocks.length:=by
 rcases h.gb with ⟨h1,h2,_⟩|⟨y,h1,h2⟩
 ·rw[h1];refine⟨rfl,?_⟩;have:=congrArg List.length h2;simp only[Ji,Jr]at this;rw[this];rfl
 ·have hy:H y=.vec 5 (s.blocks.map Blk.row):=(h.kn.get (y,.vec 5 (s.blocks.map Blk.row)) (by simp[IS.L,h2])).1;rw[h1];refine⟨eq_true ?_,by simp[ax]⟩;simp only[Go.AE.bt,hy];exact⟨trivial,by omega⟩
theorem D6 {n N:Nat}(h:IInv F H w s)(aM:s.ok N)(hN:N+n≤2^38)(hK:∀(s':IS) (H':Heap),IInv F H' w s'→IStep s s' n→s.blocks.length+n≤s'.blocks.length→s'.d=s.d.add n→K (.c (.int .i64 s.blocks.length)) H') :
  Qi prog De [.c (.ptr w 0),.c (.int .i64 n)] H K:=by
 have hw:=h.hw;have aV:=aM.b1;have cU:=h.gb.ah;obtain⟨dJ,dU⟩:=h.bget;refine Qb Ab Qqk ?_;refine Qa ?_;simp only[go_sem];refine Qa ?_;simp only[go_sem,hw,IS.o,cU,dJ,dU];intro _;refine Qa ?_;simp only[go_sem,hw,IS.o,cU];refine⟨by have:=Bu;omega,?_⟩;refine h.addBlks (n:=n) (by simp only[LIM];omega) fun y H1 cZ cont=>?_;simp only[go_sem,Td,cZ,IS.o];intro H2 h2;have h':=cont H2 h2;refine Qa ?_;simp only[go_sem];refine Qg ?_;simp only[go_sem,Qq,Q1,Aa,Ja,forall_eq,RS.op];refine hK _ H2 h' ⟨by simp,fun M hM=>⟨hM.r0,?_,?_,?_⟩,fun ha=>by simp;show s.at_<_;omega,rfl,rfl,rfl⟩ (by simp) ?_
 ·have:=hM.r1;show s.ae≤_;omega
 ·have:=hM.b1;simp;omega
 ·intro b hb;rcases Jn.1 hb with hb|hb
  ·have:=hM.i1 b hb;omega
  ·obtain⟨_,rfl⟩:=List.mem_replicate.1 hb;simp[blkZ]
 ·simp[IS.d,Lw.add,Blk.d,blkZ,blk0]
theorem CZ {N:Nat}{op to n:Int}{fl:Bool}{args:List Int}(h:IInv F H w s)(az:s.at_<s.blocks.length)(aM:s.ok N)(hN:N+1≤2^38)
  (hK:∀(s':IS) (H':Heap),IInv F H' w s'→IStep s s' 1→s'.d=s.d.put op to n args→K (.tup []) H') :
  Qi prog CD [.c (.ptr w 0),.ag [.int .i64 op,.int .i64 to,.sl fl 1 (intsOf args),.int .i64 n]] H K:=by
 have hw:=h.hw;obtain⟨y,cK,dT,hy⟩:=h.bvec (by omega);have hm:=Jb az;have qA:=aM.i1 _ hm;have iz:=(h.gi _ hm).ah;have dJ:List.getD (List.map Blk.row s.blocks) s.at_ []=s.blocks[s.at_].row:=by simp[Jd,az]
 have dU:List.getD (List.take s.blocks.length (List.map Blk.row s.blocks)) s.at_ []=s.blocks[s.at_].row:=by
  rw[Jg (by simp)];exact dJ
 refine Qb Ab Qsb ?_;refine Qa ?_;simp only[go_sem];refine Ak ?_;simp only[go_sem,hw,IS.o,cK,hy,az,Jl,Ji];refine CE ?_;simp only[go_sem,hy,az,dU,Blk.row,iz,Jl,Ji];refine h.addInsX az cK dT ⟨op,to,n,fl,args,rfl⟩ (by simp only[LIM];omega) fun z H1 cZ gA cont=>?_;simp only[go_sem,SO,gA,dJ,az,Blk.row,Jl,Ji];intro H2 h2;obtain⟨b',aR,oo,h'⟩:=cont H2 h2;simp only[Qq,Q1,Av];refine⟨by simp,hK _ H2 h' ⟨by simp,fun M hM=>⟨hM.r0,?_,?_,?_⟩,fun ha=>by simp;show s.at_<_;omega,rfl,rfl,rfl⟩ ?_⟩
 ·have:=hM.r1;show s.ae≤_;omega
 ·have:=hM.b1;simp;omega
 ·intro b hb;rcases CB hb with rfl|hb
  ·have:=hM.i1 _ hm;omega
  ·have:=hM.i1 b hb;omega
 ·simp only[IS.d,Lw.put];rw[HE Blk.d (fun b=>{ b with ins:=b.ins++[⟨op,to,args,n⟩] }) _ _ _ fun _=>by rw[oo,FM]]
theorem Fh {N:Nat}{op n:Int}{fl:Bool}{args:List Int}(h:IInv F H w s)(az:s.at_<s.blocks.length)(aM:s.ok N)(hN:N+2≤2^38)
  (hK:∀(s':IS) (H':Heap),IInv F H' w s'→IStep s s' 2→s'.d=s.d.make op n args→K (.c (.int .i64 s.ae)) H') :
  Qi prog Qw [.c (.ptr w 0),.c (.int .i64 op),.c (.int .i64 n),.c (.sl fl 1 (intsOf args))] H K:=by
 refine Qb Ab Qqj ?_;refine Qa ?_;simp only[go_sem];refine Qa ?_;simp only[go_sem];refine Qb03 h aM (by omega) fun s1 H1 h1 st1 ex1=>?_;simp only[go_sem,Te];refine Qa ?_;simp only[go_sem];refine CZ h1 (st1.at_ az) (st1.ok _ aM) (by omega) fun s2 H2 h2 st2 ex2=>?_;simp only[go_sem];refine Qa ?_;simp only[go_sem];refine Qg ?_;simp only[go_sem,Qq,Q1,SE,Ja,forall_eq,RS.op];exact hK s2 H2 h2 (st1.trans st2) (by rw[ex2,ex1];rfl)
theorem DQ {N:Nat}{kind on:Int}{at':Nat}{fl:Bool}{next:List Int}(h:IInv F H w s)(az:s.at_<s.blocks.length)(jf:at'<s.blocks.length)
  (hK:∀(s':IS) (H':Heap),IInv F H' w s'→IStep s s' 0→s'.d=s.d.jump kind on next at'→K (.tup []) H') :
  Qi prog Qo [.c (.ptr w 0),.c (.int .i64 kind),.c (.int .i64 on),.c (.int .i64 at'),.c (.sl fl 1 (intsOf next))] H K:=by
 have hw:=h.hw;obtain⟨y,cK,dT,hy⟩:=h.bvec (by omega);have hm:=Jb az;have dJ:List.getD (List.map Blk.row s.blocks) s.at_ []=s.blocks[s.at_].row:=by simp[Jd,az]
 refine Qb Ab Qsa ?_;refine Ak ?_;simp only[go_sem,hw,IS.o,cK,hy,az,Jl,Ji];refine Qa ?_;simp only[go_sem,hy,dJ,az,Blk.row,Jl,Ji];intro H1 h1;have h1:H1=H.set y (.vec 5 ((s.blocks.set s.at_ { s.blocks[s.at_]with jump:=kind }).map Blk.row)):=by rw[h1,←Ik];rfl
 have hv:=h.setBlk az cK dT h1 rfl rfl rfl;obtain⟨b1,aV,lY,qX⟩:∃b1:Blk,b1={ s.blocks[s.at_]with jump:=kind }∧b1.ak=s.blocks[s.at_].ak∧b1.ic=s.blocks[s.at_].ic:=⟨_,rfl,rfl,rfl⟩;rw[←aV]at hv h1;have gA:H1 y=.vec 5 ((s.blocks.set s.at_ b1).map Blk.row):=by rw[h1];exact Heap.ay _ _ _
 have dU:List.getD ((s.blocks.set s.at_ b1).map Blk.row) s.at_ []=b1.row:=by simp[Jd,az]
 simp only[go_sem,SP,gA,dU,az,Blk.row,Jl,Ji,J5];intro H2 h2;have h2:H2=H1.set y (.vec 5 (((s.blocks.set s.at_ b1).set s.at_ { b1 with on:=on }).map Blk.row)):=by rw[h2];simp only[J6];rfl
 have hv:=hv.setBlk (i:=s.at_) (b':={ b1 with on:=on }) (by simpa using az) (by simpa using cK) (by rfl) h2 (by simp) (by simp) (by simp);simp only[J9]at hv h2;obtain⟨b2,br,lX⟩:∃b2:Blk,b2={ b1 with on:=on }∧b2.ak=b1.ak:=⟨_,rfl,rfl⟩;rw[←br]at hv h2;have iE:H2 y=.vec 5 ((s.blocks.set s.at_ b2).map Blk.row):=by rw[h2];exact Heap.ay _ _ _
 have nV:List.getD ((s.blocks.set s.at_ b2).map Blk.row) s.at_ []=b2.row:=by simp[Jd,az]
 simp only[go_sem,SQ,iE,nV,az,Blk.row,Jl,Ji,J5];intro H3 h3;have h3:H3=H2.set y (.vec 5 (((s.blocks.set s.at_ b2).set s.at_ { b2 with next:=next,nfl:=fl }).map Blk.row)):=by rw[h3];simp only[J6];rfl
 have hv:=hv.setBlk (i:=s.at_) (b':={ b2 with next:=next,nfl:=fl }) (by simpa using az) (by simpa using cK) (by rfl) h3 (by simp) (by simp) (by simp);simp only[J9]at hv;have ik:=hv.hw;refine Qn ?_;simp only[go_sem,ik,IS.o];intro H4 h4;have h':=hv.setw (s':={ s with lb:=[(y,.vec 5 ((s.blocks.set s.at_ { b2 with next:=next,nfl:=fl }).map Blk.row))],blocks:=s.blocks.set s.at_ { b2 with next:=next,nfl:=fl },at_:=at' }) h4 rfl rfl rfl;simp only[Qq,Q1,Av];refine⟨by simp,hK _ H4 h' ⟨by simp,fun M hM=>⟨hM.r0,hM.r1,?_,?_⟩,fun ha=>by simpa using jf,rfl,rfl,rfl⟩ ?_⟩
 ·have:=hM.b1;simpa using this
 ·intro b hb;rcases CB hb with rfl|hb
  ·show b2.ak.length≤_;rw[lX,lY];exact hM.i1 _ hm
  ·exact hM.i1 b hb
 ·simp only[IS.d,Lw.jump];rw[HE Blk.d (fun b=>{ b with jump:=kind,on:=on,next:=next }) _ _ _ fun _=>by rw[br,aV];rfl]
end Go.AE.Y
namespace Go.AE
variable {F H H':Heap}{A M:List (Nat×Obj)}
theorem Kn.sideX (kn:Kn F H [] (A++M)):∃F',Kn F' H [] A∧(∀m,F m≠.none→F' m=F m)∧(∀p∈M,F' p.1=p.2)∧
  ∀(A':List (Nat×Obj)) (H':Heap),Kn F' H' [] A'→Kn F H' [] (A'++M):=by
 have cf:=kn.dL;rw[J2]at cf;obtain⟨d1,d2,d3⟩:=Jap.1 cf;obtain⟨F',oz⟩:∃F':Heap,F'=fun m=>if m∈M.map Prod.fst then H m else F m:=⟨_,rfl⟩;have cI:∀m,m∈M.map Prod.fst→F' m=H m:=fun m hm=>by rw[oz];exact if_pos hm
 have cH:∀m,m∉M.map Prod.fst→F' m=F m:=fun m hm=>by rw[oz];exact if_neg hm
 have hM:∀p∈M,F' p.1=p.2∧p.2≠.none:=fun p hp=>by
  have:=kn.get p (by simp[hp]);rw[cI p.1 (BO hp)];exact this
 have hfree:∀m,m∈M.map Prod.fst→F m=.none:=fun m hm=>by
  obtain⟨p,hp,rfl⟩:=Ju.1 hm;exact kn.loc p (J7 _ hp)
 refine⟨F',⟨fun p hp=>kn.get p (by simp only[Js]at hp⊢;exact J8 _ hp),by simp,fun p hp=>?_,by simp,d1,fun m hm _=>?_⟩,fun m hm=>cH m fun h=>hm (hfree m h),fun p hp=>(hM p hp).1,fun A' H' k=>?_⟩
 ·rw[cH p.1 fun h=>d3 _ (BO hp) _ h rfl];exact kn.loc p (J8 _ hp)
 ·by_cases h:m∈M.map Prod.fst
  ·rw[cI m h]
  ·rw[cH m h]at hm⊢;exact kn.chg m hm (by simp)
 ·have hA:∀p∈A',p.1∉M.map Prod.fst:=fun p hp h=>by
   obtain⟨q,hq,e⟩:=Ju.1 h;have h1:=k.loc p hp;rw[←e,(hM q hq).1]at h1;exact (hM q hq).2 h1
  have hMH:∀p∈M,H' p.1=p.2:=fun p hp=>by
   have h1:=hM p hp;rw[k.chg p.1 (by rw[h1.1];exact h1.2) (by simp),h1.1]
  refine⟨fun p hp=>?_,by simp,fun p hp=>?_,by simp,?_,fun m hm _=>?_⟩
  ·simp only[Js]at hp;rcases Jn.1 hp with hp|hp
   ·exact k.get p (by simpa using hp)
   ·exact⟨hMH p hp,(hM p hp).2⟩
  ·rcases Jn.1 hp with hp|hp
   ·have:=k.loc p hp;rw[cH _ (hA p hp)]at this;exact this
   ·exact kn.loc p (J7 _ hp)
  ·rw[J2];refine Jap.2 ⟨k.dL,d2,fun a ha b hb e=>?_⟩;obtain⟨p,hp,rfl⟩:=Ju.1 ha;exact hA p hp (e▸hb)
  ·have iu:m∉M.map Prod.fst:=fun h=>hm (hfree m h);have:=k.chg m (by rw[cH m iu];exact hm) (by simp);rw[this,cH m iu]
end Go.AE
namespace Go.AE.Y
attribute [local go_sem] cond_true cond_false Bool.not_true Bool.not_false
open Go.Proofs.Tryz
variable {F H H':Heap}{w:Nat}{s:IS}{K:V→Heap→Prop}{M Lg:List (Nat×Obj)}
theorem IInv.sideX (h:IInv F H w s)(kn:Kn F H [] (s.L w++M)) :
  ∃F',IInv F' H w s∧(∀m,F m≠.none→F' m=F m)∧(∀p∈M,F' p.1=p.2)∧∀(s':IS) (H':Heap),IInv F' H' w s'→IInv F H' w s'∧Kn F H' [] (s'.L w++M):=by
 obtain⟨F',k1,k2,k3,k4⟩:=kn.sideX;exact⟨F',⟨k1,h.gb,h.gi,h.ri⟩,k2,k3,fun s' H' h'=>⟨⟨(k4 _ _ h'.kn).drop,h'.gb,h'.gi,h'.ri⟩,k4 _ _ h'.kn⟩⟩
abbrev vI (n:Nat):Int:=n
def ScIn (F:Heap)(sc:ScD)(v:Vars):Prop:=(∀p∈sc.ob,F p.1=p.2)∧ScD.ok vI sc v
theorem ScIn.mono {F':Heap}{sc:ScD}{v:Vars}(h:ScIn F sc v)(hf:∀m,F m≠.none→F' m=F m):ScIn F' sc v:=
 ⟨fun p hp=>by
  have h1:=h.1 p hp;rw[hf p.1 (by rw[h1];obtain⟨x,_,rfl⟩:=Ju.1 hp;nofun),h1],h.2⟩
theorem ScIn.find {sc:ScD}{v:Vars}(h:ScIn F sc v)(kn:Kn F H [] M):ScOk vI H sc.ls v:=ScD.scOk h.2 fun p hp=>by
 have h1:=h.1 p hp;rw[kn.chg p.1 (by rw[h1];obtain⟨x,_,rfl⟩:=Ju.1 hp;nofun) (by simp),h1]
theorem Et (v:Vars)(t:List UInt8):valO vI (v.find t)=Aj v 0 t:=by
 rw[Aj];cases v.find t <;> rfl
def IExX (n:Nat):Prop:=∀(x:Ex) (F H:Heap) (w:Nat) (s:IS) (N:Nat) (sc:ScD) (v:Vars) (K:V→Heap→Prop),x.size≤n→x.ok→IInv F H w s→ScIn F sc v→s.at_<s.blocks.length→s.ok N→N+10 * x.size≤2^38→
  (∀(s':IS) (H':Heap),IInv F H' w s'→IStep s s' (10 * x.size)→s'.d=(x.low (Aj v 0) (Ac s.fns) s.d).1→K (.c (.int .i64 (x.low (Aj v 0) (Ac s.fns) s.d).2)) H')→
  Qi prog Df [.c (.ptr w 0),.ag x.cells,.c (scC sc.ls)] H K
theorem Ce (l:List Nat):(scC l).ah=false:=by cases l <;> rfl
theorem Ke {f n N:Nat}{caps:List C}{l:List Ex}{fl:Bool}{sc:ScD}{v:Vars}(fw:Q4 l≤n)(aM:BK l)(h:IInv F H w s)(cr:ScIn F sc v)(az:s.at_<s.blocks.length)(aq:s.ok N)(hN:N+10 * Q4 l≤2^38)
  (hf:∀x∈l,∀(F H:Heap) (s:IS) (N:Nat) (K':V→Heap→Prop),IInv F H w s→ScIn F sc v→s.at_<s.blocks.length→s.ok N→N+10 * x.size≤2^38→
   (∀(s':IS) (H':Heap),IInv F H' w s'→IStep s s' (10 * x.size)→s'.d=(x.low (Aj v 0) (Ac s.fns) s.d).1→K' (.c (.int .i64 (x.low (Aj v 0) (Ac s.fns) s.d).2)) H')→
   Qi prog f ([.ag x.cells]++caps.map .c) H K')
  (hK:∀(s':IS) (H':Heap),IInv F H' w s'→IStep s s' (10 * Q4 l)→s'.d=(Am (Aj v 0) (Ac s.fns) l s.d).1→K (.c (.sl false 1 (intsOf (Am (Aj v 0) (Ac s.fns) l s.d).2))) H') :
  Qi prog Fe [.c (.sl fl 4 (Af l)),.c (.fn f caps)] H K:=by
 refine Qb Ab Q55 ?_;refine Qa ?_;simp only[go_sem];refine Qa ?_;simp only[go_sem];refine Qp (Qa ?_);simp only[go_sem,Qt];intro hl;simp only[LIM]at hl;refine Qe (Qf (Qu (fun m e1 H1=>∃(i:Nat) (ars:List Int) (c:C) (Lg:List (Nat×Obj)) (s':IS),m=l.length-i∧i≤l.length∧ars.length=i∧Gr Lg 1 (intsOf ars) c∧IInv F H1 w s'∧Kn F H1 [] (s'.L w++Lg)∧
  IStep s s' (10 * Q4 (l.take i))∧s'.d=(Am (Aj v 0) (Ac s.fns) (l.take i) s.d).1∧ars=(Am (Aj v 0) (Ac s.fns) (l.take i) s.d).2∧
  e1=[(1,.c (.fn f caps)),(5,.c c),(8,.c (.sl fl 4 (Af l))),(9,.c (.int .i64 l.length)),(10,.c (.int .i64 i))]) l.length ?_ ?_))
 ·exact⟨0,[],_,[],s,by omega,by omega,rfl,.nil 1,h,by simpa using h.kn,(IStep.refl s).mono (by omega),by rw[Jt,Am],by rw[Jt,Am],rfl⟩
 ·rintro m e1 H1 ⟨i,ars,c,Lg,s1,hm,hi,fT,bQ,h1,kn,st1,ex1,bB,rfl⟩;have hY:=bQ.ah;refine Qa ?_;simp only[go_sem,hY];refine Qe (Qc rfl ?_ ?_)
  ·intro hc;have aa:i<l.length:=by simpa using hc
   have eK:=B0 (Jb aa);have aO:=HQ aa;have jo:=F6 l (i+1);obtain⟨x,hx⟩:∃x,l[i]=x:=⟨_,rfl⟩;have eO:x∈l:=by rw[←hx];exact Jb aa
   rw[hx]at eK aO;refine Qd ?_;try simp only[go_sem]
   refine Qe (Qf ?_);refine Qa ?_;simp only[go_sem,hY,aa,Qt,B7 _ _ aa,hx,x.ab];intro x7 dY H3 h3;have kn:Kn F H3 [] (s1.L w++([(x7,.st [.int .i64 0,.int .i64 0,.str [],.sl true 4 []])]++Lg)):=(kn.al dY h3).perm (by
    rw[Jf];exact .append_left _ Jh)
   have g7:H3 x7=_:=(kn.get (x7,.st [.int .i64 0,.int .i64 0,.str [],.sl true 4 []]) (by simp)).1;simp only[go_sem,Qiz,g7,hY];intro H4 h4;have kn:Kn F H4 [] (s1.L w++([(x7,.st [.int .i64 x.op,.int .i64 x.n,.str x.name,.sl false 4 (Af x.kids)])]++Lg)):=kn.stM (by simpa using h4);have g7:H4 x7=.st [.int .i64 x.op,.int .i64 x.n,.str x.name,.sl false 4 (Af x.kids)]:=(kn.get (x7,_) (by simp)).1;have h1:IInv F H4 w s1:=h1.re kn.drop;refine Qn ?_;simp only[go_sem,g7,hY];obtain⟨F',qM,jG,_,back⟩:=h1.sideX kn;have gm:=hf x eO F' H4 s1 (N+10 * Q4 (l.take i));rw[x.ab]at gm;refine gm _ qM (cr.mono jG) (st1.at_ az) (st1.ok _ aq) (by omega) fun s2 H5 h2 st2 ex2=>?_;obtain⟨h2,kn⟩:=back s2 H5 h2;have etk:Am (Aj v 0) (Ac s.fns) (l.take (i+1)) s.d=((x.low (Aj v 0) (Ac s1.fns) s1.d).1,ars++[(x.low (Aj v 0) (Ac s1.fns) s1.d).2]):=by
    rw[Je aa,Ps,hx,ex1,st1.fn.1,bB]
   obtain⟨r,hr⟩:∃r,(x.low (Aj v 0) (Ac s1.fns) s1.d).2=r:=⟨_,rfl⟩;rw[hr]at etk;rw[hr];have kn:Kn F H5 [] (s2.L w++Lg):=kn.sub (.append_left (List.sublist_append_right _ _) _);simp only[go_sem,Qi1,hY];refine kn.dk bQ (new:=intsOf [r]) (.mk' _ true 1 _) (BD _) (by simp only[Qm,fT,Jp,Jr,LIM];omega) fun t2 Lg2 H6 fh dZ kn=>?_;rw[←HB]at fh;simp only[go_sem,Qi0,dZ];refine Qn ?_;simp only[go_sem,AE.X.next,dZ];exact⟨Ql,l.length-(i+1),by omega,i+1,ars++[r],t2,Lg2,s2,rfl,by omega,by simp[fT],fh,h2.re kn.drop,kn,(st1.trans st2).mono (by rw[aO];omega),by rw[etk];exact ex2,by rw[etk],rfl⟩
  ·intro hc;have aC:l.length≤i:=by simpa using hc
   rw[Jg aC]at st1 ex1 bB;refine Qr ?_;simp only[go_sem,AE.X.next];refine Qp ?_;obtain⟨S,H2,f1,f2,kn2⟩:=bQ.freeze kn (BD _);have h2:=h1.re kn2;refine c_gh (Rm S (fun t=>?_) f2) (e':=[(1,.c (.fn f caps)),(5,.c (.sl false 1 (intsOf ars))),(8,.c (.sl fl 4 (Af l))),(9,.c (.int .i64 l.length)),(10,.c (.int .i64 i))]) ?_
   ·simp only[lk];split
    ·exact .c _ _ (.same _ rfl)
    ·split
     ·exact .c _ _ f1
     ·split
      ·exact .c _ _ (.same _ rfl)
      ·split
       ·exact .c _ _ (.same _ rfl)
       ·split
        ·exact .c _ _ (.same _ rfl)
        ·exact .unk _
   refine Qa ?_;simp only[go_sem];refine Qg ?_;simp only[go_sem,Qq,Q1,Aa,Ja,forall_eq,RS.op];rw[bB];exact hK s1 H2 h2 st1 ex1
end Go.AE.Y
namespace Go.AE.Y
open Go.Proofs.Tryz
def Qj6:List Item:=[mJ 6 22]
def Qj7:List Item:=[mJ 25 29,fI 30 (.ext (.t 25) 0),fI 31 (.ext (.t 25) 1),mJ 7 30,mJ 8 31]
def Q48:SC:=sR [mJ 32 7,mJ 6 32] [6] .ret
def Qj8:List Item:=[mJ 9 41]
def Qj9:List Item:=[mJ 10 43]
def Qka:List Item:=[mJ 11 45]
def Qkb:List Item:=[aJ 53 Qo [.t 46,kI 2,.t 47,.t 48,.t 52]]
def Qkc:List Item:=[mJ 12 60]
def Qkd:List Item:=[mJ 13 64]
def Qke:List Item:=aJ 64 Qw [.t 61,kI 10,kI 0,.t 63]::Qkd
def Qjc:List Item:=[fI 69 (.bld [.int .i64 0,.int .i64 0,.sl true 1 [],.int .i64 0] [(0,1,kI 10),(1,1,.t 66),(2,1,.t 68),(3,1,kI 0)]),aJ 70 CD [.t 65,.t 69]]
def Qjd:List Item:=[aJ 77 Qo [.t 71,kI 1,kI 0,.t 73,.t 76]]
def Q0k:SC:=sR [mJ 78 10,mJ 6 78] [6] .ret
def Q0l:SC:=sR (lJ 71 3::mJ 72 11::cJ 73 .add 72 1::mJ 74 11::cJ 75 .add 74 1::eI 76 (.bslm 1 [.t 75])::Qjd) [10] Q0k
def Q0m:SC:=sR (lJ 65 3::mJ 66 10::mJ 67 13::eI 68 (.bslm 1 [.t 67])::Qjc) [3,10,11] Q0l
def Q0n:SC:=sR (lJ 61 3::mJ 62 12::eI 63 (.bslm 1 [.t 62])::Qke) [3,10,11,13] Q0m
def Q0o:SC:=.seq (.aH 8 [0,1,2,3,4,5,6,7] ( lJ 54 3::fJ 55 3 4::lJ 56 55::fI 57 (.iad 4 (.t 56) (kI 1))::tJ 58 4 57::lJ 59 5::aJ 60 Df [.t 54,.t 58,.t 59]::Qkc) [3,10,11,12]) Q0n
def Q0p:SC:=sR (lJ 46 3::mJ 47 9::mJ 48 11::mJ 49 11::mJ 50 11::cJ 51 .add 50 1::eI 52 (.bslm 1 [.t 49,.t 51])::Qkb) [3,4,5,10,11] Q0o
def Q0q:SC:=sR (lJ 44 3::aJ 45 De [.t 44,kI 2]::Qka) [3,4,5,9,10,11] Q0p
def Q0r:SC:=sR (lJ 42 3::eI 43 (.call Qw [.t 42,kI 1,kI 0,.k (.c (.sl true 1 []))])::Qj9) [3,4,5,9,10] Q0q
def Q0s:SC:=cT 33 (.seq (.aH 8 [0,1,2,3,4,5,6,7] ( lJ 35 3::fJ 36 3 4::lJ 37 36::fI 38 (.iad 4 (.t 37) (kI 0))::tJ 39 4 38::lJ 40 5::aJ 41 Df [.t 35,.t 39,.t 40]::Qj8) [3,4,5,9]) Q0r) .skip
def Q0t:SC:=cT 23 (sR (lJ 26 5::fJ 27 2 4::lJ 28 27::aJ 29 Fa [.t 26,.t 28]::Qj7) [7] Q48) (sR [cJ 34 .eql 16 10,mJ 33 34] [3,4,5,33] Q0s)
def Q0u:SC:=cT 17 (sR (lJ 19 3::fJ 20 1 4::lJ 21 20::eI 22 (.call Qw [.t 19,kI 1,.t 21,.k (.c (.sl true 1 []))])::Qj6) [6] .ret) (sR [cJ 24 .eql 16 2,mJ 23 24] [3,4,5,16,23] Q0t)
def Q0v:SC:=.block 0 (sR [cJ 18 .eql 16 1,mJ 17 18] [3,4,5,16,17] Q0u)
def Qje:List Item:=[mJ 14 82]
def Qjf:List Item:=[mJ 6 89]
def Qjg:List Item:=[mJ 6 94]
def Qjh:List Item:=[mJ 6 106]
def Qji:List Item:=hJ 97 3::aJ 106 Qw [.t 97,kI 14,.t 104,.t 105]::Qjh
def Q0w:SC:=cT 95 (.seq (.aH 11 [0,1,2,3,4,5,6,8,7,0,9,10] ( lJ 97 3::lJ 98 3::kJ 99 98::fJ 100 0 99::tJ 101 1 100::fJ 102 2 4::lJ 103 102::mJ 105 14::aJ 104 HC [.t 101,.t 103]::Qji) [6]) .ret) .skip
def Q0x:SC:=cT 90 (sR (lJ 92 3::mJ 93 14::aJ 94 Qw [.t 92,kI 11,kI 0,.t 93]::Qjg) [6] .ret) (sR [cJ 96 .eql 84 13,mJ 95 96] [3,4,14,95] Q0w)
def Q0y:SC:=cT 85 (sR (lJ 87 3::mJ 88 14::aJ 89 Qw [.t 87,kI 10,kI 0,.t 88]::Qjf) [6] .ret) (sR [cJ 91 .eql 84 12,mJ 90 91] [3,4,14,84,90] Q0x)
def Q0z:SC:=.block 1 (sR [cJ 86 .eql 84 11,mJ 85 86] [3,4,14,84,85] Q0y)
def Qjj:List Item:=[mJ 6 111]
def Q00:SC:=sR (lJ 107 3::fJ 108 0 4::lJ 109 108::mJ 110 14::aJ 111 Qw [.t 107,.t 109,kI 0,.t 110]::Qjj) [6] .ret
def Q01:SC:=.seq (sR [fJ 83 0 4,lJ 84 83] [3,4,14,84] Q0z) Q00
def Q02:SC:=sR (fJ 79 3 4::lJ 80 79::fI 81 (.mkf Kc [.t 3,.t 5])::aJ 82 Fe [.t 80,.t 81]::Qje) [3,4,14] Q01
def Q03:SC:=.seq (sR [fJ 15 0 4,lJ 16 15] [3,4,5,16] Q0v) Q02
def Qabr:SC:=sR [vJ 3 0,vJ 4 1,vJ 5 2,zJ 6 0] [3,4,5] Q03
theorem Q9v:mFn prog Df 3 112 Qabr AB=true:=by kernel_rfl
def Qi5:List Item:=[sJ 5 9 21]
def Qi6:List Item:=[mJ 10 26]
def Qi7:List Item:=[aJ 31 Qo [.t 27,kI 1,kI 0,.t 28,.t 30]]
def Qi8:List Item:=[mJ 11 38]
def Qi9:List Item:=[aJ 48 Qo [.t 39,kI 2,.t 40,.t 42,.t 47]]
def Qja:List Item:=[hJ 49 4,hJ 51 50,aJ 55 Q5 [.t 49,.t 51,.t 53,.t 54]]
def Qjb:List Item:=[aJ 61 Qo [.t 56,kI 1,kI 0,.t 58,.t 60]]
def Q0h:SC:=sR (lJ 56 4::mJ 57 10::cJ 58 .add 57 2::mJ 59 10::eI 60 (.bslm 1 [.t 59])::Qjb) [3,4,6,16,17,18] (.exit 1)
def Q0i:SC:=.seq (.aH 7 [0,1,2,3,5,4,0,2,6] ( lJ 49 4::fJ 50 3 9::lJ 51 50::lJ 52 6::mJ 54 3::aJ 53 CC [.t 52]::Qja) [3,4,6,10,16,17,18]) Q0h
def Q0j:SC:=sR (lJ 39 4::mJ 40 11::mJ 41 10::cJ 42 .add 41 1::mJ 43 10::cJ 44 .add 43 1::mJ 45 10::cJ 46 .add 45 2::eI 47 (.bslm 1 [.t 44,.t 46])::Qi9) [3,4,6,9,10,16,17,18] Q0i
def Qw0:SC:=.seq (.aH 8 [0,1,2,3,4,5,6,7] ( lJ 32 4::fJ 33 2 9::lJ 34 33::fI 35 (.iad 4 (.t 34) (kI 0))::tJ 36 4 35::lJ 37 6::aJ 38 Df [.t 32,.t 36,.t 37]::Qi8) [3,4,6,9,10,11,16,17,18]) Q0j
def Qw1:SC:=sR (lJ 27 4::mJ 28 10::mJ 29 10::eI 30 (.bslm 1 [.t 29])::Qi7) [3,4,6,9,10,16,17,18] Qw0
def Qw2:SC:=cT 24 (sR (lJ 25 4::aJ 26 De [.t 25,kI 3]::Qi6) [3,4,6,9,10,16,17,18] Qw1) .skip
def Qhl:List Item:=[mJ 12 65]
def Qw3:SC:=.aH 11 [0,1,2,3,4,5,6,7,8,9,10] ( lJ 87 4::lJ 88 6::kJ 89 88::fJ 90 0 89::lJ 91 90::fJ 92 1 9::lJ 93 92::fI 94 (.lup 1 (.c (.int .i64 0)) (.t 91) (.t 93))::mJ 95 12::fI 96 (.bld [.int .i64 0,.int .i64 0,.sl true 1 [],.int .i64 0] [(0,1,kI 2),(1,1,.t 94),(2,1,.t 95),(3,1,kI 0)])::aJ 97 CD [.t 87,.t 96]::[]) [3,4,6,16,17,18]
def Qw4:SC:=sR [mJ 80 3,kJ 81 80,fJ 82 0 81,lJ 83 82,cJ 84 .add 83 1,kJ 85 80,fJ 86 0 85,sJ 1 86 84] [3,4,6,9,12,16,17,18] Qw3
def Qhm:List Item:=[mJ 100 104,fI 105 (.ext (.t 100) 0),fI 106 (.ext (.t 100) 1),mJ 13 105,mJ 14 106]
def Qw5:SC:=.reg [lJ 107 4,mJ 108 13,mJ 109 12,fI 110 (.bld [.int .i64 0,.int .i64 0,.sl true 1 [],.int .i64 0] [(0,1,kI 2),(1,1,.t 108),(2,1,.t 109),(3,1,kI 0)]),aJ 111 CD [.t 107,.t 110]] [3,4,6,16,17,18]
def Qhn:List Item:=[mJ 15 127]
def Qho:List Item:=[hJ 128 4,.chk 130 none (.iad 1 (.t 129) (kI 0)),hJ 131 130,aJ 137 Qo [.t 128,kI 2,.t 131,.t 132,.t 136]]
def Qhp:List Item:=[hJ 138 4,hJ 140 139,aJ 144 Q5 [.t 138,.t 140,.t 142,.t 143]]
def Qhq:List Item:=[aJ 151 Qo [.t 145,kI 1,kI 0,.t 147,.t 150]]
def Qhr:List Item:=[hJ 152 4,hJ 154 153,aJ 158 Q5 [.t 152,.t 154,.t 156,.t 157]]
def Qhs:List Item:=[aJ 165 Qo [.t 159,kI 1,kI 0,.t 161,.t 164]]
def Qw6:SC:=.reg (lJ 159 4::mJ 160 15::cJ 161 .add 160 2::mJ 162 15::cJ 163 .add 162 2::eI 164 (.bslm 1 [.t 163])::Qhs) [3,4,6,16,17,18]
def Qw7:SC:=.seq (.aH 7 [0,1,2,3,5,4,0,2,6] ( lJ 152 4::fJ 153 4 9::lJ 154 153::lJ 155 6::mJ 157 3::aJ 156 CC [.t 155]::Qhr) [3,4,6,15,16,17,18]) Qw6
def Qw8:SC:=sR (lJ 145 4::mJ 146 15::cJ 147 .add 146 1::mJ 148 15::cJ 149 .add 148 2::eI 150 (.bslm 1 [.t 149])::Qhq) [3,4,6,9,15,16,17,18] Qw7
def Qw9:SC:=.seq (.aH 7 [0,1,2,3,5,4,0,2,6] ( lJ 138 4::fJ 139 3 9::lJ 140 139::lJ 141 6::mJ 143 3::aJ 142 CC [.t 141]::Qhp) [3,4,6,9,15,16,17,18]) Qw8
def Qxa:SC:=.seq (.aH 10 [0,1,2,3,4,5,6,7,8,0,2,3,9] ( lJ 128 4::mJ 129 12::fI 130 (.iad 1 (.t 129) (kI 0))::lJ 131 130::mJ 132 15::mJ 133 15::mJ 134 15::cJ 135 .add 134 1::eI 136 (.bslm 1 [.t 133,.t 135])::Qho) [3,4,6,9,15,16,17,18]) Qw9
def Qht:List Item:=[hJ 168 4,.chk 170 none (.iad 1 (.t 169) (kI 0)),hJ 171 170,eI 174 (.call Qo [.t 168,kI 3,.t 171,.t 173,.k (.c (.sl true 1 []))])]
def Qxb:SC:=cT 166 (.aH 7 [0,1,2,3,4,5,0,2,3,6] ( lJ 168 4::mJ 169 12::fI 170 (.iad 1 (.t 169) (kI 0))::lJ 171 170::lJ 172 4::aJ 173 De [.t 172,kI 1]::Qht) [3,4,6,16,17,18]) .skip
def Qxc:SC:=cT 124 (sR (lJ 126 4::aJ 127 De [.t 126,kI 3]::Qhn) [3,4,6,9,12,15,16,17,18] Qxa) (sR [cJ 167 .eql 67 7,mJ 166 167] [3,4,6,12,16,17,18,166] Qxb)
def Qxd:SC:=cT 118 (.reg [lJ 120 4,mJ 121 12,fI 122 (.bld [.int .i64 0,.int .i64 0,.sl true 1 [],.int .i64 0] [(0,1,kI 12),(1,1,kI (-1)),(2,1,.t 121),(3,1,kI 0)]),aJ 123 CD [.t 120,.t 122]] [3,4,6,16,17,18]) (sR [cJ 125 .eql 67 5,mJ 124 125] [3,4,6,9,12,16,17,18,67,124] Qxc)
def Qxe:SC:=cT 112 (.reg [lJ 114 4,mJ 115 12,fI 116 (.bld [.int .i64 0,.int .i64 0,.sl true 1 [],.int .i64 0] [(0,1,kI 13),(1,1,kI (-1)),(2,1,.t 115),(3,1,kI 0)]),aJ 117 CD [.t 114,.t 116]] [3,4,6,16,17,18]) (sR [cJ 119 .eql 67 4,mJ 118 119] [3,4,6,9,12,16,17,18,67,118] Qxd)
def Qxf:SC:=cT 98 (sR (lJ 101 6::fJ 102 1 9::lJ 103 102::aJ 104 Fa [.t 101,.t 103]::Qhm) [3,4,6,12,13,16,17,18] Qw5) (sR [cJ 113 .eql 67 3,mJ 112 113] [3,4,6,9,12,16,17,18,67,112] Qxe)
def Qxg:SC:=cT 68 (.seq (.aH 11 [0,1,2,3,4,5,6,7,8,9,10] ( lJ 70 6::kJ 71 70::fJ 72 0 71::lJ 73 72::fJ 74 1 9::lJ 75 74::mJ 76 3::kJ 77 76::fJ 78 0 77::lJ 79 78::.e none none (.upd 1 (.t 73) (.t 75) (.t 79))::[]) [3,4,6,9,12,16,17,18]) Qw4) (sR [cJ 99 .eql 67 2,mJ 98 99] [3,4,6,9,12,16,17,18,67,98] Qxf)
def Qxh:SC:=.block 2 (sR [cJ 69 .eql 67 1,mJ 68 69] [3,4,6,9,12,16,17,18,67,68] Qxg)
def Qxi:SC:=sR [fJ 66 0 9,lJ 67 66] [3,4,6,9,12,16,17,18,67] Qxh
def Qxj:SC:=sR (fJ 62 2 9::lJ 63 62::fI 64 (.mkf KF [.t 4,.t 6])::aJ 65 Fe [.t 63,.t 64]::Qhl) [3,4,6,9,12,16,17,18] Qxi
def Qxk:SC:=.seq (sR [fJ 22 0 9,lJ 23 22,cJ 24 .eql 23 6] [3,4,6,9,16,17,18,24] Qw2) Qxj
def Qi3:SC:=.reg [cJ 175 .add 18 1,mJ 18 175] [3,4,6,16,17,18]
def Qi4:SC:=.seq (.block 1 (sR (iJ 20 5 16 18::tJ 21 5 20::eI 9 (.alloc [.int .i64 0,.str [],.sl true 4 [],.sl true 5 [],.sl true 5 []])::Qi5) [3,4,6,9,16,17,18] Qxk)) Qi3
def Qvc:SC:=sR [bJ 19 .lss 18 17] [3,4,6,16,17,18,19] (cX 19 0 Qi4)
def Qxl:SC:=sR [mJ 16 1,nJ 17 16,zJ 18 0] [3,4,6,16,17,18] (bL 0 Qvc)
def Q7q:SC:=sR [vJ 4 0,vJ 6 2] [1,3,4,6] Qxl
theorem Q57:mFn prog Q5 4 176 Q7q Av=true:=by kernel_rfl
def Qhu:List Item:=[sJ 4 7 13]
def Qhv:List Item:=[mJ 5 19]
def Qhw:List Item:=fI 18 (.bw 1 [.t 17])::xJ 19 1 14 18::Qhv
def Qxm:SC:=.reg (mJ 14 5::mJ 15 1::tJ 16 4 7::eI 17 (.bv (.t 15) [.t 16])::Qhw) [1,5,8,9,10]
def Qxn:SC:=.reg [cJ 20 .add 10 1,mJ 10 20] [1,5,8,9,10]
def Qxo:SC:=.seq (.block 1 (sR (iJ 12 4 8 10::tJ 13 4 12::eI 7 (.alloc [.int .i64 0,.int .i64 0,.str [],.sl true 4 []])::Qhu) [1,5,7,8,9,10] Qxm)) Qxn
def Qvd:SC:=sR [bJ 11 .lss 10 9] [1,5,8,9,10,11] (cX 11 0 Qxo)
def Qxp:SC:=sR [mJ 21 5,mJ 4 21] [4] .ret
def Qxq:SC:=.seq (sR [mJ 8 0,nJ 9 8,zJ 10 0] [1,5,8,9,10] (bL 0 Qvd)) Qxp
def Qxr:SC:=sR [fI 5 (.mv (.k (.c (.sl true 1 []))))] [0,1,5] Qxq
def Q49:SC:=sR [fI 4 (.mv (.k (.c (.sl true 1 []))))] [0,1] Qxr
theorem Q1s:mFn prog Fe 2 22 Q49 Aa=true:=by kernel_rfl
end Go.AE.Y
namespace Go.AE
variable {F H H':Heap}{A B M:List (Nat×Obj)}
theorem IW {α:Type}{l:List α}{i:Nat}(h:i<l.length):∃l1 l2,l=l1++l[i]::l2∧l1.length=i∧∀b,l.set i b=l1++b::l2:=by
 refine⟨l.take i,l.drop (i+1),?_,by rw[Jab];omega,fun b=>?_⟩
 ·rw[List.getElem_cons_drop,J0]
 ·rw[List.set_eq_take_append_cons_drop,if_pos h]
theorem DF (y:Nat)(l:List Int){n:Nat}(hn:n=l.length):OwS [(y,.vec 1 (Y.intsOf l))] 1 (Y.intsOf l) (.aG y 1 0 n):=
 .inr ⟨y,[],Y.intsOf l,by rw[hn];simp[Y.intsOf],rfl,rfl,fun r hr=>by obtain⟨x,_,rfl⟩:=Ju.1 hr;rfl,fun r hr=>by obtain⟨x,_,rfl⟩:=Ju.1 hr;rfl,by
  clear hn
  induction l with
  |nil=>exact .nil
  |cons x r ih=>exact .atom rfl ih⟩
theorem CR:OwS [] 1 (Y.intsOf []) (.sl true 1 []):=.inl ⟨rfl,rfl,rfl⟩
theorem Gr.owsI {Lg:List (Nat×Obj)}{l:List Int}{t:C}(h:Gr Lg 1 (Y.intsOf l) t):OwS Lg 1 (Y.intsOf l) t:=by
 rcases h with ⟨h1,h2,h3⟩|⟨y,h1,h2⟩
 ·have:l=[]:=by
   cases l with
   |nil=>rfl
   |cons a r=>simp[Y.intsOf]at h2
  subst this;subst h3;subst h1;exact .inl ⟨rfl,rfl,rfl⟩
 ·subst h1;subst h2;exact DF y l (by simp[Y.intsOf])
end Go.AE
namespace Go.AE.Y
open Go.Proofs.Tryz
structure OB where
 ic:C
 il:List (Nat×Obj)
 ins:List InsD
 jump:Int
 on:Int
 nc:C
 nl:List (Nat×Obj)
 next:List Int
def OB.row (b:OB):List C:=[.sl true 2 [],b.ic,.int .i64 b.jump,.int .i64 b.on,b.nc]
def OB.lg (b:OB):List (Nat×Obj):=b.il++b.nl
def OB.d (b:OB):BlkD:=⟨[],b.ins,b.jump,b.on,b.next⟩
structure OB.ok (b:OB):Prop where
 i:OwS b.il 4 (At b.ins) b.ic
 n:OwS b.nl 1 (intsOf b.next) b.nc
theorem OB.ar {b:OB}(h:b.ok):Go.AE.ar b.row=true:=by
 have h1:=h.i.ah;have h2:=h.n.ah;simp only[OB.row,Go.AE.ar,Jaw,Jay,h1,h2];rfl
theorem OB.ow {b:OB}(h:b.ok):OwL b.lg b.row b.d.cells:=by
 have:=h.i.cons (.atom (L:=b.nl) (c:=.int .i64 b.jump) rfl (.atom (c:=.int .i64 b.on) rfl h.n.one));exact .sln this
def obZ:OB:=⟨.sl true 4 [],[],[],0,0,.sl true 1 [],[],[]⟩
theorem Qb1g:obZ.ok:=⟨.inl ⟨rfl,rfl,rfl⟩,CR⟩
structure JS where
 fns:List Fn
 pfl:Bool
 params:Int
 ae:Int
 bc:C
 lb:List (Nat×Obj)
 blocks:List OB
 at_:Nat
def JS.o (s:JS):Obj:=.st [.sl s.pfl 3 (Ae s.fns),.int .i64 s.params,.int .i64 s.ae,s.bc,.int .i64 s.at_]
def JS.L (s:JS)(w:Nat):List (Nat×Obj):=[(w,s.o)]++(s.lb++s.blocks.flatMap OB.lg)
structure JInv (F H:Heap)(w:Nat)(s:JS):Prop where
 kn:Kn F H [] (s.L w)
 gb:Gr s.lb 5 (s.blocks.map OB.row) s.bc
 ob:∀b∈s.blocks,b.ok
structure JS.ok (s:JS)(N:Nat):Prop where
 r0:0≤s.ae
 r1:s.ae≤N
 b1:s.blocks.length≤N
 i1:∀b∈s.blocks,b.ins.length≤N
theorem JS.ok.mono {s:JS}{N M:Nat}(h:s.ok N)(hm:N≤M):s.ok M:=
 ⟨h.r0,by have:=h.r1;omega,by have:=h.b1;omega,fun b hb=>by have:=h.i1 b hb;omega⟩
def JS.d (s:JS):Lw:=⟨s.ae,s.blocks.map OB.d,s.at_⟩
theorem JS.dlen (s:JS):s.blocks.length=s.d.bs.length:=by simp[JS.d]
theorem JS.dregs (s:JS):s.ae=s.d.ae:=rfl
variable {F H H':Heap}{w:Nat}{s:JS}{K:V→Heap→Prop}{La M:List (Nat×Obj)}{t:C}
theorem JInv.hw (h:JInv F H w s):H w=s.o:=h.kn.l 0 rfl
theorem JInv.bvec (h:JInv F H w s)(hb:0<s.blocks.length):∃y,s.bc=.aG y 5 0 s.blocks.length∧s.lb=[(y,.vec 5 (s.blocks.map OB.row))]∧H y=.vec 5 (s.blocks.map OB.row):=by
 rcases h.gb with ⟨_,h2,_⟩|⟨y,h1,h2⟩
 ·simp at h2;rw[h2]at hb;simp at hb
 ·refine⟨y,by rw[h1];simp,h2,?_⟩;exact (h.kn.get (y,.vec 5 (s.blocks.map OB.row)) (by simp[JS.L,h2])).1
theorem JInv.setw {s':JS}(h:JInv F H w s)(h1:H'=H.set w s'.o)(a1:s'.lb=s.lb)(a3:s'.blocks=s.blocks)(a4:s'.bc=s.bc):JInv F H' w s':=by
 refine⟨?_,by rw[a1,a3,a4];exact h.gb,by rw[a3];exact h.ob⟩;have:=h.kn.aT 0 (x:=w) (o:=s.o) rfl h1 (by simp[JS.o]);simp only[JS.L,a1,a3];exact this
theorem JInv.re {H2:Heap}(h:JInv F H w s)(kn:Kn F H2 [] (s.L w)):JInv F H2 w s:=⟨kn,h.gb,h.ob⟩
theorem Qb2r (n:Nat):(List.replicate n obZ).flatMap OB.lg=[]:=by
 induction n with
 |zero=>rfl
 |succ n ih=>rw[Jan,Jw,ih];rfl
theorem JInv.addBlks {n:Nat}(h:JInv F H w s)(hl:s.blocks.length+n≤LIM)
  (hK:∀(y:Nat) (H1:Heap),H1 w=s.o→(∀H2,H2=H1.set w (JS.o { s with bc:=.aG y 5 0 (s.blocks.length+n) })→
   JInv F H2 w { s with bc:=.aG y 5 0 (s.blocks.length+n),lb:=[(y,.vec 5 ((s.blocks++List.replicate n obZ).map OB.row))],blocks:=s.blocks++List.replicate n obZ })→K (.c (.aG y 5 0 (s.blocks.length+n))) H1) :
  appQ H 5 s.bc (.sl false 5 (List.replicate n obZ.row)) K:=by
 have kn:=h.kn;have kn:Kn F H [] (([(w,s.o)]++s.blocks.flatMap OB.lg)++s.lb):=kn.perm (by
  simp only[JS.L,Jf];exact .append_left _ Jh)
 refine kn.grow h.gb (.mk' _ _ _ _) (by
  intro r hr;obtain⟨_,rfl⟩:=List.mem_replicate.1 hr;rfl) (by simpa using hl) fun y H1 kn=>?_
 have e1:(s.blocks.map OB.row).length+(List.replicate n obZ.row).length=s.blocks.length+n:=by simp
 rw[e1];refine hK y H1 (kn.l 0 rfl) fun H2 h2=>⟨?_,?_,?_⟩
 ·have:=kn.aT 0 (x:=w) (o:=s.o) rfl h2 (by simp[JS.o]);simp only[JS.L,Jx,Qb2r,Jo,J2,List.map_replicate];simp only[Jq,Js,Jz]at this⊢;refine this.perm (.cons _ ?_);exact Jh
 ·exact .mk _ _ _ (by simp)
 ·intro b' aR;rcases Jn.1 aR with aR|aR
  ·exact h.ob b' aR
  ·obtain⟨_,rfl⟩:=List.mem_replicate.1 aR;exact Qb1g
theorem JInv.putBlk {b':OB}{y i:Nat}(h:JInv F H w s)(kn:Kn F H [] (s.L w++La))(hi:i<s.blocks.length)(cK:s.bc=.aG y 5 0 s.blocks.length)(dT:s.lb=[(y,.vec 5 (s.blocks.map OB.row))])
  (h1:H'=H.set y (.vec 5 ((s.blocks.set i b').map OB.row))) (hb:b'.ok) {D:List (Nat×Obj)} (hp:(s.blocks[i].lg++La).Perm (b'.lg++D)) :
  JInv F H' w { s with lb:=[(y,.vec 5 ((s.blocks.set i b').map OB.row))],blocks:=s.blocks.set i b' }:=by
 obtain⟨l1,l2,e1,e2,e3⟩:=IW hi;refine⟨?_,?_,fun b om=>?_⟩
 ·have k1:=kn;simp only[JS.L,dT]at k1;have k1:=k1.aT 1 (x:=y) rfl h1;have k2:Kn F H' [] ((w,s.o)::(y,.vec 5 ((s.blocks.set i b').map OB.row))::((l1.flatMap OB.lg++(b'.lg++l2.flatMap OB.lg))++D)):=k1.perm (by
   simp only[Jq,Js,Jz,Jac];refine .cons _ (.cons _ ?_)
   conv=>lhs;rw[e1]
   rw[Jx,Jw];refine HF fun f hf h0 hc pN=>?_;have:=pN _ _ hp;simp only[hf]at this⊢;omega)
  simp only[JS.L];rw[e3 b',Jx,Jw];rw[e3 b']at k2;exact k2.sub (.cons_cons _ (.cons_cons _ (List.sublist_append_left _ _)))
 ·simp only[cK];exact .mk _ _ _ (by simp)
 ·rw[e3 b']at om;have dR:∀v,v∈l1∨v∈l2→v.ok:=fun v hv=>h.ob v (by
   rw[e1];rcases hv with hv|hv
   ·exact J8 _ hv
   ·exact J7 _ (Jk _ hv))
  rcases Jn.1 om with br|br
  ·exact dR b (.inl br)
  ·rcases J4.1 br with rfl|br
   ·exact hb
   ·exact dR b (.inr br)
theorem JInv.addIns {y i:Nat}{fl:Bool}{op to n:Int}{args:List Int}(h:JInv F H w s)(kn:Kn F H [] (s.L w++La))(ho:OwS La 1 (intsOf args) t)(hi:i<s.blocks.length)(cK:s.bc=.aG y 5 0 s.blocks.length)(dT:s.lb=[(y,.vec 5 (s.blocks.map OB.row))])
  (hl:s.blocks[i].ins.length+1≤LIM)
  (hK:∀(tz:C) (H1:Heap),tz.ah=false→H1 w=s.o→H1 y=.vec 5 (s.blocks.map OB.row)→
   (∀H2,H2=H1.set y (.vec 5 ((s.blocks.map OB.row).set i (OB.row { s.blocks[i]with ic:=tz })))→
    ∃b':OB,b'.ins.length=s.blocks[i].ins.length+1∧b'.d={ s.blocks[i].d with ins:=s.blocks[i].d.ins++[⟨op,to,args,n⟩] }∧JInv F H2 w { s with lb:=[(y,.vec 5 ((s.blocks.set i b').map OB.row))],blocks:=s.blocks.set i b' })→K (.c tz) H1) :
  appQ H 4 s.blocks[i].ic (.sl fl 4 [[.int .i64 op,.int .i64 to,t,.int .i64 n]]) K:=by
 have hm:=Jb hi;obtain⟨iU,pR⟩:=h.ob _ hm;obtain⟨Lg,N,rows,eil,bQ,bZ,gV,dm,an⟩:=iU.gr;obtain⟨l1,l2,e1,e2,e3⟩:=IW hi;have aE:=ho.ah;have k1:Kn F H [] (([(w,s.o),(y,.vec 5 (s.blocks.map OB.row))]++(l1.flatMap OB.lg++(N++s.blocks[i].nl++l2.flatMap OB.lg)++La))++Lg):=kn.perm (by
  simp only[JS.L,dT];rw[show s.blocks.flatMap OB.lg=l1.flatMap OB.lg++(s.blocks[i].lg++l2.flatMap OB.lg)by conv=>lhs;rw[e1];rw[Jx,Jw]]
  rw[OB.lg,eil];refine HF fun f hf h0 hc pN=>?_;have e9:=hc (w,s.o) [(y,Obj.vec 5 (s.blocks.map OB.row))];simp only[hf,e9];omega)
 have gQ:rows.length=s.blocks[i].ins.length:=by rw[←bZ,Co]
 refine k1.dk bQ (new:=[[.int .i64 op,.int .i64 to,t,.int .i64 n]]) (.mk' _ _ _ _) (by intro r hr;simp only[Ja]at hr;subst hr;simp only[ar,Jaw,Jay,aE];rfl) (by simpa[gQ]using hl) fun tz Lg' H1 ew htz k2=>?_;refine hK tz H1 htz (k2.l 0 rfl) (k2.l 1 rfl) fun H2 h2=>?_;obtain⟨b',aR⟩:∃b':OB,b'={ s.blocks[i]with ic:=tz,il:=Lg'++(N++La),ins:=s.blocks[i].ins++[⟨op,to,args,n⟩] }:=⟨_,rfl⟩;have av:OB.row { s.blocks[i]with ic:=tz }=b'.row:=by rw[aR];rfl
 have bG:OwL La [.int .i64 op,.int .i64 to,t,.int .i64 n] (InsD.cells ⟨op,to,args,n⟩):=by
  have:=ho.cons (.atom (L:=[]) (c:=.int .i64 n) rfl .nil);rw[Jo]at this;exact .atom rfl (.atom rfl this)
 have aM:b'.ok:=by
  rw[aR];refine⟨ew.ows ?_ ?_ ?_ ?_,pR⟩
  ·simp[Co,gQ]
  ·intro r hr;rcases Jn.1 hr with hr|hr
   ·exact gV r hr
   ·simp only[Ja]at hr;subst hr;rfl
  ·intro r hr;obtain⟨x,_,rfl⟩:=Ju.1 hr;rfl
  ·rw[At,J2,List.flatten_append,List.flatten_append];refine an.app ?_;simpa using bG
 refine⟨b',by rw[aR];simp,by rw[aR];rfl,?_,?_,?_⟩
 ·have e0:(s.blocks.map OB.row).set i b'.row=(s.blocks.set i b').map OB.row:=by rw[J6]
  rw[av,e0]at h2;have k3:=k2.aT 1 (x:=y) rfl h2;simp only[Jq,Js,Jz,Jac]at k3;refine k3.perm ?_;simp only[JS.L];rw[show (s.blocks.set i b').flatMap OB.lg=l1.flatMap OB.lg++(b'.lg++l2.flatMap OB.lg)by rw[e3 b',Jx,Jw]];refine .cons _ (.cons _ ?_);show (([]:List (Nat×Obj))++(l1.flatMap OB.lg++(N++s.blocks[i].nl++l2.flatMap OB.lg)++La)++Lg').Perm _;rw[OB.lg,aR];refine HF fun f hf h0 hc pN=>?_;simp only[hf,h0];show _=f (([]:List (Nat×Obj))++(l1.flatMap OB.lg++(Lg'++(N++La)++s.blocks[i].nl++l2.flatMap OB.lg)));simp only[hf,h0];omega
 ·simp only[cK];exact .mk _ _ _ (by simp)
 ·intro b om;rw[e3 b']at om;rcases Jn.1 om with br|br
  ·exact h.ob b (by rw[e1];exact J8 _ br)
  ·rcases J4.1 br with rfl|br
   ·exact aM
   ·exact h.ob b (by rw[e1];exact J7 _ (Jk _ br))
structure JStep (s s':JS)(d:Nat):Prop where
 bl:s.blocks.length≤s'.blocks.length
 ok:∀N,s.ok N→s'.ok (N+d)
 at_:s.at_<s.blocks.length→s'.at_<s'.blocks.length
 fn:s'.fns=s.fns∧s'.pfl=s.pfl∧s'.params=s.params
theorem JStep.trans {s s' s'':JS}{d e:Nat}(h:JStep s s' d)(k:JStep s' s'' e):JStep s s'' (d+e):=
 ⟨J1 h.bl k.bl,fun N hN=>by rw[←Jax];exact k.ok _ (h.ok N hN),fun ha=>k.at_ (h.at_ ha),k.fn.1.trans h.fn.1,k.fn.2.1.trans h.fn.2.1,k.fn.2.2.trans h.fn.2.2⟩
theorem JStep.refl (s:JS):JStep s s 0:=⟨Jc _,fun N h=>h,fun h=>h,rfl,rfl,rfl⟩
theorem JStep.mono {s s':JS}{d e:Nat}(h:JStep s s' d)(hd:d≤e):JStep s s' e:=⟨h.bl,fun N hN=>(h.ok N hN).mono (by omega),h.at_,h.fn⟩
theorem Qb05 {N:Nat}(h:JInv F H w s)(aM:s.ok N)(hN:N+1≤2^38)(hK:∀(s':JS) (H':Heap),JInv F H' w s'→JStep s s' 1→s'.d=s.d.fresh→K (.c (.int .i64 s.ae)) H') :
  Qi prog Rd [.c (.ptr w 0)] H K:=by
 have hw:=h.hw;have h0:=aM.r0;have h1:=aM.r1;refine Qb Ab Qsc ?_;refine Qa ?_;simp only[go_sem];refine Qa ?_;simp only[go_sem,hw,JS.o];refine⟨Ql,fun H1 ft=>?_⟩;have h':JInv F H1 w { s with ae:=s.ae+1 }:=h.setw ft rfl rfl rfl;have cZ:=h'.hw;refine Qa ?_;simp only[go_sem,cZ,JS.o];refine⟨Ql,?_⟩;refine Qg ?_;simp only[go_sem,Qq,Q1,Ad,Ja,forall_eq,RS.op];refine hK _ H1 h' ⟨Jc _,fun M hM=>⟨?_,?_,?_,?_⟩,fun h=>h,rfl,rfl,rfl⟩ rfl
 ·have:=hM.r0;show 0≤s.ae+1;omega
 ·have:=hM.r1;show s.ae+1≤_;omega
 ·have:=hM.b1;show s.blocks.length≤_;omega
 ·intro b hb;have:=hM.i1 b hb;omega
theorem JInv.bget (h:JInv F H w s):bt H s.bc=True∧ax s.bc=s.blocks.length:=by
 rcases h.gb with ⟨h1,h2,_⟩|⟨y,h1,h2⟩
 ·rw[h1];refine⟨rfl,?_⟩;have:=congrArg List.length h2;simp only[Ji,Jr]at this;rw[this];rfl
 ·have hy:H y=.vec 5 (s.blocks.map OB.row):=(h.kn.get (y,.vec 5 (s.blocks.map OB.row)) (by simp[JS.L,h2])).1;rw[h1];refine⟨eq_true ?_,by simp[ax]⟩;simp only[Go.AE.bt,hy];exact⟨trivial,by omega⟩
theorem D5 {n N:Nat}(h:JInv F H w s)(aM:s.ok N)(hN:N+n≤2^38)(hK:∀(s':JS) (H':Heap),JInv F H' w s'→JStep s s' n→s.blocks.length+n≤s'.blocks.length→s'.d=s.d.add n→K (.c (.int .i64 s.blocks.length)) H') :
  Qi prog De [.c (.ptr w 0),.c (.int .i64 n)] H K:=by
 have hw:=h.hw;have aV:=aM.b1;have cU:=h.gb.ah;obtain⟨dJ,dU⟩:=h.bget;refine Qb Ab Qqk ?_;refine Qa ?_;simp only[go_sem];refine Qa ?_;simp only[go_sem,hw,JS.o,cU,dJ,dU];intro _;refine Qa ?_;simp only[go_sem,hw,JS.o,cU];refine⟨by have:=Bu;omega,?_⟩;refine h.addBlks (n:=n) (by simp only[LIM];omega) fun y H1 cZ cont=>?_;simp only[go_sem,Td,cZ,JS.o];intro H2 h2;have h':=cont H2 h2;refine Qa ?_;simp only[go_sem];refine Qg ?_;simp only[go_sem,Qq,Q1,Aa,Ja,forall_eq,RS.op];refine hK _ H2 h' ⟨by simp,fun M hM=>⟨hM.r0,?_,?_,?_⟩,fun ha=>by simp;show s.at_<_;omega,rfl,rfl,rfl⟩ (by simp) ?_
 ·have:=hM.r1;show s.ae≤_;omega
 ·have:=hM.b1;simp;omega
 ·intro b hb;rcases Jn.1 hb with hb|hb
  ·have:=hM.i1 b hb;omega
  ·obtain⟨_,rfl⟩:=List.mem_replicate.1 hb;simp[obZ]
 ·simp[JS.d,Lw.add,OB.d,obZ,blk0]
theorem CY {N:Nat}{op to n:Int}{args:List Int}(h:JInv F H w s)(kn:Kn F H [] (s.L w++La))(ho:OwS La 1 (intsOf args) t)(az:s.at_<s.blocks.length)(aM:s.ok N)(hN:N+1≤2^38)
  (hK:∀(s':JS) (H':Heap),JInv F H' w s'→JStep s s' 1→s'.d=s.d.put op to n args→K (.tup []) H') :
  Qi prog CD [.c (.ptr w 0),.ag [.int .i64 op,.int .i64 to,t,.int .i64 n]] H K:=by
 have hw:=h.hw;have aE:=ho.ah;obtain⟨y,cK,dT,hy⟩:=h.bvec (by omega);have hm:=Jb az;have qA:=aM.i1 _ hm;have iz:=(h.ob _ hm).i.ah;have lp:=(h.ob _ hm).n.ah;have dJ:List.getD (List.map OB.row s.blocks) s.at_ []=s.blocks[s.at_].row:=by simp[Jd,az]
 have dU:List.getD (List.take s.blocks.length (List.map OB.row s.blocks)) s.at_ []=s.blocks[s.at_].row:=by
  rw[Jg (by simp)];exact dJ
 refine Qb Ab Qsb ?_;refine Qa ?_;simp only[go_sem,aE];refine Ak ?_;simp only[go_sem,hw,JS.o,cK,hy,az,aE,Jl,Ji];refine CE ?_;simp only[go_sem,hy,az,dU,OB.row,iz,lp,aE,Jl,Ji];refine h.addIns kn ho az cK dT (by simp only[LIM];omega) fun z H1 hz cZ gA cont=>?_;simp only[go_sem,SO,gA,dJ,az,OB.row,hz,lp,Jl,Ji];intro H2 h2;obtain⟨b',aR,oo,h'⟩:=cont H2 h2;simp only[Qq,Q1,Av];refine⟨by simp,hK _ H2 h' ⟨by simp,fun M hM=>⟨hM.r0,?_,?_,?_⟩,fun ha=>by simp;show s.at_<_;omega,rfl,rfl,rfl⟩ ?_⟩
 ·have:=hM.r1;show s.ae≤_;omega
 ·have:=hM.b1;simp;omega
 ·intro b hb;rcases Jae hb with hb|rfl
  ·have:=hM.i1 b hb;omega
  ·have:=hM.i1 _ hm;omega
 ·simp only[JS.d,Lw.put];rw[HE OB.d (fun b=>{ b with ins:=b.ins++[⟨op,to,args,n⟩] }) _ _ _ fun _=>by rw[oo]]
theorem JInv.side (h:JInv F H w s)(kn:Kn F H [] (s.L w++M)) :
  ∃F',JInv F' H w s∧(∀m,F m≠.none→F' m=F m)∧(∀p∈M,F' p.1=p.2)∧∀(s':JS) (H':Heap) (A:List (Nat×Obj)),JInv F' H' w s'→Kn F' H' [] (s'.L w++A)→JInv F H' w s'∧Kn F H' [] ((s'.L w++A)++M):=by
 obtain⟨F',k1,k2,k3,k4⟩:=kn.sideX;exact⟨F',⟨k1,h.gb,h.ob⟩,k2,k3,fun s' H' A h' k'=>⟨⟨(k4 _ _ k').drop.drop,h'.gb,h'.ob⟩,k4 _ _ k'⟩⟩
theorem Fg {N:Nat}{op n:Int}{args:List Int}(h:JInv F H w s)(kn:Kn F H [] (s.L w++La))(ho:OwS La 1 (intsOf args) t)(az:s.at_<s.blocks.length)(aM:s.ok N)(hN:N+2≤2^38)
  (hK:∀(s':JS) (H':Heap),JInv F H' w s'→JStep s s' 2→s'.d=s.d.make op n args→K (.c (.int .i64 s.ae)) H') :
  Qi prog Qw [.c (.ptr w 0),.c (.int .i64 op),.c (.int .i64 n),.c t] H K:=by
 have aE:=ho.ah;obtain⟨F',hf,_,_,back⟩:=h.side kn;refine Qb Ab Qqj ?_;refine Qa ?_;simp only[go_sem,aE];refine Qa ?_;simp only[go_sem,aE];refine Qb05 hf aM (by omega) fun s1 H1 h1 st1 ex1=>?_;obtain⟨h1,kn1⟩:=back s1 H1 [] h1 (by rw[Jo];exact h1.kn);rw[Jo]at kn1;simp only[go_sem,Te,aE];refine Qa ?_;simp only[go_sem,aE];refine CY h1 kn1 ho (st1.at_ az) (st1.ok _ aM) (by omega) fun s2 H2 h2 st2 ex2=>?_;simp only[go_sem];refine Qa ?_;simp only[go_sem];refine Qg ?_;simp only[go_sem,Qq,Q1,SE,Ja,forall_eq,RS.op];exact hK s2 H2 h2 (st1.trans st2) (by rw[ex2,ex1];rfl)
theorem DP {N:Nat}{kind on:Int}{at':Nat}{next:List Int}(h:JInv F H w s)(kn:Kn F H [] (s.L w++La))(ho:OwS La 1 (intsOf next) t)(az:s.at_<s.blocks.length)(jf:at'<s.blocks.length)
  (hK:∀(s':JS) (H':Heap),JInv F H' w s'→JStep s s' 0→s'.d=s.d.jump kind on next at'→K (.tup []) H') :
  Qi prog Qo [.c (.ptr w 0),.c (.int .i64 kind),.c (.int .i64 on),.c (.int .i64 at'),.c t] H K:=by
 have hw:=h.hw;have aE:=ho.ah;obtain⟨y,cK,dT,hy⟩:=h.bvec (by omega);have hm:=Jb az;obtain⟨iU,pR⟩:=h.ob _ hm;have iz:=iU.ah;have lp:=pR.ah;have dJ:List.getD (List.map OB.row s.blocks) s.at_ []=s.blocks[s.at_].row:=by simp[Jd,az]
 refine Qb Ab Qsa ?_;refine Ak ?_;simp only[go_sem,hw,JS.o,cK,hy,az,aE,Jl,Ji];refine Qa ?_;simp only[go_sem,hy,dJ,az,aE,OB.row,Jl,Ji];intro H1 h1;have h1:H1=H.set y (.vec 5 ((s.blocks.set s.at_ { s.blocks[s.at_]with jump:=kind }).map OB.row)):=by rw[h1,J6];rfl
 have gA:H1 y=.vec 5 ((s.blocks.set s.at_ { s.blocks[s.at_]with jump:=kind }).map OB.row):=by rw[h1];exact Heap.ay _ _ _
 have dU:List.getD ((s.blocks.set s.at_ { s.blocks[s.at_]with jump:=kind }).map OB.row) s.at_ []=[.sl true 2 [],s.blocks[s.at_].ic,.int .i64 kind,.int .i64 s.blocks[s.at_].on,s.blocks[s.at_].nc]:=by simp[Jd,az,OB.row]
 simp only[go_sem,SP,gA,dU,az,aE,Jl,Ji,J5];intro H2 h2;have h2:H2=H.set y (.vec 5 ((s.blocks.set s.at_ { s.blocks[s.at_]with jump:=kind,on:=on }).map OB.row)):=by
  rw[h2,h1,Heap.set_set];simp only[J6,J9];rfl
 have iE:H2 y=.vec 5 ((s.blocks.set s.at_ { s.blocks[s.at_]with jump:=kind,on:=on }).map OB.row):=by rw[h2];exact Heap.ay _ _ _
 have nV:List.getD ((s.blocks.set s.at_ { s.blocks[s.at_]with jump:=kind,on:=on }).map OB.row) s.at_ []=[.sl true 2 [],s.blocks[s.at_].ic,.int .i64 kind,.int .i64 on,s.blocks[s.at_].nc]:=by simp[Jd,az,OB.row]
 simp only[go_sem,SQ,iE,nV,az,aE,Jl,Ji,J5];intro H3 h3;obtain⟨b',aR⟩:∃b':OB,b'={ s.blocks[s.at_]with jump:=kind,on:=on,nc:=t,nl:=La,next:=next }:=⟨_,rfl⟩;have h3:H3=H.set y (.vec 5 ((s.blocks.set s.at_ b').map OB.row)):=by
  rw[h3,h2,Heap.set_set,aR];simp only[J6,J9];rfl
 have hv:=h.putBlk kn az cK dT h3 (by rw[aR];exact⟨iU,ho⟩) (D:=s.blocks[s.at_].nl) (by
  rw[OB.lg,OB.lg,aR,Jf,Jf];exact .append_left _ Jh)
 have ik:=hv.hw;refine Qn ?_;simp only[go_sem,ik,JS.o];intro H4 h4;have h':=hv.setw (s':={ s with lb:=[(y,.vec 5 ((s.blocks.set s.at_ b').map OB.row))],blocks:=s.blocks.set s.at_ b',at_:=at' }) h4 rfl rfl rfl;simp only[Qq,Q1,Av];refine⟨by simp,hK _ H4 h' ⟨by simp,fun M hM=>⟨hM.r0,hM.r1,?_,?_⟩,fun ha=>by simpa using jf,rfl,rfl,rfl⟩ ?_⟩
 ·have:=hM.b1;simpa using this
 ·intro b hb;rcases Jae hb with hb|rfl
  ·exact hM.i1 b hb
  ·have:=hM.i1 _ hm;rw[aR];exact this
 ·simp only[JS.d,Lw.jump];rw[HE OB.d (fun b=>{ b with jump:=kind,on:=on,next:=next }) _ _ _ fun _=>by rw[aR];rfl]
end Go.AE.Y
namespace Go.AE.Y
attribute [local go_sem] cond_true cond_false Bool.not_true Bool.not_false
open Go.Proofs.Tryz
variable {F H H':Heap}{w:Nat}{s:JS}{K:V→Heap→Prop}{M Lg:List (Nat×Obj)}
theorem JInv.sideX (h:JInv F H w s)(kn:Kn F H [] (s.L w++M)) :
  ∃F',JInv F' H w s∧(∀m,F m≠.none→F' m=F m)∧(∀p∈M,F' p.1=p.2)∧∀(s':JS) (H':Heap),JInv F' H' w s'→JInv F H' w s'∧Kn F H' [] (s'.L w++M):=by
 obtain⟨F',k1,k2,k3,k4⟩:=h.side kn;exact⟨F',k1,k2,k3,fun s' H' h'=>by have:=k4 s' H' [] h' (by rw[Jo];exact h'.kn);rwa [Jo]at this⟩
theorem JInv.sideA {La:List (Nat×Obj)}(h:JInv F H w s)(kn:Kn F H [] ((s.L w++La)++M)) :
  ∃F',JInv F' H w s∧Kn F' H [] (s.L w++La)∧(∀m,F m≠.none→F' m=F m)∧(∀p∈M,F' p.1=p.2)∧∀(s':JS) (H':Heap),JInv F' H' w s'→JInv F H' w s'∧Kn F H' [] (s'.L w++M):=by
 obtain⟨F',k1,k2,k3,k4⟩:=kn.sideX;exact⟨F',⟨k1.drop,h.gb,h.ob⟩,k1,k2,k3,fun s' H' h'=>⟨⟨(k4 _ _ h'.kn).drop,h'.gb,h'.ob⟩,k4 _ _ h'.kn⟩⟩
def JExX (n:Nat):Prop:=∀(x:Ex) (F H:Heap) (w:Nat) (s:JS) (N:Nat) (sc:ScD) (v:Vars) (K:V→Heap→Prop),x.size≤n→x.ok→JInv F H w s→ScIn F sc v→s.at_<s.blocks.length→s.ok N→N+10 * x.size≤2^38→
  (∀(s':JS) (H':Heap),JInv F H' w s'→JStep s s' (10 * x.size)→s'.d=(x.low (Aj v 0) (Ac s.fns) s.d).1→K (.c (.int .i64 (x.low (Aj v 0) (Ac s.fns) s.d).2)) H')→
  Qi prog Df [.c (.ptr w 0),.ag x.cells,.c (scC sc.ls)] H K
theorem Kj {f n N:Nat}{caps:List C}{l:List Ex}{fl:Bool}{sc:ScD}{v:Vars}(fw:Q4 l≤n)(aM:BK l)(h:JInv F H w s)(cr:ScIn F sc v)(az:s.at_<s.blocks.length)(aq:s.ok N)(hN:N+10 * Q4 l≤2^38)
  (hf:∀x∈l,∀(F H:Heap) (s:JS) (N:Nat) (K':V→Heap→Prop),JInv F H w s→ScIn F sc v→s.at_<s.blocks.length→s.ok N→N+10 * x.size≤2^38→
   (∀(s':JS) (H':Heap),JInv F H' w s'→JStep s s' (10 * x.size)→s'.d=(x.low (Aj v 0) (Ac s.fns) s.d).1→K' (.c (.int .i64 (x.low (Aj v 0) (Ac s.fns) s.d).2)) H')→
   Qi prog f ([.ag x.cells]++caps.map .c) H K')
  (hK:∀(s':JS) (H':Heap) (La:List (Nat×Obj)) (t:C),JInv F H' w s'→Kn F H' [] (s'.L w++La)→Gr La 1 (intsOf (Am (Aj v 0) (Ac s.fns) l s.d).2) t→JStep s s' (10 * Q4 l)→s'.d=(Am (Aj v 0) (Ac s.fns) l s.d).1→K (.c t) H') :
  Qi prog Fe [.c (.sl fl 4 (Af l)),.c (.fn f caps)] H K:=by
 refine Qb Ab Q1s ?_;refine Qa ?_;simp only[go_sem];refine Qa ?_;simp only[go_sem];refine Qp (Qa ?_);simp only[go_sem,Qt];intro hl;simp only[LIM]at hl;refine Qe (Qf (Qu (fun m e1 H1=>∃(i:Nat) (ars:List Int) (c:C) (Lg:List (Nat×Obj)) (s':JS),m=l.length-i∧i≤l.length∧ars.length=i∧Gr Lg 1 (intsOf ars) c∧JInv F H1 w s'∧Kn F H1 [] (s'.L w++Lg)∧
  JStep s s' (10 * Q4 (l.take i))∧s'.d=(Am (Aj v 0) (Ac s.fns) (l.take i) s.d).1∧ars=(Am (Aj v 0) (Ac s.fns) (l.take i) s.d).2∧
  e1=[(1,.c (.fn f caps)),(5,.c c),(8,.c (.sl fl 4 (Af l))),(9,.c (.int .i64 l.length)),(10,.c (.int .i64 i))]) l.length ?_ ?_))
 ·exact⟨0,[],_,[],s,by omega,by omega,rfl,.nil 1,h,by simpa using h.kn,(JStep.refl s).mono (by omega),by rw[Jt,Am],by rw[Jt,Am],rfl⟩
 ·rintro m e1 H1 ⟨i,ars,c,Lg,s1,hm,hi,fT,bQ,h1,kn,st1,ex1,bB,rfl⟩;have hY:=bQ.ah;refine Qa ?_;simp only[go_sem,hY];refine Qe (Qc rfl ?_ ?_)
  ·intro hc;have aa:i<l.length:=by simpa using hc
   have eK:=B0 (Jb aa);have aO:=HQ aa;have jo:=F6 l (i+1);obtain⟨x,hx⟩:∃x,l[i]=x:=⟨_,rfl⟩;have eO:x∈l:=by rw[←hx];exact Jb aa
   rw[hx]at eK aO;refine Qd ?_;try simp only[go_sem]
   refine Qe (Qf ?_);refine Qa ?_;simp only[go_sem,hY,aa,Qt,B7 _ _ aa,hx,x.ab];intro x7 dY H3 h3;have kn:Kn F H3 [] (s1.L w++([(x7,.st [.int .i64 0,.int .i64 0,.str [],.sl true 4 []])]++Lg)):=(kn.al dY h3).perm (by
    rw[Jf];exact .append_left _ Jh)
   have g7:H3 x7=_:=(kn.get (x7,.st [.int .i64 0,.int .i64 0,.str [],.sl true 4 []]) (by simp)).1;simp only[go_sem,Qhu,g7,hY];intro H4 h4;have kn:Kn F H4 [] (s1.L w++([(x7,.st [.int .i64 x.op,.int .i64 x.n,.str x.name,.sl false 4 (Af x.kids)])]++Lg)):=kn.stM (by simpa using h4);have g7:H4 x7=.st [.int .i64 x.op,.int .i64 x.n,.str x.name,.sl false 4 (Af x.kids)]:=(kn.get (x7,_) (by simp)).1;have h1:JInv F H4 w s1:=h1.re kn.drop;refine Qn ?_;simp only[go_sem,g7,hY];obtain⟨F',qM,jG,_,back⟩:=h1.side kn;have gm:=hf x eO F' H4 s1 (N+10 * Q4 (l.take i));rw[x.ab]at gm;refine gm _ qM (cr.mono jG) (st1.at_ az) (st1.ok _ aq) (by omega) fun s2 H5 h2 st2 ex2=>?_;obtain⟨h2,kn⟩:=back s2 H5 [] h2 (by rw[Jo];exact h2.kn);rw[Jo]at kn;have etk:Am (Aj v 0) (Ac s.fns) (l.take (i+1)) s.d=((x.low (Aj v 0) (Ac s1.fns) s1.d).1,ars++[(x.low (Aj v 0) (Ac s1.fns) s1.d).2]):=by
    rw[Je aa,Ps,hx,ex1,st1.fn.1,bB]
   obtain⟨r,hr⟩:∃r,(x.low (Aj v 0) (Ac s1.fns) s1.d).2=r:=⟨_,rfl⟩;rw[hr]at etk;rw[hr];have kn:Kn F H5 [] (s2.L w++Lg):=kn.sub (.append_left (List.sublist_append_right _ _) _);simp only[go_sem,Qhw,hY];refine kn.dk bQ (new:=intsOf [r]) (.mk' _ true 1 _) (BD _) (by simp only[Qm,fT,Jp,Jr,LIM];omega) fun t2 Lg2 H6 fh dZ kn=>?_;rw[←HB]at fh;simp only[go_sem,Qhv,dZ];refine Qn ?_;simp only[go_sem,AE.X.next,dZ];exact⟨Ql,l.length-(i+1),by omega,i+1,ars++[r],t2,Lg2,s2,rfl,by omega,by simp[fT],fh,h2.re kn.drop,kn,(st1.trans st2).mono (by rw[aO];omega),by rw[etk];exact ex2,by rw[etk],rfl⟩
  ·intro hc;have aC:l.length≤i:=by simpa using hc
   rw[Jg aC]at st1 ex1 bB;refine Qr ?_;simp only[go_sem,AE.X.next];refine Qa ?_;simp only[go_sem,hY];refine Qg ?_;simp only[go_sem,Qq,Q1,Aa,Ja,forall_eq,RS.op,hY];rw[bB]at bQ;exact hK s1 H1 Lg c h1 kn bQ st1 ex1
end Go.AE.Y
namespace Go.AE.Y
open Go.Proofs.Tryz
variable {F H:Heap}{w:Nat}{s:LS}{K:V→Heap→Prop}
def hasN (name:List UInt8)(r:List C):Bool:=match r with
 |.str s::_=>decide (s=name)
 |_=>false
def rowN (r:List C):Int:=match r with
 |[_,.int _ n,_]=>n
 |_=>0
def rgR (rows:List (List C))(name:List UInt8):Int:=match rows.reverse.find? (hasN name)with
 |some r=>rowN r
 |none=>-1
theorem Qb1i {rows:List (List C)}{name:List UInt8}{i:Nat}(h:i<rows.length)(hn:(rows.drop (i+1)).reverse.find? (hasN name)=none)(hp:hasN name rows[i]=true):rgR rows name=rowN rows[i]:=by
 have e:rows.reverse=(rows.drop (i+1)).reverse++(rows[i]::(rows.take i).reverse):=by
  conv=>lhs;rw[←J0 i rows,Jad h]
  simp
 rw[rgR,e,List.find?_append,hn,Option.none_or,List.find?_cons,hp]
theorem Xu {rows:List (List C)}{name:List UInt8}{i:Nat}(h:i<rows.length)(hn:(rows.drop (i+1)).reverse.find? (hasN name)=none)(hp:hasN name rows[i]=false):(rows.drop i).reverse.find? (hasN name)=none:=by
 rw[Jad h,List.reverse_cons,List.find?_append,hn,Option.none_or,List.find?_cons,hp];rfl
theorem Lw.fresh_len (s:Lw):s.fresh.bs.length=s.bs.length:=rfl
theorem Lw.add_add (s:Lw)(a b:Nat):(s.add a).add b=s.add (a+b):=by simp only[Lw.add,Jf,List.replicate_append_replicate]
theorem LS.dregs (s:LS):s.ae=s.d.ae:=rfl
theorem FW (fns:List Fn)(name:List UInt8):ixI (As fns name)=Ac fns name:=by
 simp only[ixI,Ac];cases As fns name <;> rfl
theorem LR {name:List UInt8}(h:LInv F H w s)(hK:K (.c (.int .i64 (rgR s.vars name))) H):Qi prog P6 [.c (.ptr w 0),.c (.str name)] H K:=by
 have hw:=h.hw;obtain⟨dQ,jO⟩:=h.vget;have kz:=h.gv.ax;have rA:=h.gv.aQ;have im:=h.gv.ah;refine Qb Ab Qbf7 ?_;have retf:∀(n:Int) (e:Env),n=rgR s.vars name→lk 4 e=.c (.int .i64 n)→Qq Aa K .ret e H:=by
  intro b e hb h1;simp only[go_sem,Qq,Q1,Aa,Ja,forall_eq,RS.op,h1];rw[hb];exact hK
 refine Qa ?_;simp only[go_sem];refine Qp (Qa ?_);simp only[go_sem,hw,LS.o,dQ,kz,im];intro hl;simp only[LIM]at hl;refine⟨Ql,?_⟩;refine Qe (Qf (Qu (fun n e1 H1=>∃(j:Nat),n=j∧j≤s.vars.length∧(s.vars.drop j).reverse.find? (hasN name)=none∧H1=H∧e1=[(0,.c (.ptr w 0)),(1,.c (.str name)),(5,.c (.int .i64 ((j:Int)-1)))]) s.vars.length ?_ ?_))
 ·exact⟨s.vars.length,rfl,by omega,by simp,rfl,rfl⟩
 ·rintro n e1 H1 ⟨j,oI,hj,oH,rfl,rfl⟩;refine Qp (Qa ?_);simp only[go_sem];refine Qe (Qc rfl ?_ ?_)
  ·intro hc;have hj1:1≤j:=by simp at hc;omega
   obtain⟨i,rfl⟩:∃i,j=i+1:=⟨j-1,by omega⟩;have e1:(((i+1:Nat):Int)-1)=(i:Int):=by omega
   have aa:i<s.vars.length:=by omega
   obtain⟨nm,a,b,hr⟩:=h.rv _ (Jb aa);have aP:List.getD s.vars i []=[.str nm,.int .i64 a,.int .i64 b]:=by rw[←hr];simp[Jd,aa]
   rw[e1]at hc⊢;refine Qd ?_;simp only[go_sem];refine Qe (Qf ?_);refine Qa ?_;simp only[go_sem,hw,LS.o,dQ,jO,kz,im,rA,aa,aP];refine Qc rfl ?_ ?_
   ·intro ao;refine Qa ?_;simp only[go_sem,hw,LS.o,dQ,jO,kz,im,rA,aa,aP];refine Qg ?_;simp only[go_sem,X.next];refine retf _ _ ?_ (by simp[lk];rfl);rw[Qb1i aa oH (by rw[hr];simpa[hasN]using ao),hr];rfl
   ·intro ao;refine Qd ?_;simp only[go_sem];refine Qn ?_;simp only[go_sem,X.next];exact⟨Ql,i,by omega,i,rfl,by omega,Xu aa oH (by rw[hr];simpa[hasN]using ao),rfl⟩
  ·intro hc;refine Qr ?_;simp only[go_sem,X.next];refine Qa ?_;simp only[go_sem];refine Qg ?_;obtain rfl:j=0:=by simp at hc;omega
   refine retf _ _ ?_ (by simp[lk];rfl);rw[List.drop_zero]at oH;rw[rgR,oH]
def Ej (n:Nat):Prop:=∀(x:Ex) (F H:Heap) (w:Nat) (s:LS) (N:Nat) (K:V→Heap→Prop),x.size≤n→x.ok→LInv F H w s→s.at_<s.blocks.length→s.ok N→N+10 * x.size≤2^38→
  (∀(s':LS) (H':Heap),LInv F H' w s'→LStep s s' (10 * x.size)→LTo s' (x.low (rgR s.vars) (Ac s.fns) s.d).1 s.vars s.next→K (.c (.int .i64 (x.low (rgR s.vars) (Ac s.fns) s.d).2)) H')→Qi prog F7 [.c (.ptr w 0),.ag x.cells] H K
def AndX (n:Nat):Prop:=∀(x:Ex) (F H:Heap) (w:Nat) (s:LS) (N:Nat) (K:V→Heap→Prop),x.size≤n→x.ok→x.op=10→LInv F H w s→s.at_<s.blocks.length→s.ok N→N+10 * x.size≤2^38→
  (∀(s':LS) (H':Heap),LInv F H' w s'→LStep s s' (10 * x.size)→LTo s' (x.low (rgR s.vars) (Ac s.fns) s.d).1 s.vars s.next→K (.c (.int .i64 (x.low (rgR s.vars) (Ac s.fns) s.d).2)) H')→Qi prog Q1f [.c (.ptr w 0),.ag x.cells] H K
theorem Qb2e {n:Nat}(hE:∀m,m<n→Ej m):AndX n:=by
 intro x F H w s N K hn aM aK h az aq hN hK;have be:=x.size_kids;have gP:=Ex.ok_and aM aK;have cj:=Ex.ok_kids aM;obtain⟨a,b,eU⟩:∃a b,x.kids=[a,b]:=by
  match hx:x.kids,gP with
  |[a,b],_=>exact⟨a,b,rfl⟩
 rw[eU]at be cj;simp only[Q4,BK]at be cj;refine Qb Ab Qbf5 ?_;refine Qa ?_;simp only[go_sem,x.ab];refine Qa ?_;simp only[go_sem,eU,Af,Ex.b9,Ex.aX,Ex.aj,Jm];refine⟨by omega,?_⟩;refine hE a.size (by omega) a F H w s N _ (Jc _) cj.1 h az aq (by omega) fun s1 H1 h1 st1 ex1=>?_;simp only[go_sem,Q8p];refine Qa ?_;simp only[go_sem];refine Fi h1 (st1.ok _ aq) (by omega) fun s2 H2 h2 st2 ex2=>?_;have st2:=st1.trans st2;simp only[go_sem,Q8r];refine Ba (args:=[]) h2 (st2.at_ az) (st2.ok _ aq) (by omega) fun s3 H3 h3 st3 ex3=>?_;have st3:=st2.trans st3;simp only[go_sem,Q8q];refine Qa ?_;simp only[go_sem];refine DH h3 (st3.ok _ aq) (by omega) fun s4 H4 h4 st4 lW ex4=>?_;have st4':=st4;have st4:=st3.trans st4;simp only[go_sem,Q8s];refine Qa ?_;simp only[go_sem];refine DH h4 (st4.ok _ aq) (by omega) fun s5 H5 h5 st5 kb ex5=>?_;have st5:=st4.trans st5;simp only[go_sem,Q8t];refine Qa ?_;simp only[go_sem];refine DO (next:=[(s3.blocks.length:Int),(s4.blocks.length:Int)]) (N:=0) h5 (st5.at_ az) (by omega) fun s6 H6 h6 st6 ex6=>?_;have mI:=st6.bl;have st6:=st5.trans st6;refine Qa ?_;simp only[go_sem,Ex.b9,Ex.aX,Ex.aj,Jm,Jv];refine⟨by omega,?_⟩;refine hE b.size (by omega) b F H6 w s6 _ _ (Jc _) cj.2.1 h6 (st6.at_ az) (st6.ok _ aq) (by omega) fun s7 H7 h7 st7 ex7=>?_;have mH:=st7.bl;have st7:=st6.trans st7;simp only[go_sem,Q8u];refine Qa ?_;simp only[go_sem];refine Fi h7 (st7.ok _ aq) (by omega) fun s8 H8 h8 st8 ex8=>?_;have hb8:=st8.bl;have st8:=st7.trans st8;simp only[go_sem,Q8w];refine Ba (args:=[(b.low (rgR s6.vars) (Ac s6.fns) s6.d).2]) h8 (st8.at_ az) (st8.ok _ aq) (by omega) fun s9 H9 h9 st9 ex9=>?_;have hb9:=st9.bl;have st9:=st8.trans st9;simp only[go_sem,Q8v];refine Qa ?_;simp only[go_sem];refine Ba (args:=[s7.ae]) h9 (st9.at_ az) (st9.ok _ aq) (by omega) fun s10 H10 ie st10 ex10=>?_;have hb10:=st10.bl;have st10:=st9.trans st10;refine Qa ?_;simp only[go_sem];refine DO (next:=[(s4.blocks.length:Int)]) (N:=0) ie (st10.at_ az) (by omega) fun s11 H11 mL st11 ex11=>?_;have st11:=st10.trans st11;refine Qa ?_;simp only[go_sem];refine Qg ?_;simp only[go_sem,Qq,Q1,Aa,Ja,forall_eq,RS.op];have v6:s6.vars=s.vars:=by rw[ex6.vars,ex5.vars,ex4.vars,ex3.vars,ex2.vars,ex1.vars]
 have n6:s6.next=s.next:=by rw[ex6.next,ex5.next,ex4.next,ex3.next,ex2.next,ex1.next]
 have f6:s6.fns=s.fns:=st6.fn.1;have e:x.low (rgR s.vars) (Ac s.fns) s.d=(s11.d,s1.ae):=by
  obtain⟨op,q,nm,kids⟩:=x;simp only[Ex.op]at aK;simp only[Ex.kids]at eU;subst aK;subst eU;simp only[Ex.low,BG,Fk,ex11.d,ex10.d,ex9.d,ex8.d,ex7.d,ex6.d,ex5.d,ex4.d,ex3.d,ex2.d,ex1.d,v6,f6,LS.dlen,LS.dregs,Lw.add_add,Lw.add_len,Lw.put_len,Lw.fresh_len,Lw.make];simp
 have:=hK s11 H11 mL (st11.mono (by omega)) (by rw[e];exact⟨rfl,by rw[ex11.vars,ex10.vars,ex9.vars,ex8.vars,ex7.vars,v6],by rw[ex11.next,ex10.next,ex9.next,ex8.next,ex7.next,n6]⟩);rw[e]at this;exact this
theorem Ex.low_eq (rg fi:List UInt8→Int)(x:Ex)(s:Lw):x.low rg fi s=if x.op=1 then (s.make 1 x.n [],s.ae)else if x.op=2 then (s,rg x.name)else if x.op=10 then BG rg fi x.kids s else
  ((Am rg fi x.kids s).1.make (Bg x.op) (if x.op=13 then fi x.name else 0) (Am rg fi x.kids s).2,(Am rg fi x.kids s).1.ae):=by cases x;simp only[Ex.low,Ex.op,Ex.n,Ex.name,Ex.kids];rfl
theorem Qb0w {n:Nat}(hA:AndX n)(hE:∀m,m<n→Ej m):Ej n:=by
 intro x F H w s N K hn aM h az aq hN hK;have be:=x.size_kids;have cj:=Ex.ok_kids aM;refine Qb Ab Qbau ?_;have retf:∀(v:Int) (e:Env) (s':LS) (H':Heap),LInv F H' w s'→LStep s s' (10 * x.size)→x.low (rgR s.vars) (Ac s.fns) s.d=(s'.d,v)→s'.vars=s.vars→s'.next=s.next→lk 4 e=.c (.int .i64 v)→Qq Aa K .ret e H':=by
  intro v e s' H' a1 a2 a3 a4 a5 h1;simp only[go_sem,Qq,Q1,Aa,Ja,forall_eq,RS.op,h1];have:=hK _ _ a1 a2 (by rw[a3];exact⟨rfl,a4,a5⟩);rw[a3]at this;exact this
 refine Qa ?_;simp only[go_sem,x.ab];refine Qp (Qa ?_);simp only[go_sem];refine Qe (Qf ?_);refine Qa ?_;simp only[go_sem];refine Qc rfl ?_ ?_
 ·intro hc;refine Ak ?_;simp only[go_sem];refine Fi h aq (by omega) fun s1 H1 h1 st1 ex1=>?_;simp only[go_sem,Q30];refine Ba (args:=[]) h1 (st1.at_ az) (st1.ok _ aq) (by omega) fun s2 H2 h2 st2 ex2=>?_;simp only[go_sem,Q3z];refine Qg ?_;simp only[go_sem];exact retf _ _ s2 H2 h2 ((st1.trans st2).mono (by omega)) (by rw[Ex.low_eq,if_pos (by simpa using hc),ex2.d,ex1.d];rfl) (by rw[ex2.vars,ex1.vars]) (by rw[ex2.next,ex1.next]) (by simp[lk];try rfl)
 intro bE;refine Qa ?_;simp only[go_sem];refine Qc rfl ?_ ?_
 ·intro hc;refine Qa ?_;simp only[go_sem];refine LR h ?_;simp only[go_sem,Q31];refine Qg ?_;simp only[go_sem];exact retf _ _ s H h ((LStep.refl s).mono (by omega)) (by rw[Ex.low_eq,if_neg (by simpa using bE),if_pos (by simpa using hc)]) rfl rfl (by simp[lk];try rfl)
 intro ao;refine Qa ?_;simp only[go_sem];refine Qc rfl ?_ ?_
 ·intro hc;have aK:x.op=10:=by simpa using hc
  refine Qa ?_;simp only[go_sem];rw[←x.ab];refine hA x F H w s N _ hn aM aK h az aq hN fun s1 H1 h1 st1 ex1=>?_;simp only[go_sem,Q32];refine Qg ?_;simp only[go_sem];exact retf _ _ s1 H1 h1 st1 (by rw[ex1.d]) ex1.vars ex1.next (by simp[lk];try rfl)
 intro b7;refine Qd ?_;simp only[go_sem];refine Qa ?_;simp only[go_sem];refine Qp (Qa ?_);simp only[go_sem];refine Qe (Qf (Qu (fun n e1 H1=>∃(i:Nat) (ars:List Int) (c:C) (Lg:List (Nat×Obj)) (s':LS),n=x.kids.length-i∧i≤x.kids.length∧ars.length=i∧Gr Lg 1 (intsOf ars) c∧LInv F H1 w s'∧Kn F H1 [] (s'.L w++Lg)∧
  LStep s s' (10 * Q4 (x.kids.take i))∧LTo s' (Am (rgR s.vars) (Ac s.fns) (x.kids.take i) s.d).1 s.vars s.next∧ars=(Am (rgR s.vars) (Ac s.fns) (x.kids.take i) s.d).2∧e1=[(0,.c (.ptr w 0)),(3,.c (.pp [.int .i64 x.op,.int .i64 x.n,.str x.name,.sl false 4 (Af x.kids)])),(5,.c c),(6,.c (.int .i64 i))]) x.kids.length ?_ ?_))
 ·exact⟨0,[],_,[],s,by omega,by omega,rfl,.nil 1,h,by simpa using h.kn,(LStep.refl s).mono (by omega),by rw[Jt,Am];exact .refl s,by rw[Jt,Am],rfl⟩
 ·rintro n e1 H1 ⟨i,ars,c,Lg,s1,cA,hi,fT,bQ,h1,kn,st1,ex1,bB,rfl⟩;refine Qp (Qa ?_);simp only[go_sem,Qt];intro hl;simp only[LIM]at hl;refine Qe (Qc rfl ?_ ?_)
  ·intro hc;have aa:i<x.kids.length:=by simpa using hc
   have hm:=B0 (Jb aa);have aO:=HQ aa;have jo:=F6 x.kids (i+1);refine Qd ?_;simp only[go_sem];refine Qe (Qf (Qn ?_));simp only[go_sem,aa,Qt,B7 _ _ aa,Ex.b9,Ex.aX,Ex.aj];obtain⟨F',hf,back⟩:=h1.beside kn bQ;refine hE x.kids[i].size (by omega) _ F' H1 w s1 _ _ (Jc _) (DT cj _ (Jb aa)) hf (st1.at_ az) (st1.ok _ aq) (by omega) fun s2 H2 h2 st2 ex2=>?_;obtain⟨h2,kn⟩:=back s2 H2 h2;have etk:Am (rgR s.vars) (Ac s.fns) (x.kids.take (i+1)) s.d=((x.kids[i].low (rgR s1.vars) (Ac s1.fns) s1.d).1,ars++[(x.kids[i].low (rgR s1.vars) (Ac s1.fns) s1.d).2]):=by
    rw[Je aa,Ps,ex1.vars,ex1.d,st1.fn.1,bB]
   generalize i4:(x.kids[i].low (rgR s1.vars) (Ac s1.fns) s1.d).2=v at *;simp only[go_sem,Q34];refine kn.grow (new:=intsOf [v]) bQ (.mk' _ _ _ _) (BD _) (by simp only[Qm,fT,Jp,Jr,LIM];omega) fun y' H3 kn=>?_;simp only[go_sem,Q33];refine Qn ?_;simp only[go_sem,X.next];refine⟨Ql,x.kids.length-(i+1),by omega,i+1,ars++[v],_,_,s2,rfl,by omega,by simp[fT],.mk y' 1 (intsOf (ars++[v])) (n:=(intsOf ars).length+(intsOf [v]).length) (by simp[intsOf]),h2.re kn.drop,by rw[HB];exact kn,(st1.trans st2).mono (by rw[aO];omega),by rw[etk];exact⟨ex2.d,ex2.vars.trans ex1.vars,ex2.next.trans ex1.next⟩,by rw[etk],by simp[intsOf]⟩
  ·intro hc;have aC:x.kids.length≤i:=by simpa using hc
   rw[Jg aC]at st1 ex1 bB;have fin:∀(op n:Int) (s4:LS),Bg x.op=op→(if x.op=13 then Ac s.fns x.name else 0)=n→LTo s4 (s1.d.fresh.put op s1.ae n ars) s1.vars s1.next→x.low (rgR s.vars) (Ac s.fns) s.d=(s4.d,s1.ae)∧s4.vars=s.vars∧s4.next=s.next:=by
    intro op n s4 e1 e2 ex4;refine⟨?_,ex4.vars.trans ex1.vars,ex4.next.trans ex1.next⟩;rw[Ex.low_eq,if_neg (by simpa using bE),if_neg (by simpa using ao),if_neg (by simpa using b7),e1,e2,ex4.d,←bB,←ex1.d];rfl
   refine Qr ?_;simp only[go_sem,X.next];refine Qp (Qp ?_);obtain⟨S,H2,f1,f2,kn2⟩:=bQ.freeze kn (BD _);have h2:=h1.re kn2;refine c_gh (Rm S (fun t=>?_) f2) (e':=[(0,.c (.ptr w 0)),(3,.c (.pp [.int .i64 x.op,.int .i64 x.n,.str x.name,.sl false 4 (Af x.kids)])),(5,.c (.sl false 1 (intsOf ars)))]) ?_
   ·simp only[lk];split
    ·exact .c _ _ (.same _ rfl)
    ·split
     ·exact .c _ _ (.same _ rfl)
     ·split
      ·exact .c _ _ f1
      ·exact .unk _
   refine Qa ?_;simp only[go_sem];refine Qe (Qf ?_);refine Qa ?_;simp only[go_sem];refine Qc rfl ?_ ?_
   ·intro hc;refine Qa ?_;simp only[go_sem];refine Fi h2 (st1.ok _ aq) (by omega) fun s3 H3 h3 st3 ex3=>?_;have st3:=st1.trans st3;simp only[go_sem,Qyi];refine Ba h3 (st3.at_ az) (st3.ok _ aq) (by omega) fun s4 H4 h4 st4 ex4=>?_;simp only[go_sem,Qyh];refine Qg ?_;simp only[go_sem];obtain⟨g1,g2,g3⟩:=fin _ _ s4 (by rw[show x.op=11 by simpa using hc];try rfl) (by rw[show x.op=11 by simpa using hc];try rfl) (by have:=ex4;rw[ex3.d,ex3.vars,ex3.next]at this;simpa[st1.fn.1,Bg]using this);exact retf _ _ s4 H4 h4 ((st3.trans st4).mono (by omega)) g1 g2 g3 (by simp[lk];try rfl)
   intro bX;refine Qa ?_;simp only[go_sem];refine Qc rfl ?_ ?_
   ·intro hc;refine Qa ?_;simp only[go_sem];refine Fi h2 (st1.ok _ aq) (by omega) fun s3 H3 h3 st3 ex3=>?_;have st3:=st1.trans st3;simp only[go_sem,Qyk];refine Ba h3 (st3.at_ az) (st3.ok _ aq) (by omega) fun s4 H4 h4 st4 ex4=>?_;simp only[go_sem,Qyj];refine Qg ?_;simp only[go_sem];obtain⟨g1,g2,g3⟩:=fin _ _ s4 (by rw[show x.op=12 by simpa using hc];try rfl) (by rw[show x.op=12 by simpa using hc];try rfl) (by have:=ex4;rw[ex3.d,ex3.vars,ex3.next]at this;simpa[st1.fn.1,Bg]using this);exact retf _ _ s4 H4 h4 ((st3.trans st4).mono (by omega)) g1 g2 g3 (by simp[lk];try rfl)
   intro dM;refine Qa ?_;simp only[go_sem];refine Qc rfl ?_ ?_
   ·intro hc;have mX:=h2.hw;refine Ak ?_;simp only[go_sem,mX,LS.o];refine Fi h2 (st1.ok _ aq) (by omega) fun s3 H3 h3 st3 ex3=>?_;have ik:=h3.hw;have fx:=st3.fn;have st3:=st1.trans st3;simp only[go_sem,Qyn,ik,LS.o,fx.1,fx.2.1];refine Hi ?_;rw[FW];simp only[go_sem,Qym];refine Ba h3 (st3.at_ az) (st3.ok _ aq) (by omega) fun s4 H4 h4 st4 ex4=>?_;simp only[go_sem,Qyl];refine Qg ?_;simp only[go_sem];obtain⟨g1,g2,g3⟩:=fin _ _ s4 (by rw[show x.op=13 by simpa using hc];try rfl) (by rw[if_pos (by simpa using hc)]) (by have:=ex4;rw[ex3.d,ex3.vars,ex3.next]at this;simpa[st1.fn.1,Bg]using this);exact retf _ _ s4 H4 h4 ((st3.trans st4).mono (by omega)) g1 g2 g3 (by simp[lk];try rfl)
   intro hZ;refine Qd ?_;simp only[go_sem];refine Ak ?_;simp only[go_sem];refine Fi h2 (st1.ok _ aq) (by omega) fun s3 H3 h3 st3 ex3=>?_;have st3:=st1.trans st3;simp only[go_sem,Qyp];refine Ba h3 (st3.at_ az) (st3.ok _ aq) (by omega) fun s4 H4 h4 st4 ex4=>?_;simp only[go_sem,Qyo];refine Qg ?_;obtain⟨g1,g2,g3⟩:=fin _ _ s4 (by rw[Bg,if_neg (by simpa using bX),if_neg (by simpa using dM),if_neg (by simpa using hZ)]) (by rw[if_neg (by simpa using hZ)]) (by have:=ex4;rw[ex3.d,ex3.vars,ex3.next]at this;simpa[st1.fn.1,Bg]using this);exact retf _ _ s4 H4 h4 ((st3.trans st4).mono (by omega)) g1 g2 g3 (by simp[lk];try rfl)
theorem LU (n:Nat):Ej n:=by
 induction n using Nat.strongRecOn with
 |ind n ih=>exact Qb0w (Qb2e ih) ih
end Go.AE.Y
namespace Go.AE.Y
attribute [local go_sem] cond_true cond_false Bool.not_true Bool.not_false
open Go.Proofs.Tryz
variable {F H H':Heap}{w:Nat}{s:JS}{K:V→Heap→Prop}{M Lg:List (Nat×Obj)}{sc:ScD}{v:Vars}
theorem Qbp5 {n N:Nat}{x:Ex}(hE:JExX n)(hn:x.size≤n)(aM:x.ok)(h:JInv F H w s)(cr:ScIn F sc v)(az:s.at_<s.blocks.length)(aq:s.ok N)(hN:N+10 * x.size≤2^38)
  (hK:∀(s':JS) (H':Heap),JInv F H' w s'→JStep s s' (10 * x.size)→s'.d=(x.low (Aj v 0) (Ac s.fns) s.d).1→K (.c (.int .i64 (x.low (Aj v 0) (Ac s.fns) s.d).2)) H') :
  Qi prog Kc [.ag x.cells,.c (.pp [.ptr w 0]),.c (.pp [scC sc.ls])] H K:=by
 have an:=Ce sc.ls;refine Qb Ab Qlp ?_;refine Qa ?_;simp only[go_sem,x.ab,an];refine Qa ?_;simp only[go_sem,an];have hx:=hE x F H w s N sc v;rw[x.ab]at hx;refine hx _ hn aM h cr az aq hN fun s1 H1 h1 st1 ex1=>?_;simp only[go_sem,Tv];refine Qg ?_;simp only[go_sem,Qq,Q1,Aa,Ja,forall_eq,RS.op];exact hK s1 H1 h1 st1 ex1
theorem Yt {n:Nat}(hE:∀m,m<n→JExX m):JExX n:=by
 intro x F H w s N sc v K hn aM h cr az aq hN hK;have an:=Ce sc.ls;have be:=x.size_kids;have cj:=Ex.ok_kids aM;refine Qb Ab Q9v ?_;have retf:∀(r:Int) (e:Env) (s':JS) (H':Heap),JInv F H' w s'→JStep s s' (10 * x.size)→x.low (Aj v 0) (Ac s.fns) s.d=(s'.d,r)→lk 6 e=.c (.int .i64 r)→Qq AB K .ret e H':=by
  intro r e s' H' a1 a2 a3 h1;simp only[go_sem,Qq,Q1,AB,Ja,forall_eq,RS.op,h1];have:=hK _ _ a1 a2 (by rw[a3]);rw[a3]at this;exact this
 refine Qa ?_;simp only[go_sem,x.ab,an];refine Qp (Qa ?_);simp only[go_sem,an];refine Qe (Qf ?_);refine Qa ?_;simp only[go_sem,an];refine Qc rfl ?_ ?_
 ·intro hc;refine Qa ?_;simp only[go_sem];refine Fg (args:=[]) h (by rw[Jo];exact h.kn) CR az aq (by omega) fun s1 H1 h1 st1 ex1=>?_;simp only[go_sem,Qj6];refine Qg ?_;exact retf _ _ s1 H1 h1 (st1.mono (by omega)) (by rw[Ex.low_eq,if_pos (by simpa using hc),ex1];try rfl) (by simp[lk];try rfl)
 intro bE;refine Qa ?_;simp only[go_sem,an];refine Qc rfl ?_ ?_
 ·intro hc;refine Qa ?_;simp only[go_sem,an];refine HW (cr.find h.kn) ?_;simp only[go_sem,Qj7,Jm,Jv];refine Qa ?_;simp only[go_sem];refine Qg ?_;exact retf _ _ s H h ((JStep.refl s).mono (by omega)) (by rw[Ex.low_eq,if_neg (by simpa using bE),if_pos (by simpa using hc),←Et]) (by simp[lk];try rfl)
 intro ao;refine Qa ?_;simp only[go_sem,an];refine Qc rfl ?_ ?_
 ·intro hc;have aK:x.op=10:=by simpa using hc
  have gP:=Ex.ok_and aM aK;obtain⟨a,b,eU⟩:∃a b,x.kids=[a,b]:=by
   match hx:x.kids,gP with
   |[a,b],_=>exact⟨a,b,rfl⟩
  rw[eU]at be cj;simp only[Q4,BK]at be cj;refine Ak ?_;simp only[go_sem,an,eU,Af,Ex.b9,Ex.aX,Ex.aj,Jm,Jp,Jr];try refine⟨by omega,?_⟩
  refine hE a.size (by omega) a F H w s N sc v _ (Jc _) cj.1 h cr az aq (by omega) fun s1 H1 h1 st1 ex1=>?_;simp only[go_sem,Qj8];refine Qa ?_;simp only[go_sem,an];refine Fg (args:=[]) h1 (by rw[Jo];exact h1.kn) CR (st1.at_ az) (st1.ok _ aq) (by omega) fun s2 H2 h2 st2 ex2=>?_;have st2:=st1.trans st2;simp only[go_sem,Qj9];refine Qa ?_;simp only[go_sem,an];refine D5 (n:=2) h2 (st2.ok _ aq) (by omega) fun s3 H3 h3 st3 gu ex3=>?_;have mD:=(st2.ok _ aq).b1;have st3:=st2.trans st3;simp only[go_sem,Qka];refine Qa ?_;simp only[go_sem,an];refine⟨Ql,fun y1 gA G1 g1=>?_⟩;have kn3:=h3.kn.al gA g1;have h3:=h3.re kn3.drop;simp only[go_sem,Qkb];refine DP (next:=[(s2.blocks.length:Int),(s2.blocks.length:Int)+1]) (at':=s2.blocks.length) (N:=0) h3 kn3 (DF y1 _ rfl) (st3.at_ az) (by omega) fun s4 H4 h4 st4 ex4=>?_;have lW:=st4.bl;have st4:=st3.trans st4;simp only[go_sem];refine Ak ?_;simp only[go_sem,an,eU,Af,Ex.b9,Ex.aX,Ex.aj,Jm,Jv,Jp,Jr];try refine⟨by omega,?_⟩
  refine hE b.size (by omega) b F H4 w s4 _ sc v _ (Jc _) cj.2.1 h4 cr (st4.at_ az) (st4.ok _ aq) (by omega) fun s5 H5 h5 st5 ex5=>?_;have kb:=st5.bl;have st5:=st4.trans st5;simp only[go_sem,Qkc];refine Qa ?_;simp only[go_sem];intro y2 iE G2 g2;have kn5:=h5.kn.al iE g2;have h5:=h5.re kn5.drop;simp only[go_sem,Qke];refine Fg (args:=[(b.low (Aj v 0) (Ac s4.fns) s4.d).2]) h5 kn5 (DF y2 _ rfl) (st5.at_ az) (st5.ok _ aq) (by omega) fun s6 H6 h6 st6 ex6=>?_;have mI:=st6.bl;have st6:=st5.trans st6;simp only[go_sem,Qkd];refine Qa ?_;simp only[go_sem];intro y3 oV G3 g3;have kn6:=h6.kn.al oV g3;have h6:=h6.re kn6.drop;simp only[go_sem,Qjc];refine CY (args:=[s5.ae]) h6 kn6 (DF y3 _ rfl) (st6.at_ az) (st6.ok _ aq) (by omega) fun s7 H7 h7 st7 ex7=>?_;have mH:=st7.bl;have st7:=st6.trans st7;simp only[go_sem];refine Qa ?_;simp only[go_sem];refine⟨Ql,?_⟩;refine⟨Ql,fun y4 o6 G4 g4=>?_⟩;have kn7:=h7.kn.al o6 g4;have h7:=h7.re kn7.drop;simp only[go_sem,Qjd];rw[show ((s2.blocks.length:Int)+1)=((s2.blocks.length+1:Nat):Int)by omega];refine DP (next:=[((s2.blocks.length+1:Nat):Int)]) (at':=s2.blocks.length+1) (N:=0) h7 (by rw[show ((s2.blocks.length:Int)+1)=((s2.blocks.length+1:Nat):Int)by omega]at kn7;exact kn7) (DF y4 _ rfl) (st7.at_ az) (by omega) fun s8 H8 h8 st8 ex8=>?_;have st8:=st7.trans st8;simp only[go_sem];refine Qa ?_;simp only[go_sem];refine Qg ?_;have f4:s4.fns=s.fns:=st4.fn.1;refine retf _ _ s8 H8 h8 (st8.mono (by omega)) ?_ (by simp[lk];try rfl);rw[Ex.low_eq,if_neg (by omega),if_neg (by omega),if_pos aK,eU];simp only[BG,Fk,ex8,ex7,ex6,ex5,ex4,ex3,ex2,ex1,f4,JS.dlen,JS.dregs,Lw.add_len,Lw.put_len,Lw.fresh_len,Lw.make];try simp
 intro b7;refine Qd ?_;try simp only[go_sem]
 refine Qa ?_;simp only[go_sem,an];refine Kj (n:=Q4 x.kids) (Jc _) cj h cr az aq (by omega) (fun y hy F2 H2 s2 N2 K2 h2 gH df dS ma me=>?_) fun s1 H1 La t1 h1 kn1 dH st1 ex1=>?_
 ·have hys:=B0 hy;exact Qbp5 (hE y.size (by omega)) (Jc _) (DT cj _ hy) h2 gH df dS ma me
 have aE:=dH.ah;obtain⟨ars,bB⟩:∃ars,(Am (Aj v 0) (Ac s.fns) x.kids s.d).2=ars:=⟨_,rfl⟩;rw[bB]at dH;have fin:∀(op m:Int) (s4:JS),Bg x.op=op→(if x.op=13 then Ac s.fns x.name else 0)=m→s4.d=s1.d.make op m ars→x.low (Aj v 0) (Ac s.fns) s.d=(s4.d,s1.ae):=by
  intro op m s4 e1 e2 ex4;rw[Ex.low_eq,if_neg (by simpa using bE),if_neg (by simpa using ao),if_neg (by simpa using b7),e1,e2,ex4,bB,←ex1];rfl
 have fn1:=st1.fn.1;simp only[go_sem,Qje,aE];refine Qp (Qa ?_);simp only[go_sem,aE];refine Qe (Qf ?_);refine Qa ?_;simp only[go_sem,aE];refine Qc rfl ?_ ?_
 ·intro hc;refine Qa ?_;simp only[go_sem,aE];refine Fg h1 kn1 dH.owsI (st1.at_ az) (st1.ok _ aq) (by omega) fun s2 H2 h2 st2 ex2=>?_;simp only[go_sem,Qjf];refine Qg ?_;exact retf _ _ s2 H2 h2 ((st1.trans st2).mono (by omega)) (fin _ _ s2 (by rw[show x.op=11 by simpa using hc];rfl) (by rw[show x.op=11 by simpa using hc];try rfl) ex2) (by simp[lk];try rfl)
 intro bX;refine Qa ?_;simp only[go_sem,aE];refine Qc rfl ?_ ?_
 ·intro hc;refine Qa ?_;simp only[go_sem,aE];refine Fg h1 kn1 dH.owsI (st1.at_ az) (st1.ok _ aq) (by omega) fun s2 H2 h2 st2 ex2=>?_;simp only[go_sem,Qjg];refine Qg ?_;exact retf _ _ s2 H2 h2 ((st1.trans st2).mono (by omega)) (fin _ _ s2 (by rw[show x.op=12 by simpa using hc];rfl) (by rw[show x.op=12 by simpa using hc];try rfl) ex2) (by simp[lk];try rfl)
 intro dM;refine Qa ?_;simp only[go_sem,aE];refine Qc rfl ?_ ?_
 ·intro hc;have cZ:=h1.hw;refine Ak ?_;simp only[go_sem,cZ,JS.o,aE];refine E3 ?_;simp only[go_sem,Qji,aE];refine Fg h1 kn1 dH.owsI (st1.at_ az) (st1.ok _ aq) (by omega) fun s2 H2 h2 st2 ex2=>?_;simp only[go_sem,Qjh];refine Qg ?_;rw[FW,fn1]at ex2;exact retf _ _ s2 H2 h2 ((st1.trans st2).mono (by omega)) (fin _ _ s2 (by rw[show x.op=13 by simpa using hc];rfl) (by rw[if_pos (by simpa using hc)]) ex2) (by simp[lk];try rfl)
 intro hZ;refine Qd ?_;try simp only[go_sem]
 refine Qa ?_;simp only[go_sem,aE];refine Fg h1 kn1 dH.owsI (st1.at_ az) (st1.ok _ aq) (by omega) fun s2 H2 h2 st2 ex2=>?_;simp only[go_sem,Qjj];refine Qg ?_;exact retf _ _ s2 H2 h2 ((st1.trans st2).mono (by omega)) (fin _ _ s2 (by rw[Bg,if_neg (by simpa using bX),if_neg (by simpa using dM),if_neg (by simpa using hZ)]) (by rw[if_neg (by simpa using hZ)]) ex2) (by simp[lk];try rfl)
theorem IK (n:Nat):JExX n:=by
 induction n using Nat.strongRecOn with
 |ind n ih=>exact Yt ih
end Go.AE.Y
namespace Go.AE.Y
attribute [local go_sem] cond_true cond_false Bool.not_true Bool.not_false
open Go.Proofs.Tryz
variable {F H H':Heap}{w:Nat}{s:IS}{K:V→Heap→Prop}{M Lg:List (Nat×Obj)}{sc:ScD}{v:Vars}
theorem Qbpp {n N:Nat}{x:Ex}(hE:IExX n)(hn:x.size≤n)(aM:x.ok)(h:IInv F H w s)(cr:ScIn F sc v)(az:s.at_<s.blocks.length)(aq:s.ok N)(hN:N+10 * x.size≤2^38)
  (hK:∀(s':IS) (H':Heap),IInv F H' w s'→IStep s s' (10 * x.size)→s'.d=(x.low (Aj v 0) (Ac s.fns) s.d).1→K (.c (.int .i64 (x.low (Aj v 0) (Ac s.fns) s.d).2)) H') :
  Qi prog Kc [.ag x.cells,.c (.pp [.ptr w 0]),.c (.pp [scC sc.ls])] H K:=by
 have an:=Ce sc.ls;refine Qb Ab Qlp ?_;refine Qa ?_;simp only[go_sem,x.ab,an];refine Qa ?_;simp only[go_sem,an];have hx:=hE x F H w s N sc v;rw[x.ab]at hx;refine hx _ hn aM h cr az aq hN fun s1 H1 h1 st1 ex1=>?_;simp only[go_sem,Tv];refine Qg ?_;simp only[go_sem,Qq,Q1,Aa,Ja,forall_eq,RS.op];exact hK s1 H1 h1 st1 ex1
theorem XZ {n:Nat}(hE:∀m,m<n→IExX m):IExX n:=by
 intro x F H w s N sc v K hn aM h cr az aq hN hK;have an:=Ce sc.ls;have be:=x.size_kids;have cj:=Ex.ok_kids aM;refine Qb Ab Qach ?_;have retf:∀(r:Int) (e:Env) (s':IS) (H':Heap),IInv F H' w s'→IStep s s' (10 * x.size)→x.low (Aj v 0) (Ac s.fns) s.d=(s'.d,r)→lk 6 e=.c (.int .i64 r)→Qq AB K .ret e H':=by
  intro r e s' H' a1 a2 a3 h1;simp only[go_sem,Qq,Q1,AB,Ja,forall_eq,RS.op,h1];have:=hK _ _ a1 a2 (by rw[a3]);rw[a3]at this;exact this
 refine Qa ?_;simp only[go_sem,x.ab,an];refine Qp (Qa ?_);simp only[go_sem,an];refine Qe (Qf ?_);refine Qa ?_;simp only[go_sem,an];refine Qc rfl ?_ ?_
 ·intro hc;refine Qa ?_;simp only[go_sem];refine Fh (args:=[]) h az aq (by omega) fun s1 H1 h1 st1 ex1=>?_;simp only[go_sem,Ql1];refine Qg ?_;exact retf _ _ s1 H1 h1 (st1.mono (by omega)) (by rw[Ex.low_eq,if_pos (by simpa using hc),ex1];try rfl) (by simp[lk];try rfl)
 intro bE;refine Qa ?_;simp only[go_sem,an];refine Qc rfl ?_ ?_
 ·intro hc;refine Qa ?_;simp only[go_sem,an];refine HW (cr.find h.kn) ?_;simp only[go_sem,Ql2,Jm,Jv];refine Qa ?_;simp only[go_sem];refine Qg ?_;exact retf _ _ s H h ((IStep.refl s).mono (by omega)) (by rw[Ex.low_eq,if_neg (by simpa using bE),if_pos (by simpa using hc),←Et]) (by simp[lk];try rfl)
 intro ao;refine Qa ?_;simp only[go_sem,an];refine Qc rfl ?_ ?_
 ·intro hc;have aK:x.op=10:=by simpa using hc
  have gP:=Ex.ok_and aM aK;obtain⟨a,b,eU⟩:∃a b,x.kids=[a,b]:=by
   match hx:x.kids,gP with
   |[a,b],_=>exact⟨a,b,rfl⟩
  rw[eU]at be cj;simp only[Q4,BK]at be cj;refine Ak ?_;simp only[go_sem,an,eU,Af,Ex.b9,Ex.aX,Ex.aj,Jm,Jp,Jr];try refine⟨by omega,?_⟩
  refine hE a.size (by omega) a F H w s N sc v _ (Jc _) cj.1 h cr az aq (by omega) fun s1 H1 h1 st1 ex1=>?_;simp only[go_sem,Ql3];refine Qa ?_;simp only[go_sem,an];refine Fh (args:=[]) h1 (st1.at_ az) (st1.ok _ aq) (by omega) fun s2 H2 h2 st2 ex2=>?_;have st2:=st1.trans st2;simp only[go_sem,Ql4];refine Qa ?_;simp only[go_sem,an];refine D6 (n:=2) h2 (st2.ok _ aq) (by omega) fun s3 H3 h3 st3 gu ex3=>?_;have mD:=(st2.ok _ aq).b1;have st3:=st2.trans st3;simp only[go_sem,Ql5];refine Qa ?_;simp only[go_sem,an];refine⟨Ql,?_⟩;refine DQ (next:=[(s2.blocks.length:Int),(s2.blocks.length:Int)+1]) (at':=s2.blocks.length) (N:=0) h3 (st3.at_ az) (by omega) fun s4 H4 h4 st4 ex4=>?_;have lW:=st4.bl;have st4:=st3.trans st4;simp only[go_sem];refine Ak ?_;simp only[go_sem,an,eU,Af,Ex.b9,Ex.aX,Ex.aj,Jm,Jv,Jp,Jr];try refine⟨by omega,?_⟩
  refine hE b.size (by omega) b F H4 w s4 _ sc v _ (Jc _) cj.2.1 h4 cr (st4.at_ az) (st4.ok _ aq) (by omega) fun s5 H5 h5 st5 ex5=>?_;have kb:=st5.bl;have st5:=st4.trans st5;simp only[go_sem,Ql6];refine Qa ?_;simp only[go_sem];refine Fh (args:=[(b.low (Aj v 0) (Ac s4.fns) s4.d).2]) h5 (st5.at_ az) (st5.ok _ aq) (by omega) fun s6 H6 h6 st6 ex6=>?_;have mI:=st6.bl;have st6:=st5.trans st6;simp only[go_sem,Ql7];refine Qa ?_;simp only[go_sem];refine CZ (args:=[s5.ae]) h6 (st6.at_ az) (st6.ok _ aq) (by omega) fun s7 H7 h7 st7 ex7=>?_;have mH:=st7.bl;have st7:=st6.trans st7;simp only[go_sem];refine Qa ?_;simp only[go_sem];refine⟨Ql,?_⟩;refine⟨Ql,?_⟩;rw[show ((s2.blocks.length:Int)+1)=((s2.blocks.length+1:Nat):Int)by omega];refine DQ (next:=[((s2.blocks.length+1:Nat):Int)]) (at':=s2.blocks.length+1) (N:=0) h7 (st7.at_ az) (by omega) fun s8 H8 h8 st8 ex8=>?_;have st8:=st7.trans st8;simp only[go_sem];refine Qa ?_;simp only[go_sem];refine Qg ?_;have f4:s4.fns=s.fns:=st4.fn.1;refine retf _ _ s8 H8 h8 (st8.mono (by omega)) ?_ (by simp[lk];try rfl);rw[Ex.low_eq,if_neg (by omega),if_neg (by omega),if_pos aK,eU];simp only[BG,Fk,ex8,ex7,ex6,ex5,ex4,ex3,ex2,ex1,f4,IS.dlen,IS.dregs,Lw.add_len,Lw.put_len,Lw.fresh_len,Lw.make];try simp
 intro b7;refine Qd ?_;try simp only[go_sem]
 refine Qa ?_;simp only[go_sem,an];refine Ke (n:=Q4 x.kids) (Jc _) cj h cr az aq (by omega) (fun y hy F2 H2 s2 N2 K2 h2 gH df dS ma me=>?_) fun s1 H1 h1 st1 ex1=>?_
 ·have hys:=B0 hy;exact Qbpp (hE y.size (by omega)) (Jc _) (DT cj _ hy) h2 gH df dS ma me
 obtain⟨ars,bB⟩:∃ars,(Am (Aj v 0) (Ac s.fns) x.kids s.d).2=ars:=⟨_,rfl⟩;rw[bB];have fin:∀(op m:Int) (s4:IS),Bg x.op=op→(if x.op=13 then Ac s.fns x.name else 0)=m→s4.d=s1.d.make op m ars→x.low (Aj v 0) (Ac s.fns) s.d=(s4.d,s1.ae):=by
  intro op m s4 e1 e2 ex4;rw[Ex.low_eq,if_neg (by simpa using bE),if_neg (by simpa using ao),if_neg (by simpa using b7),e1,e2,ex4,bB,←ex1];rfl
 have fn1:=st1.fn.1;simp only[go_sem,Qjy];refine Qp (Qa ?_);simp only[go_sem];refine Qe (Qf ?_);refine Qa ?_;simp only[go_sem];refine Qc rfl ?_ ?_
 ·intro hc;refine Qa ?_;simp only[go_sem];refine Fh h1 (st1.at_ az) (st1.ok _ aq) (by omega) fun s2 H2 h2 st2 ex2=>?_;simp only[go_sem,Qjz];refine Qg ?_;exact retf _ _ s2 H2 h2 ((st1.trans st2).mono (by omega)) (fin _ _ s2 (by rw[show x.op=11 by simpa using hc];rfl) (by rw[show x.op=11 by simpa using hc];try rfl) ex2) (by simp[lk];try rfl)
 intro bX;refine Qa ?_;simp only[go_sem];refine Qc rfl ?_ ?_
 ·intro hc;refine Qa ?_;simp only[go_sem];refine Fh h1 (st1.at_ az) (st1.ok _ aq) (by omega) fun s2 H2 h2 st2 ex2=>?_;simp only[go_sem,Qj0];refine Qg ?_;exact retf _ _ s2 H2 h2 ((st1.trans st2).mono (by omega)) (fin _ _ s2 (by rw[show x.op=12 by simpa using hc];rfl) (by rw[show x.op=12 by simpa using hc];try rfl) ex2) (by simp[lk];try rfl)
 intro dM;refine Qa ?_;simp only[go_sem];refine Qc rfl ?_ ?_
 ·intro hc;have cZ:=h1.hw;refine Ak ?_;simp only[go_sem,cZ,IS.o];refine E3 ?_;simp only[go_sem,Qj2];refine Fh h1 (st1.at_ az) (st1.ok _ aq) (by omega) fun s2 H2 h2 st2 ex2=>?_;simp only[go_sem,Qj1];refine Qg ?_;rw[FW,fn1]at ex2;exact retf _ _ s2 H2 h2 ((st1.trans st2).mono (by omega)) (fin _ _ s2 (by rw[show x.op=13 by simpa using hc];rfl) (by rw[if_pos (by simpa using hc)]) ex2) (by simp[lk];try rfl)
 intro hZ;refine Qd ?_;try simp only[go_sem]
 refine Qa ?_;simp only[go_sem];refine Fh h1 (st1.at_ az) (st1.ok _ aq) (by omega) fun s2 H2 h2 st2 ex2=>?_;simp only[go_sem,Qj3];refine Qg ?_;exact retf _ _ s2 H2 h2 ((st1.trans st2).mono (by omega)) (fin _ _ s2 (by rw[Bg,if_neg (by simpa using bX),if_neg (by simpa using dM),if_neg (by simpa using hZ)]) (by rw[if_neg (by simpa using hZ)]) ex2) (by simp[lk];try rfl)
theorem IL (n:Nat):IExX n:=by
 induction n using Nat.strongRecOn with
 |ind n ih=>exact XZ ih
end Go.AE.Y
namespace Go.AE.Y
open Go.Proofs.Tryz
variable {F H:Heap}{w:Nat}{s:LS}{K:V→Heap→Prop}
def row9 (p:List UInt8×Nat):List C:=[.str p.1,.int .i64 p.2,.int .i64 0]
def B3 (v:Vars):List (List C):=(v.flatten.map row9).reverse
theorem Ib (v:Vars):B3 ([]::v)=B3 v:=by simp[B3]
theorem Qbrd (m b:List (List UInt8×Nat))(r:Vars):B3 ((m++b)::r)=B3 (b::r)++(m.map row9).reverse:=by simp[B3]
theorem Qbms (m b:List (List UInt8×Nat))(r:Vars):(B3 ((m++b)::r)).take (B3 (b::r)).length=B3 (b::r):=by rw[Qbrd,List.take_left]
theorem Ly (b:List (List UInt8×Nat))(r:Vars)(s:List UInt8)(n:Nat):B3 (A9 (b::r) s n)=B3 (b::r)++[row9 (s,n)]:=by simp[B3,A9]
theorem Ey (v:Vars):rgR (B3 v)=Aj v (-1):=by
 funext name
 have h:(hasN name ∘ row9)=fun p:List UInt8×Nat=>decide (p.1=name):=rfl;rw[rgR,B3,List.reverse_reverse,List.find?_map,h,Aj,Vars.find];cases v.flatten.find? fun p=>decide (p.1=name) <;> rfl
theorem Rv (rg fi:List UInt8→Int)(l:List Ex)(s:Lw)(h:0<l.length):Am rg fi (l.take 1) s=((l[0].low rg fi s).1,[(l[0].low rg fi s).2]):=by
 match l,h with
 |x::r,_=>simp[Am]
theorem St.low_eq (d:Int)(fi:List UInt8→Int)(x:St)(w:Lv):x.low d fi w =
  if x.op=6 then
   let b:=w.s.bs.length;let s1:=(w.s.add 3).jump 1 0 [(b:Int)] b;let s2:=(Am (Aj w.v d) fi (x.args.take 1) s1).1;let s3:=s2.jump 2 ((Am (Aj w.v d) fi (x.args.take 1) s1).2.getD 0 0) [(b:Int)+1,(b:Int)+2] (b+1);let w4:=Q9 d fi x.body ⟨s3,[]::w.v,w.next⟩
   ⟨w4.s.jump 1 0 [(b:Int)] (b+2),w.v,w4.next⟩
  else if x.op=5 then
   let s1:=(Am (Aj w.v d) fi x.args w.s).1;let b:=s1.bs.length;let s2:=(s1.add 3).jump 2 ((Am (Aj w.v d) fi x.args w.s).2.getD 0 0) [(b:Int),(b:Int)+1] b;let w3:=Q9 d fi x.body ⟨s2,[]::w.v,w.next⟩;let w4:=Q9 d fi x.els ⟨w3.s.jump 1 0 [(b:Int)+2] (b+1),[]::w.v,w3.next⟩
   ⟨w4.s.jump 1 0 [(b:Int)+2] (b+2),w.v,w4.next⟩
  else w.one d fi x.op x.name x.args:=by cases x;simp only[St.low,St.op,St.name,St.args,St.body,St.els];rfl
theorem St.low_top {d:Int}{fi:List UInt8→Int}{x:St}{w:Lv}{b:List (List UInt8×Nat)}{r:Vars}(h:w.v=b::r):∃m,(x.low d fi w).v=(m++b)::r:=by
 rw[St.low_v,h];split
 ·exact⟨[(x.name,w.next)],rfl⟩
 ·exact⟨[],rfl⟩
theorem Fy {d:Int}{fi:List UInt8→Int}:∀{l:List St} {w:Lv} {b:List (List UInt8×Nat)} {r:Vars},w.v=b::r→∃m,(Q9 d fi l w).v=(m++b)::r
 |[],w,b,r,h=>⟨[],by rw[Q9];exact h⟩
 |x::l,w,b,r,h=>by
  obtain⟨m,hm⟩:=St.low_top (d:=d) (fi:=fi) (x:=x) h;obtain⟨m2,iu⟩:=Fy (d:=d) (fi:=fi) (l:=l) hm;exact⟨m2++m,by rw[Q9,iu,Jf]⟩
def LTv (s:LS)(l:Lv):Prop:=LTo s l.s (B3 l.v) l.next
def LwSt (n:Nat):Prop:=∀(x:St) (F H:Heap) (w:Nat) (s:LS) (N:Nat) (K:V→Heap→Prop) (l:Lv),l.v≠[]→LTv s l→x.size≤n→x.ok→LInv F H w s→s.at_<s.blocks.length→s.ok N→N+10 * x.size≤2^38→
  (∀(s':LS) (H':Heap),LInv F H' w s'→LStep s s' (10 * x.size)→LTv s' (x.low (-1) (Ac s.fns) l)→K (.tup []) H')→Qi prog R8 [.c (.ptr w 0),.ag x.cells] H K
def Qb0g (n:Nat):Prop:=∀(x:St) (F H:Heap) (w:Nat) (s:LS) (N:Nat) (K:V→Heap→Prop) (l:Lv),l.v≠[]→LTv s l→x.op=6→x.size≤n→x.ok→LInv F H w s→s.at_<s.blocks.length→s.ok N→N+10 * x.size≤2^38→
  (∀(s':LS) (H':Heap),LInv F H' w s'→LStep s s' (10 * x.size)→LTv s' (x.low (-1) (Ac s.fns) l)→K (.tup []) H')→Qi prog R9 [.c (.ptr w 0),.ag x.cells] H K
def Ei (n:Nat):Prop:=∀(l:List St) (fl:Bool) (F H:Heap) (w:Nat) (s:LS) (N:Nat) (K:V→Heap→Prop) (lv:Lv),lv.v≠[]→LTv s lv→Qh l≤n→Bl l→LInv F H w s→s.at_<s.blocks.length→s.ok N→N+10 * Qh l≤2^38→
  (∀(s':LS) (H':Heap),LInv F H' w s'→LStep s s' (10 * Qh l)→LTo s' (Q9 (-1) (Ac s.fns) l lv).s (B3 lv.v) (Q9 (-1) (Ac s.fns) l lv).next→K (.tup []) H')→Qi prog HT [.c (.ptr w 0),.c (.sl fl 5 (Qv l))] H K
theorem Tw {n:Nat}(hS:LwSt n):Ei n:=by
 intro l fl F H w s N K lv bm aE hn aM h az aq hN hK;obtain⟨tb,tr,cq⟩:∃tb tr,lv.v=tb::tr:=by
  cases hv:lv.v with
  |nil=>exact absurd hv bm
  |cons b r=>exact⟨b,r,rfl⟩
 have hw:=h.hw;obtain⟨dQ,jO⟩:=h.vget;have kz:=h.gv.ax;have im:=h.gv.ah;refine Qb Ab Qa44 ?_;refine Qa ?_;simp only[go_sem,hw,LS.o,dQ,kz,im];intro r9;refine Qp (Qa ?_);simp only[go_sem];refine Qe (Qf (Qu (fun n e1 H1=>∃(i:Nat) (s':LS),n=l.length-i∧i≤l.length∧LInv F H1 w s'∧LStep s s' (10 * Qh (l.take i))∧LTv s' (Q9 (-1) (Ac s.fns) (l.take i) lv)∧e1=[(0,.c (.ptr w 0)),(1,.c (.sl fl 5 (Qv l))),(4,.c (.int .i64 s.vars.length)),(5,.c (.int .i64 i))]) l.length ?_ ?_))
 ·exact⟨0,s,by omega,by omega,h,(LStep.refl s).mono (by omega),by rw[Jt,Q9];exact aE,rfl⟩
 ·rintro n e1 H1 ⟨i,s1,cA,hi,h1,st1,ex1,rfl⟩;refine Qp (Qa ?_);simp only[go_sem,Q7];intro hl;simp only[LIM]at hl;refine Qe (Qc rfl ?_ ?_)
  ·intro hc;have aa:i<l.length:=by simpa using hc
   have hm:=Cv (Jb aa);have aO:=HL aa;have jo:=Fb l (i+1);refine Qd ?_;simp only[go_sem];refine Qe (Qf (Qn ?_));simp only[go_sem,aa,Q7,Ct _ _ aa,St.take5,St.aX,St.aj];refine hS l[i] F H1 w s1 _ _ (Q9 (-1) (Ac s.fns) (l.take i) lv) (by obtain⟨m,hm⟩:=Fy (d:=-1) (fi:=Ac s.fns) (l:=l.take i) cq;rw[hm];simp) ex1 (by omega) (Gb aM _ (Jb aa)) h1 (st1.at_ az) (st1.ok _ aq) (by omega) fun s2 H2 h2 st2 ex2=>?_;refine Qn ?_;simp only[go_sem,X.next];exact⟨Ql,l.length-(i+1),by omega,i+1,s2,rfl,by omega,h2,(st1.trans st2).mono (by rw[aO];omega),by rw[Je aa,Gy,Q9,Q9,←st1.fn.1];rw[←st1.fn.1]at ex2;exact ex2,rfl⟩
  ·intro hc;have aC:l.length≤i:=by simpa using hc
   rw[Jg aC]at st1 ex1;have cZ:=h1.hw;obtain⟨kB,hv2'⟩:=h1.vget;have mZ:=h1.gv.ax;have hvo':=h1.gv.ah;have hve':=h1.gv.aQ;have mY:=st1.vl;have pC:∀r∈s1.vars.take s.vars.length,VarRow r:=fun r hr=>h1.rv r (List.mem_of_mem_take hr);have fin:∀(H2:Heap) (c:C),H2=H1.set w (LS.o { s1 with vc:=c })→VGr s1.lv (s1.vars.take s.vars.length) c→Qq Av K .nrm [] H2:=by
    intro H2 c h2 hg;simp only[Qq,Q1,Av];refine⟨by simp,hK { s1 with vc:=c,vars:=s1.vars.take s.vars.length } H2 (h1.setw h2 rfl rfl rfl rfl hg pC) ⟨st1.bl,fun M hM=>?_,by simp;omega,st1.at_,st1.fn⟩ ⟨ex1.d,by
     obtain⟨m,hm⟩:=Fy (d:=-1) (fi:=Ac s.fns) (l:=l) cq;show s1.vars.take s.vars.length=_;rw[ex1.vars,aE.vars,hm,cq,Qbms],ex1.next⟩⟩
    have:=st1.ok M hM;exact⟨this.r0,this.r1,this.n0,this.n1,this.b1,this.i1,by have:=this.v1;simp;omega⟩
   refine Qr ?_;simp only[go_sem,X.next];refine Qn ?_;rcases h1.gv with ⟨g1,g2,g3⟩|⟨y,all,k,g1,g2,g3,g4⟩
   ·have hz:s.vars.length=0:=(by rw[g2]at mY;simpa using mY);simp only[go_sem,cZ,LS.o,g1,hz,List.take_nil,List.drop_nil];refine⟨⟨by omega,by omega⟩,fun H2 h2=>?_⟩;refine fin H2 (.sl true 3 []) h2 (.inl ⟨rfl,by rw[g2];simp,g3⟩)
   ·rw[g1]at kB mZ;have hk:k=s1.vars.length:=(by simpa[ax]using mZ);simp only[go_sem]at kB;simp only[go_sem,cZ,LS.o,g1,kB];refine⟨⟨by omega,by omega⟩,fun H2 h2=>?_⟩;refine fin H2 (.aG y 3 0 (s.vars.length-0)) h2 (.inr ⟨y,all,s.vars.length-0,rfl,by omega,?_,g4⟩);rw[g3,List.take_take];congr 1;omega
end Go.AE.Y
namespace Go.AE.Y
mutual
theorem Ex.form_ok:∀(x:Ex) (d:Int),x.form d=true→x.ok
 |.mk op n name kids,d,h=>by
  rw[Ex.form,Jj,Jj]at h;obtain⟨⟨_,hh⟩,hk⟩:=h;simp only[CW,Jj,decide_eq_true_eq]at hh;have h2:=hh.1.1.1.1.2;rw[Ex.ok];refine⟨fun ie=>?_,OI kids _ hk⟩;subst ie;simp only[Bv,Bt]at h2;omega
theorem OI:∀(l:List Ex) (d:Int),Fj l d=true→BK l
 |[],_,_=>by simp[BK]
 |x::r,d,h=>by
  rw[Fj,Jj]at h;rw[BK];exact⟨Ex.form_ok x d h.1,OI r d h.2⟩
end
theorem Qbfm {l:List Ex}(h:∀a∈l,a.valid=true):BK l:=by
 induction l with
 |nil=>simp[BK]
 |cons x r ih=>
  have h1:=h x (by simp);rw[Ex.valid,Jj]at h1;rw[BK];exact⟨Ex.form_ok x _ h1.1,ih fun a ha=>h a (by simp[ha])⟩
theorem Qa4i {l:List Ex}(h:∀a∈l,a.valid=true):Q4 l≤l.length * 30:=by
 induction l with
 |nil=>simp[Q4]
 |cons x r ih=>
  have h1:=h x (by simp);rw[Ex.valid,Jj,decide_eq_true_eq]at h1;have h2:=ih fun a ha=>h a (by simp[ha]);simp only[Q4,Jp];omega
theorem V3 (op:Int):argN op≤2:=by rw[argN];split <;> omega
mutual
theorem St.form_size:∀(x:St) (d:Int),x.form d=true→x.size≤100 * x.cnt∧x.ok
 |.mk op name args body els,d,h=>by
  rw[St.form_eq]at h;simp only[St.op,St.name,St.args,St.body,St.els,Jj]at h;obtain⟨⟨⟨_,hh⟩,hb⟩,he⟩:=h;simp only[BX,Jj,decide_eq_true_eq,Jaa]at hh;have hv:∀a∈args,a.valid=true:=hh.1.1.1.2;have hl:args.length=argN op:=hh.1.1.1.1.1.1.2;have h0:0<argN op:=by rw[argN];split <;> omega
  have h2:=V3 op;have h3:=Qa4i hv;obtain⟨b1,b2⟩:=P8 body _ hb;obtain⟨e1,e2⟩:=P8 els _ he;have hs:=(St.mk op name args body els).size_eq;simp only[St.args,St.body,St.els]at hs;refine⟨?_,?_⟩
  ·rw[hs,St.cnt];omega
  ·rw[St.ok_eq];simp only[St.args,St.body,St.els];refine⟨by omega,?_,b2,e2⟩;exact Qbfm hv
theorem P8:∀(l:List St) (d:Int),AD l d=true→Qh l≤100 * AU l∧Bl l
 |[],_,_=>by simp[Qh,AU,Bl]
 |x::r,d,h=>by
  rw[AD,Jj]at h;obtain⟨a1,a2⟩:=St.form_size x d h.1;obtain⟨r1,r2⟩:=P8 r d h.2;rw[Qh,AU,Bl];exact⟨by omega,a2,r2⟩
end
mutual
theorem Ex.low_dd {v:Vars}{d d':Int}{fi:List UInt8→Int}:∀(x:Ex) (s:Lw),AllV v x.pre→x.low (Aj v d) fi s=x.low (Aj v d') fi s
 |.mk op m name kids,s,h=>by
  simp only[Ex.pre]at h;have hk:AllV v (Ap kids):=fun e he=>h e (Jk _ he);simp only[Ex.low];by_cases h1:op=1
  ·simp only[h1,if_true]
  ·simp only[h1,if_false];by_cases h2:op=2
   ·simp only[h2,if_true];have:=h (.mk op m name kids) Jy (by simpa[Ex.op]using h2);obtain⟨r,hr⟩:=Jaf.1 this;have hr:v.find name=some r:=hr;simp only[Aj,hr]
   ·simp only[h2,if_false];by_cases h3:op=10
    ·simp only[h3,if_true];exact Qbo8 kids s hk
    ·simp only[h3,if_false];rw[Pi kids s hk]
theorem Pi {v:Vars}{d d':Int}{fi:List UInt8→Int}:∀(l:List Ex) (s:Lw),AllV v (Ap l)→Am (Aj v d) fi l s=Am (Aj v d') fi l s
 |[],s,_=>by simp[Am]
 |x::r,s,h=>by
  simp only[Ap]at h;simp only[Am];rw[Ex.low_dd (d':=d') x s h.app.1,Pi (d':=d') r _ h.app.2]
theorem Qbo8 {v:Vars}{d d':Int}{fi:List UInt8→Int}:∀(l:List Ex) (s:Lw),AllV v (Ap l)→BG (Aj v d) fi l s=BG (Aj v d') fi l s
 |[],s,_=>by simp[BG]
 |x::r,s,h=>by
  simp only[Ap]at h;simp only[BG];rw[Ex.low_dd (d':=d') x s h.app.1,Qblo (d':=d') r _ _ _ h.app.2]
theorem Qblo {v:Vars}{d d':Int}{fi:List UInt8→Int}:∀(l:List Ex) (t:Int) (r:Nat) (s:Lw),AllV v (Ap l)→Fk (Aj v d) fi t r l s=Fk (Aj v d') fi t r l s
 |[],t,r,s,_=>by simp[Fk]
 |x::l,t,r,s,h=>by
  simp only[Ap]at h;simp only[Fk];rw[Ex.low_dd (d':=d') x s h.app.1]
end
mutual
theorem St.low_dd {fns:List Fn}{k:Nat}{d d':Int}{fi:List UInt8→Int}:∀(x:St) (dp:Int) (v:Vars) (n:Nat) (s:Lw),x.form dp=true→(x.ck fns k ⟨v,0,n⟩).c=0→x.low d fi ⟨s,v,n⟩=x.low d' fi ⟨s,v,n⟩
 |.mk op name args body els,dp,v,n,s,hf,hc=>by
  obtain⟨f1,f2,f3,f4,f5,_⟩:=O7 hf;obtain⟨c1,c2,c3,c4,c5⟩:=KJ hc;simp only[St.low];by_cases h6:op=6
  ·subst h6;simp only[if_true,show ¬(6:Int)=1 by decide,if_false,Jaz]at *;have aD:AllV v (Ap (args.take 1)):=by
    have:Ap args=Ap (args.take 1)++Ap (args.drop 1):=(by rw[←OG,J0]);rw[this]at c1;exact c1.app.1
   rw[Pi (d':=d') _ _ aD,Pd (d':=d') body (dp-1) ([]::v) n _ f1 c3]
  ·simp only[h6,if_false];by_cases h5:op=5
   ·subst h5;simp only[if_true,show ¬(5:Int)=1 by decide,if_false,Jaz]at *;rw[Pi (d':=d') _ _ c1,Pd (d':=d') body (dp-1) ([]::v) n _ f1 c3];have gn:=fun s'=>D8 (d:=d') (fi:=fi) body (dp-1) ⟨s',[]::v,n⟩ f1;simp only at gn;rw[gn,Pd (d':=d') els (dp-1) ([]::v) (n+An body) _ f2 c4]
   ·simp only[h5,if_false];unfold Lv.one;simp only[];rw[Pi (d':=d') _ _ c1];by_cases h1:op=1
    ·simp only[h1,if_true]
    ·simp only[h1,if_false];by_cases h2:op=2
     ·obtain⟨r,hr⟩:=Jaf.1 (c2 h2);simp only[h2,if_true,Aj,hr]
     ·simp only[h2,if_false]
theorem Pd {fns:List Fn}{k:Nat}{d d':Int}{fi:List UInt8→Int}:∀(l:List St) (dp:Int) (v:Vars) (n:Nat) (s:Lw),AD l dp=true→(Ai fns k l ⟨v,0,n⟩).c=0→Q9 d fi l ⟨s,v,n⟩=Q9 d' fi l ⟨s,v,n⟩
 |[],dp,v,n,s,_,_=>by simp[Q9]
 |x::r,dp,v,n,s,hf,hc=>by
  simp only[AD,Jj]at hf;obtain⟨c1,c2⟩:=VN hc;simp only[Q9];rw[St.low_dd (d':=d') x dp v n s hf.1 c1];have e1:=St.low_v d' fi x ⟨s,v,n⟩;have e2:=St.low_n (d:=d') (fi:=fi) x dp ⟨s,v,n⟩ hf.1;simp only at e1 e2;have e3:x.low d' fi ⟨s,v,n⟩=⟨(x.low d' fi ⟨s,v,n⟩).s,if x.op=1 then A9 v x.name n else v,n+x.lets⟩:=by
   generalize x.low d' fi ⟨s,v,n⟩=R at e1 e2⊢;obtain⟨r1,r2,r3⟩:=R;simp only at e1 e2;rw[e1,e2]
  rw[e3];exact Pd (d':=d') r dp _ _ _ hf.2 c2
end
theorem FineP.low_dd {fns:List Fn}(h:FineP fns)(d d':Int):AA d fns=AA d' fns:=by
 rw[AA,AA];refine List.map_congr_left fun f hf=>?_;obtain⟨k,hk,rfl⟩:=Jaj.1 hf;obtain⟨_,_,h3,_,_,_,h7⟩:=h.fn hk;rw[AW,AW,Pd (d':=d') _ _ _ _ _ h7 h3]
theorem FineP.sizes {fns:List Fn}(h:FineP fns):∀k (hk:k<fns.length),Qh fns[k].body≤4000∧Bl fns[k].body∧fns[k].params.length≤3:=by
 intro k hk;obtain⟨_,_,_,_,_,h6,h7⟩:=h.fn hk;obtain⟨a1,a2⟩:=P8 _ _ h7;have hv:=h.v;simp only[B9,Jj,decide_eq_true_eq]at hv;have hc:AU fns[k].body≤AJ fns:=by
  have h1:=GR hk;have h2:AJ (fns.take (k+1))≤AJ fns:=by
   conv=>rhs;rw[←J0 (k+1) fns,NY]
   omega
  omega
 exact⟨by omega,a2,h6⟩
attribute [local go_sem] cond_true cond_false Bool.not_true Bool.not_false
open Go.Proofs.Tryz
variable {F H H':Heap}{w q:Nat}{s:IS}{K:V→Heap→Prop}{M Lg:List (Nat×Obj)}{sc:ScD}{v:Vars}{ls:List Nat}{lv:Lv}
def lobs (q:Nat)(nx:Int)(sc:ScD):List (Nat×Obj):=(q,.st [.int .i64 nx])::sc.ob
structure BSt (F H:Heap)(w:Nat)(s:IS)(q:Nat)(sc:ScD)(lv:Lv)(ls:List Nat):Prop where
 inv:IInv F H w s
 kn:Kn F H [] (s.L w++lobs q lv.next sc)
 ok:ScD.ok vI sc lv.v
 ls:sc.ls=ls
 len:∀x∈sc,x.2.2.length≤lv.next
 d:s.d=lv.s
theorem BSt.top {b:List (List UInt8×Nat)}{r:Vars}(h:BSt F H w s q sc lv ls)(hv:lv.v=b::r):∃l0 a0 es0 sr,sc=(l0,a0,es0)::sr∧MapOk vI es0 b∧ScD.ok vI sr r:=by
 have:=h.ok;rw[hv]at this
 match sc,this with
 |(l0,a0,es0)::sr,h=>exact⟨l0,a0,es0,sr,rfl,h.1,h.2⟩
theorem Xw (w:Lv)(d:Int)(fi:List UInt8→Int)(op:Int)(name:List UInt8)(args:List Ex):(w.one d fi op name args).next≤w.next+1∧w.next≤(w.one d fi op name args).next:=by
 unfold Lv.one;simp only[];split
 ·exact⟨Jc _,Jah _⟩
 ·split
  ·exact⟨Jah _,Jc _⟩
  ·split
   ·exact⟨Jah _,Jc _⟩
   ·split
    ·exact⟨Jah _,Jc _⟩
    ·split <;> exact⟨Jah _,Jc _⟩
mutual
theorem St.low_next {d:Int}{fi:List UInt8→Int}:∀(x:St) (w:Lv),(x.low d fi w).next≤w.next+x.size∧w.next≤(x.low d fi w).next
 |.mk op name args body els,w=>by
  have hs:=(St.mk op name args body els).size_eq;simp only[St.args,St.body,St.els]at hs;simp only[St.low];split
  ·have h1:∀s' v' n',(Q9 d fi body ⟨s',v',n'⟩).next≤n'+Qh body∧n'≤(Q9 d fi body ⟨s',v',n'⟩).next:=fun s' v' n'=>EX body ⟨s',v',n'⟩;dsimp only;exact⟨J1 (h1 _ _ _).1 (by omega),(h1 _ _ _).2⟩
  ·split
   ·have h1:∀s' v' n',(Q9 d fi body ⟨s',v',n'⟩).next≤n'+Qh body∧n'≤(Q9 d fi body ⟨s',v',n'⟩).next:=fun s' v' n'=>EX body ⟨s',v',n'⟩;have h2:∀s' v' n',(Q9 d fi els ⟨s',v',n'⟩).next≤n'+Qh els∧n'≤(Q9 d fi els ⟨s',v',n'⟩).next:=fun s' v' n'=>EX els ⟨s',v',n'⟩;dsimp only;exact⟨J1 (h2 _ _ _).1 (J1 (Nat.add_le_add_right (h1 _ _ _).1 _) (by omega)),J1 (h1 _ _ _).2 (h2 _ _ _).2⟩
   ·have h1:=Xw w d fi op name args;exact⟨by omega,h1.2⟩
theorem EX {d:Int}{fi:List UInt8→Int}:∀(l:List St) (w:Lv),(Q9 d fi l w).next≤w.next+Qh l∧w.next≤(Q9 d fi l w).next
 |[],w=>by simp[Q9]
 |x::r,w=>by
  have h1:=St.low_next (d:=d) (fi:=fi) x w;have h2:=EX (d:=d) (fi:=fi) r (x.low d fi w);rw[Q9,Qh];omega
end
def IBlX (n:Nat):Prop:=∀(l:List St) (fl:Bool) (F H:Heap) (w q:Nat) (s:IS) (N:Nat) (sc:ScD) (lv:Lv) (ls:List Nat) (K:V→Heap→Prop),Qh l≤n→Bl l→BSt F H w s q sc lv ls→lv.v≠[]→s.at_<s.blocks.length→s.ok N→lv.next≤N→N+10 * Qh l≤2^38→
  (∀(s':IS) (H':Heap) (sc':ScD),BSt F H' w s' q sc' (Q9 0 (Ac s.fns) l lv) ls→IStep s s' (10 * Qh l)→K (.tup []) H')→
  Qi prog Q5 [.c (.ptr w 0),.c (.sl fl 5 (Qv l)),.c (scC ls),.c (.ptr q 0)] H K
theorem FP {n N:Nat}{body:List St}{fl:Bool}{x9:Nat}{o9:Obj}(hB:IBlX n)(hn:Qh body≤n)(aM:Bl body)(h:IInv F H w s)(kn:Kn F H [] (s.L w++((x9,o9)::lobs q lv.next sc)))(cr:ScD.ok vI sc lv.v)(ly:sc.ls=ls)
  (ai:∀x∈sc,x.2.2.length≤lv.next) (hd:s.d=lv.s) (az:s.at_<s.blocks.length) (aq:s.ok N) (gW:lv.next≤N) (hN:N+10 * Qh body≤2^38)
  {K2:V→Heap→Prop} (hK:∀(lm:Nat) (H1:Heap),H1 x9=o9→(∀K3:V→Heap→Prop,(∀(s':IS) (H':Heap) (sc':ScD),IInv F H' w s'→Kn F H' [] (s'.L w++((x9,o9)::lobs q ((Q9 0 (Ac s.fns) body ⟨lv.s,[]::lv.v,lv.next⟩).next:Int) sc'))→ScD.ok vI sc' lv.v→sc'.ls=ls→
   (∀x∈sc',x.2.2.length≤(Q9 0 (Ac s.fns) body ⟨lv.s,[]::lv.v,lv.next⟩).next)→s'.d=(Q9 0 (Ac s.fns) body ⟨lv.s,[]::lv.v,lv.next⟩).s→IStep s s' (10 * Qh body)→K3 (.tup []) H')→
   Qi prog Q5 [.c (.ptr w 0),.c (.sl fl 5 (Qv body)),.c (.pp [.mp lm,scC ls]),.c (.ptr q 0)] H1 K3)→K2 (.c (.pp [.mp lm,scC ls])) H1) :
  Qi prog CC [.c (scC ls)] H K2:=by
 refine Fl (Ce ls) fun lm nn H1 bS h1=>hK lm H1 ((kn.al bS h1).get (x9,o9) (by simp)).1 fun K3 md=>?_;have kn1:=kn.al bS h1;have kn2:Kn F H1 [] ((s.L w++lobs q lv.next ((lm,nn,[])::sc))++[(x9,o9)]):=kn1.perm (by
  simp only[lobs,ScD.ob,J3,Jf,Jq];refine .append_left _ ?_;refine (List.Perm.swap _ _ _).trans (.cons _ ?_);refine List.Perm.trans (l₂:=(lm,Obj.map nn [])::(x9,o9)::List.map (fun x=>(x.1,Obj.map x.2.1 x.2.2)) sc) ?_ (.cons _ ?_)
  ·exact (Jh (l₁:=(x9,o9)::List.map (fun x=>(x.1,Obj.map x.2.1 x.2.2)) sc) (l₂:=[(lm,Obj.map nn [])]))
  ·exact (Jh (l₁:=[(x9,o9)])))
 obtain⟨F',k1,k2,k3,k4⟩:=kn2.sideX;have b0:BSt F' H1 w s q ((lm,nn,[])::sc) ⟨lv.s,[]::lv.v,lv.next⟩ (lm::ls):=
  ⟨⟨k1.drop,h.gb,h.gi,h.ri⟩,k1,⟨MapOk.nil vI,cr⟩,by rw[←ly];rfl,fun x hx=>by
   rcases J4.1 hx with rfl|hx
   ·exact Ja0 _
   ·exact ai x hx,hd⟩
 refine hB body fl F' H1 w q s N _ ⟨lv.s,[]::lv.v,lv.next⟩ (lm::ls) K3 hn aM b0 (by simp) az aq gW hN fun s' H' sc' b' st'=>?_;have kn3:=k4 _ _ b'.kn;obtain⟨m,hm⟩:=Fy (d:=0) (fi:=Ac s.fns) (l:=body) (w:=⟨lv.s,[]::lv.v,lv.next⟩) (b:=[]) (r:=lv.v) rfl;obtain⟨l0,a0,es0,sr,rfl,_,kG⟩:=b'.top hm;have iY:=b'.ls;simp only[ScD.ls,J3,Jat]at iY;have kn4:Kn F H' [] ((s'.L w++lobs q ((Q9 0 (Ac s.fns) body ⟨lv.s,[]::lv.v,lv.next⟩).next:Int) sr)++[(x9,o9)]):=
  kn3.sub (.append (.append (List.Sublist.refl _) (.cons_cons _ (.cons _ (List.Sublist.refl _)))) (List.Sublist.refl _))
 have kn5:Kn F H' [] (s'.L w++((x9,o9)::lobs q ((Q9 0 (Ac s.fns) body ⟨lv.s,[]::lv.v,lv.next⟩).next:Int) sr)):=kn4.perm (by
  rw[Jf];exact .append_left _ Jh)
 exact md s' H' sr ⟨kn5.drop,b'.inv.gb,b'.inv.gi,b'.inv.ri⟩ kn5 kG iY.2 (fun x hx=>b'.len x (Jk _ hx)) b'.d st'
theorem BSt.of {x9:Nat}{o9:Obj}{nx:Nat}(h:IInv F H w s)(kn:Kn F H [] (s.L w++((x9,o9)::lobs q nx sc)))(ok:ScD.ok vI sc v)(ly:sc.ls=ls)(len:∀x∈sc,x.2.2.length≤nx)(e:lv=⟨s.d,v,nx⟩):BSt F H w s q sc lv ls:=by
 subst e;exact⟨h,kn.sub (.append (List.Sublist.refl _) (.cons _ (List.Sublist.refl _))),ok,ly,len,rfl⟩
theorem Qblu {n N:Nat}{x:Ex}(hE:IExX n)(hn:x.size≤n)(aM:x.ok)(h:IInv F H w s)(cr:ScIn F sc v)(az:s.at_<s.blocks.length)(aq:s.ok N)(hN:N+10 * x.size≤2^38)
  (hK:∀(s':IS) (H':Heap),IInv F H' w s'→IStep s s' (10 * x.size)→s'.d=(x.low (Aj v 0) (Ac s.fns) s.d).1→K (.c (.int .i64 (x.low (Aj v 0) (Ac s.fns) s.d).2)) H') :
  Qi prog KF [.ag x.cells,.c (.pp [.ptr w 0]),.c (.pp [scC sc.ls])] H K:=by
 have an:=Ce sc.ls;refine Qb Ab Qjn ?_;refine Qa ?_;simp only[go_sem,x.ab,an];refine Qa ?_;simp only[go_sem,an];have hx:=hE x F H w s N sc v;rw[x.ab]at hx;refine hx _ hn aM h cr az aq hN fun s1 H1 h1 st1 ex1=>?_;simp only[go_sem,Tq];refine Qg ?_;simp only[go_sem,Qq,Q1,Aa,Ja,forall_eq,RS.op];exact hK s1 H1 h1 st1 ex1
end Go.AE.Y
namespace Go.AE.Y
attribute [local go_sem] cond_true cond_false Bool.not_true Bool.not_false
open Go.Proofs.Tryz
variable {F H H':Heap}{w q:Nat}{s:JS}{K:V→Heap→Prop}{M Lg:List (Nat×Obj)}{sc:ScD}{v:Vars}{ls:List Nat}{lv:Lv}
structure JBSt (F H:Heap)(w:Nat)(s:JS)(q:Nat)(sc:ScD)(lv:Lv)(ls:List Nat):Prop where
 inv:JInv F H w s
 kn:Kn F H [] (s.L w++lobs q lv.next sc)
 ok:ScD.ok vI sc lv.v
 ls:sc.ls=ls
 len:∀x∈sc,x.2.2.length≤lv.next
 d:s.d=lv.s
theorem JBSt.top {b:List (List UInt8×Nat)}{r:Vars}(h:JBSt F H w s q sc lv ls)(hv:lv.v=b::r):∃l0 a0 es0 sr,sc=(l0,a0,es0)::sr∧MapOk vI es0 b∧ScD.ok vI sr r:=by
 have:=h.ok;rw[hv]at this
 match sc,this with
 |(l0,a0,es0)::sr,h=>exact⟨l0,a0,es0,sr,rfl,h.1,h.2⟩
def JBlX (n:Nat):Prop:=∀(l:List St) (fl:Bool) (F H:Heap) (w q:Nat) (s:JS) (N:Nat) (sc:ScD) (lv:Lv) (ls:List Nat) (K:V→Heap→Prop),Qh l≤n→Bl l→JBSt F H w s q sc lv ls→lv.v≠[]→s.at_<s.blocks.length→s.ok N→lv.next≤N→N+10 * Qh l≤2^38→
  (∀(s':JS) (H':Heap) (sc':ScD),JBSt F H' w s' q sc' (Q9 0 (Ac s.fns) l lv) ls→JStep s s' (10 * Qh l)→K (.tup []) H')→
  Qi prog Q5 [.c (.ptr w 0),.c (.sl fl 5 (Qv l)),.c (scC ls),.c (.ptr q 0)] H K
theorem Hm {n N:Nat}{body:List St}{fl:Bool}{x9:Nat}{o9:Obj}(hB:JBlX n)(hn:Qh body≤n)(aM:Bl body)(h:JInv F H w s)(kn:Kn F H [] (s.L w++((x9,o9)::lobs q lv.next sc)))(cr:ScD.ok vI sc lv.v)(ly:sc.ls=ls)
  (ai:∀x∈sc,x.2.2.length≤lv.next) (hd:s.d=lv.s) (az:s.at_<s.blocks.length) (aq:s.ok N) (gW:lv.next≤N) (hN:N+10 * Qh body≤2^38)
  {K2:V→Heap→Prop} (hK:∀(lm:Nat) (H1:Heap),H1 x9=o9→(∀K3:V→Heap→Prop,(∀(s':JS) (H':Heap) (sc':ScD),JInv F H' w s'→Kn F H' [] (s'.L w++((x9,o9)::lobs q ((Q9 0 (Ac s.fns) body ⟨lv.s,[]::lv.v,lv.next⟩).next:Int) sc'))→ScD.ok vI sc' lv.v→sc'.ls=ls→
   (∀x∈sc',x.2.2.length≤(Q9 0 (Ac s.fns) body ⟨lv.s,[]::lv.v,lv.next⟩).next)→s'.d=(Q9 0 (Ac s.fns) body ⟨lv.s,[]::lv.v,lv.next⟩).s→JStep s s' (10 * Qh body)→K3 (.tup []) H')→
   Qi prog Q5 [.c (.ptr w 0),.c (.sl fl 5 (Qv body)),.c (.pp [.mp lm,scC ls]),.c (.ptr q 0)] H1 K3)→K2 (.c (.pp [.mp lm,scC ls])) H1) :
  Qi prog CC [.c (scC ls)] H K2:=by
 refine Fl (Ce ls) fun lm nn H1 bS h1=>hK lm H1 ((kn.al bS h1).get (x9,o9) (by simp)).1 fun K3 md=>?_;have kn1:=kn.al bS h1;have kn2:Kn F H1 [] ((s.L w++lobs q lv.next ((lm,nn,[])::sc))++[(x9,o9)]):=kn1.perm (by
  simp only[lobs,ScD.ob,J3,Jf,Jq];refine .append_left _ ?_;refine (List.Perm.swap _ _ _).trans (.cons _ ?_);refine List.Perm.trans (l₂:=(lm,Obj.map nn [])::(x9,o9)::List.map (fun x=>(x.1,Obj.map x.2.1 x.2.2)) sc) ?_ (.cons _ ?_)
  ·exact (Jh (l₁:=(x9,o9)::List.map (fun x=>(x.1,Obj.map x.2.1 x.2.2)) sc) (l₂:=[(lm,Obj.map nn [])]))
  ·exact (Jh (l₁:=[(x9,o9)])))
 obtain⟨F',k1,k2,k3,k4⟩:=kn2.sideX;have b0:JBSt F' H1 w s q ((lm,nn,[])::sc) ⟨lv.s,[]::lv.v,lv.next⟩ (lm::ls):=
  ⟨⟨k1.drop,h.gb,h.ob⟩,k1,⟨MapOk.nil vI,cr⟩,by rw[←ly];rfl,fun x hx=>by
   rcases J4.1 hx with rfl|hx
   ·exact Ja0 _
   ·exact ai x hx,hd⟩
 refine hB body fl F' H1 w q s N _ ⟨lv.s,[]::lv.v,lv.next⟩ (lm::ls) K3 hn aM b0 (by simp) az aq gW hN fun s' H' sc' b' st'=>?_;have kn3:=k4 _ _ b'.kn;obtain⟨m,hm⟩:=Fy (d:=0) (fi:=Ac s.fns) (l:=body) (w:=⟨lv.s,[]::lv.v,lv.next⟩) (b:=[]) (r:=lv.v) rfl;obtain⟨l0,a0,es0,sr,rfl,_,kG⟩:=b'.top hm;have iY:=b'.ls;simp only[ScD.ls,J3,Jat]at iY;have kn4:Kn F H' [] ((s'.L w++lobs q ((Q9 0 (Ac s.fns) body ⟨lv.s,[]::lv.v,lv.next⟩).next:Int) sr)++[(x9,o9)]):=
  kn3.sub (.append (.append (List.Sublist.refl _) (.cons_cons _ (.cons _ (List.Sublist.refl _)))) (List.Sublist.refl _))
 have kn5:Kn F H' [] (s'.L w++((x9,o9)::lobs q ((Q9 0 (Ac s.fns) body ⟨lv.s,[]::lv.v,lv.next⟩).next:Int) sr)):=kn4.perm (by
  rw[Jf];exact .append_left _ Jh)
 exact md s' H' sr ⟨kn5.drop,b'.inv.gb,b'.inv.ob⟩ kn5 kG iY.2 (fun x hx=>b'.len x (Jk _ hx)) b'.d st'
theorem JBSt.of {x9:Nat}{o9:Obj}{nx:Nat}(h:JInv F H w s)(kn:Kn F H [] (s.L w++((x9,o9)::lobs q nx sc)))(ok:ScD.ok vI sc v)(ly:sc.ls=ls)(len:∀x∈sc,x.2.2.length≤nx)(e:lv=⟨s.d,v,nx⟩):JBSt F H w s q sc lv ls:=by
 subst e;exact⟨h,kn.sub (.append (List.Sublist.refl _) (.cons _ (List.Sublist.refl _))),ok,ly,len,rfl⟩
theorem Qbl0 {n N:Nat}{x:Ex}(hE:JExX n)(hn:x.size≤n)(aM:x.ok)(h:JInv F H w s)(cr:ScIn F sc v)(az:s.at_<s.blocks.length)(aq:s.ok N)(hN:N+10 * x.size≤2^38)
  (hK:∀(s':JS) (H':Heap),JInv F H' w s'→JStep s s' (10 * x.size)→s'.d=(x.low (Aj v 0) (Ac s.fns) s.d).1→K (.c (.int .i64 (x.low (Aj v 0) (Ac s.fns) s.d).2)) H') :
  Qi prog KF [.ag x.cells,.c (.pp [.ptr w 0]),.c (.pp [scC sc.ls])] H K:=by
 have an:=Ce sc.ls;refine Qb Ab Qjn ?_;refine Qa ?_;simp only[go_sem,x.ab,an];refine Qa ?_;simp only[go_sem,an];have hx:=hE x F H w s N sc v;rw[x.ab]at hx;refine hx _ hn aM h cr az aq hN fun s1 H1 h1 st1 ex1=>?_;simp only[go_sem,Tq];refine Qg ?_;simp only[go_sem,Qq,Q1,Aa,Ja,forall_eq,RS.op];exact hK s1 H1 h1 st1 ex1
end Go.AE.Y
namespace Go.AE.Y
attribute [local go_sem] cond_true cond_false Bool.not_true Bool.not_false
open Go.Proofs.Tryz
variable {F H H':Heap}{w q:Nat}{s:IS}{K:V→Heap→Prop}{M Lg:List (Nat×Obj)}{sc:ScD}{v:Vars}{ls:List Nat}{lv:Lv}
structure BEnv (e:Env)(w q:Nat)(ls:List Nat)(fl:Bool)(l:List St)(i:Nat):Prop where
 l3:lk 3 e=.c (.ptr q 0)
 l4:lk 4 e=.c (.pp [.ptr w 0])
 l6:lk 6 e=.c (.pp [scC ls])
 l16:lk 16 e=.c (.sl fl 5 (Qv l))
 l17:lk 17 e=.c (.int .i64 l.length)
 l18:lk 18 e=.c (.int .i64 i)
theorem Qb2v {n N:Nat}{x:St}{l:List St}{fl:Bool}{i:Nat}{e:Env}{Q:X→Env→Heap→Prop}(hB:∀m,m<n→IBlX m)(hn:x.size≤n)(aM:x.ok)(b:BSt F H w s q sc lv ls)(bm:lv.v≠[])(az:s.at_<s.blocks.length)
  (aq:s.ok N) (gW:lv.next≤N) (hN:N+10 * x.size≤2^38) (he:BEnv e w q ls fl l i) (hi:i<l.length) (hx:l[i]=x)
  (hQ:∀(e':Env) (H':Heap) (s':IS) (sc':ScD),BEnv e' w q ls fl l i→BSt F H' w s' q sc' (x.low 0 (Ac s.fns) lv) ls→IStep s s' (10 * x.size)→Ag prog Qjs Q e' H') :
  Ag prog Qjt Q e H:=by
 obtain⟨l3,l4,l6,l16,l17,l18⟩:=he;obtain rfl:=b.ls;have an:=Ce sc.ls;have be:=x.size_eq;have j9:=aM;rw[St.ok_eq]at aM;obtain⟨eA,dX,fo,m8⟩:=aM;have su:=B0 (Jb eA);refine Qe (Qf ?_);refine Qa ?_;simp only[go_sem,l3,l4,l6,l16,l17,l18,an,hi,Q7,Ct _ _ hi,hx,x.ab];intro x9 mQ H1 h1;have kn:Kn F H1 [] (s.L w++((x9,.st [.int .i64 0,.str [],.sl true 4 [],.sl true 5 [],.sl true 5 []])::lobs q lv.next sc)):=(b.kn.al mQ h1).perm (by
  rw[Jf];exact .append_left _ Jh)
 have g9:H1 x9=_:=(kn.get (x9,.st [.int .i64 0,.str [],.sl true 4 [],.sl true 5 [],.sl true 5 []]) (by simp)).1;simp only[go_sem,Qju,g9,an];intro H2 h2;have kn:Kn F H2 [] (s.L w++((x9,.st [.int .i64 x.op,.str x.name,.sl false 4 (Af x.args),.sl false 5 (Qv x.body),.sl false 5 (Qv x.els)])::lobs q lv.next sc)):=kn.stM h2;obtain⟨o9,dy⟩:∃o9,Obj.st [.int .i64 x.op,.str x.name,.sl false 4 (Af x.args),.sl false 5 (Qv x.body),.sl false 5 (Qv x.els)]=o9:=⟨_,rfl⟩;rw[dy]at kn;obtain⟨F',hf,_,hM,back⟩:=(b.inv.re kn.drop).sideX kn;have cr:ScIn F' sc lv.v:=⟨fun p hp=>hM p (Jk _ (Jk _ hp)),b.ok⟩;have g9f:F' x9=o9:=hM (x9,o9) (by simp);have g9:∀(H':Heap) (s':IS),IInv F' H' w s'→H' x9=.st [.int .i64 x.op,.str x.name,.sl false 4 (Af x.args),.sl false 5 (Qv x.body),.sl false 5 (Qv x.els)]:=fun H' s' h'=>by
  rw[h'.kn.chg x9 (by rw[g9f,←dy];nofun) (by simp),g9f,dy]
 have g92:=g9 _ _ hf;simp only[l3,l4,l6,l16,l17,l18];refine Qp (Qa ?_);simp only[go_sem,g92,an];refine Qe (Qc rfl ?_ ?_)
 ·intro hc;have aK:x.op=6:=by simpa using hc
  have aV:=aq.b1;refine Qa ?_;simp only[go_sem,an];refine D6 (n:=3) hf aq (by omega) fun s1 H3 h1 st1 qW ex1=>?_;simp only[go_sem,Qjv];refine Qa ?_;simp only[go_sem,an];refine DQ (next:=[(s.blocks.length:Int)]) (at':=s.blocks.length) (N:=0) h1 (st1.at_ az) (by omega) fun s2 H4 h2 st2 ex2=>?_;have br:=st2.bl;have st2:=st1.trans st2;have g94:=g9 _ _ h2;simp only[go_sem];refine Ak ?_;simp only[go_sem,g94,an,eA,Qt,B7 _ _ eA,Ex.b9,Ex.aX,Ex.aj];refine⟨by omega,?_⟩;refine IL _ x.args[0] F' H4 w s2 _ sc lv.v _ (Jc _) (DT dX _ (Jb eA)) h2 cr (st2.at_ az) (st2.ok _ aq) (by omega) fun s3 H5 h3 st3 ex3=>?_;have gu:=st3.bl;have st3:=st2.trans st3;simp only[go_sem,Qjw];refine Qa ?_;simp only[go_sem,an];refine⟨Ql,Ql,Ql,?_⟩;rw[show ((s.blocks.length:Int)+1)=((s.blocks.length+1:Nat):Int)by omega,show ((s.blocks.length:Int)+2)=((s.blocks.length+2:Nat):Int)by omega];refine DQ (next:=[((s.blocks.length+1:Nat):Int),((s.blocks.length+2:Nat):Int)]) (at':=s.blocks.length+1) (N:=0) h3 (st3.at_ az) (by omega) fun s4 H6 h4 st4 ex4=>?_;have lW:=st4.bl;have st4:=st3.trans st4;obtain⟨rj,kn4⟩:=back s4 H6 h4;have g96:=g9 _ _ h4;simp only[go_sem];refine Ak ?_;simp only[go_sem,g96,an];refine FP (fl:=false) (lv:=⟨s4.d,lv.v,lv.next⟩) (hB (Qh x.body) (by omega)) (Jc _) fo rj kn4 b.ok rfl b.len rfl (st4.at_ az) (st4.ok _ aq) (J1 gW (by omega)) (by omega) fun lm H7 g97 call=>?_;rw[←dy]at g97;simp only[go_sem,Qjx,g97,an];refine call _ fun s5 H8 sc' h5 kn5 ok5 ls5 len5 d5 st5=>?_;have kb:=st5.bl;have st5:=st4.trans st5;obtain⟨F2,cN,_,_,back2⟩:=h5.sideX kn5;simp only[go_sem];refine Qa ?_;simp only[go_sem,an];refine⟨Ql,?_⟩;rw[show ((s.blocks.length:Int)+2)=((s.blocks.length+2:Nat):Int)by omega];refine DQ (next:=[(s.blocks.length:Int)]) (at':=s.blocks.length+2) (N:=0) cN (st5.at_ az) (by omega) fun s6 H9 h6 st6 ex6=>?_;have st6:=st5.trans st6;obtain⟨h6,kn6⟩:=back2 s6 H9 h6;simp only[go_sem];refine Qr ?_;simp only[go_sem,AE.X.next];have f2:s2.fns=s.fns:=st2.fn.1;have f4:s4.fns=s.fns:=st4.fn.1;rw[f4]at d5 len5 kn6;rw[f2,ex2,ex1,b.d]at ex3;have pA:s4.d=_:=ex4;have elow:x.low 0 (Ac s.fns) lv=⟨s6.d,lv.v,(Q9 0 (Ac s.fns) x.body ⟨s4.d,[]::lv.v,lv.next⟩).next⟩:=by
   rw[ex6,d5,St.low_eq,if_pos aK,pA,ex3];simp only[Rv _ _ _ _ eA,f2,ex2,ex1,b.d,IS.dlen,Jm,Int.natCast_add];rfl
  exact hQ _ H9 s6 sc' ⟨rfl,rfl,rfl,rfl,rfl,rfl⟩ (.of h6 kn6 ok5 ls5 len5 elow) (st6.mono (by omega))
 ·intro cg;refine Qd ?_;try simp only[go_sem]
  refine Qa ?_;simp only[go_sem,g92,an];refine Ke (n:=Q4 x.args) (Jc _) dX hf cr az aq (by omega) (fun y hy F2 H2 s2 N2 K2 h2 gH df dS ma me=>Qblu (IL _) (Jc _) (DT dX _ hy) h2 gH df dS ma me) fun s1 H3 h1 st1 ex1=>?_;obtain⟨ars,bB⟩:∃ars,(Am (Aj lv.v 0) (Ac s.fns) x.args s.d).2=ars:=⟨_,rfl⟩;rw[bB];have jK:ars.length=x.args.length:=by rw[←bB,OH]
  have bT:0<ars.length:=by omega
  have e1:Am (Aj lv.v 0) (Ac s.fns) x.args lv.s=(s1.d,ars):=by rw[←b.d];exact Prod.ext ex1.symm bB
  have one:¬x.op=5→x.low 0 (Ac s.fns) lv=lv.one 0 (Ac s.fns) x.op x.name x.args:=fun h5=>by rw[St.low_eq,if_neg (by simpa using cg),if_neg h5]
  have aU:=st1.ok _ aq;have co:=st1.at_ az;have g93:=g9 _ _ h1;obtain⟨ft,kn1⟩:=back s1 H3 h1;have aV:=aU.b1;simp only[go_sem,Qit];refine Qa ?_;simp only[go_sem,g93,an];refine Qf (Qa ?_);simp only[go_sem,an];refine Qc rfl ?_ ?_
  ·intro hc;have aK:x.op=1:=by simpa using hc
   obtain⟨tb,tr,cq⟩:∃tb tr,lv.v=tb::tr:=by
    cases hv:lv.v with
    |nil=>exact absurd hv bm
    |cons c r=>exact⟨c,r,rfl⟩
   obtain⟨l0,a0,es0,sr,kK,dg,kG⟩:=b.top cq;subst kK;have gI:scC (ScD.ls ((l0,a0,es0)::sr))=.pp [.mp l0,scC (ScD.ls sr)]:=rfl;have eX:=Ce (ScD.ls sr);have kn1':Kn F H3 [] ((s1.L w++[(x9,o9),(q,.st [.int .i64 lv.next])])++(l0,.map a0 es0)::ScD.ob sr):=by
    rw[Jf];exact kn1
   have gq:H3 q=.st [.int .i64 lv.next]:=(kn1'.get (q,.st [.int .i64 lv.next]) (by simp)).1;have gl:H3 l0=.map a0 es0:=kn1'.getM;have fP:es0.length≤lv.next:=b.len (l0,a0,es0) Jy;have d9:=Bu;refine Ak ?_;simp only[go_sem,gI,eX,g93,gq,gl];refine⟨dg.ky,by omega,fun H4 h4=>?_⟩;have kn2:Kn F H4 [] ((s1.L w++[(x9,o9),(q,.st [.int .i64 lv.next])])++(l0,.map (a0+1) (AG (.str x.name) (.c (.int .i64 lv.next)) es0))::ScD.ob sr):=kn1'.stM h4;have dj:AI (.str x.name) (AG (.str x.name) (.c (.int .i64 lv.next)) es0)=some (.c (.int .i64 lv.next)):=by
    rw[EH _ _ _ _ dg.ky,if_pos rfl]
   have iw:=E7 x.name (.c (.int .i64 lv.next)) es0 dg.ky;have na:=HZ x.name (.c (.int .i64 lv.next)) es0;have eZ:MapOk vI (AG (.str x.name) (.c (.int .i64 lv.next)) es0) ((x.name,lv.next)::tb):=dg.put x.name lv.next;obtain⟨es1,lG⟩:∃es1,AG (.str x.name) (.c (.int .i64 lv.next)) es0=es1:=⟨_,rfl⟩;rw[lG]at kn2 dj iw na eZ;have gq4:H4 q=.st [.int .i64 lv.next]:=(kn2.get (q,.st [.int .i64 lv.next]) (by simp)).1;refine Qa ?_;simp only[go_sem,gI,eX,gq4];refine⟨Ql,fun H5 h5=>?_⟩;have kn3:Kn F H5 [] (s1.L w++((x9,o9)::lobs q ((lv.next+1:Nat):Int) ((l0,a0+1,es1)::sr))):=by
    have k0:Kn F H4 [] ((s1.L w++[(x9,o9)])++(q,.st [.int .i64 lv.next])::((l0,.map (a0+1) es1)::ScD.ob sr)):=by
     rw[Jf]at kn2⊢;exact kn2
    have k1:=k0.stM (o':=.st [.int .i64 ((lv.next:Int)+1)]) h5;rw[Jf]at k1;exact k1
   have ke:=ft.re kn3.drop;obtain⟨F2,cN,_,mc,back2⟩:=ke.sideX kn3;have g59:H5 x9=.st [.int .i64 x.op,.str x.name,.sl false 4 (Af x.args),.sl false 5 (Qv x.body),.sl false 5 (Qv x.els)]:=by
    rw[(kn3.get (x9,o9) (by simp)).1,dy]
   have gl5:H5 l0=.map (a0+1) es1:=(kn3.get (l0,.map (a0+1) es1) (by simp[lobs,ScD.ob])).1;have lI:Q6 H5 (.mp l0)=es1:=by simp only[Q6,gl5]
   have kZ:B4 H5 (.mp l0)=True:=by simp only[B4,gl5]
   refine CE ?_;simp only[go_sem,gI,eX,g59,lI,kZ,dj,Jas];refine⟨iw,?_⟩;refine CZ cN co aU (by omega) fun s2 H6 h6 st2 ex2=>?_;obtain⟨h6,kn6⟩:=back2 s2 H6 h6;simp only[go_sem,AE.X.next];have elow:x.low 0 (Ac s.fns) lv=⟨s2.d,A9 lv.v x.name lv.next,lv.next+1⟩:=by
    rw[one (by omega),Lv.one,if_pos aK];simp only[e1];rw[ex2]
   refine hQ _ H6 s2 ((l0,a0+1,es1)::sr) ⟨rfl,rfl,rfl,rfl,rfl,rfl⟩ (.of h6 kn6 ?_ rfl (fun y hy=>?_) elow) ((st1.trans st2).mono (by omega))
   ·rw[cq];exact⟨eZ,kG⟩
   ·rcases J4.1 hy with rfl|hy
    ·show es1.length≤_;omega
    ·have:=b.len y (Jk _ hy);omega
  intro bE;refine Qa ?_;simp only[go_sem,an];refine Qc rfl ?_ ?_
  ·intro hc;have aK:x.op=2:=by simpa using hc
   refine Qa ?_;simp only[go_sem,g93,an];refine HW (cr.find h1.kn) ?_;simp only[go_sem,Qiu,Jm,Jv];refine Qn ?_;simp only[go_sem,an];refine CZ h1 co aU (by omega) fun s2 H4 h2 st2 ex2=>?_;obtain⟨h2,kn2⟩:=back s2 H4 h2;simp only[go_sem,AE.X.next];have elow:x.low 0 (Ac s.fns) lv=⟨s2.d,lv.v,lv.next⟩:=by
    rw[one (by omega),Lv.one,if_neg (by omega),if_pos aK];simp only[e1];rw[ex2,Et]
   exact hQ _ H4 s2 sc ⟨rfl,rfl,rfl,rfl,rfl,rfl⟩ (.of h2 kn2 b.ok rfl b.len elow) ((st1.trans st2).mono (by omega))
  intro ao;refine Qa ?_;simp only[go_sem,an];refine Qc rfl ?_ ?_
  ·intro hc;have aK:x.op=3:=by simpa using hc
   refine Qn ?_;simp only[go_sem,an];refine CZ h1 co aU (by omega) fun s2 H4 h2 st2 ex2=>?_;obtain⟨h2,kn2⟩:=back s2 H4 h2;simp only[go_sem,AE.X.next];have elow:x.low 0 (Ac s.fns) lv=⟨s2.d,lv.v,lv.next⟩:=by
    rw[one (by omega),Lv.one,if_neg (by omega),if_neg (by omega),if_pos aK];simp only[e1];rw[ex2]
   exact hQ _ H4 s2 sc ⟨rfl,rfl,rfl,rfl,rfl,rfl⟩ (.of h2 kn2 b.ok rfl b.len elow) ((st1.trans st2).mono (by omega))
  intro b7;refine Qa ?_;simp only[go_sem,an];refine Qc rfl ?_ ?_
  ·intro hc;have aK:x.op=4:=by simpa using hc
   refine Qn ?_;simp only[go_sem,an];refine CZ h1 co aU (by omega) fun s2 H4 h2 st2 ex2=>?_;obtain⟨h2,kn2⟩:=back s2 H4 h2;simp only[go_sem,AE.X.next];have elow:x.low 0 (Ac s.fns) lv=⟨s2.d,lv.v,lv.next⟩:=by
    rw[one (by omega),Lv.one,if_neg (by omega),if_neg (by omega),if_neg (by omega),if_pos aK];simp only[e1];rw[ex2]
   exact hQ _ H4 s2 sc ⟨rfl,rfl,rfl,rfl,rfl,rfl⟩ (.of h2 kn2 b.ok rfl b.len elow) ((st1.trans st2).mono (by omega))
  intro bX;refine Qa ?_;simp only[go_sem,an];refine Qc rfl ?_ ?_
  ·intro hc;have aK:x.op=5:=by simpa using hc
   refine Qa ?_;simp only[go_sem,an];refine D6 (n:=3) h1 aU (by omega) fun s2 H4 h2 st2 qV ex2=>?_;have st2:=st1.trans st2;have g94:=g9 _ _ h2;simp only[go_sem,Qiv];refine Ak ?_;simp only[go_sem,an,bT,Qm,Cy _ _ bT];try refine⟨by omega,?_⟩
   refine⟨Ql,?_⟩;refine DQ (next:=[(s1.blocks.length:Int),(s1.blocks.length:Int)+1]) (at':=s1.blocks.length) (N:=0) h2 (st2.at_ az) (by omega) fun s3 H5 h3 st3 ex3=>?_;have gu:=st3.bl;have st3:=st2.trans st3;have g95:=g9 _ _ h3;obtain⟨rk,kn3⟩:=back s3 H5 h3;simp only[go_sem];refine Ak ?_;simp only[go_sem,g95,an];refine FP (fl:=false) (lv:=⟨s3.d,lv.v,lv.next⟩) (hB (Qh x.body) (by omega)) (Jc _) fo rk kn3 b.ok rfl b.len rfl (st3.at_ az) (st3.ok _ aq) (J1 gW (by omega)) (by omega) fun lm H7 g97 call=>?_;rw[←dy]at g97;simp only[go_sem,Qiw,g97,an];refine call _ fun s5 H8 sc' h5 kn5 ok5 ls5 len5 d5 st5=>?_;have kb:=st5.bl;have st5:=st3.trans st5;obtain⟨F2,cN,_,mc,back2⟩:=h5.sideX kn5;have pQ:=Ce sc'.ls;simp only[go_sem];refine Qa ?_;simp only[go_sem,an];refine⟨Ql,Ql,?_⟩;rw[show ((s1.blocks.length:Int)+1)=((s1.blocks.length+1:Nat):Int)by omega,show ((s1.blocks.length:Int)+2)=((s1.blocks.length+2:Nat):Int)by omega];refine DQ (next:=[((s1.blocks.length+2:Nat):Int)]) (at':=s1.blocks.length+1) (N:=0) cN (st5.at_ az) (by omega) fun s6 H9 h6 st6 ex6=>?_;have mI:=st6.bl;have st6:=st5.trans st6;have g99:H9 x9=.st [.int .i64 x.op,.str x.name,.sl false 4 (Af x.args),.sl false 5 (Qv x.body),.sl false 5 (Qv x.els)]:=by
    have:=mc (x9,o9) (by simp);rw[h6.kn.chg x9 (by rw[this,←dy];nofun) (by simp),this,dy]
   obtain⟨h6,kn6⟩:=back2 s6 H9 h6;simp only[go_sem];refine Ak ?_;simp only[go_sem,g99,an];have f3:s3.fns=s.fns:=st3.fn.1;have f6:s6.fns=s.fns:=st6.fn.1;have jD:(Q9 0 (Ac s3.fns) x.body ⟨s3.d,[]::lv.v,lv.next⟩).next≤lv.next+Qh x.body∧lv.next≤(Q9 0 (Ac s3.fns) x.body ⟨s3.d,[]::lv.v,lv.next⟩).next:=EX x.body ⟨s3.d,[]::lv.v,lv.next⟩;refine FP (fl:=false) (lv:=⟨s6.d,lv.v,(Q9 0 (Ac s3.fns) x.body ⟨s3.d,[]::lv.v,lv.next⟩).next⟩) (hB (Qh x.els) (by omega)) (Jc _) m8 h6 kn6 ok5 ls5 len5 rfl (st6.at_ az) (st6.ok _ aq) (by show (Q9 0 (Ac s3.fns) x.body ⟨s3.d,[]::lv.v,lv.next⟩).next≤_;omega) (by omega) fun lm2 H10 g910 call2=>?_;rw[←dy]at g910;simp only[go_sem,Qix,g910,an];refine call2 _ fun s7 H11 sc2 h7 kn7 ok7 ls7 len7 d7 st7=>?_;have mH:=st7.bl;have st7:=st6.trans st7;obtain⟨F3,iB,_,_,back3⟩:=h7.sideX kn7;simp only[go_sem];refine Qn ?_;simp only[go_sem,an];refine⟨Ql,Ql,?_⟩;rw[show ((s1.blocks.length:Int)+2)=((s1.blocks.length+2:Nat):Int)by omega];refine DQ (next:=[((s1.blocks.length+2:Nat):Int)]) (at':=s1.blocks.length+2) (N:=0) iB (st7.at_ az) (by omega) fun s8 H12 h8 st8 ex8=>?_;have st8:=st7.trans st8;obtain⟨h8,kn8⟩:=back3 s8 H12 h8;simp only[go_sem,AE.X.next];rw[f6]at d7 len7 kn8;have elow:x.low 0 (Ac s.fns) lv=⟨s8.d,lv.v,(Q9 0 (Ac s.fns) x.els ⟨s6.d,[]::lv.v,(Q9 0 (Ac s3.fns) x.body ⟨s3.d,[]::lv.v,lv.next⟩).next⟩).next⟩:=by
    rw[ex8,d7,ex6,d5,f3,ex3,ex2,St.low_eq,if_neg (by omega),if_pos aK];simp only[e1,IS.dlen,Int.natCast_add];rfl
   exact hQ _ H12 s8 sc2 ⟨rfl,rfl,rfl,rfl,rfl,rfl⟩ (.of h8 kn8 ok7 ls7 len7 elow) (st8.mono (by omega))
  intro dM;refine Qa ?_;simp only[go_sem,an];refine Qc rfl ?_ ?_
  ·intro hc;have aK:x.op=7:=by simpa using hc
   refine CE ?_;simp only[go_sem,an,bT,Qm,Cy _ _ bT];try refine⟨by omega,?_⟩
   refine D6 (n:=1) h1 aU (by omega) fun s2 H4 h2 st2 br ex2=>?_;simp only[go_sem,Qiy,an,bT,Qm,Cy _ _ bT];try refine⟨by omega,?_⟩
   refine DQ (next:=[]) (at':=s1.blocks.length) (N:=0) h2 (st2.at_ co) (by omega) fun s3 H5 h3 st3 ex3=>?_;obtain⟨h3,kn3⟩:=back s3 H5 h3;simp only[go_sem,AE.X.next];have elow:x.low 0 (Ac s.fns) lv=⟨s3.d,lv.v,lv.next⟩:=by
    rw[one (by omega),Lv.one,if_neg (by omega),if_neg (by omega),if_neg (by omega),if_neg (by omega),if_pos aK];simp only[e1];rw[ex3,ex2,IS.dlen];try simp[Jd,bT]
   exact hQ _ H5 s3 sc ⟨rfl,rfl,rfl,rfl,rfl,rfl⟩ (.of h3 kn3 b.ok rfl b.len elow) (((st1.trans st2).trans st3).mono (by omega))
  intro lR;refine Qd ?_;simp only[go_sem,AE.X.next];have elow:x.low 0 (Ac s.fns) lv=⟨s1.d,lv.v,lv.next⟩:=by
   rw[one (by simpa using dM),Lv.one,if_neg (by simpa using bE),if_neg (by simpa using ao),if_neg (by simpa using b7),if_neg (by simpa using bX),if_neg (by simpa using lR)];simp only[e1]
  exact hQ _ H3 s1 sc ⟨rfl,rfl,rfl,rfl,rfl,rfl⟩ (.of ft kn1 b.ok rfl b.len elow) (st1.mono (by omega))
end Go.AE.Y
namespace Go.AE.Y
attribute [local go_sem] cond_true cond_false Bool.not_true Bool.not_false
open Go.Proofs.Tryz
variable {F H H':Heap}{w q:Nat}{s:JS}{K:V→Heap→Prop}{M Lg:List (Nat×Obj)}{sc:ScD}{v:Vars}{ls:List Nat}{lv:Lv}
theorem Qb2w {n N:Nat}{x:St}{l:List St}{fl:Bool}{i:Nat}{e:Env}{Q:X→Env→Heap→Prop}(hB:∀m,m<n→JBlX m)(hn:x.size≤n)(aM:x.ok)(b:JBSt F H w s q sc lv ls)(bm:lv.v≠[])(az:s.at_<s.blocks.length)
  (aq:s.ok N) (gW:lv.next≤N) (hN:N+10 * x.size≤2^38) (he:BEnv e w q ls fl l i) (hi:i<l.length) (hx:l[i]=x)
  (hQ:∀(e':Env) (H':Heap) (s':JS) (sc':ScD),BEnv e' w q ls fl l i→JBSt F H' w s' q sc' (x.low 0 (Ac s.fns) lv) ls→JStep s s' (10 * x.size)→Ag prog Qi3 Q e' H') :
  Ag prog Qi4 Q e H:=by
 obtain⟨l3,l4,l6,l16,l17,l18⟩:=he;obtain rfl:=b.ls;have an:=Ce sc.ls;have be:=x.size_eq;have j9:=aM;rw[St.ok_eq]at aM;obtain⟨eA,dX,fo,m8⟩:=aM;have su:=B0 (Jb eA);refine Qe (Qf ?_);refine Qa ?_;simp only[go_sem,l3,l4,l6,l16,l17,l18,an,hi,Q7,Ct _ _ hi,hx,x.ab];intro x9 mQ H1 h1;have kn:Kn F H1 [] (s.L w++((x9,.st [.int .i64 0,.str [],.sl true 4 [],.sl true 5 [],.sl true 5 []])::lobs q lv.next sc)):=(b.kn.al mQ h1).perm (by
  rw[Jf];exact .append_left _ Jh)
 have g9:H1 x9=_:=(kn.get (x9,.st [.int .i64 0,.str [],.sl true 4 [],.sl true 5 [],.sl true 5 []]) (by simp)).1;simp only[go_sem,Qi5,g9,an];intro H2 h2;have kn:Kn F H2 [] (s.L w++((x9,.st [.int .i64 x.op,.str x.name,.sl false 4 (Af x.args),.sl false 5 (Qv x.body),.sl false 5 (Qv x.els)])::lobs q lv.next sc)):=kn.stM h2;obtain⟨o9,dy⟩:∃o9,Obj.st [.int .i64 x.op,.str x.name,.sl false 4 (Af x.args),.sl false 5 (Qv x.body),.sl false 5 (Qv x.els)]=o9:=⟨_,rfl⟩;rw[dy]at kn;obtain⟨F',hf,_,hM,backA⟩:=(b.inv.re kn.drop).side kn;have back:∀(s':JS) (H':Heap),JInv F' H' w s'→JInv F H' w s'∧Kn F H' [] (s'.L w++((x9,o9)::lobs q lv.next sc)):=fun s' H' h'=>by
  have:=backA s' H' [] h' (by rw[Jo];exact h'.kn)
  rwa [Jo]at this
 have cr:ScIn F' sc lv.v:=⟨fun p hp=>hM p (Jk _ (Jk _ hp)),b.ok⟩;have g9f:F' x9=o9:=hM (x9,o9) (by simp);have g9:∀(H':Heap) (s':JS),JInv F' H' w s'→H' x9=.st [.int .i64 x.op,.str x.name,.sl false 4 (Af x.args),.sl false 5 (Qv x.body),.sl false 5 (Qv x.els)]:=fun H' s' h'=>by
  rw[h'.kn.chg x9 (by rw[g9f,←dy];nofun) (by simp),g9f,dy]
 have g92:=g9 _ _ hf;simp only[l3,l4,l6,l16,l17,l18];refine Qp (Qa ?_);simp only[go_sem,g92,an];refine Qe (Qc rfl ?_ ?_)
 ·intro hc;have aK:x.op=6:=by simpa using hc
  have aV:=aq.b1;refine Qa ?_;simp only[go_sem,an];refine D5 (n:=3) hf aq (by omega) fun s1 H3 h1 st1 qW ex1=>?_;simp only[go_sem,Qi6];refine Qa ?_;simp only[go_sem,an];intro y1 gA G1 g1;have kn1:=h1.kn.al gA g1;have h1:=h1.re kn1.drop;simp only[go_sem,Qi7,an];refine DP (next:=[(s.blocks.length:Int)]) (at':=s.blocks.length) (N:=0) h1 kn1 (DF y1 _ rfl) (st1.at_ az) (by omega) fun s2 H4 h2 st2 ex2=>?_;have br:=st2.bl;have st2:=st1.trans st2;have g94:=g9 _ _ h2;simp only[go_sem];refine Ak ?_;simp only[go_sem,g94,an,eA,Qt,B7 _ _ eA,Ex.b9,Ex.aX,Ex.aj];refine⟨by omega,?_⟩;refine IK _ x.args[0] F' H4 w s2 _ sc lv.v _ (Jc _) (DT dX _ (Jb eA)) h2 cr (st2.at_ az) (st2.ok _ aq) (by omega) fun s3 H5 h3 st3 ex3=>?_;have gu:=st3.bl;have st3:=st2.trans st3;simp only[go_sem,Qi8];refine Qa ?_;simp only[go_sem,an];refine⟨Ql,Ql,Ql,?_⟩;rw[show ((s.blocks.length:Int)+1)=((s.blocks.length+1:Nat):Int)by omega,show ((s.blocks.length:Int)+2)=((s.blocks.length+2:Nat):Int)by omega];intro y2 iE G2 g2;have kn3:=h3.kn.al iE g2;have h3:=h3.re kn3.drop;simp only[go_sem,Qi9,an];refine DP (next:=[((s.blocks.length+1:Nat):Int),((s.blocks.length+2:Nat):Int)]) (at':=s.blocks.length+1) (N:=0) h3 kn3 (DF y2 _ rfl) (st3.at_ az) (by omega) fun s4 H6 h4 st4 ex4=>?_;have lW:=st4.bl;have st4:=st3.trans st4;obtain⟨rj,kn4⟩:=back s4 H6 h4;have g96:=g9 _ _ h4;simp only[go_sem];refine Ak ?_;simp only[go_sem,g96,an];refine Hm (fl:=false) (lv:=⟨s4.d,lv.v,lv.next⟩) (hB (Qh x.body) (by omega)) (Jc _) fo rj kn4 b.ok rfl b.len rfl (st4.at_ az) (st4.ok _ aq) (J1 gW (by omega)) (by omega) fun lm H7 g97 call=>?_;rw[←dy]at g97;simp only[go_sem,Qja,g97,an];refine call _ fun s5 H8 sc' h5 kn5 ok5 ls5 len5 d5 st5=>?_;have kb:=st5.bl;have st5:=st4.trans st5;obtain⟨F2,cN,_,_,back2⟩:=h5.sideX kn5;simp only[go_sem];refine Qa ?_;simp only[go_sem,an];refine⟨Ql,?_⟩;rw[show ((s.blocks.length:Int)+2)=((s.blocks.length+2:Nat):Int)by omega];intro y3 oV G3 g3;have kn5:=cN.kn.al oV g3;have cN:=cN.re kn5.drop;simp only[go_sem,Qjb,an];refine DP (next:=[(s.blocks.length:Int)]) (at':=s.blocks.length+2) (N:=0) cN kn5 (DF y3 _ rfl) (st5.at_ az) (by omega) fun s6 H9 h6 st6 ex6=>?_;have st6:=st5.trans st6;obtain⟨h6,kn6⟩:=back2 s6 H9 h6;simp only[go_sem];refine Qr ?_;simp only[go_sem,AE.X.next];have f2:s2.fns=s.fns:=st2.fn.1;have f4:s4.fns=s.fns:=st4.fn.1;rw[f4]at d5 len5 kn6;rw[f2,ex2,ex1,b.d]at ex3;have pA:s4.d=_:=ex4;have elow:x.low 0 (Ac s.fns) lv=⟨s6.d,lv.v,(Q9 0 (Ac s.fns) x.body ⟨s4.d,[]::lv.v,lv.next⟩).next⟩:=by
   rw[ex6,d5,St.low_eq,if_pos aK,pA,ex3];simp only[Rv _ _ _ _ eA,f2,ex2,ex1,b.d,JS.dlen,Jm,Int.natCast_add];rfl
  exact hQ _ H9 s6 sc' ⟨rfl,rfl,rfl,rfl,rfl,rfl⟩ (.of h6 kn6 ok5 ls5 len5 elow) (st6.mono (by omega))
 ·intro cg;refine Qd ?_;try simp only[go_sem]
  refine Qa ?_;simp only[go_sem,g92,an];refine Kj (n:=Q4 x.args) (Jc _) dX hf cr az aq (by omega) (fun y hy F2 H2 s2 N2 K2 h2 gH df dS ma me=>Qbl0 (IK _) (Jc _) (DT dX _ hy) h2 gH df dS ma me) fun s1 H3 La t1 h1 kn1 bQ st1 ex1=>?_;have aE:=bQ.ah;obtain⟨ars,bB⟩:∃ars,(Am (Aj lv.v 0) (Ac s.fns) x.args s.d).2=ars:=⟨_,rfl⟩;rw[bB]at bQ;have jK:ars.length=x.args.length:=by rw[←bB,OH]
  have bT:0<ars.length:=by omega
  have e1:Am (Aj lv.v 0) (Ac s.fns) x.args lv.s=(s1.d,ars):=by rw[←b.d];exact Prod.ext ex1.symm bB
  have one:¬x.op=5→x.low 0 (Ac s.fns) lv=lv.one 0 (Ac s.fns) x.op x.name x.args:=fun h5=>by rw[St.low_eq,if_neg (by simpa using cg),if_neg h5]
  have aU:=st1.ok _ aq;have co:=st1.at_ az;have g93:=g9 _ _ h1;obtain⟨ft,knM⟩:=backA s1 H3 La h1 kn1;have aV:=aU.b1;simp only[go_sem,Qhl,aE];refine Qa ?_;simp only[go_sem,g93,an,aE];refine Qf (Qa ?_);simp only[go_sem,an,aE];refine Qc rfl ?_ ?_
  ·intro hc;have aK:x.op=1:=by simpa using hc
   obtain⟨tb,tr,cq⟩:∃tb tr,lv.v=tb::tr:=by
    cases hv:lv.v with
    |nil=>exact absurd hv bm
    |cons c r=>exact⟨c,r,rfl⟩
   obtain⟨l0,a0,es0,sr,kK,dg,kG⟩:=b.top cq;subst kK;have gI:scC (ScD.ls ((l0,a0,es0)::sr))=.pp [.mp l0,scC (ScD.ls sr)]:=rfl;have eX:=Ce (ScD.ls sr);have kn1':Kn F H3 [] (((s1.L w++La)++[(x9,o9),(q,.st [.int .i64 lv.next])])++(l0,.map a0 es0)::ScD.ob sr):=by
    rw[Jf];exact knM
   have gq:H3 q=.st [.int .i64 lv.next]:=(kn1'.get (q,.st [.int .i64 lv.next]) (by simp)).1;have gl:H3 l0=.map a0 es0:=kn1'.getM;have fP:es0.length≤lv.next:=b.len (l0,a0,es0) Jy;have d9:=Bu;refine Ak ?_;simp only[go_sem,gI,eX,g93,gq,gl,aE];refine⟨dg.ky,by omega,fun H4 h4=>?_⟩;have kn2:Kn F H4 [] (((s1.L w++La)++[(x9,o9),(q,.st [.int .i64 lv.next])])++(l0,.map (a0+1) (AG (.str x.name) (.c (.int .i64 lv.next)) es0))::ScD.ob sr):=kn1'.stM h4;have dj:AI (.str x.name) (AG (.str x.name) (.c (.int .i64 lv.next)) es0)=some (.c (.int .i64 lv.next)):=by
    rw[EH _ _ _ _ dg.ky,if_pos rfl]
   have iw:=E7 x.name (.c (.int .i64 lv.next)) es0 dg.ky;have na:=HZ x.name (.c (.int .i64 lv.next)) es0;have eZ:MapOk vI (AG (.str x.name) (.c (.int .i64 lv.next)) es0) ((x.name,lv.next)::tb):=dg.put x.name lv.next;obtain⟨es1,lG⟩:∃es1,AG (.str x.name) (.c (.int .i64 lv.next)) es0=es1:=⟨_,rfl⟩;rw[lG]at kn2 dj iw na eZ;have gq4:H4 q=.st [.int .i64 lv.next]:=(kn2.get (q,.st [.int .i64 lv.next]) (by simp)).1;refine Qa ?_;simp only[go_sem,gI,eX,gq4,aE];refine⟨Ql,fun H5 h5=>?_⟩;have kn3:Kn F H5 [] ((s1.L w++La)++((x9,o9)::lobs q ((lv.next+1:Nat):Int) ((l0,a0+1,es1)::sr))):=by
    have k0:Kn F H4 [] (((s1.L w++La)++[(x9,o9)])++(q,.st [.int .i64 lv.next])::((l0,.map (a0+1) es1)::ScD.ob sr)):=by
     rw[Jf]at kn2⊢;exact kn2
    have k1:=k0.stM (o':=.st [.int .i64 ((lv.next:Int)+1)]) h5;rw[Jf]at k1;exact k1
   have ke:=ft.re kn3.drop.drop;obtain⟨F2,cN,knf,_,mc,back2⟩:=ke.sideA kn3;have g59:H5 x9=.st [.int .i64 x.op,.str x.name,.sl false 4 (Af x.args),.sl false 5 (Qv x.body),.sl false 5 (Qv x.els)]:=by
    rw[(kn3.get (x9,o9) (by simp)).1,dy]
   have gl5:H5 l0=.map (a0+1) es1:=(kn3.get (l0,.map (a0+1) es1) (by simp[lobs,ScD.ob])).1;have lI:Q6 H5 (.mp l0)=es1:=by simp only[Q6,gl5]
   have kZ:B4 H5 (.mp l0)=True:=by simp only[B4,gl5]
   refine CE ?_;simp only[go_sem,gI,eX,g59,lI,kZ,dj,aE,Jas];refine⟨iw,?_⟩;refine CY cN knf bQ.owsI co aU (by omega) fun s2 H6 h6 st2 ex2=>?_;obtain⟨h6,kn6⟩:=back2 s2 H6 h6;simp only[go_sem,AE.X.next];have elow:x.low 0 (Ac s.fns) lv=⟨s2.d,A9 lv.v x.name lv.next,lv.next+1⟩:=by
    rw[one (by omega),Lv.one,if_pos aK];simp only[e1];rw[ex2]
   refine hQ _ H6 s2 ((l0,a0+1,es1)::sr) ⟨rfl,rfl,rfl,rfl,rfl,rfl⟩ (.of h6 kn6 ?_ rfl (fun y hy=>?_) elow) ((st1.trans st2).mono (by omega))
   ·rw[cq];exact⟨eZ,kG⟩
   ·rcases J4.1 hy with rfl|hy
    ·show es1.length≤_;omega
    ·have:=b.len y (Jk _ hy);omega
  intro bE;refine Qa ?_;simp only[go_sem,an,aE];refine Qc rfl ?_ ?_
  ·intro hc;have aK:x.op=2:=by simpa using hc
   refine Qa ?_;simp only[go_sem,g93,an,aE];refine HW (cr.find h1.kn) ?_;simp only[go_sem,Qhm,aE,Jm,Jv];refine Qn ?_;simp only[go_sem,an,aE];refine CY h1 kn1 bQ.owsI co aU (by omega) fun s2 H4 h2 st2 ex2=>?_;obtain⟨h2,kn2⟩:=back s2 H4 h2;simp only[go_sem,AE.X.next];have elow:x.low 0 (Ac s.fns) lv=⟨s2.d,lv.v,lv.next⟩:=by
    rw[one (by omega),Lv.one,if_neg (by omega),if_pos aK];simp only[e1];rw[ex2,Et]
   exact hQ _ H4 s2 sc ⟨rfl,rfl,rfl,rfl,rfl,rfl⟩ (.of h2 kn2 b.ok rfl b.len elow) ((st1.trans st2).mono (by omega))
  intro ao;refine Qa ?_;simp only[go_sem,an,aE];refine Qc rfl ?_ ?_
  ·intro hc;have aK:x.op=3:=by simpa using hc
   refine Qn ?_;simp only[go_sem,an,aE];refine CY h1 kn1 bQ.owsI co aU (by omega) fun s2 H4 h2 st2 ex2=>?_;obtain⟨h2,kn2⟩:=back s2 H4 h2;simp only[go_sem,AE.X.next];have elow:x.low 0 (Ac s.fns) lv=⟨s2.d,lv.v,lv.next⟩:=by
    rw[one (by omega),Lv.one,if_neg (by omega),if_neg (by omega),if_pos aK];simp only[e1];rw[ex2]
   exact hQ _ H4 s2 sc ⟨rfl,rfl,rfl,rfl,rfl,rfl⟩ (.of h2 kn2 b.ok rfl b.len elow) ((st1.trans st2).mono (by omega))
  intro b7;refine Qa ?_;simp only[go_sem,an,aE];refine Qc rfl ?_ ?_
  ·intro hc;have aK:x.op=4:=by simpa using hc
   refine Qn ?_;simp only[go_sem,an,aE];refine CY h1 kn1 bQ.owsI co aU (by omega) fun s2 H4 h2 st2 ex2=>?_;obtain⟨h2,kn2⟩:=back s2 H4 h2;simp only[go_sem,AE.X.next];have elow:x.low 0 (Ac s.fns) lv=⟨s2.d,lv.v,lv.next⟩:=by
    rw[one (by omega),Lv.one,if_neg (by omega),if_neg (by omega),if_neg (by omega),if_pos aK];simp only[e1];rw[ex2]
   exact hQ _ H4 s2 sc ⟨rfl,rfl,rfl,rfl,rfl,rfl⟩ (.of h2 kn2 b.ok rfl b.len elow) ((st1.trans st2).mono (by omega))
  intro bX;refine Qa ?_;simp only[go_sem,an,aE];refine Qc rfl ?_ ?_
  ·intro hc;have aK:x.op=5:=by simpa using hc
   refine Qa ?_;simp only[go_sem,an,aE];obtain⟨y,ng,oR⟩:∃y,t1=.aG y 1 0 ars.length∧La=[(y,.vec 1 (intsOf ars))]:=by
    rcases bQ with ⟨_,h,_⟩|⟨y,h1,h2⟩
    ·have:=congrArg List.length h;rw[Qm,Jr]at this;omega
    ·exact⟨y,by rw[h1,Qm],h2⟩
   obtain⟨F1,dr,hF1,rd,back1⟩:=h1.sideX kn1;refine D5 (n:=3) dr aU (by omega) fun s2 H4 h2 st2 qV ex2=>?_;have gy4:H4 y=.vec 1 (intsOf ars):=by
    have:=rd (y,.vec 1 (intsOf ars)) (by rw[oR];simp);rw[h2.kn.chg y (by rw[this];nofun) (by simp),this]
   obtain⟨h2,_⟩:=back1 s2 H4 h2;have st2:=st1.trans st2;have g94:=g9 _ _ h2;simp only[go_sem,Qhn,aE];refine Ak ?_;have iO:(intsOf ars).take ars.length=intsOf ars:=Jg (by rw[Qm];exact Jc _);subst ng;simp only[go_sem,an,aE,gy4,iO,bT,Qm,Cy _ _ bT,Jal,Jl,Jc];try refine⟨by omega,?_⟩
   refine⟨Ql,?_⟩;intro y4 o6 G4 g4;have kn2:=h2.kn.al o6 g4;have h2:=h2.re kn2.drop;have gy5:G4 y=.vec 1 (intsOf ars):=by
    rw[g4,Heap.af _ _ (fun h=>by rw[h,o6]at gy4;cases gy4)];exact gy4
   simp only[go_sem,Qho,an,aE,gy5,iO,bT,Qm,Cy _ _ bT,Jal,Jl,Jc];refine DP (next:=[(s1.blocks.length:Int),(s1.blocks.length:Int)+1]) (at':=s1.blocks.length) (N:=0) h2 kn2 (DF y4 _ rfl) (st2.at_ az) (by omega) fun s3 H5 h3 st3 ex3=>?_;have gu:=st3.bl;have st3:=st2.trans st3;have g95:=g9 _ _ h3;obtain⟨rk,kn3⟩:=back s3 H5 h3;simp only[go_sem];refine Ak ?_;simp only[go_sem,g95,an,aE];refine Hm (fl:=false) (lv:=⟨s3.d,lv.v,lv.next⟩) (hB (Qh x.body) (by omega)) (Jc _) fo rk kn3 b.ok rfl b.len rfl (st3.at_ az) (st3.ok _ aq) (J1 gW (by omega)) (by omega) fun lm H7 g97 call=>?_;rw[←dy]at g97;simp only[go_sem,Qhp,g97,an,aE];refine call _ fun s5 H8 sc' h5 kn5 ok5 ls5 len5 d5 st5=>?_;have kb:=st5.bl;have st5:=st3.trans st5;obtain⟨F2,cN,_,mc,back2⟩:=h5.sideX kn5;have pQ:=Ce sc'.ls;simp only[go_sem];refine Qa ?_;simp only[go_sem,an,aE];refine⟨Ql,Ql,?_⟩;rw[show ((s1.blocks.length:Int)+1)=((s1.blocks.length+1:Nat):Int)by omega,show ((s1.blocks.length:Int)+2)=((s1.blocks.length+2:Nat):Int)by omega];intro y5 hy5 G5 g5;have kn5':=cN.kn.al hy5 g5;have cN:=cN.re kn5'.drop;simp only[go_sem,Qhq,an];refine DP (next:=[((s1.blocks.length+2:Nat):Int)]) (at':=s1.blocks.length+1) (N:=0) cN kn5' (DF y5 _ rfl) (st5.at_ az) (by omega) fun s6 H9 h6 st6 ex6=>?_;have mI:=st6.bl;have st6:=st5.trans st6;have g99:H9 x9=.st [.int .i64 x.op,.str x.name,.sl false 4 (Af x.args),.sl false 5 (Qv x.body),.sl false 5 (Qv x.els)]:=by
    have:=mc (x9,o9) (by simp);rw[h6.kn.chg x9 (by rw[this,←dy];nofun) (by simp),this,dy]
   obtain⟨h6,kn6⟩:=back2 s6 H9 h6;simp only[go_sem];refine Ak ?_;simp only[go_sem,g99,an,aE];have f3:s3.fns=s.fns:=st3.fn.1;have f6:s6.fns=s.fns:=st6.fn.1;have jD:(Q9 0 (Ac s3.fns) x.body ⟨s3.d,[]::lv.v,lv.next⟩).next≤lv.next+Qh x.body∧lv.next≤(Q9 0 (Ac s3.fns) x.body ⟨s3.d,[]::lv.v,lv.next⟩).next:=EX x.body ⟨s3.d,[]::lv.v,lv.next⟩;refine Hm (fl:=false) (lv:=⟨s6.d,lv.v,(Q9 0 (Ac s3.fns) x.body ⟨s3.d,[]::lv.v,lv.next⟩).next⟩) (hB (Qh x.els) (by omega)) (Jc _) m8 h6 kn6 ok5 ls5 len5 rfl (st6.at_ az) (st6.ok _ aq) (by show (Q9 0 (Ac s3.fns) x.body ⟨s3.d,[]::lv.v,lv.next⟩).next≤_;omega) (by omega) fun lm2 H10 g910 call2=>?_;rw[←dy]at g910;simp only[go_sem,Qhr,g910,an,aE];refine call2 _ fun s7 H11 sc2 h7 kn7 ok7 ls7 len7 d7 st7=>?_;have mH:=st7.bl;have st7:=st6.trans st7;obtain⟨F3,iB,_,_,back3⟩:=h7.sideX kn7;simp only[go_sem];refine Qn ?_;simp only[go_sem,an,aE];refine⟨Ql,Ql,?_⟩;rw[show ((s1.blocks.length:Int)+2)=((s1.blocks.length+2:Nat):Int)by omega];intro y6 hy6 G6 g6;have kn7':=iB.kn.al hy6 g6;have iB:=iB.re kn7'.drop;simp only[go_sem,Qhs,an];refine DP (next:=[((s1.blocks.length+2:Nat):Int)]) (at':=s1.blocks.length+2) (N:=0) iB kn7' (DF y6 _ rfl) (st7.at_ az) (by omega) fun s8 H12 h8 st8 ex8=>?_;have st8:=st7.trans st8;obtain⟨h8,kn8⟩:=back3 s8 H12 h8;simp only[go_sem,AE.X.next];rw[f6]at d7 len7 kn8;have elow:x.low 0 (Ac s.fns) lv=⟨s8.d,lv.v,(Q9 0 (Ac s.fns) x.els ⟨s6.d,[]::lv.v,(Q9 0 (Ac s3.fns) x.body ⟨s3.d,[]::lv.v,lv.next⟩).next⟩).next⟩:=by
    rw[ex8,d7,ex6,d5,f3,ex3,ex2,St.low_eq,if_neg (by omega),if_pos aK];simp only[e1,JS.dlen,Int.natCast_add];rfl
   exact hQ _ H12 s8 sc2 ⟨rfl,rfl,rfl,rfl,rfl,rfl⟩ (.of h8 kn8 ok7 ls7 len7 elow) (st8.mono (by omega))
  intro dM;refine Qa ?_;simp only[go_sem,an,aE];refine Qc rfl ?_ ?_
  ·intro hc;have aK:x.op=7:=by simpa using hc
   obtain⟨y,ng,oR⟩:∃y,t1=.aG y 1 0 ars.length∧La=[(y,.vec 1 (intsOf ars))]:=by
    rcases bQ with ⟨_,h,_⟩|⟨y,h1,h2⟩
    ·have:=congrArg List.length h;rw[Qm,Jr]at this;omega
    ·exact⟨y,by rw[h1,Qm],h2⟩
   have iO:(intsOf ars).take ars.length=intsOf ars:=Jg (by rw[Qm];exact Jc _);have gy3:H3 y=.vec 1 (intsOf ars):=(kn1.get (y,.vec 1 (intsOf ars)) (by rw[oR];simp)).1;obtain⟨F1,dr,hF1,rd,back1⟩:=h1.sideX kn1;subst ng;refine CE ?_;simp only[go_sem,an,aE,gy3,iO,bT,Qm,Cy _ _ bT,Jal,Jl,Jc];try refine⟨by omega,?_⟩
   refine D5 (n:=1) dr aU (by omega) fun s2 H4 h2 st2 br ex2=>?_;have gy4:H4 y=.vec 1 (intsOf ars):=by
    have:=rd (y,.vec 1 (intsOf ars)) (by rw[oR];simp);rw[h2.kn.chg y (by rw[this];nofun) (by simp),this]
   obtain⟨h2,_⟩:=back1 s2 H4 h2;simp only[go_sem,Qht,an,aE,gy4,iO,bT,Qm,Cy _ _ bT,Jal,Jl,Jc];try refine⟨by omega,?_⟩
   refine DP (next:=[]) (at':=s1.blocks.length) (N:=0) h2 (by rw[Jo];exact h2.kn) CR (st2.at_ co) (by omega) fun s3 H5 h3 st3 ex3=>?_;obtain⟨h3,kn3⟩:=back s3 H5 h3;simp only[go_sem,AE.X.next];have elow:x.low 0 (Ac s.fns) lv=⟨s3.d,lv.v,lv.next⟩:=by
    rw[one (by omega),Lv.one,if_neg (by omega),if_neg (by omega),if_neg (by omega),if_neg (by omega),if_pos aK];simp only[e1];rw[ex3,ex2,JS.dlen];try simp[Jd,bT]
   exact hQ _ H5 s3 sc ⟨rfl,rfl,rfl,rfl,rfl,rfl⟩ (.of h3 kn3 b.ok rfl b.len elow) (((st1.trans st2).trans st3).mono (by omega))
  intro lR;refine Qd ?_;simp only[go_sem,AE.X.next];have elow:x.low 0 (Ac s.fns) lv=⟨s1.d,lv.v,lv.next⟩:=by
   rw[one (by simpa using dM),Lv.one,if_neg (by simpa using bE),if_neg (by simpa using ao),if_neg (by simpa using b7),if_neg (by simpa using bX),if_neg (by simpa using lR)];simp only[e1]
  exact hQ _ H3 s1 sc ⟨rfl,rfl,rfl,rfl,rfl,rfl⟩ (.of ft (knM.sub (.append (List.sublist_append_left _ _) (List.Sublist.refl _))) b.ok rfl b.len elow) (st1.mono (by omega))
end Go.AE.Y
namespace Go.AE.Y
attribute [local go_sem] cond_true cond_false Bool.not_true Bool.not_false
open Go.Proofs.Tryz
theorem Qbp4 {n:Nat}(hB:∀m,m<n→JBlX m):JBlX n:=by
 intro l fl F H w q s N sc lv ls K hn aM b bm az aq gW hN hK;have an:=Ce ls;obtain⟨tb,tr,cq⟩:∃tb tr,lv.v=tb::tr:=by
  cases hv:lv.v with
  |nil=>exact absurd hv bm
  |cons c r=>exact⟨c,r,rfl⟩
 refine Qb Ab Q57 ?_;refine Qa ?_;simp only[go_sem,an];refine Qa ?_;simp only[go_sem,an,Q7];intro hl;simp only[LIM]at hl;refine Qf (Qu (fun m e1 H1=>∃(i:Nat) (s1:JS) (sc1:ScD),m=l.length-i∧i≤l.length∧JBSt F H1 w s1 q sc1 (Q9 0 (Ac s.fns) (l.take i) lv) ls∧JStep s s1 (10 * Qh (l.take i))∧
  e1=[(3,.c (.ptr q 0)),(4,.c (.pp [.ptr w 0])),(6,.c (.pp [scC ls])),(16,.c (.sl fl 5 (Qv l))),(17,.c (.int .i64 l.length)),(18,.c (.int .i64 i))]) l.length ?_ ?_)
 ·exact⟨0,s,sc,by omega,by omega,by rw[Jt,Q9];exact b,(JStep.refl s).mono (by omega),rfl⟩
 ·rintro m e1 H1 ⟨i,s1,sc1,hm,hi,b1,st1,rfl⟩;refine Qa ?_;simp only[go_sem,an];refine Qe (Qc rfl ?_ ?_)
  ·intro hc;have aa:i<l.length:=by simpa using hc
   have eK:=Cv (Jb aa);have aO:=HL aa;have jo:=Fb l (i+1);have hnt:=EX (d:=0) (fi:=Ac s.fns) (l.take i) lv;refine Qd ?_;try simp only[go_sem]
   refine Qb2w hB (by omega) (Gb aM _ (Jb aa)) b1 (by obtain⟨m,hm⟩:=Fy (d:=0) (fi:=Ac s.fns) (l:=l.take i) cq;rw[hm];simp) (st1.at_ az) (st1.ok _ aq) (by omega) (by omega) ⟨rfl,rfl,rfl,rfl,rfl,rfl⟩ aa rfl fun e' H' s' sc' qP b' st'=>?_;obtain⟨l3,l4,l6,l16,l17,l18⟩:=qP;refine Qn ?_;simp only[go_sem,AE.X.next,l3,l4,l6,l16,l17,l18,an];exact⟨Ql,l.length-(i+1),by omega,i+1,s',sc',rfl,by omega,by rw[Je aa,Gy,Q9,Q9,←st1.fn.1];rw[←st1.fn.1]at b';exact b',(st1.trans st').mono (by rw[aO];omega),rfl⟩
  ·intro hc;have aC:l.length≤i:=by simpa using hc
   rw[Jg aC]at b1 st1;refine Qr ?_;simp only[go_sem,AE.X.next];simp only[Qq,Q1,Av];exact⟨by simp,hK s1 H1 sc1 b1 st1⟩
theorem TJ (n:Nat):JBlX n:=by
 induction n using Nat.strongRecOn with
 |ind n ih=>exact Qbp4 ih
theorem Qbpo {n:Nat}(hB:∀m,m<n→IBlX m):IBlX n:=by
 intro l fl F H w q s N sc lv ls K hn aM b bm az aq gW hN hK;have an:=Ce ls;obtain⟨tb,tr,cq⟩:∃tb tr,lv.v=tb::tr:=by
  cases hv:lv.v with
  |nil=>exact absurd hv bm
  |cons c r=>exact⟨c,r,rfl⟩
 refine Qb Ab Q9r ?_;refine Qa ?_;simp only[go_sem,an];refine Qa ?_;simp only[go_sem,an,Q7];intro hl;simp only[LIM]at hl;refine Qf (Qu (fun m e1 H1=>∃(i:Nat) (s1:IS) (sc1:ScD),m=l.length-i∧i≤l.length∧BSt F H1 w s1 q sc1 (Q9 0 (Ac s.fns) (l.take i) lv) ls∧IStep s s1 (10 * Qh (l.take i))∧
  e1=[(3,.c (.ptr q 0)),(4,.c (.pp [.ptr w 0])),(6,.c (.pp [scC ls])),(16,.c (.sl fl 5 (Qv l))),(17,.c (.int .i64 l.length)),(18,.c (.int .i64 i))]) l.length ?_ ?_)
 ·exact⟨0,s,sc,by omega,by omega,by rw[Jt,Q9];exact b,(IStep.refl s).mono (by omega),rfl⟩
 ·rintro m e1 H1 ⟨i,s1,sc1,hm,hi,b1,st1,rfl⟩;refine Qa ?_;simp only[go_sem,an];refine Qe (Qc rfl ?_ ?_)
  ·intro hc;have aa:i<l.length:=by simpa using hc
   have eK:=Cv (Jb aa);have aO:=HL aa;have jo:=Fb l (i+1);have hnt:=EX (d:=0) (fi:=Ac s.fns) (l.take i) lv;refine Qd ?_;try simp only[go_sem]
   refine Qb2v hB (by omega) (Gb aM _ (Jb aa)) b1 (by obtain⟨m,hm⟩:=Fy (d:=0) (fi:=Ac s.fns) (l:=l.take i) cq;rw[hm];simp) (st1.at_ az) (st1.ok _ aq) (by omega) (by omega) ⟨rfl,rfl,rfl,rfl,rfl,rfl⟩ aa rfl fun e' H' s' sc' qP b' st'=>?_;obtain⟨l3,l4,l6,l16,l17,l18⟩:=qP;refine Qn ?_;simp only[go_sem,AE.X.next,l3,l4,l6,l16,l17,l18,an];exact⟨Ql,l.length-(i+1),by omega,i+1,s',sc',rfl,by omega,by rw[Je aa,Gy,Q9,Q9,←st1.fn.1];rw[←st1.fn.1]at b';exact b',(st1.trans st').mono (by rw[aO];omega),rfl⟩
  ·intro hc;have aC:l.length≤i:=by simpa using hc
   rw[Jg aC]at b1 st1;refine Qr ?_;simp only[go_sem,AE.X.next];simp only[Qq,Q1,Av];exact⟨by simp,hK s1 H1 sc1 b1 st1⟩
theorem TT (n:Nat):IBlX n:=by
 induction n using Nat.strongRecOn with
 |ind n ih=>exact Qbpo ih
end Go.AE.Y
namespace Go.AE.Y
open Go.Proofs.Tryz
variable {F H:Heap}{w:Nat}{s:LS}{K:V→Heap→Prop}
theorem Qbqf {n:Nat}(hS:∀m,m<n→Ei m):Qb0g n:=by
 intro x F H w s N K l bm aE aK hn aM h az aq hN hK;have be:=x.size_eq;rw[St.ok_eq]at aM;obtain⟨eA,dX,fo,m8⟩:=aM;have su:=B0 (Jb eA);refine Qb Ab Qbaw ?_;refine Qa ?_;simp only[go_sem,x.ab];refine Qa ?_;simp only[go_sem];refine DH h aq (by omega) fun s1 H1 h1 st1 aV ex1=>?_;simp only[go_sem,Q35];refine Qa ?_;simp only[go_sem];refine DH h1 (st1.ok _ aq) (by omega) fun s2 H2 h2 st2 br ex2=>?_;have st2:=st1.trans st2;simp only[go_sem,Q36];refine Qa ?_;simp only[go_sem];refine DH h2 (st2.ok _ aq) (by omega) fun s3 H3 h3 st3 gu ex3=>?_;have st3:=st2.trans st3;simp only[go_sem,Q37];refine Qa ?_;simp only[go_sem];refine DO (next:=[(s.blocks.length:Int)]) (N:=0) h3 (st3.at_ az) (by omega) fun s4 H4 h4 st4 ex4=>?_;have lW:=st4.bl;have st4:=st3.trans st4;refine Qa ?_;simp only[go_sem,eA,Qt,B7 _ _ eA,Ex.b9,Ex.aX,Ex.aj];refine⟨by omega,?_⟩;refine LU _ x.args[0] F H4 w s4 _ _ (Jc _) (DT dX _ (Jb eA)) h4 (st4.at_ az) (st4.ok _ aq) (by omega) fun s5 H5 h5 st5 ex5=>?_;have kb:=st5.bl;have st5:=st4.trans st5;simp only[go_sem,Q38];refine Qa ?_;simp only[go_sem];refine DO (next:=[(s1.blocks.length:Int),(s2.blocks.length:Int)]) (N:=0) h5 (st5.at_ az) (by omega) fun s6 H6 h6 st6 ex6=>?_;have mI:=st6.bl;have st6:=st5.trans st6;refine Qa ?_;simp only[go_sem];refine hS (Qh x.body) (by omega) x.body _ F H6 w s6 _ _ ⟨s6.d,[]::l.v,l.next⟩ (by simp) ⟨rfl,by rw[ex6.vars,ex5.vars,ex4.vars,ex3.vars,ex2.vars,ex1.vars,aE.vars,Ib],by rw[ex6.next,ex5.next,ex4.next,ex3.next,ex2.next,ex1.next,aE.next]⟩ (Jc _) fo h6 (st6.at_ az) (st6.ok _ aq) (by omega) fun s7 H7 h7 st7 ex7=>?_;have mH:=st7.bl;have st7:=st6.trans st7;refine Qn ?_;simp only[go_sem];refine DO (next:=[(s.blocks.length:Int)]) (N:=0) h7 (st7.at_ az) (by omega) fun s8 H8 h8 st8 ex8=>?_;have st8:=st7.trans st8;simp only[Qq,Q1,Av];have v4:s4.vars=B3 l.v:=by rw[ex4.vars,ex3.vars,ex2.vars,ex1.vars,aE.vars]
 have f4:s4.fns=s.fns:=st4.fn.1;have f6:s6.fns=s.fns:=st6.fn.1;have e6:s6.d=_:=ex6.d;refine⟨by simp,hK s8 H8 h8 (st8.mono (by omega)) ?_⟩;have e7:=ex7.d;have n7:=ex7.next;have v7:=ex7.vars;rw[f6]at e7 n7;rw[v4,Ey,f4]at ex5;have w7:LTv s8 (x.low (-1) (Ac s.fns) l):=by
  simp only[e6,v4,Ey,f4,ex5.d,LS.dlen,ex4.d,ex3.d,ex2.d,ex1.d,aE.d,Lw.add_add,Lw.add_len,Int.natCast_add]at e7 n7;refine⟨?_,?_,?_⟩
  ·rw[ex8.d,e7,St.low_eq,if_pos aK];simp only[Rv _ _ _ _ eA,LS.dlen,ex4.d,ex3.d,ex2.d,ex1.d,aE.d,Lw.add_add,Lw.add_len,Jm,Int.natCast_add];try rfl
  ·rw[ex8.vars,v7,Ib,St.low_eq,if_pos aK]
  ·rw[ex8.next,n7,St.low_eq,if_pos aK];simp only[Rv _ _ _ _ eA,LS.dlen,ex4.d,ex3.d,ex2.d,ex1.d,aE.d,Lw.add_add,Lw.add_len,Jm,Int.natCast_add];try rfl
 exact w7
theorem TE {n:Nat}(hS:∀m,m<n→Ei m):LwSt n:=by
 intro x F H w s N K l bm aE hn aM h az aq hN hK;have iq:=aM;have be:=x.size_eq;rw[St.ok_eq]at aM;obtain⟨eA,dX,fo,m8⟩:=aM;refine Qb Ab Qbax ?_;have retn:∀(e:Env) (s':LS) (H':Heap) (q:X),(q=.nrm∨q=.ret)→LInv F H' w s'→LStep s s' (10 * x.size)→LTv s' (x.low (-1) (Ac s.fns) l)→Qq Av K q e H':=by
  intro e s' H' q hq a1 a2 a3;rcases hq with rfl|rfl <;> exact⟨by simp[Av],hK s' H' a1 a2 a3⟩
 refine Qa ?_;simp only[go_sem,x.ab];refine Qp (Qa ?_);simp only[go_sem];refine Qe (Qc rfl ?_ ?_)
 ·intro hc;refine Qa ?_;simp only[go_sem];rw[←x.ab];refine Qbqf hS x F H w s N _ l bm aE (by simpa using hc) hn iq h az aq hN fun s1 H1 h1 st1 ex1=>?_;simp only[KR];refine Qg ?_;simp only[go_sem];exact retn _ s1 H1 _ (.inr rfl) h1 st1 ex1
 intro cg;refine Qd ?_;simp only[go_sem];refine Qa ?_;simp only[go_sem];refine Qp (Qa ?_);simp only[go_sem];refine Qe (Qf (Qu (fun n e1 H1=>∃(i:Nat) (ars:List Int) (c:C) (Lg:List (Nat×Obj)) (s':LS),n=x.args.length-i∧i≤x.args.length∧ars.length=i∧Gr Lg 1 (intsOf ars) c∧LInv F H1 w s'∧Kn F H1 [] (s'.L w++Lg)∧
  LStep s s' (10 * Q4 (x.args.take i))∧LTo s' (Am (Aj l.v (-1)) (Ac s.fns) (x.args.take i) l.s).1 (B3 l.v) l.next∧ars=(Am (Aj l.v (-1)) (Ac s.fns) (x.args.take i) l.s).2∧e1=[(0,.c (.ptr w 0)),(3,.c (.pp [.int .i64 x.op,.str x.name,.sl false 4 (Af x.args),.sl false 5 (Qv x.body),.sl false 5 (Qv x.els)])),(4,.c c),(5,.c (.int .i64 i))]) x.args.length ?_ ?_))
 ·exact⟨0,[],_,[],s,by omega,by omega,rfl,.nil 1,h,by simpa using h.kn,(LStep.refl s).mono (by omega),by rw[Jt,Am];exact aE,by rw[Jt,Am],rfl⟩
 ·rintro n e1 H1 ⟨i,ars,c,Lg,s1,cA,hi,jK,bQ,h1,kn,st1,ex1,bB,rfl⟩;refine Qp (Qa ?_);simp only[go_sem,Qt];intro hl;simp only[LIM]at hl;refine Qe (Qc rfl ?_ ?_)
  ·intro hc;have aa:i<x.args.length:=by simpa using hc
   have hm:=B0 (Jb aa);have aO:=HQ aa;have jo:=F6 x.args (i+1);refine Qd ?_;simp only[go_sem];refine Qe (Qf (Qn ?_));simp only[go_sem,aa,Qt,B7 _ _ aa,Ex.b9,Ex.aX,Ex.aj];obtain⟨F',hf,back⟩:=h1.beside kn bQ;refine LU _ _ F' H1 w s1 _ _ (Jc _) (DT dX _ (Jb aa)) hf (st1.at_ az) (st1.ok _ aq) (by omega) fun s2 H2 h2 st2 ex2=>?_;obtain⟨h2,kn⟩:=back s2 H2 h2;have etk:Am (Aj l.v (-1)) (Ac s.fns) (x.args.take (i+1)) l.s=((x.args[i].low (rgR s1.vars) (Ac s1.fns) s1.d).1,ars++[(x.args[i].low (rgR s1.vars) (Ac s1.fns) s1.d).2]):=by
    rw[Je aa,Ps,ex1.vars,ex1.d,st1.fn.1,bB,Ey]
   generalize i4:(x.args[i].low (rgR s1.vars) (Ac s1.fns) s1.d).2=v at *;simp only[go_sem,Q4a];refine kn.grow (new:=intsOf [v]) bQ (.mk' _ _ _ _) (BD _) (by simp only[Qm,jK,Jp,Jr,LIM];omega) fun y' H3 kn=>?_;simp only[go_sem,Q39];refine Qn ?_;simp only[go_sem,X.next];refine⟨Ql,x.args.length-(i+1),by omega,i+1,ars++[v],_,_,s2,rfl,by omega,by simp[jK],.mk y' 1 (intsOf (ars++[v])) (n:=(intsOf ars).length+(intsOf [v]).length) (by simp[intsOf]),h2.re kn.drop,by rw[HB];exact kn,(st1.trans st2).mono (by rw[aO];omega),by rw[etk];exact⟨ex2.d,ex2.vars.trans ex1.vars,ex2.next.trans ex1.next⟩,by rw[etk],by simp[intsOf]⟩
  ·intro hc;have aC:x.args.length≤i:=by simpa using hc
   have gQ:i=x.args.length:=by omega
   rw[Jg aC]at st1 ex1 bB;have e1:Am (Aj l.v (-1)) (Ac s.fns) x.args l.s=(s1.d,ars):=Prod.ext ex1.d.symm bB.symm;have one:¬x.op=5→x.low (-1) (Ac s.fns) l=l.one (-1) (Ac s.fns) x.op x.name x.args:=fun h5=>by rw[St.low_eq,if_neg (by simpa using cg),if_neg h5]
   have bT:0<ars.length:=by omega
   refine Qr ?_;simp only[go_sem,X.next];refine Qp ?_;obtain⟨S,H2,f1,f2,kn2⟩:=bQ.freeze kn (BD _);have h2:=h1.re kn2;refine c_gh (Rm S (fun t=>?_) f2) (e':=[(0,.c (.ptr w 0)),(3,.c (.pp [.int .i64 x.op,.str x.name,.sl false 4 (Af x.args),.sl false 5 (Qv x.body),.sl false 5 (Qv x.els)])),(4,.c (.sl false 1 (intsOf ars)))]) ?_
   ·simp only[lk];split
    ·exact .c _ _ (.same _ rfl)
    ·split
     ·exact .c _ _ (.same _ rfl)
     ·split
      ·exact .c _ _ f1
      ·exact .unk _
   have aU:=st1.ok _ aq;have co:=st1.at_ az;have mX:=h2.hw;refine Qa ?_;simp only[go_sem];refine Qf (Qa ?_);simp only[go_sem];refine Qc rfl ?_ ?_
   ·
    intro hc;refine Qa ?_;simp only[go_sem,mX,LS.o];refine Ba h2 co aU (by omega) fun s3 H3 h3 st3 ex3=>?_;have ik:=h3.hw;have im:=h3.gv.ah;have iQ:=st3.ok _ aU;have st3:=st1.trans st3;simp only[go_sem];refine Ak ?_;simp only[go_sem,ik,LS.o,im];refine h3.addVar ⟨x.name,s3.next,0,rfl⟩ (by have:=iQ.v1;simp only[LIM];omega) fun y H4 jy cont=>?_;simp only[go_sem,Q4b,jy,LS.o];intro H5 h5;have ke:=cont H5 h5;have pq:=ke.hw;refine Qn ?_;have mw:=iQ.n0;have cA:=iQ.n1;simp only[go_sem,pq,LS.o];refine⟨Ql,fun H6 h6=>?_⟩;have h6':=ke.setw (s':={ s3 with vc:=.aG y 3 0 (s3.vars.length+1),lv:=[(y,.vec 3 (s3.vars++[[C.str x.name,C.int IntKind.i64 s3.next,C.int IntKind.i64 0]]))],vars:=s3.vars++[[C.str x.name,C.int IntKind.i64 s3.next,C.int IntKind.i64 0]],next:=s3.next+1 }) h6 rfl rfl rfl rfl ke.gv ke.rv;refine retn _ _ H6 _ (.inl rfl) h6' ⟨st3.bl,fun M hM=>?_,?_,st3.at_,st3.fn⟩ (by
     have aK:x.op=1:=(by simpa using hc);rw[one (by omega),Lv.one,if_pos aK];simp only[e1];obtain⟨tb,tr,cq⟩:∃tb tr,l.v=tb::tr:=by
      cases hv:l.v with
      |nil=>exact absurd hv bm
      |cons b r=>exact⟨b,r,rfl⟩
     refine⟨?_,?_,?_⟩
     ·show s3.d=_;rw[ex3.d,ex1.next]
     ·show s3.vars++[[C.str x.name,C.int IntKind.i64 s3.next,C.int IntKind.i64 0]]=_;rw[cq,Ly,ex3.vars,ex3.next,ex1.vars,ex1.next,cq];rfl
     ·show s3.next+1=_;rw[ex3.next,ex1.next];try simp)
    ·have q:=st3.ok M hM;refine⟨q.r0,?_,?_,?_,?_,fun b hb=>?_,?_⟩
     ·have:=q.r1;show s3.ae≤_;omega
     ·have:=q.n0;show 0≤s3.next+1;omega
     ·have:=q.n1;show s3.next+1≤_;omega
     ·have:=q.b1;show s3.blocks.length≤_;omega
     ·have:=q.i1 b hb;omega
     ·have:=q.v1;simp;omega
    ·have:=st3.vl;simp;omega
   intro bE;refine Qa ?_;simp only[go_sem];refine Qc rfl ?_ ?_
   ·
    intro hc;refine Qn ?_;simp only[go_sem];refine LR h2 ?_;simp only[go_sem,Q4c];refine Ba h2 co aU (by omega) fun s3 H3 h3 st3 ex3=>?_;exact retn _ _ H3 _ (.inl rfl) h3 ((st1.trans st3).mono (by omega)) (by
     have aK:x.op=2:=(by simpa using hc);rw[one (by omega),Lv.one,if_neg (by omega),if_pos aK];simp only[e1];exact⟨by rw[ex3.d,ex1.vars,Ey],ex3.vars.trans ex1.vars,ex3.next.trans ex1.next⟩)
   intro ao;refine Qa ?_;simp only[go_sem];refine Qc rfl ?_ ?_
   ·intro hc;refine Qn ?_;simp only[go_sem];refine Ba h2 co aU (by omega) fun s3 H3 h3 st3 ex3=>?_;exact retn _ _ H3 _ (.inl rfl) h3 ((st1.trans st3).mono (by omega)) (by
     have aK:x.op=3:=(by simpa using hc);rw[one (by omega),Lv.one,if_neg (by omega),if_neg (by omega),if_pos aK];simp only[e1];exact⟨ex3.d,ex3.vars.trans ex1.vars,ex3.next.trans ex1.next⟩)
   intro b7;refine Qa ?_;simp only[go_sem];refine Qc rfl ?_ ?_
   ·intro hc;refine Qn ?_;simp only[go_sem];refine Ba h2 co aU (by omega) fun s3 H3 h3 st3 ex3=>?_;exact retn _ _ H3 _ (.inl rfl) h3 ((st1.trans st3).mono (by omega)) (by
     have aK:x.op=4:=(by simpa using hc);rw[one (by omega),Lv.one,if_neg (by omega),if_neg (by omega),if_neg (by omega),if_pos aK];simp only[e1];exact⟨ex3.d,ex3.vars.trans ex1.vars,ex3.next.trans ex1.next⟩)
   intro bX;refine Qa ?_;simp only[go_sem];refine Qc rfl ?_ ?_
   ·
    intro hc;refine CE ?_;simp only[go_sem,bT,Qm,Cy _ _ bT];refine⟨by omega,?_⟩;refine DH h2 aU (by omega) fun s3 H3 h3 st3 gu ex3=>?_;have st3:=st1.trans st3;simp only[go_sem,Qyq,bT,Qm,Cy _ _ bT];refine⟨by omega,?_⟩;refine DO (next:=[]) (N:=0) h3 (st3.at_ az) (by omega) fun s4 H4 h4 st4 ex4=>?_;exact retn _ _ H4 _ (.inl rfl) h4 ((st3.trans st4).mono (by omega)) (by
     have aK:x.op=7:=(by simpa using hc);rw[one (by omega),Lv.one,if_neg (by omega),if_neg (by omega),if_neg (by omega),if_neg (by omega),if_pos aK];simp only[e1];exact⟨by rw[ex4.d,ex3.d,LS.dlen];try simp[Jd,bT],by rw[ex4.vars,ex3.vars,ex1.vars],by rw[ex4.next,ex3.next,ex1.next]⟩)
   intro dM;refine Qa ?_;simp only[go_sem];refine Qc rfl ?_ ?_
   ·
    intro hc;refine Qa ?_;simp only[go_sem];refine DH h2 aU (by omega) fun s3 H3 h3 st3 gu ex3=>?_;have st3:=st1.trans st3;simp only[go_sem,Qyr];refine Qa ?_;simp only[go_sem];refine DH h3 (st3.ok _ aq) (by omega) fun s4 H4 h4 st4 lW ex4=>?_;have st4:=st3.trans st4;simp only[go_sem,Qys];refine Qa ?_;simp only[go_sem];refine DH h4 (st4.ok _ aq) (by omega) fun s5 H5 h5 st5 kb ex5=>?_;have st5:=st4.trans st5;simp only[go_sem,Qyt];refine Qa ?_;simp only[go_sem,bT,Qm,Cy _ _ bT];refine⟨by omega,?_⟩;refine DO (next:=[(s1.blocks.length:Int),(s3.blocks.length:Int)]) (N:=0) h5 (st5.at_ az) (by omega) fun s6 H6 h6 st6 ex6=>?_;have mI:=st6.bl;have st6:=st5.trans st6;refine Qa ?_;simp only[go_sem];refine hS (Qh x.body) (by omega) x.body _ F H6 w s6 _ _ ⟨s6.d,[]::l.v,l.next⟩ (by simp) ⟨rfl,by rw[ex6.vars,ex5.vars,ex4.vars,ex3.vars,ex1.vars,Ib],by rw[ex6.next,ex5.next,ex4.next,ex3.next,ex1.next]⟩ (Jc _) fo h6 (st6.at_ az) (st6.ok _ aq) (by omega) fun s7 H7 h7 st7 ex7=>?_;have mH:=st7.bl;have st7:=st6.trans st7;refine Qa ?_;simp only[go_sem];refine DO (next:=[(s4.blocks.length:Int)]) (N:=0) h7 (st7.at_ az) (by omega) fun s8 H8 h8 st8 ex8=>?_;have hb8:=st8.bl;have st8:=st7.trans st8;refine Qa ?_;simp only[go_sem];refine hS (Qh x.els) (by omega) x.els _ F H8 w s8 _ _ ⟨s8.d,[]::l.v,(Q9 (-1) (Ac s6.fns) x.body ⟨s6.d,[]::l.v,l.next⟩).next⟩ (by simp) ⟨rfl,by rw[ex8.vars,ex7.vars,Ib];try rfl,by rw[ex8.next,ex7.next]⟩ (Jc _) m8 h8 (st8.at_ az) (st8.ok _ aq) (by omega) fun s9 H9 h9 st9 ex9=>?_;have hb9:=st9.bl;have st9:=st8.trans st9;refine Qn ?_;simp only[go_sem];refine DO (next:=[(s4.blocks.length:Int)]) (N:=0) h9 (st9.at_ az) (by omega) fun s10 H10 ie st10 ex10=>?_;exact retn _ _ H10 _ (.inl rfl) ie ((st9.trans st10).mono (by omega)) (by
     have aK:x.op=5:=(by simpa using hc);have f6:s6.fns=s.fns:=st6.fn.1;have f8:s8.fns=s.fns:=st8.fn.1;have e6:=ex6.d;have e7:=ex7.d;have e8:=ex8.d;have e9:=ex9.d;have n9:=ex9.next;simp only[LS.dlen,ex5.d,ex4.d,ex3.d,Lw.add_add,Lw.add_len,Int.natCast_add]at e6;simp only[f6,e6]at e7;simp only[LS.dlen,e7,ex4.d,ex3.d,Lw.add_len,Int.natCast_add]at e8;simp only[f8,f6,e8,e6]at e9 n9;rw[St.low_eq,if_neg (by omega),if_pos aK];simp only[e1];refine⟨?_,?_,?_⟩
     ·rw[ex10.d,e9];simp only[LS.dlen,ex4.d,ex3.d,Lw.add_len,Int.natCast_add,Int.add_assoc];rfl
     ·rw[ex10.vars,ex9.vars,Ib]
     ·rw[ex10.next,n9];simp only[Int.add_assoc];rfl)
   ·intro hZ;refine Qd ?_;simp only[go_sem];exact retn _ _ H2 _ (.inl rfl) h2 (st1.mono (by omega)) (by
     have h1:¬x.op=1:=(by simpa using bE);have h2:¬x.op=2:=(by simpa using ao);have h3:¬x.op=3:=(by simpa using b7);have h4:¬x.op=4:=(by simpa using bX);have h7:¬x.op=7:=(by simpa using dM);rw[one (by simpa using hZ),Lv.one,if_neg h1,if_neg h2,if_neg h3,if_neg h4,if_neg h7];simp only[e1];exact⟨rfl,ex1.vars,ex1.next⟩)
theorem Qb2x (n:Nat):Ei n:=by
 induction n using Nat.strongRecOn with
 |ind n ih=>exact Tw (TE ih)
end Go.AE.Y
namespace Go.AE.Y
open Go.Proofs.Tryz
variable {H:Heap}{K:V→Heap→Prop}
theorem St.lets_eq (x:St):x.lets=(if x.op=1 then 1 else 0)+An x.body+An x.els:=by cases x;simp only[St.lets,St.op,St.body,St.els];rfl
theorem Qbju (a b:List St):An (a++b)=An a+An b:=by
 induction a with
 |nil=>simp[An]
 |cons x r ih=>simp only[Jq,An,ih];omega
theorem Qbey {l:List St}{i:Nat}(h:i<l.length):An (l.take (i+1))=An (l.take i)+l[i].lets:=by
 rw[Je h,Qbju];simp[An]
mutual
theorem St.lets_le:∀(x:St),x.lets≤x.size
 |.mk op name args body els=>by
  have h1:=DU body;have h2:=DU els;have h3:=(St.mk op name args body els).size_eq;simp only[St.body,St.els]at h3;rw[St.lets];split <;> omega
theorem DU:∀(l:List St),An l≤Qh l
 |[]=>by simp[An]
 |x::r=>by
  have h1:=St.lets_le x;have h2:=DU r;rw[An,Qh];omega
end
theorem InsRow.frzx {H:Heap}{S:Nat→Bool}{r:List C}(h:InsRow r):FrzL H S r (rowI r).cells:=by
 obtain⟨op,to,n,fl,args,rfl⟩:=h;rw[FM];exact .cons (Qj rfl) (.cons (Qj rfl) (.cons (FrzR.same (BD _)).sl (.cons (Qj rfl) .nil)))
theorem Nu {H:Heap}{S:Nat→Bool}:∀(l:List (List C)),(∀r∈l,InsRow r)→FrzR H S l (At (l.map rowI))
 |[],_=>.nil
 |r::l,h=>.cons (h r Jy).frzx (Nu l fun r' aP=>h r' (Jk _ aP))
theorem Gl {H:Heap}{S:Nat→Bool}:∀(l:List Blk),(∀b∈l,Gr b.lg 4 b.ak b.ic∧(∀r∈b.ak,InsRow r)∧(∀p∈b.lg,H p.1=p.2∧S p.1=true))→
  FrzR H S (l.map Blk.row) (Qx (l.map Blk.d))
 |[],_=>.nil
 |b::l,h=>by
  obtain⟨g1,g2,g3⟩:=h b Jy;refine .cons ?_ (Gl l fun r' aP=>h r' (Jk _ aP));exact .cons FrzR.nil.sl (.cons (Gr.frzM g1 g3 (Nu b.ak g2)) (.cons (Qj rfl) (.cons (Qj rfl) (.cons (FrzR.same (BD _)).sl .nil))))
theorem Ge (l:List (List UInt8))(p:List UInt8):parV (l++[p])=(A9 (parV l).1 p (parV l).2,(parV l).2+1):=by simp[parV,List.foldl_append]
theorem Kq:∀(l:List (List UInt8)) (b:List (List UInt8×Nat)) (n:Nat),∃b',l.foldl (fun s p=>(A9 s.1 p s.2,s.2+1)) (([b]:Vars),n)=([b'],n+l.length)
 |[],b,n=>⟨b,rfl⟩
 |p::r,b,n=>by
  obtain⟨b',h⟩:=Kq r ((p,n)::b) (n+1);exact⟨b',by rw[List.foldl_cons];refine h.trans ?_;rw[Jp];congr 1;omega⟩
theorem Ez (l:List (List UInt8)):∃b,(parV l).1=[b]∧(parV l).2=l.length:=by
 obtain⟨b,h⟩:=Kq l [] 0;rw[parV,h];exact⟨b,rfl,by simp⟩
theorem XD:∀(n:Nat) (l:List St) {fl:Bool} {H:Heap} {K:V→Heap→Prop},Qh l≤n→Qh l≤2^40→K (.c (.int .i64 (An l:Nat))) H→Qi prog Ph [.c (.sl fl 5 (Qv l))] H K:=by
 intro n
 induction n using Nat.strongRecOn with
 |ind n ih=>
 intro l fl H K hn hb hK;have ai:=HJ l;refine Qb Ab X1 ?_;refine Qa ?_;simp only[go_sem];refine Qa ?_;simp only[go_sem];refine Qp (Qa ?_);simp only[go_sem];refine Qe (Qf (Qu (fun n e1 H1=>∃(i v:Nat),n=l.length-i∧i≤l.length∧v=An (l.take i)∧H1=H∧e1=[(0,.c (.sl fl 5 (Qv l))),(3,.c (.int .i64 v)),(4,.c (.int .i64 i))]) l.length ?_ ?_))
 ·exact⟨0,0,by omega,by omega,by simp[An],rfl,rfl⟩
 ·rintro n e1 H1 ⟨i,v,cA,hi,hv,rfl,rfl⟩;refine Qp (Qa ?_);simp only[go_sem,Q7];intro hl;simp only[LIM]at hl;refine Qe (Qc rfl ?_ ?_)
  ·intro hc;have aa:i<l.length:=by simpa using hc
   have hm:=Cv (Jb aa);have aO:=HL aa;have jo:=Fb l (i+1);have jR:=(l[i]'aa).size_eq;have nL:=DU (l.take i);have lA:=Qbey aa;have hl3:=(l[i]'aa).lets_eq;have hl4:=DU l[i].body;have hl5:=DU l[i].els;refine Qd ?_;simp only[go_sem];refine Qe (Qf (CE ?_));simp only[go_sem,aa,Q7,Ct _ _ aa,St.ab];refine Qbqa ?_;obtain⟨t,ht,eP⟩:∃t:Nat,(if decide (l[i].op=1)=true then (1:Int)else 0)=t∧t=if l[i].op=1 then 1 else 0:=by
    by_cases h:l[i].op=1
    ·exact⟨1,by simp[h],by simp[h]⟩
    ·exact⟨0,by simp[h],by simp[h]⟩
   rw[←eP]at hl3;have gU:t≤1:=by rw[eP];split <;> omega
   simp only[go_sem,Mj,aa,Q7,Ct _ _ aa,St.ab,ht];refine⟨Ql,?_⟩;refine ih (Qh l[i].body) (by omega) l[i].body (Jc _) (by omega) ?_;simp only[go_sem,Mk,aa,Q7,Ct _ _ aa,St.ab];refine⟨Ql,?_⟩;refine ih (Qh l[i].els) (by omega) l[i].els (Jc _) (by omega) ?_;simp only[go_sem,Ml];refine⟨Ql,?_⟩;refine Qn ?_;simp only[go_sem,X.next];refine⟨Ql,l.length-(i+1),by omega,i+1,v+t+An l[i].body+An l[i].els,rfl,by omega,by omega,by simp⟩
  ·intro hc;have aC:l.length≤i:=by simpa using hc
   refine Qr ?_;simp only[go_sem,X.next];refine Qa ?_;simp only[go_sem];refine Qg ?_;simp only[go_sem,Qq,Q1,Ad,Ja,forall_eq,RS.op];rw[Jg aC]at hv;rw[hv];exact hK
end Go.AE.Y
namespace Go.AE.Y
attribute [local go_sem] cond_true cond_false Bool.not_true Bool.not_false
open Go.Proofs.Tryz
variable {H:Heap}{K:V→Heap→Prop}
def B2 (a:Int)(s:St) (_:Int):Int:=a+if s.op=1 then 1 else 0
mutual
theorem St.vis_lets:∀(x:St) (n a:Int),x.vis B2 n a=a+x.lets
 |.mk op name args body els,n,a=>by
  simp only[St.vis,St.lets];rw[Pj els,Pj body,B2];simp only[St.op];split <;> simp <;> omega
theorem Pj:∀(l:List St) (n a:Int),AF B2 l n a=a+An l
 |[],n,a=>by simp[AF,An]
 |x::r,n,a=>by
  simp only[AF,An];rw[Pj r,St.vis_lets x];simp;omega
end
theorem Qb3t (x3:Nat):VisOk (fun a=>[(x3,Obj.st [.int .i64 a])]) B2 (fun a=>0≤a) Int.toNat S8 [.ptr x3 0]:=by
 refine⟨fun _ _=>rfl,fun _=>by simp,fun a p hp=>by simp only[Ja]at hp;subst hp;nofun,fun a s n h=>?_,fun a s n=>?_,fun a s n H K ha rQ h0 hn be hh hK=>?_⟩
 ·show 0≤B2 a s n;rw[B2];split <;> omega
 ·have:=s.size_eq;rw[B2];split <;> omega
 ·have g:H x3=.st [.int .i64 a]:=hh (x3,_) (by simp);refine Qb Ab Qaj1 ?_;refine Qa ?_;simp only[go_sem,s.ab];refine Qa ?_;simp only[go_sem];have done:∀(H':Heap) (e:Env),H'=H.set x3 (.st [.int .i64 (B2 a s n)])→Qq Av K .nrm e H':=by
   intro H' e h';simp only[Qq,Q1,Av];refine⟨by simp,hK _ ⟨fun p hp=>?_,fun m _ hm=>?_⟩⟩
   ·simp only[Ja]at hp;subst hp;rw[h'];exact Heap.ay _ _ _
   ·rw[h'];exact Heap.af _ _ (by simpa using hm)
  refine Qc rfl (fun hc=>?_) (fun hc=>?_)
  ·have h1:s.op=1:=by simpa using hc
   refine Qn ?_;simp only[go_sem,g];refine⟨Ql,fun H1 ft=>?_⟩;exact done _ _ (by rw[ft,B2,if_pos h1])
  ·have h1:¬s.op=1:=by simpa using hc
   refine Qd ?_;try simp only[go_sem,AE.X.next]
   exact done _ _ (by rw[B2,if_neg h1,Int.add_zero];exact (Heap.set_self _ _ _ g).symm)
theorem ME {f:Fn}(hb:Qh f.body≤2^34)(hp:f.params.length≤3)(hK:∀H',Upd H H' []→K (.c (.int .i64 ((f.params.length:Int)+An f.body))) H') :
  Qi prog RV [.ag f.cells] H K:=by
 refine A0 ?_;refine Qb Ab Qa4y ?_;refine Qa ?_;simp only[go_sem,Fn.cells];refine Qa ?_;simp only[go_sem,Qs];intro ga x3 eF H1 h1;have kn:=(Kn.aw H).al eF h1;have g3:=kn.l 0 rfl;simp only[go_sem,Qx9,g3];intro H2 h2;have kn:Kn H H2 [] [(x3,.st [.int .i64 f.params.length])]:=kn.aT 0 rfl h2;have g3:=kn.l 0 rfl;refine Qa ?_;simp only[go_sem];refine LD (Qb3t x3) (Qh f.body) f.body 1 _ (f.params.length:Int) _ _ (Jc _) (by omega) (by omega) (by omega) (by show (0:Int)≤_;omega) (by show (f.params.length:Int).toNat+_≤_;omega) (fun p hp=>by simp only[Ja]at hp;subst hp;exact g3) fun H3 hu=>?_;rw[Pj]at hu;have kn:=kn.callL 0 rfl hu (by nofun);have g3:=kn.l 0 rfl;refine Qa ?_;simp only[go_sem,g3];refine Qg ?_;simp only[go_sem,Qq,Q1,Ad,Ja,forall_eq,RS.op];exact⟨_,.c _ _ (Qj rfl),hK _ kn.fin⟩
theorem Qblv {fns:List Fn}{f:Fn}{fl:Bool}(ga:f.params.length≤3)(fo:Bl f.body)(iD:Qh f.body≤2^34)
  (hK:∀(H':Heap),Upd H H' []→(AW 0 fns f).fits→K (.ag (AW 0 fns f).cells) H'):Qi prog PI [.ag [.sl fl 3 (Ae fns)],.ag f.cells] H K:=by
 refine A0 ?_;refine Qb Ab Nt ?_;refine Qa ?_;simp only[go_sem,Fn.cells];intro x4 dP H1 h1;have kn:=(Kn.aw H).al dP h1;have ij:=kn.l 0 rfl;refine Qa ?_;simp only[go_sem];intro w hw H2 h2;have h:IInv H1 H2 w ⟨fns,fl,0,0,.sl true 5 [],[],[],0⟩:=⟨(Kn.aw H1).al hw h2,.nil 5,by simp,by simp⟩;simp only[go_sem,RZ];refine Ak ?_;simp only[go_sem];have iM:=fun K=>ME (f:=f) (H:=H2) (K:=K) iD ga;simp only[Fn.cells]at iM;refine iM _ fun H3 hu=>?_;have h:=h.re (h.kn.aI hu);have hv:=DU f.body;have ik:=h.hw;simp only[go_sem,Sr,ik,IS.o,Qs];intro H4 h4;have h:=h.setw (s':=⟨fns,fl,f.params.length,0,.sl true 5 [],[],[],0⟩) h4 rfl rfl rfl;have jy:=h.hw;simp only[go_sem,Ss,jy,IS.o];intro H5 h5;have h:=h.setw (s':=⟨fns,fl,f.params.length,(f.params.length:Int)+An f.body,.sl true 5 [],[],[],0⟩) h5 rfl rfl rfl;obtain⟨s,hs⟩:∃s:IS,s=⟨fns,fl,f.params.length,(f.params.length:Int)+An f.body,.sl true 5 [],[],[],0⟩:=⟨_,rfl⟩;rw[←hs]at h;refine Qa ?_;simp only[go_sem];refine Fl (sc:=.pnil) rfl fun lm nn H6 bS h6=>?_;have knm:=h.kn.al bS h6;simp only[go_sem,Sq];refine Qp (Qa ?_);simp only[go_sem,Qs];intro _;refine Qe (Qf (Qu (fun m e1 H7=>∃(i a:Nat) (es:List (C×V)) (b:List (List UInt8×Nat)),m=f.params.length-i∧i≤f.params.length∧Kn H1 H7 [] (s.L w++[(lm,.map a es)])∧(parV (f.params.take i)).1=[b]∧MapOk vI es b∧es.length≤i∧
  e1=[(3,.c (.pp [.str f.name,.sl false 1 (Q3 f.params),.sl false 5 (Qv f.body)])),(4,.c (.ptr x4 0)),(5,.c (.ptr w 0)),(6,.c (.pp [.mp lm,.pnil])),(27,.c (.sl false 1 (Q3 f.params))),(28,.c (.int .i64 f.params.length)),(29,.c (.int .i64 i))]) f.params.length ?_ ?_))
 ·exact⟨0,nn,[],[],by omega,by omega,knm,rfl,.nil vI,Jc _,rfl⟩
 ·rintro m e1 H7 ⟨i,a,es,b,hm,hi,kn7,j7,eZ,dB,rfl⟩;refine Qa ?_;simp only[go_sem];refine Qe (Qc rfl ?_ ?_)
  ·intro hc;have aa:i<f.params.length:=by simpa using hc
   have gl:H7 lm=.map a es:=(kn7.get (lm,.map a es) (by simp)).1;have d9:=Bu;refine Qd ?_;try simp only[go_sem]
   refine Qe (Qf ?_);refine Qa ?_;simp only[go_sem,aa,Qs,Dk _ _ aa];refine Qn ?_;simp only[go_sem,gl];refine⟨eZ.ky,by omega,fun H8 h8=>?_⟩;have kn8:=Kn.stM (B:=[]) kn7 h8;have oE:=(Ez (f.params.take i));obtain⟨b',e1',e2'⟩:=oE;have mD:b'=b:=by rw[j7]at e1';exact (List.cons.inj e1').1.symm
   have na:=HZ (f.params.getD i []) (.c (.int .i64 i)) es;refine Qn ?_;simp only[go_sem,AE.X.next];refine⟨Ql,f.params.length-(i+1),by omega,i+1,a+1,_,(f.params.getD i [],i)::b,rfl,by omega,kn8,?_,eZ.put _ i,by omega,rfl⟩;rw[Je aa,Ge,j7,e2',Jab,Jai (by omega),show f.params.getD i []=f.params[i]by simp[Jd,aa]];rfl
  ·intro hc;have aC:f.params.length≤i:=by simpa using hc
   have q9:i=f.params.length:=by omega
   rw[Jg aC]at j7;refine Qr ?_;simp only[go_sem,AE.X.next];obtain⟨F2,cN,hF2,mc,back2⟩:=(h.re kn7.drop).sideX kn7;have aq:s.ok (3+An f.body):=by rw[hs];exact⟨by show (0:Int)≤(f.params.length:Int)+An f.body;omega,by show (f.params.length:Int)+An f.body≤((3+An f.body:Nat):Int);omega,by simp,by simp⟩
   refine Qa ?_;simp only[go_sem];refine D6 (n:=1) cN aq (by omega) fun s1 H8 jF st1 aV ex1=>?_;obtain⟨jF,kn8⟩:=back2 s1 H8 jF;simp only[go_sem];refine Qa ?_;simp only[go_sem,Qs];intro _ q hq H9 h9;simp only[go_sem,Sp];have aU:=st1.ok _ aq;have da:s.d=⟨(f.params.length:Int)+An f.body,[],0⟩:=by rw[hs];rfl
   have co:s1.at_=0:=by
    have:=congrArg Lw.at_ ex1;rw[da]at this;exact this
   have az:s1.at_<s1.blocks.length:=by omega
   have kn9:Kn H1 H9 [] (s1.L w++lobs q (f.params.length:Nat) [(lm,a,es)]):=(kn8.al hq h9).perm (by
    rw[Jf];exact .append_left _ (List.Perm.swap _ _ _))
   have b0:BSt H1 H9 w s1 q [(lm,a,es)] ⟨s1.d,[b],f.params.length⟩ [lm]:=
    ⟨jF.re kn9.drop,kn9,⟨eZ,trivial⟩,rfl,fun y hy=>by simp only[Ja]at hy;subst hy;show es.length≤f.params.length;omega,rfl⟩
   refine TT _ f.body false H1 H9 w q s1 _ [(lm,a,es)] ⟨s1.d,[b],f.params.length⟩ [lm] _ (Jc _) fo b0 (by simp) az aU (by show f.params.length≤_;omega) (by omega) fun s2 H10 sc' b2 st2=>?_;have fL:=st2.ok _ aU;have df:=st2.at_ az;have kx:=b2.inv.hw;simp only[go_sem];refine Ak ?_;simp only[go_sem,kx,IS.o];refine Fh (args:=[]) b2.inv df fL (by omega) fun s3 H11 h3 st3 ex3=>?_;have kw:=h3.hw;have je:s3.at_=s2.at_:=by
    have:=congrArg Lw.at_ ex3;exact this
   simp only[go_sem,So,kw,IS.o,je];refine DQ (next:=[]) (at':=s2.at_) (N:=0) h3 (st3.at_ df) (by rw[←je];exact st3.at_ df) fun s5 H12 h5 st5 ex5=>?_;have ku:=h5.hw;have iK:H12 x4=.st [.int .i64 0,.int .i64 0,.sl true 5 []]:=by rw[h5.kn.chg x4 (by rw[ij];nofun) (by simp),ij]
   have cU:=h5.gb.ah;simp only[go_sem];refine Qa ?_;simp only[go_sem,ku,iK,IS.o,cU];intro H13 jw;have iI:H13 x4=.st [.int .i64 s5.params,.int .i64 s5.ae,s5.bc]:=by rw[jw];exact Heap.ay _ _ _
   have li:∀m,m≠x4→H13 m=H12 m:=fun m hm=>by rw[jw];exact Heap.af _ _ hm
   have kD:∀m,H m≠.none→H13 m=H m:=fun m hm=>by
    have e1:=kn.chg m hm (by simp);have e2:=h5.kn.chg m (by rw[e1];exact hm) (by simp);rw[li m (fun hh=>by subst hh;exact hm (kn.free 0 rfl)),e2,e1]
   have i5:∀p∈s5.L w,H13 p.1=p.2∧un H p.1=true:=fun p hp=>by
    have e1:=(h5.kn.get p (by simpa using hp)).1;have e2:=h5.kn.loc p hp;have bm:p.1≠x4:=fun hh=>(by rw[hh,ij]at e2;simp at e2);refine⟨by rw[li _ bm,e1],DR ?_⟩
    cases hh:H p.1 with
    |none=>rfl
    |_=>have:=kn.chg p.1 (by rw[hh];simp) (by simp);rw[e2,hh]at this;simp at this
   refine Qg ?_;simp only[go_sem,Qq,Q1,Dm,Ja,forall_eq,RS.op,iI,cU];have fN:=(st3.trans st5).ok _ fL;have lS:=Gl (H:=H13) (S:=un H) s5.blocks fun b hb=>⟨h5.gi b hb,h5.ri b hb,fun p hp=>i5 p (by
    simp only[IS.L,Jn,Jaq];exact .inr (.inr ⟨b,hb,hp⟩))⟩
   have hd1:s1.d=⟨(f.params.length:Int)+An f.body,[blk0],0⟩:=by
    rw[ex1,da];rfl
   have fx:s1.fns=fns:=by rw[st1.fn.1,hs]
   have cR:=b2.d;rw[hd1,fx,←j7]at cR;rw[ex3,IS.dregs,cR]at ex5;have hp5:s5.params=f.params.length:=by rw[(st3.trans st5).fn.2.2,st2.fn.2.2,st1.fn.2.2,hs]
   have cY:AW 0 fns f=⟨s5.params,s5.ae,s5.blocks.map Blk.d⟩:=by
    rw[hp5];have e1:s5.ae=s5.d.ae:=rfl;have e2:s5.blocks.map Blk.d=s5.d.bs:=rfl;rw[e1,e2,ex5];rfl
   have ba:(AW 0 fns f).fits:=by
    rw[cY];intro b hb;obtain⟨b0,fq,rfl⟩:=Ju.1 hb;have:=fN.i1 b0 fq;exact⟨by simp only[Blk.d,Ji];omega,by simp[Blk.d]⟩
   refine⟨.ag (AW 0 fns f).cells,?_,hK _ ⟨by simp,fun m hm _=>?_⟩ ba⟩
   ·rw[cY];exact FrzL.ag (.cons (Qj rfl) (.cons (Qj rfl) (.cons (Gr.frzM h5.gb (fun p hp=>i5 p (by
     simp only[IS.L,Jn];exact .inr (.inl hp))) lS) .nil)))
   ·rw[D0 hm];exact kD m hm
theorem IG:∀l:List OB,(∀b∈l,b.ok)→OwL (l.flatMap OB.lg) (l.map OB.row).flatten (Qx (l.map OB.d)).flatten
 |[],_=>.nil
 |b::r,h=>by
  rw[Jw,J3,List.flatten_cons,J3,Qx,J3,List.flatten_cons];exact (OB.ow (h b (by simp))).app (IG r fun x hx=>h x (by simp[hx]))
theorem Qbl1 {fns:List Fn}{f:Fn}{fl:Bool}(ga:f.params.length≤3)(fo:Bl f.body)(iD:Qh f.body≤2^34)
  (hK:∀(H':Heap) (L:List (Nat×Obj)) (cs:List C),Kn H H' [] L→OwL L cs (AW 0 fns f).cells→(AW 0 fns f).fits→K (.ag cs) H'):Qi prog PI [.ag [.sl fl 3 (Ae fns)],.ag f.cells] H K:=by
 refine Qb Ab Nt ?_;refine Qa ?_;simp only[go_sem,Fn.cells];intro x4 dP H1 h1;have kn:=(Kn.aw H).al dP h1;have ij:=kn.l 0 rfl;refine Qa ?_;simp only[go_sem];intro w hw H2 h2;have h:JInv H1 H2 w ⟨fns,fl,0,0,.sl true 5 [],[],[],0⟩:=⟨(Kn.aw H1).al hw h2,.nil 5,by simp⟩;simp only[go_sem,RZ];refine Ak ?_;simp only[go_sem];have iM:=fun K=>ME (f:=f) (H:=H2) (K:=K) iD ga;simp only[Fn.cells]at iM;refine iM _ fun H3 hu=>?_;have h:=h.re (h.kn.aI hu);have hv:=DU f.body;have ik:=h.hw;simp only[go_sem,Sr,ik,JS.o,Qs];intro H4 h4;have h:=h.setw (s':=⟨fns,fl,f.params.length,0,.sl true 5 [],[],[],0⟩) h4 rfl rfl rfl;have jy:=h.hw;simp only[go_sem,Ss,jy,JS.o];intro H5 h5;have h:=h.setw (s':=⟨fns,fl,f.params.length,(f.params.length:Int)+An f.body,.sl true 5 [],[],[],0⟩) h5 rfl rfl rfl;obtain⟨s,hs⟩:∃s:JS,s=⟨fns,fl,f.params.length,(f.params.length:Int)+An f.body,.sl true 5 [],[],[],0⟩:=⟨_,rfl⟩;rw[←hs]at h;refine Qa ?_;simp only[go_sem];refine Fl (sc:=.pnil) rfl fun lm nn H6 bS h6=>?_;have knm:=h.kn.al bS h6;simp only[go_sem,Sq];refine Qp (Qa ?_);simp only[go_sem,Qs];intro _;refine Qe (Qf (Qu (fun m e1 H7=>∃(i a:Nat) (es:List (C×V)) (b:List (List UInt8×Nat)),m=f.params.length-i∧i≤f.params.length∧Kn H1 H7 [] (s.L w++[(lm,.map a es)])∧(parV (f.params.take i)).1=[b]∧MapOk vI es b∧es.length≤i∧
  e1=[(3,.c (.pp [.str f.name,.sl false 1 (Q3 f.params),.sl false 5 (Qv f.body)])),(4,.c (.ptr x4 0)),(5,.c (.ptr w 0)),(6,.c (.pp [.mp lm,.pnil])),(27,.c (.sl false 1 (Q3 f.params))),(28,.c (.int .i64 f.params.length)),(29,.c (.int .i64 i))]) f.params.length ?_ ?_))
 ·exact⟨0,nn,[],[],by omega,by omega,knm,rfl,.nil vI,Jc _,rfl⟩
 ·rintro m e1 H7 ⟨i,a,es,b,hm,hi,kn7,j7,eZ,dB,rfl⟩;refine Qa ?_;simp only[go_sem];refine Qe (Qc rfl ?_ ?_)
  ·intro hc;have aa:i<f.params.length:=by simpa using hc
   have gl:H7 lm=.map a es:=(kn7.get (lm,.map a es) (by simp)).1;have d9:=Bu;refine Qd ?_;try simp only[go_sem]
   refine Qe (Qf ?_);refine Qa ?_;simp only[go_sem,aa,Qs,Dk _ _ aa];refine Qn ?_;simp only[go_sem,gl];refine⟨eZ.ky,by omega,fun H8 h8=>?_⟩;have kn8:=Kn.stM (B:=[]) kn7 h8;have oE:=(Ez (f.params.take i));obtain⟨b',e1',e2'⟩:=oE;have mD:b'=b:=by rw[j7]at e1';exact (List.cons.inj e1').1.symm
   have na:=HZ (f.params.getD i []) (.c (.int .i64 i)) es;refine Qn ?_;simp only[go_sem,AE.X.next];refine⟨Ql,f.params.length-(i+1),by omega,i+1,a+1,_,(f.params.getD i [],i)::b,rfl,by omega,kn8,?_,eZ.put _ i,by omega,rfl⟩;rw[Je aa,Ge,j7,e2',Jab,Jai (by omega),show f.params.getD i []=f.params[i]by simp[Jd,aa]];rfl
  ·intro hc;have aC:f.params.length≤i:=by simpa using hc
   have q9:i=f.params.length:=by omega
   rw[Jg aC]at j7;refine Qr ?_;simp only[go_sem,AE.X.next];obtain⟨F2,cN,hF2,mc,back2⟩:=(h.re kn7.drop).sideX kn7;have aq:s.ok (3+An f.body):=by rw[hs];exact⟨by show (0:Int)≤(f.params.length:Int)+An f.body;omega,by show (f.params.length:Int)+An f.body≤((3+An f.body:Nat):Int);omega,by simp,by simp⟩
   refine Qa ?_;simp only[go_sem];refine D5 (n:=1) cN aq (by omega) fun s1 H8 jF st1 aV ex1=>?_;obtain⟨jF,kn8⟩:=back2 s1 H8 jF;simp only[go_sem];refine Qa ?_;simp only[go_sem,Qs];intro _ q hq H9 h9;simp only[go_sem,Sp];have aU:=st1.ok _ aq;have da:s.d=⟨(f.params.length:Int)+An f.body,[],0⟩:=by rw[hs];rfl
   have co:s1.at_=0:=by
    have:=congrArg Lw.at_ ex1;rw[da]at this;exact this
   have az:s1.at_<s1.blocks.length:=by omega
   have kn9:Kn H1 H9 [] (s1.L w++lobs q (f.params.length:Nat) [(lm,a,es)]):=(kn8.al hq h9).perm (by
    rw[Jf];exact .append_left _ (List.Perm.swap _ _ _))
   have b0:JBSt H1 H9 w s1 q [(lm,a,es)] ⟨s1.d,[b],f.params.length⟩ [lm]:=
    ⟨jF.re kn9.drop,kn9,⟨eZ,trivial⟩,rfl,fun y hy=>by simp only[Ja]at hy;subst hy;show es.length≤f.params.length;omega,rfl⟩
   refine TJ _ f.body false H1 H9 w q s1 _ [(lm,a,es)] ⟨s1.d,[b],f.params.length⟩ [lm] _ (Jc _) fo b0 (by simp) az aU (by show f.params.length≤_;omega) (by omega) fun s2 H10 sc' b2 st2=>?_;have fL:=st2.ok _ aU;have df:=st2.at_ az;have kx:=b2.inv.hw;simp only[go_sem];refine Ak ?_;simp only[go_sem,kx,JS.o];refine Fg (args:=[]) b2.inv (by rw[Jo];exact b2.inv.kn) CR df fL (by omega) fun s3 H11 h3 st3 ex3=>?_;have kw:=h3.hw;have je:s3.at_=s2.at_:=by
    have:=congrArg Lw.at_ ex3;exact this
   simp only[go_sem,So,kw,JS.o,je];refine DP (next:=[]) (at':=s2.at_) (N:=0) h3 (by rw[Jo];exact h3.kn) CR (st3.at_ df) (by rw[←je];exact st3.at_ df) fun s5 H12 h5 st5 ex5=>?_;have ku:=h5.hw;have iK:H12 x4=.st [.int .i64 0,.int .i64 0,.sl true 5 []]:=by rw[h5.kn.chg x4 (by rw[ij];nofun) (by simp),ij]
   have cU:=h5.gb.ah;simp only[go_sem];refine Qa ?_;simp only[go_sem,ku,iK,JS.o,cU];intro H13 jw;have iI:H13 x4=.st [.int .i64 s5.params,.int .i64 s5.ae,s5.bc]:=by rw[jw];exact Heap.ay _ _ _
   have li:∀m,m≠x4→H13 m=H12 m:=fun m hm=>by rw[jw];exact Heap.af _ _ hm
   refine Qg ?_;simp only[go_sem,Qq,Q1,Dm,Ja,forall_eq,RS.op,iI,cU];have fN:=(st3.trans st5).ok _ fL;have hd1:s1.d=⟨(f.params.length:Int)+An f.body,[blk0],0⟩:=by
    rw[ex1,da];rfl
   have fx:s1.fns=fns:=by rw[st1.fn.1,hs]
   have cR:=b2.d;rw[hd1,fx,←j7]at cR;rw[ex3,JS.dregs,cR]at ex5;have hp5:s5.params=f.params.length:=by rw[(st3.trans st5).fn.2.2,st2.fn.2.2,st1.fn.2.2,hs]
   have cY:AW 0 fns f=⟨s5.params,s5.ae,s5.blocks.map OB.d⟩:=by
    rw[hp5];have e1:s5.ae=s5.d.ae:=rfl;have e2:s5.blocks.map OB.d=s5.d.bs:=rfl;rw[e1,e2,ex5];rfl
   have ba:(AW 0 fns f).fits:=by
    rw[cY];intro b hb;obtain⟨b0,fq,rfl⟩:=Ju.1 hb;have:=fN.i1 b0 fq;exact⟨by simp only[OB.d,Ji];omega,by simp[OB.d]⟩
   have kn5:=kn.comp0 h5.kn;have kn6:=kn5.aT 0 (x:=x4) (o:=.st [.int .i64 0,.int .i64 0,.sl true 5 []]) rfl jw;have kn7:Kn H H13 [] (s5.lb++s5.blocks.flatMap OB.lg):=kn6.sub (by
    simp only[JS.L,Js,Jq,Jz];exact .cons _ (.cons _ (List.Sublist.refl _)))
   have eX:=(h5.gb.ows (rows':=Qx (s5.blocks.map OB.d)) (by simp[Qx]) (by intro r hr;obtain⟨b,_,rfl⟩:=Ju.1 hr;rfl) (by intro r hr;obtain⟨b,_,rfl⟩:=Ju.1 hr;rfl) (IG s5.blocks h5.ob)).one;refine hK _ _ _ kn7 ?_ ba;rw[cY];exact .atom rfl (.atom rfl eX)
end Go.AE.Y
namespace Go.AE.Y
open Go.Proofs.Tryz
variable {H:Heap}{K:V→Heap→Prop}
theorem Qb07 {fns:List Fn}{fl:Bool}{k:Nat}(hk:k<fns.length)(ga:fns[k].params.length≤3)(fo:Bl fns[k].body)(iD:Qh fns[k].body≤2^34)
  (hK:∀(H':Heap),Upd H H' []→(AW (-1) fns fns[k]).fits→K (.ag (AW (-1) fns fns[k]).cells) H'):Qi prog FT [.ag [.sl fl 3 (Ae fns)],.c (.int .i64 k)] H K:=by
 refine A0 ?_;refine Qb Ab Qb1e ?_;refine Qa ?_;simp only[go_sem];intro x4 dP H1 h1;have kn:=(Kn.aw H).al dP h1;refine Qa ?_;simp only[go_sem,hk,Q8,Cu _ _ hk,Fn.take3,Fn.aX,Fn.aj];generalize fns[k]=f at *;intro x5 cC H2 h2;have kn:=kn.al cC h2;have kp:=kn.l 1 rfl;simp only[go_sem,Lu,kp,Fn.cells];intro H3 h3;have kn:Kn H H3 [] [(x4,.st [.int .i64 0,.int .i64 0,.sl true 5 []]),(x5,.st [.str f.name,.sl false 1 (Q3 f.params),.sl false 5 (Qv f.body)])]:=kn.aT 1 rfl h3;have kq:=kn.l 0 rfl;have fA:=kn.l 1 rfl;have h45:=kn.neL 0 1 rfl rfl (by decide);refine Qa ?_;simp only[go_sem,fA,Qs];intro hpl2 w hw H4 h4;have h:LInv H3 H4 w ⟨fns,fl,0,0,.sl true 5 [],[],[],0,.sl true 3 [],[],[],f.params.length⟩:=
  ⟨(Kn.aw H3).al hw h4,.nil 5,.inl ⟨rfl,rfl,rfl⟩,by simp,by simp,by simp⟩
 have i0:∀(s:LS) (H':Heap),LInv H3 H' w s→H' x4=.st [.int .i64 0,.int .i64 0,.sl true 5 []]∧H' x5=.st [.str f.name,.sl false 1 (Q3 f.params),.sl false 5 (Qv f.body)]:=fun s H' h'=>
  ⟨by rw[h'.kn.chg x4 (by rw[kq];simp) (by simp),kq],by rw[h'.kn.chg x5 (by rw[fA];simp) (by simp),fA]⟩
 have ig:=(i0 _ _ h).2;have jy:=h.hw;simp only[go_sem,Lt];refine Qa ?_;simp only[go_sem,ig,jy,LS.o,Qs];intro _ H5 h5;have h:=h.setw (s':=⟨fns,fl,f.params.length,0,.sl true 5 [],[],[],0,.sl true 3 [],[],[],f.params.length⟩) h5 rfl rfl rfl rfl h.gv h.rv;have mU:=(i0 _ _ h).2;refine Ak ?_;simp only[go_sem,mU,Qs];refine XD _ f.body (Jc _) (by omega) ?_;have hv:=DU f.body;obtain⟨v,mi⟩:∃v,An f.body=v:=⟨_,rfl⟩;rw[mi]at hv;rw[mi];have pq:=h.hw;simp only[go_sem,Ls,mU,pq,LS.o,Qs];refine⟨Ql,fun H6 h6=>?_⟩;have h:=h.setw (s':=⟨fns,fl,f.params.length,(f.params.length:Int)+v,.sl true 5 [],[],[],0,.sl true 3 [],[],[],f.params.length⟩) h6 rfl rfl rfl rfl h.gv h.rv;refine Qp (Qa ?_);simp only[go_sem];refine Qe (Qf (Qu (fun n e1 H1=>∃(i:Nat) (s':LS),n=f.params.length-i∧i≤f.params.length∧LInv H3 H1 w s'∧s'.blocks=[]∧s'.at_=0∧s'.ae=(f.params.length:Int)+v∧s'.next=f.params.length∧s'.vars.length=i∧s'.vars=B3 (parV (f.params.take i)).1∧s'.params=f.params.length∧s'.fns=fns∧
  e1=[(4,.c (.ptr x4 0)),(5,.c (.ptr x5 0)),(6,.c (.ptr w 0)),(7,.c (.int .i64 i))]) f.params.length ?_ ?_))
 ·exact⟨0,_,by omega,by omega,h,rfl,rfl,rfl,rfl,rfl,rfl,rfl,rfl,rfl⟩
 ·rintro n e1 H1 ⟨i,s,cA,hi,h,fq,qZ,bM,mw,kz,pt,rJ,gZ,rfl⟩;have mV:=(i0 _ _ h).2;have cZ:=h.hw;have im:=h.gv.ah;refine Qp (Qa ?_);simp only[go_sem,mV,Qs];intro _;refine Qe (Qc rfl ?_ ?_)
  ·intro hc;have aa:i<f.params.length:=by simpa using hc
   refine Qd ?_;simp only[go_sem];refine Qe (Qf (CE ?_));simp only[go_sem,mV,cZ,LS.o,im,aa,Qs,Dk _ _ aa];refine h.addVar ⟨_,_,_,rfl⟩ (by simp only[LIM];omega) fun y H4 jy cont=>?_;simp only[go_sem,Lr,jy,LS.o];intro H5 h5;have h':=cont H5 h5;have pr:s.vars++[[C.str (f.params.getD i []),C.int .i64 (i:Int),C.int .i64 0]]=B3 (parV (f.params.take (i+1))).1:=by
    obtain⟨b,e1,e2⟩:=Ez (f.params.take i);rw[pt,Je aa,Ge,e1,e2,Ly,Jab,Jai (by omega),show f.params.getD i []=f.params[i]by simp[Jd,aa]];rfl
   refine Qn ?_;simp only[go_sem,X.next];exact⟨Ql,f.params.length-(i+1),by omega,i+1,_,rfl,by omega,h',fq,qZ,bM,mw,by simp[kz],pr,rJ,gZ,rfl⟩
  ·intro hc;refine Qr ?_;simp only[go_sem,X.next];have aC:f.params.length≤i:=by simpa using hc
   rw[Jg aC]at pt;have aq:s.ok (3+v):=⟨by rw[bM];omega,by rw[bM];omega,by rw[mw];omega,by rw[mw];omega,by simp[fq],by simp[fq],by omega⟩;refine Qa ?_;simp only[go_sem];refine DH h aq (by omega) fun s1 H4 h1 st1 aV ex1=>?_;have co:s1.at_=s.at_:=congrArg Lw.at_ ex1.d;have az:s1.at_<s1.blocks.length:=by rw[co,qZ];omega
   have aU:=st1.ok _ aq;refine Qa ?_;have ig:=(i0 _ _ h1).2;simp only[go_sem,ig];refine Qb2x _ f.body _ H3 H4 w s1 _ _ ⟨s1.d,(parV f.params).1,f.params.length⟩ (by obtain⟨b,e1,_⟩:=Ez f.params;rw[e1];simp) ⟨rfl,by rw[ex1.vars,pt],by rw[ex1.next,mw]⟩ (Jc _) fo h1 az aU (by omega) fun s2 H5 h2 st2 ex2=>?_;refine Qa ?_;simp only[go_sem];refine Fi h2 (st2.ok _ aU) (by omega) fun s3 H6 h3 st3 ex3=>?_;have st3:=st2.trans st3;simp only[go_sem,Lo];refine Ba (args:=[]) h3 (st3.at_ az) (st3.ok _ aU) (by omega) fun s4 H7 h4 st4 ex4=>?_;have st4:=st3.trans st4;simp only[go_sem,Lq];have hbl4:=st4.bl;refine Qa ?_;simp only[go_sem];refine DO (at':=0) (next:=[]) (N:=0) h4 (st4.at_ az) (by omega) fun s5 H8 h5 st5 ex5=>?_;have hw8:=h5.hw;obtain⟨pf,hx58⟩:=i0 _ _ h5;have cU:=h5.gb.ah;refine Qa ?_;simp only[go_sem,hw8,pf,LS.o,cU];intro H9 h9;have pd:H9 x4=.st [.int .i64 s5.params,.int .i64 s5.ae,s5.bc]:=by rw[h9];exact Heap.ay _ _ _
   have dy:∀m,m≠x4→H9 m=H8 m:=fun m hm=>by rw[h9];exact Heap.af _ _ hm
   have kD:∀m,H m≠.none→H9 m=H m:=fun m hm=>by
    have e1:=kn.chg m hm (by simp);have e2:=h5.kn.chg m (by rw[e1];exact hm) (by simp);rw[dy m (fun hh=>by subst hh;exact hm (kn.free 0 rfl)),e2,e1]
   have i5:∀p∈s5.L w,H9 p.1=p.2∧un H p.1=true:=fun p hp=>by
    have e1:=(h5.kn.get p (by simpa using hp)).1;have e2:=h5.kn.loc p hp;have bm:p.1≠x4:=fun hh=>(by rw[hh,kq]at e2;simp at e2);refine⟨by rw[dy _ bm,e1],DR ?_⟩
    cases hh:H p.1 with
    |none=>rfl
    |_=>have:=kn.chg p.1 (by rw[hh];simp) (by simp);rw[e2,hh]at this;simp at this
   refine Qg ?_;simp only[go_sem,Qq,Q1,Dm,Ja,forall_eq,RS.op,pd,cU];have fN:=(st4.trans st5).ok _ aU;have lS:=Gl (H:=H9) (S:=un H) s5.blocks fun b hb=>⟨h5.gi b hb,h5.ri b hb,fun p hp=>i5 p (by
    simp only[LS.L,Jn,Jaq];exact .inr (.inr (.inr ⟨b,hb,hp⟩)))⟩
   have hd1:s1.d=⟨(f.params.length:Int)+An f.body,[blk0],0⟩:=by
    rw[ex1.d,LS.d,bM,fq,qZ,mi];rfl
   have cR:=ex2.d;have sk:=ex5.d;rw[hd1,st1.fn.1,gZ]at cR;rw[ex4.d,ex3.d,LS.dregs,cR]at sk;have hp5:s5.params=f.params.length:=by rw[(st4.trans st5).fn.2.2,st1.fn.2.2,rJ]
   have cY:AW (-1) fns f=⟨s5.params,s5.ae,s5.blocks.map Blk.d⟩:=by
    rw[hp5];have e1:s5.ae=s5.d.ae:=rfl;have e2:s5.blocks.map Blk.d=s5.d.bs:=rfl;rw[e1,e2,sk];rfl
   have ba:(AW (-1) fns f).fits:=by
    rw[cY];intro b hb;obtain⟨b0,fq,rfl⟩:=Ju.1 hb;have:=fN.i1 b0 fq;exact⟨by simp only[Blk.d,Ji];omega,by simp[Blk.d]⟩
   refine⟨.ag (AW (-1) fns f).cells,?_,hK _ ⟨by simp,fun m hm _=>?_⟩ ba⟩
   ·rw[cY];exact FrzL.ag (.cons (Qj rfl) (.cons (Qj rfl) (.cons (Gr.frzM h5.gb (fun p hp=>i5 p (by
     simp only[LS.L,Jn];exact .inr (.inl hp))) lS) .nil)))
   ·rw[D0 hm];exact kD m hm
theorem XC {fns:List Fn}{fl:Bool}(hp:PrOk fns)(hK:∀(H':Heap),Upd H H' []→(∀c∈AA (-1) fns,c.fits)→K (.ag [.sl false 3 (Qk (AA (-1) fns))]) H') :
  Qi prog Gn [.ag [.sl fl 3 (Ae fns)]] H K:=by
 refine A0 ?_;refine Qb Ab X0 ?_;refine Qa ?_;simp only[go_sem];intro x2 eG H1 h1;have kn:=(Kn.aw H).al eG h1;refine Qa ?_;simp only[go_sem];intro x3 eF H2 h2;have kn:=kn.al eF h2;have pj:=kn.l 1 rfl;simp only[go_sem,Mi,pj];intro H3 h3;have kn:Kn H H3 [] [(x2,.st [.sl true 3 []]),(x3,.st [.sl true 3 []])]:=kn.aT 1 rfl h3;refine Qp (Qa ?_);simp only[go_sem];refine Qe (Qf (Qu (fun n e1 H1=>∃(i:Nat) (cs:List CodeD) (c:C) (Lg:List (Nat×Obj)),n=fns.length-i∧i≤fns.length∧cs=(AA (-1) fns).take i∧cs.length=i∧(∀c∈cs,c.fits)∧Gr Lg 3 (Qk cs) c∧Kn H H1 [] ([(x2,.st [.sl true 3 []]),(x3,.st [c])]++Lg)∧
  e1=[(1,.c (.pp [.sl fl 3 (Ae fns)])),(2,.c (.ptr x2 0)),(3,.c (.ptr x3 0)),(4,.c (.int .i64 i))]) fns.length ?_ ?_))
 ·exact⟨0,[],_,[],by omega,by omega,rfl,rfl,by simp,.nil 3,kn,rfl⟩
 ·rintro n e1 H1 ⟨i,cs,c,Lg,cA,hi,fk,bP,ba,bQ,kn,rfl⟩;refine Qp (Qa ?_);simp only[go_sem,Q8];intro hl;simp only[LIM]at hl;have jJ:=bQ.ah;have mW:=kn.l 1 rfl;refine Qe (Qc rfl ?_ ?_)
  ·intro hc;have aa:i<fns.length:=by simpa using hc
   have hm:=Jb aa;refine Qd ?_;simp only[go_sem];refine Qe (Qf (CE ?_));simp only[go_sem,mW,jJ];refine Qb07 aa (hp.par _ hm) (hp.ok _ hm) (by have:=Fz hm;have:=hp.size;omega) fun H4 hu ry=>?_;obtain⟨x,hx⟩:∃x,AW (-1) fns fns[i]=x:=⟨_,rfl⟩;rw[hx]at ry;rw[hx];have gR:cs++[x]=(AA (-1) fns).take (i+1):=by
    have hlu:i<(AA (-1) fns).length:=(by simpa[AA]using aa);rw[Je hlu,fk,←hx];simp[AA]
   have kn:=kn.aI hu;have pi:=kn.l 1 rfl;simp only[go_sem,Mg,pi,jJ,CodeD.cells];refine kn.grow (B:=[_,_]) (new:=[x.cells]) bQ (.mk' _ _ _ _) (by intro r hr;simp only[Ja]at hr;subst hr;rfl) (by simp only[Bi,LIM,Jp,Jr];omega) fun y' H5 kn=>?_;have pg:=kn.l 1 rfl;simp only[go_sem,Mh,pg];intro H6 h6;have kn:=kn.aT 1 rfl h6;refine Qn ?_;simp only[go_sem,X.next];refine⟨Ql,fns.length-(i+1),by omega,i+1,cs++[x],_,_,rfl,by omega,gR,by simp[bP],fun c' bK=>by
    rcases Jn.1 bK with h|h
    ·exact ba c' h
    ·simp at h;subst h;exact ry,?_,kn,rfl⟩
   rw[Nw];exact .mk _ _ _ (by simp[Bi])
  ·intro hc;have aC:fns.length≤i:=by simpa using hc
   have pm:=kn.l 0 rfl;refine Qr ?_;simp only[go_sem,X.next];refine Qa ?_;simp only[go_sem,mW,pm,jJ];intro H2 h2;have kn:=kn.aT 0 rfl h2;have pk:=kn.l 0 rfl;refine Qg ?_;simp only[go_sem,Qq,Q1,Es,Ja,forall_eq,RS.op,pk,jJ];exact⟨.ag [.sl false 3 (Qk cs)],FrzL.ag (.cons (bQ.frz (B:=[_,_]) kn (HR _)) .nil),by rw[Jg (by simpa[AA]using aC)]at fk;subst fk;exact hK _ kn.fin ba⟩
attribute [local instance] Classical.propDecidable
def C8 (q:CodeD):Bool:=decide (0≤q.params∧q.params≤3)&&decide (q.params≤q.ae∧q.ae≤300)&&decide (1≤(q.blocks.length:Int)∧(q.blocks.length:Int)≤160)
def cntY (y:BlkD):Nat:=y.ins.length+y.am.length
def A8 {α:Type}(f:α→Nat)(l:List α):Nat:=(l.map f).sum
theorem Fu {α:Type}{f:α→Nat}{l:List α}{i:Nat}(h:i<l.length):A8 f (l.take (i+1))=A8 f (l.take i)+f l[i]:=by
 rw[A8,A8,Je h,J2,Jau];simp
theorem EJ {α:Type}{f:α→Nat}{l:List α}(i:Nat):A8 f (l.take i)≤A8 f l:=by
 have:A8 f l=A8 f (l.take i)+A8 f (l.drop i):=by rw[A8,A8,A8,←Jau,←J2,J0]
 omega
def cntQ (q:CodeD):Nat:=A8 cntY q.blocks
def Bz (cs:List CodeD)(k:Nat)(hk:k<cs.length):Prop:=C8 cs[k]=true∧∀(b:Nat) (h:b<cs[k].blocks.length),blkG cs k b cs[k] cs[k].blocks[b]=true
def FB (cs:List CodeD):Prop:=(1≤(cs.length:Int)∧(cs.length:Int)≤4)∧(∀(k:Nat) (h:k<cs.length),Bz cs k h)∧A8 cntQ cs≤800
noncomputable def BZ (cs:List CodeD):Bool:=decide (FB cs)
theorem LM {α:Type}{f:α→Nat}{l:List α}{x:α}(h:x∈l):f x≤A8 f l:=by
 obtain⟨i,hi,rfl⟩:=Jam h;have h1:=EJ (f:=f) (l:=l) (i+1);rw[Fu hi]at h1;omega
theorem Xk {cs:List CodeD}(h:BZ cs=true){k:Nat}(hk:k<cs.length):cs[k].sg:=by
 obtain⟨_,h2,h3⟩:=of_decide_eq_true h;obtain⟨g1,g2⟩:=h2 k hk;have hq:cntQ cs[k]≤A8 cntQ cs:=LM (Jb hk);simp only[C8,Jj,decide_eq_true_eq]at g1;refine⟨by omega,fun y hy=>?_⟩;have iE:cntY y≤A8 cntY cs[k].blocks:=LM hy;simp only[cntQ]at hq;simp only[cntY]at iE;obtain⟨b,hb,rfl⟩:=Jam hy;have g:=g2 b hb;have hn:=Qbov g;simp only[blkG,Jj]at g;obtain⟨⟨_,ins⟩,ph⟩:=g;rw[Jaa]at ins ph;refine⟨by omega,by omega,by omega,fun x hx=>?_,fun x hx=>?_⟩
 ·have:=ins x hx;simp only[insG,Jj]at this;have h3:=this.2;rw[insL]at h3;split at h3
  ·simp only[Jj,decide_eq_true_eq]at h3;have hn:x.n.toNat<cs.length:=by omega
   have:=(h2 x.n.toNat hn).1;simp only[C8,Jj,decide_eq_true_eq]at this;rw[EO hn]at h3;omega
  ·simp only[Jj,decide_eq_true_eq]at h3;have:Cc x.op≤2:=by rw[Cc];split <;> (try split) <;> (try split) <;> omega
   omega
 ·have:=ph x hx;simp only[phiG,Jj,decide_eq_true_eq,AQ]at this;obtain⟨⟨⟨_,a1⟩,_⟩,_⟩:=this;have a3:=Q9w (fun i=>(cs[k].blocks.map BlkD.next).getD i []) (b:Int) cs[k].blocks.length;omega
theorem HX {cs:List CodeD}(h:¬FB cs):BZ cs=false:=decide_eq_false h
theorem VM {cs:List CodeD}{k j:Nat}(hk:k<cs.length)(hj:j<cs[k].blocks.length)(h:800<A8 cntQ (cs.take k)+A8 cntY (cs[k].blocks.take j)+cntY cs[k].blocks[j]):¬FB cs:=by
 rintro⟨_,_,h3⟩;have a1:=EJ (f:=cntQ) (l:=cs) (k+1);rw[Fu hk]at a1;have a2:=EJ (f:=cntY) (l:=cs[k].blocks) (j+1);rw[Fu hj]at a2;simp only[cntQ]at *;omega
theorem Qa9z {cs:List CodeD}{fl:Bool}(ba:∀c∈cs,c.fits)(hK:∀(H':Heap),Upd H H' []→K (.c (.bool (BZ cs))) H') :
  Qi prog Sf [.ag [.sl fl 3 (Qk cs)]] H K:=by
 refine A0 ?_;refine Qb Ab Qaw4 ?_;have retf:∀(b:Bool) (e:Env) (H':Heap) (L:List (Nat×Obj)),BZ cs=b→Kn H H' [] L→lk 2 e=.c (.bool b)→Qq Ad (unK H K) .ret e H':=by
  intro b e H' L hb kn h3;simp only[go_sem,Qq,Q1,Ad,Ja,forall_eq,RS.op,h3];rw[←hb];exact⟨_,.c _ _ (Qj rfl),hK _ kn.fin⟩
 have kn:=Kn.aw H;refine Qa ?_;simp only[go_sem];refine Qp (Qa ?_);simp only[go_sem,Bi];intro bP;refine BA ?_;simp only[go_sem,Qu9];refine Qe (Qc rfl ?_ ?_)
 ·intro hc;refine Qa ?_;simp only[go_sem];refine Qg ?_;simp only[go_sem];exact retf false _ _ _ (HX fun hu=>by have:=of_decide_eq_false (Bm hc);exact this hu.1) kn (by simp[lk])
 intro hc;have bX:cs.length≤4∧0<cs.length:=by
  have:1≤(cs.length:Int)∧(cs.length:Int)≤4:=by simpa using hc
  omega
 refine Qd ?_;simp only[go_sem];refine Qa ?_;simp only[go_sem];refine Qp (Qa ?_);simp only[go_sem];refine Qe (Qf (Qu (fun m e1 H1=>∃(k n:Nat),m=cs.length-k∧k≤cs.length∧n=A8 cntQ (cs.take k)∧n≤800∧(∀(i:Nat) (hi:i<cs.length),i<k→Bz cs i hi)∧Kn H H1 [] []∧e1=[(1,.c (.pp [.sl fl 3 (Qk cs)])),(3,.c (.int .i64 n)),(4,.c (.int .i64 k))]) cs.length ?_ ?_))
 ·exact⟨0,0,by omega,by omega,rfl,by omega,fun _ _ h=>by omega,kn,rfl⟩
 ·rintro m e1 H1 ⟨k,n,hm,hk,pY,hn,ev,kn,rfl⟩;refine Qp (Qa ?_);simp only[go_sem,Bi];intro bP;refine Qe (Qc rfl ?_ ?_)
  ·intro hc;have aa:k<cs.length:=by simpa using hc
   refine Qd ?_;simp only[go_sem];refine Qe (Qf ?_);refine Qa ?_;simp only[go_sem,aa,Bi,DK _ _ aa,CodeD.cells];obtain⟨q,hq⟩:∃q,cs[k]=q:=⟨_,rfl⟩;rw[hq];intro x5 cC H2 h2;have kn:=kn.al cC h2;have kp:=kn.l 0 rfl;simp only[go_sem,Qva,kp];intro H3 h3;have kn:Kn H H3 [] [(x5,.st [.int .i64 q.params,.int .i64 q.ae,.sl false 5 (Qx q.blocks)])]:=kn.aT 0 rfl h3;have fA:=kn.l 0 rfl;refine Qp (Qa ?_);simp only[go_sem,fA];refine BA ?_;simp only[go_sem,Qvb,fA];have rest:∀(b:Bool) (E1:Env),lk 1 E1=.c (.pp [.sl fl 3 (Qk cs)])→lk 3 E1=.c (.int .i64 n)→lk 4 E1=.c (.int .i64 k)→lk 5 E1=.c (.ptr x5 0)→lk 42 E1=.c (.bool b)→C8 q=(!b)→
     Ag prog (s_sp_UnitValid_6.seq Qu8) (X.inBlock 1 (X.sq prog SD (X.next (fun e2 H2=>∃m_1,m_1<m∧∃(k n:Nat),m_1=cs.length-k∧k≤cs.length∧n=A8 cntQ (cs.take k)∧n≤800∧(∀(i:Nat) (hi:i<cs.length),i<k→Bz cs i hi)∧Kn H H2 [] []∧e2=[(1,.c (.pp [.sl fl 3 (Qk cs)])),(3,.c (.int .i64 n)),(4,.c (.int .i64 k))])
      (X.inBlock 0 (X.sq prog SB (Qq Ad (unK H K))))))) E1 H3:=by
    intro b E1 l1 l3 l4 l5 l42 hb;refine Qe (Qc l42 ?_ ?_)
    ·intro ao;refine Qa ?_;simp only[go_sem];refine Qg ?_;simp only[go_sem,X.next];exact retf false _ _ _ (HX fun hu=>by have:=(hu.2.1 k aa).1;rw[hq,hb,ao]at this;simp at this) kn (by simp[lk])
    intro ao;rw[ao]at hb;have aR:=hb;simp only[C8,Jav,Jj,decide_eq_true_eq]at aR;obtain⟨bM,gV,fq,i3⟩:0≤q.ae∧q.ae≤300∧0<q.blocks.length∧q.blocks.length≤160:=(by omega);refine Qd ?_;simp only[go_sem];refine Qa ?_;simp only[go_sem,l1,l3,l4,l5];refine Qf (Qu (fun m e1 H1=>∃(j n2:Nat),m=q.blocks.length-j∧j≤q.blocks.length∧n2=n+A8 cntY (q.blocks.take j)∧n2≤800∧(∀(i:Nat) (hi:i<q.blocks.length),i<j→blkG cs k i q q.blocks[i]=true)∧Kn H H1 [] [(x5,.st [.int .i64 q.params,.int .i64 q.ae,.sl false 5 (Qx q.blocks)])]∧
     e1=[(1,.c (.pp [.sl fl 3 (Qk cs)])),(3,.c (.int .i64 n2)),(4,.c (.int .i64 k)),(5,.c (.ptr x5 0)),(6,.c (.int .i64 j))]) q.blocks.length ?_ ?_)
    ·exact⟨0,n,by omega,by omega,rfl,hn,fun _ _ h=>by omega,kn,rfl⟩
    ·rintro m2 e1 H4 ⟨j,n2,iu,hj,qc,cz,gW,kn,rfl⟩;have ig:=kn.l 0 rfl;refine Qp (Qa ?_);simp only[go_sem,ig,AQ];intro hbl2;refine Qe (Qc rfl ?_ ?_)
     ·intro b7;have eu:j<q.blocks.length:=(by simpa using b7);refine Qd ?_;simp only[go_sem];refine Qe (Qf ?_);have mo:=ba _ (Jb aa);rw[hq]at mo;have mA:=mo _ (Jb eu);have kF:=Fu (f:=cntY) eu;have hX:cntY q.blocks[j]=q.blocks[j].ins.length+q.blocks[j].am.length:=rfl;refine Ak ?_;simp only[go_sem,ig,eu,AQ,HI _ _ eu,BlkD.cells,Co,Cn];refine⟨Ql,Ql,?_⟩;refine Qa ?_;simp only[go_sem];have fin:∀(b3:Bool) (E1:Env) (H5:Heap),(decide (n2+cntY q.blocks[j]≤800)&&blkG cs k j q q.blocks[j])=(!b3)→Kn H H5 [] [(x5,.st [.int .i64 q.params,.int .i64 q.ae,.sl false 5 (Qx q.blocks)])]→lk 1 E1=.c (.pp [.sl fl 3 (Qk cs)])→
        lk 3 E1=.c (.int .i64 ((n2+q.blocks[j].ins.length+q.blocks[j].am.length:Nat):Int))→lk 4 E1=.c (.int .i64 k)→lk 5 E1=.c (.ptr x5 0)→lk 6 E1=.c (.int .i64 j)→lk 75 E1=.c (.bool b3)→
        Ag prog Qy5 (X.inBlock 3 (X.sq prog Qu7 (X.next (fun e2 H2=>∃m,m<m2∧∃(j n2:Nat),m=q.blocks.length-j∧j≤q.blocks.length∧n2=n+A8 cntY (q.blocks.take j)∧n2≤800∧(∀(i:Nat) (hi:i<q.blocks.length),i<j→blkG cs k i q q.blocks[i]=true)∧Kn H H2 [] [(x5,.st [.int .i64 q.params,.int .i64 q.ae,.sl false 5 (Qx q.blocks)])]∧
         e2=[(1,.c (.pp [.sl fl 3 (Qk cs)])),(3,.c (.int .i64 n2)),(4,.c (.int .i64 k)),(5,.c (.ptr x5 0)),(6,.c (.int .i64 j))])
         (X.inBlock 2 (X.inBlock 1 (X.sq prog SD (X.next (fun e2 H2=>∃m_1,m_1<m∧∃(k n:Nat),m_1=cs.length-k∧k≤cs.length∧n=A8 cntQ (cs.take k)∧n≤800∧(∀(i:Nat) (hi:i<cs.length),i<k→Bz cs i hi)∧Kn H H2 [] []∧e2=[(1,.c (.pp [.sl fl 3 (Qk cs)])),(3,.c (.int .i64 n)),(4,.c (.int .i64 k))])
         (X.inBlock 0 (X.sq prog SB (Qq Ad (unK H K))))))))))) E1 H5:=by
       intro b3 E1 H5 gu kn l1 l3 l4 l5 l6 l75;refine Qc l75 ?_ ?_
       ·intro bX;refine Qa ?_;simp only[go_sem];refine Qg ?_;simp only[go_sem,X.next];refine retf false _ _ _ (HX fun hu=>?_) kn (by simp[lk]);rw[bX]at gu;have qU:=(hu.2.1 k aa).2 j (by rw[hq];exact eu);subst hq;have hov:¬800<n2+cntY cs[k].blocks[j]:=fun ho=>VM aa eu (by omega) hu;rw[qU]at gu;simp at gu;omega
       ·intro bX;rw[bX]at gu;simp only[Jav,Jj,decide_eq_true_eq]at gu;refine Qd ?_;simp only[go_sem];refine Qn ?_;simp only[go_sem,X.next,l1,l3,l4,l5,l6];refine⟨Ql,q.blocks.length-(j+1),by omega,j+1,_,rfl,by omega,?_,?_,?_,kn,rfl⟩
        ·rw[kF];omega
        ·omega
        ·intro i hi jZ;by_cases qz:i<j
         ·exact gW i hi qz
         ·have:i=j:=(by omega);subst this;exact gu.2
      refine⟨fun aV=>?_,fun aV=>?_⟩
      ·refine Qbqb aa (by rw[hq];exact eu) (by rw[hq];exact bM) (by rw[hq];exact gV) (by omega) (by rw[hq];omega) fun H5 hu=>?_;have kn:=kn.aI hu;simp only[go_sem,S9];refine fin _ _ _ ?_ kn (by simp[lk]) (by simp[lk]) (by simp[lk]) (by simp[lk]) (by simp[lk]) (by simp[lk];rfl);subst hq;by_cases ho:n2+cntY cs[k].blocks[j]≤800
       ·have iW:¬800<(n2:Int)+cs[k].blocks[j].ins.length+cs[k].blocks[j].am.length:=(by simp only[cntY]at ho;omega);simp[ho,iW]
       ·have iW:800<(n2:Int)+cs[k].blocks[j].ins.length+cs[k].blocks[j].am.length:=(by simp only[cntY]at ho;omega);simp[ho,iW]
      ·replace aV:=AK aV;simp only[go_sem,S9,aV];exact fin true _ _ (by simp at aV;simp[hX];omega) kn (by simp[lk]) (by simp[lk]) (by simp[lk]) (by simp[lk]) (by simp[lk]) (by simp[lk])
     ·intro b7;refine Qr ?_;simp only[go_sem,X.next];refine Qn ?_;simp only[go_sem,X.next];have rX:q.blocks.length≤j:=(by simpa using b7);have rX:j=q.blocks.length:=(by omega);refine⟨Ql,cs.length-(k+1),by omega,k+1,n2,rfl,by omega,?_,cz,?_,kn.drop (A:=[]),rfl⟩
      ·rw[Fu aa,hq,qc,pY,rX,List.take_length];rfl
      ·intro i hi hik;by_cases qy:i<k
       ·exact ev i hi qy
       ·have:i=k:=(by omega);subst this;subst hq;exact⟨by rw[hb];rfl,fun b i3=>gW b i3 (by omega)⟩
   refine⟨fun aV=>?_,fun aV=>?_⟩
   ·refine BA ?_;simp only[go_sem,SA,fA,AQ];intro so;refine⟨fun br=>?_,fun br=>?_⟩
    ·replace br:=Bm br;refine BA ?_;simp only[go_sem,Ra];refine rest _ _ (by simp[lk]) (by simp[lk]) (by simp[lk]) (by simp[lk]) (by simp[lk];rfl) ?_;simp[C8]
    ·replace br:=AK br;simp only[go_sem,Ra,br];exact rest true _ (by simp[lk]) (by simp[lk]) (by simp[lk]) (by simp[lk]) (by simp[lk]) (by simp at br;simp[C8];omega)
   ·replace aV:=AK aV;simp only[go_sem,SA,Ra,aV,fA,AQ,cond_true];exact rest true _ (by simp[lk]) (by simp[lk]) (by simp[lk]) (by simp[lk]) (by simp[lk]) (by simp at aV;simp[C8];omega)
  ·intro hc;refine Qr ?_;simp only[go_sem,X.next];refine Qa ?_;simp only[go_sem];refine Qg ?_;have jE:cs.length≤k:=by simpa using hc
   refine retf true _ _ _ (decide_eq_true ⟨by omega,fun i hi=>ev i hi (by omega),?_⟩) kn (by simp[lk]);rw[Jg jE]at pY;omega
end Go.AE.Y
namespace Go.AE.Y
attribute [local go_sem] cond_true cond_false Bool.not_true Bool.not_false
attribute [local instance] Classical.propDecidable
open Go.Proofs.Tryz
variable {H:Heap}{K:V→Heap→Prop}{fns:List Fn}
noncomputable def AH (fns:List Fn):Bool:=Bo fns&&BZ (AA (-1) fns)
noncomputable def lowP (fns:List Fn):List CodeD:=if AH fns=true then AA (-1) fns else []
theorem M7 {m:Nat}:∀{l:List Fn},(∀f∈l,Qh f.body≤m)→A6 l≤l.length * (m+1)
 |[],_=>by simp[A6]
 |f::r,h=>by
  have h1:=h f (by simp);have h2:=M7 fun g hg=>h g (Jk _ hg);simp only[A6,Jp];rw[Nat.add_mul];omega
theorem FineP.prOk (h:FineP fns):PrOk fns:=by
 have hs:∀f∈fns,Qh f.body≤4000∧Bl f.body∧f.params.length≤3:=fun f hf=>by
  obtain⟨k,hk,rfl⟩:=Jaj.1 hf;exact h.sizes k hk
 have hl:=h.len;refine⟨hl.1,fun f hf=>(hs f hf).2.2,fun f hf=>(hs f hf).2.1,?_,hl.2⟩;have h1:=M7 fun f hf=>(hs f hf).1;have h2:fns.length * (4000+1)≤4 * (4000+1):=Jak _ hl.2;omega
theorem KS {fl:Bool}(hf:A6 fns≤2^36)(hK:∀H',Upd H H' []→(∀c∈lowP fns,c.fits)→K (.tup [.ag [.sl false 3 (Qk (lowP fns))],.c (.bool (AH fns))]) H') :
  Qi prog Rc [.ag [.sl fl 3 (Ae fns)]] H K:=by
 refine A0 ?_;refine Qb Ab Qafr ?_;refine Qa ?_;simp only[go_sem];intro x2 eG H1 h1;have kn:=(Kn.aw H).al eG h1;have g2:=kn.l 0 rfl;simp only[go_sem,Qm7];refine Qp (Qa ?_);simp only[go_sem];refine VX hf fun H2 hu=>?_;have kn:=kn.aI hu;have g2:=kn.l 0 rfl;simp only[go_sem,Qm8];have bad:∀(e:Env) (H':Heap) (L:List (Nat×Obj)),AH fns=false→Kn H H' [] ((x2,.st [.sl true 3 []])::L)→lk 2 e=.c (.ptr x2 0)→lk 3 e=.c (.bool false)→Qq Dn (unK H K) .ret e H':=by
  intro e H' L hb kn l2 l3;have g2:=kn.l 0 rfl;simp only[go_sem,Qq,Q1,Dn,J4,Jar,or_false,forall_eq_or_imp,forall_eq,RS.op,g2,l2,l3];have:=hK _ kn.fin (by rw[lowP,hb];simp);rw[lowP,hb]at this;refine⟨_,Eu (rows:=[]) (by simp) _,this⟩
 refine Qe (Qc rfl (fun hc=>?_) (fun hc=>?_))
 ·have hb:Bo fns=false:=by simpa using hc
  refine Qa ?_;simp only[go_sem,g2];intro H3 h3;have kn:=kn.aT 0 rfl h3;simp only[go_sem,Qm9];refine Qg ?_;exact bad _ _ _ (by rw[AH,hb];rfl) kn rfl rfl
 have hb:Bo fns=true:=by simpa using hc
 have hp:=fine_iff.1 hb;refine Qd ?_;try simp only[go_sem]
 refine Qa ?_;simp only[go_sem];refine XC hp.prOk fun H3 hu ba=>?_;have kn:=kn.aI hu;simp only[go_sem,Qnb];intro x4 dP H4 h4;have kn:=kn.al dP h4;have g4:=kn.l 1 rfl;simp only[go_sem,Qna,g4];intro H5 h5;have kn:Kn H H5 [] [(x2,.st [.sl true 3 []]),(x4,.st [.sl false 3 (Qk (AA (-1) fns))])]:=kn.aT 1 rfl h5;have g4:=kn.l 1 rfl;refine Qp (Qa ?_);simp only[go_sem,g4];refine Qa9z ba fun H6 hu=>?_;have kn:=kn.aI hu;have g2:=kn.l 0 rfl;have g4:=kn.l 1 rfl;simp only[go_sem,Qnc];refine Qe (Qc rfl (fun hc=>?_) (fun hc=>?_))
 ·have hg:BZ (AA (-1) fns)=false:=by simpa using hc
  refine Qa ?_;simp only[go_sem,g2];intro H7 h7;have kn:=kn.aT 0 rfl h7;simp only[go_sem,Qnd];refine Qg ?_;exact bad _ _ _ (by rw[AH,hg,Bool.and_false]) kn rfl rfl
 have hg:BZ (AA (-1) fns)=true:=by simpa using hc
 have fO:AH fns=true:=by rw[AH,hb,hg];rfl
 have hP:lowP fns=AA (-1) fns:=by rw[lowP,if_pos fO]
 refine Qd ?_;try simp only[go_sem]
 refine Qa ?_;simp only[go_sem,g2,g4];intro H7 h7;have kn:=kn.aT 0 rfl h7;have g2:=kn.l 0 rfl;simp only[go_sem,Qne];refine Qg ?_;simp only[go_sem,Qq,Q1,Dn,J4,Jar,or_false,forall_eq_or_imp,forall_eq,RS.op,g2];have:=hK _ kn.fin (by rw[hP];exact ba);rw[hP,fO]at this;exact⟨_,Eu (HR _) _,this⟩
end Go.AE.Y
namespace Go.AE.Y
open Go.Proofs.Tryz
variable {H:Heap}{K:V→Heap→Prop}
theorem Kd {op:Int}(hK:K (.c (.bool (decide (1≤op)&&decide (op≤14)))) H):Qi prog Pq [.c (.int .i64 op)] H K:=by
 refine Qb Ab Qbl6 ?_;refine Qa ?_;simp only[go_sem];refine Qa ?_;simp only[go_sem];refine Dh ?_;simp only[go_sem,NH];refine Qg ?_;simp only[go_sem,Qq,Q1,Ad,Ja,forall_eq,RS.op];exact hK
theorem XV {n:Int}(hK:K (.c (.bool (decide (0≤n)&&decide (n≤255)))) H):Qi prog Ir [.c (.int .i64 n)] H K:=by
 refine Qb Ab MC ?_;refine Qa ?_;simp only[go_sem];refine Qa ?_;simp only[go_sem];refine Dh ?_;simp only[go_sem,RE];refine Qg ?_;simp only[go_sem,Qq,Q1,Ad,Ja,forall_eq,RS.op];exact hK
theorem FG {op:Int}(hK:K (.c (.bool (BF op))) H):Qi prog Rs [.c (.int .i64 op)] H K:=by
 refine Qb Ab Qbqj ?_;refine Qa ?_;simp only[go_sem];refine Qa ?_;simp only[go_sem];refine Kd ?_;simp only[go_sem,Nl];refine Qg ?_;simp only[go_sem,Qq,Q1,Ad,Ja,forall_eq,RS.op];have:∀a b c:Bool,(bif bif a then b else false then c else false)=(a&&b&&c):=by decide
 rw[this];have e:(decide (1≤op)&&decide (op≤14))=decide (1≤op∧op≤14):=by simp
 rw[e];exact hK
theorem He {j:Int}(hK:K (.c (.bool (decide (j=2) || decide (j=3)))) H):Qi prog P7 [.c (.int .i64 j)] H K:=by
 refine Qb Ab Qbf4 ?_;refine Qa ?_;simp only[go_sem];refine Qa ?_;simp only[go_sem];refine Qg ?_;simp only[go_sem,Qq,Q1,Ad,Ja,forall_eq,RS.op];have:∀a b:Bool,(bif a then true else b)=(a || b):=by decide
 first|(rw[this];exact hK)|exact hK
theorem Qbgn {j:Int}(hK:K (.c (.int .i64 (BI j))) H):Qi prog Su [.c (.int .i64 j)] H K:=by
 refine Qb Ab Qawt ?_;have retf:∀(n:Int) (e:Env),BI j=n→lk 2 e=.c (.int .i64 n)→Qq Ad K .ret e H:=by
  intro b e h1 h3;simp only[go_sem,Qq,Q1,Ad,Ja,forall_eq,RS.op,h3];rw[←h1];exact hK
 refine Qa ?_;simp only[go_sem];refine Qp (Qa ?_);simp only[go_sem];refine Qe (Qf ?_);refine Qa ?_;simp only[go_sem];refine Qc rfl ?_ ?_
 ·intro hc;refine Qa ?_;simp only[go_sem];refine Qg ?_;simp only[go_sem];exact retf 1 _ (by simp at hc;simp[BI,hc]) (by simp[lk])
 intro bE;refine Qa ?_;simp only[go_sem];refine Qc rfl ?_ ?_
 ·intro hc;refine Qa ?_;simp only[go_sem];refine Qg ?_;simp only[go_sem];exact retf 2 _ (by simp at hc;simp[BI,hc]) (by simp[lk])
 intro ao;refine Qa ?_;simp only[go_sem];refine Qc rfl ?_ ?_
 ·intro hc;refine Qa ?_;simp only[go_sem];refine Qg ?_;simp only[go_sem];exact retf 0 _ (by simp at hc;simp[BI,hc]) (by simp[lk])
 ·intro hc;refine Qd ?_;simp only[go_sem];refine Qa ?_;simp only[go_sem];refine Qg ?_;exact retf (-1) _ (by simp at hc bE ao;simp[BI,hc,bE,ao]) (by simp[lk])
def BY (op:Int):Int:=if op=1 then 0 else if op=2∨op=10∨op=11∨op=13 then 1 else 2
theorem Qbpv {op:Int}(hK:K (.c (.int .i64 (BY op))) H):Qi prog RC [.c (.int .i64 op)] H K:=by
 refine Qb Ab Qbap ?_;have retf:∀(n:Int) (e:Env),BY op=n→lk 2 e=.c (.int .i64 n)→Qq Ad K .ret e H:=by
  intro b e h1 h3;simp only[go_sem,Qq,Q1,Ad,Ja,forall_eq,RS.op,h3];rw[←h1];exact hK
 refine Qa ?_;simp only[go_sem];refine Qp (Qa ?_);simp only[go_sem];refine Qe (Qf ?_);refine Qa ?_;simp only[go_sem];refine Qc rfl ?_ ?_
 ·intro hc;refine Qa ?_;simp only[go_sem];refine Qg ?_;simp only[go_sem];exact retf 0 _ (by simp at hc;simp[BY,hc]) (by simp[lk])
 intro bE;have fin:∀(b:Bool) (e:Env),b=decide (op=2∨op=10∨op=11∨op=13)→lk 6 e=.c (.bool b)→Ag prog Q8k (X.inBlock 0 (X.sq prog Q8l (Qq Ad K))) e H:=by
  intro b e hb l6;refine Qc l6 ?_ ?_
  ·intro hc;refine Qa ?_;simp only[go_sem];refine Qg ?_;simp only[go_sem];exact retf 1 _ (by rw[hc]at hb;have:=of_decide_eq_true hb.symm;simp at bE;rw[BY,if_neg bE,if_pos this]) (by simp[lk])
  ·intro hc;refine Qd ?_;simp only[go_sem];refine Qa ?_;simp only[go_sem];refine Qg ?_;exact retf 2 _ (by rw[hc]at hb;have:=of_decide_eq_false hb.symm;simp at bE;rw[BY,if_neg bE,if_neg this]) (by simp[lk])
 refine Qp (Qa ?_);simp only[go_sem];refine Qe (Qc rfl ?_ ?_)
 ·intro hc;refine Qd ?_;simp only[go_sem];exact fin true _ (decide_eq_true (.inl (of_decide_eq_true hc))).symm (by simp[lk];exact of_decide_eq_true hc)
 intro ao;refine Qa ?_;simp only[go_sem];refine Qc rfl ?_ ?_
 ·intro hc;refine Qd ?_;simp only[go_sem];exact fin true _ (decide_eq_true (.inr (.inl (of_decide_eq_true hc)))).symm (by simp[lk];exact of_decide_eq_true hc)
 intro b7;refine Qa ?_;simp only[go_sem];refine Qc rfl ?_ ?_
 ·intro hc;refine Qd ?_;simp only[go_sem];exact fin true _ (decide_eq_true (.inr (.inr (.inl (of_decide_eq_true hc))))).symm (by simp[lk];exact of_decide_eq_true hc)
 intro bX;refine Qn ?_;simp only[go_sem];refine fin (decide (op=13)) _ ?_ (by simp[lk]);have a2:=of_decide_eq_false ao;have a3:=of_decide_eq_false b7;have a4:=of_decide_eq_false bX;simp[a2,a3,a4]
theorem KO {l:List BlkD}(hf:∀b∈l,b.ins.length≤2 ^ 38∧b.am.length≤2 ^ 38):A8 cntY l≤l.length * 549755813888:=by
 induction l with
 |nil=>simp[A8]
 |cons y l ih=>
  have h1:=hf y Jy;have h2:=ih fun b hb=>hf b (Jk _ hb);simp only[A8,J3,List.sum_cons,cntY,Jp]at *;omega
theorem Qbfc {q:CodeD}{fl:Bool}(hf:q.fits)(hb:q.blocks.length≤160)(hK:∀H',Upd H H' []→K (.c (.int .i64 (cntQ q))) H') :
  Qi prog Sy [.ag [.int .i64 q.params,.int .i64 q.ae,.sl fl 5 (Qx q.blocks)]] H K:=by
 refine A0 ?_;refine Qb Ab Qawo ?_;have ml:=KO hf;refine Qa ?_;simp only[go_sem];refine Qa ?_;simp only[go_sem];refine Qp (Qa ?_);simp only[go_sem,AQ];intro _;refine Qe (Qf (Qu (fun m e1 H1=>∃(i:Nat),m=q.blocks.length-i∧i≤q.blocks.length∧Kn H H1 [] []∧
  e1=[(3,.c (.int .i64 (A8 cntY (q.blocks.take i):Nat))),(7,.c (.sl fl 5 (Qx q.blocks))),(8,.c (.int .i64 q.blocks.length)),(9,.c (.int .i64 i))]) q.blocks.length ?_ ?_))
 ·exact⟨0,by omega,by omega,Kn.aw H,rfl⟩
 ·rintro m e1 H1 ⟨i,hm,hi,kn,rfl⟩;refine Qa ?_;simp only[go_sem];refine Qe (Qc rfl ?_ ?_)
  ·intro hc;have aa:i<q.blocks.length:=by simpa using hc
   have mA:=hf _ (Jb aa);have kF:=Fu (f:=cntY) aa;have a9:=EJ (f:=cntY) (l:=q.blocks) (i+1);have hX:cntY q.blocks[i]=q.blocks[i].ins.length+q.blocks[i].am.length:=rfl;have ir:q.blocks.length * 549755813888≤160 * 549755813888:=Jak _ hb;refine Qd ?_;simp only[go_sem];refine Qe (Qf ?_);refine Qa ?_;simp only[go_sem,aa,AQ,HI _ _ aa,BlkD.cells];intro x5 cC H2 h2;have kn:=kn.al cC h2;have cC:=kn.l 0 rfl;simp only[go_sem,Qs1,cC];intro H3 h3;have kn:Kn H H3 [] ([]++[(x5,.st [.sl false 2 (Az q.blocks[i].am),.sl false 4 (At q.blocks[i].ins),.int .i64 q.blocks[i].jump,.int .i64 q.blocks[i].on,.sl false 1 (intsOf q.blocks[i].next)])]):=kn.aT 0 rfl h3;have cC:=kn.l 0 rfl;refine Qn ?_;simp only[go_sem,cC,Co,Cn];intro _ _;refine⟨Ql,Ql,?_⟩;refine Qn ?_;simp only[go_sem,X.next];refine⟨Ql,q.blocks.length-(i+1),by omega,i+1,rfl,by omega,kn.drop,?_⟩;rw[kF,hX];have:((A8 cntY (q.blocks.take i):Nat):Int)+((q.blocks[i].am.length:Int)+q.blocks[i].ins.length)=((A8 cntY (q.blocks.take i)+(q.blocks[i].ins.length+q.blocks[i].am.length):Nat):Int):=by omega
   rw[this];rfl
  ·intro hc;have aC:q.blocks.length≤i:=by simpa using hc
   refine Qr ?_;simp only[go_sem,X.next];refine Qa ?_;simp only[go_sem];refine Qg ?_;simp only[go_sem,Qq,Q1,Ad,Ja,forall_eq,RS.op];rw[Jg aC];exact⟨_,.c _ _ (Qj rfl),hK _ kn.fin⟩
end Go.AE.Y
