/- Part 5 of the proof: the engine, codes, walks and plain laws, each named where it stands. -/
import Derived.Test.YtlfdcfggpccakaaGreatDoorZD
open Nat (reduceEqDiff reduceAdd reduceLeDiff reduceLT)
set_option linter.unusedVariables false
set_option linter.unusedSimpArgs false
set_option maxRecDepth 4000
open Bool renaming and_eq_true->J1
open Int renaming le_refl->Ja3
open List renaming getD_eq_getElem?_getD->Ja,mem_singleton->Jb,getElem_mem->Jc,length_map->Jd,mem_append_right->Je,getElem?_eq_getElem->Jf,length_cons->Jg,take_of_length_le->Jh,length_nil->Jk,mem_append_left->Jl,map_append->Jm,take_succ_eq_append_getElem->Jn,mem_append->Jo,forall_mem_cons->Jp,length_set->Jq,getElem?_map->Jr,mem_map->Js,mem_flatMap->Jt,nodup_append->Ju,perm_append_comm->Jv,length_append->Jx,mem_cons->Jy,getElem_cons_succ->J0,not_mem_nil->J2,append_assoc->J3,getElem_cons_zero->J4,getElem_set->J5,mem_cons_of_mem->J6,mem_cons_self->J7,mem_or_eq_of_mem_set->J8,mem_range->J9,getElem?_of_mem->Jaa,mem_iff_getElem->Jab,append_nil->Jac,eq_of_mem_replicate->Jad,flatMap_cons->Jae,nil_append->Jaf,cons_append->Jah,map_cons->Jai,getElem?_append_right->Jaj,all_eq_true->Jak,getElem_map->Jal,take_length->Jam,getD_cons_zero->Jan,map_map->Jao,map_nil->Jap,getElem?_set_self->Jaq,contains_iff_mem->Jas,length_filter_le->Jat,ext_getElem->Jau,eraseIdx_set_eq->Jav,mem_of_getElem?->Jaw,map_congr_left->Jax,mem_filter->Jay,filter_append->Jaz,map_set->Ja0,drop_eq_getElem_cons->Ja1,getElem?_eq_some_iff->Ja2,length_take->Ja5,getElem?_eq_none->Ja6,getElem_set_self->Ja7,nodup_cons->Ja8,range_succ->Ja9,set_append_right->Jba,set_getElem_self->Jbb,singleton_append->Jbc,getElem?_set_ne->Jbd,drop_zero->Jbe,flatMap_append->Jbf,getD_cons_succ->Jbg,map_eq_nil_iff->Jbh,length_range->Jbi,flatMap_nil->Jbk,set_set->Jbo
open List.Nodup renaming length_le_of_subset->Jar
open Nat renaming zero_add->Ji,le_refl->Jj,add_sub_cancel_left->Ja4,le_trans->Jbj,le_add_right->Jbl,zero_lt_succ->Jbm,min_eq_left->Jbn,le_of_lt->Jbp
open Option renaming getD_some->Jw,map_some->Jz
open Option.some renaming inj->Jag
namespace Go.AE.Y
structure Fr where
 k:Nat
 b:Nat
 todo:List InsD
 regs:List Int
inductive Cf where
 |go (fs:List Fr) (s c:List Int)
 |dn (e v:Int) (s c:List Int)
def Qac (cs:List CodeD)(k:Nat):CodeD:=cs.getD k ⟨0,0,[]⟩
def rg (R:List Int)(r:Int):Int:=R.getD r.toNat 0
def ar (R:List Int)(x:InsD)(i:Nat):Int:=rg R (x.args.getD i 0)
def trI (b:Prop) [Decidable b]:Int:=if b then 1 else 0
def arR (op a b:Int):Option Int:=
 if op=3 then some ((a+b) % 256)else if op=4 then some ((a-b+256) % 256)else if op=5 then some (a * b % 256)
 else if op=6 then (if b=0 then none else some (a / b))else if op=7 then (if b=0 then none else some (a % b))
 else if op=8 then some (trI (a<b))else if op=9 then some (trI (a=b))else some (trI (a=0))
def Qabg (q:CodeD)(l:List Int):List Int:=l++List.replicate (q.regs.toNat-l.length) 0
def fr0 (cs:List CodeD)(k:Nat)(l:List Int):Fr:=⟨k,0,(Qan (Qac cs k) 0).ins,Qabg (Qac cs k) l⟩
def wayI (q:CodeD)(b a:Nat):Nat:=(Q8 (gnx q) (b:Int) q.blocks.length).idxOf (a:Int)
def phiV (R:List Int)(w:Nat)(p:PhiD):Int:=rg R (p.args.getD w 0)
def phiR (R:List Int)(w:Nat)(l:List PhiD):List Int:=l.foldl (fun T p=>T.set p.to.toNat (phiV R w p)) R
def ixB (y:BlkD)(R:List Int):Nat:=if y.jump=2∧rg R y.on=0 then 1 else 0
def nxB (y:BlkD)(R:List Int):Nat:=(y.next.getD (ixB y R) 0).toNat
def rtn (v:Int):List Fr→List Int→List Int→Cf
 |[],s,c=>.dn 0 v s c
 |f::fs,s,c=>match f.todo with
  |[]=>.go (f::fs) s c
  |x::t=>.go (⟨f.k,f.b,t,f.regs.set x.to.toNat v⟩::fs) s c
def stI (cs:List CodeD)(k b:Nat)(x:InsD)(t:List InsD)(R:List Int)(fs:List Fr)(s c:List Int):Cf:=
 let w:=fun v=>Cf.go (⟨k,b,t,R.set x.to.toNat v⟩::fs) s c
 if x.op=1 then w x.n
 else if x.op=11 then (if 16≤ar R x 0 then .dn 2 0 s c else w (rg c (ar R x 0)))
 else if x.op=12 then (if 16≤ar R x 0 then .dn 2 0 s c else .go (⟨k,b,t,R⟩::fs) s (c.set (ar R x 0).toNat (ar R x 1)))
 else if x.op=13 then .go (⟨k,b,t,R⟩::fs) (s++[ar R x 0]) c
 else if x.op=14 then .go (fr0 cs x.n.toNat (x.args.map (rg R))::⟨k,b,x::t,R⟩::fs) s c
 else if x.op=2 then w (ar R x 0)
 else match arR x.op (ar R x 0) (ar R x 1)with
  |none=>.dn 1 0 s c
  |some v=>w v
def frJ (cs:List CodeD)(k b:Nat)(R:List Int)(n:Nat):Fr:=
 ⟨k,n,(Qan (Qac cs k) n).ins,phiR R (wayI (Qac cs k) n b) (Qan (Qac cs k) n).phis⟩
def stJ (cs:List CodeD)(k b:Nat)(R:List Int)(fs:List Fr)(s c:List Int):Cf:=
 let y:=Qan (Qac cs k) b
 if y.jump=3 then rtn (rg R y.on) fs s c else .go (frJ cs k b R (nxB y R)::fs) s c
def step (cs:List CodeD):Cf→Cf
 |.go (⟨k,b,x::t,R⟩::fs) s c=>stI cs k b x t R fs s c
 |.go (⟨k,b,[],R⟩::fs) s c=>stJ cs k b R fs s c
 |.go [] s c=>.go [] s c
 |.dn e v s c=>.dn e v s c
def Qoy (cs:List CodeD):Nat→Cf→Cf
 |0,x=>x
 |n+1,x=>Qoy cs n (step cs x)
theorem Qll (cs:List CodeD):∀(n m:Nat) (x:Cf),Qoy cs (n+m) x=Qoy cs m (Qoy cs n x)
 |0,m,x=>by rw[Ji];rfl
 |n+1,m,x=>by rw[Nat.add_right_comm];exact Qll cs n m (step cs x)
theorem Qa9o (cs:List CodeD)(e v:Int)(s c:List Int):∀n,Qoy cs n (.dn e v s c)=.dn e v s c
 |0=>rfl
 |n+1=>Qa9o cs e v s c n
theorem Qaq5 (cs:List CodeD){n m:Nat}{x:Cf}{e v:Int}{s c:List Int}(h:Qoy cs n x=.dn e v s c)(hm:n≤m):Qoy cs m x=.dn e v s c:=by
 obtain⟨d,rfl⟩:=Nat.exists_eq_add_of_le hm;rw[Qll,h,Qa9o]
def Qa8g:List Int:=List.replicate 16 0
def cf0 (cs:List CodeD)(l:List Int):Cf:=.go [fr0 cs (cs.length-1) l] [] Qa8g
def outR (cs:List CodeD)(l:List Int)(S:Nat):Int×Int×List Int×List Int:=match Qoy cs S (cf0 cs l)with
 |.dn e v s c=>(e,v,s,c)
 |.go _ s c=>(3,0,s,c)
def Qa0l (cs cs':List CodeD)(l:List Int)(S:Nat):Prop:=(outR cs l S).1=3∨outR cs l S=outR cs' l 60000
theorem sim {cs cs':List CodeD}{R:Cf→Cf→Prop}{B:Nat}(hs:∀x x',R x x'→∃m,m≤B∧R (step cs x) (Qoy cs' m x'))
  : ∀(n:Nat) {x x':Cf},R x x'→∃m,m≤n * B∧R (Qoy cs n x) (Qoy cs' m x')
 |0,x,x',h=>⟨0,by omega,h⟩
 |n+1,x,x',h=>by
  obtain⟨m,h1,h2⟩:=hs x x' h;obtain⟨m2,h3,h4⟩:=sim hs n h2;refine⟨m+m2,by rw[Nat.add_mul];omega,?_⟩;rw[Qll cs' m m2];exact h4
theorem Qbq2 {cs cs':List CodeD}{R:Cf→Cf→Prop}{B S:Nat}{l:List Int}(hs:∀x x',R x x'→∃m,m≤B∧R (step cs x) (Qoy cs' m x'))
  (hd:∀e v s c x',R (.dn e v s c) x'→x'=.dn e v s c) (hB:S * B≤60000) (h0:R (cf0 cs l) (cf0 cs' l)):Qa0l cs cs' l S:=by
 obtain⟨m,h1,h2⟩:=sim hs S h0;rw[Qa0l]
 cases hx:Qoy cs S (cf0 cs l)with
 |go fs s c=>exact .inl (by rw[outR,hx])
 |dn e v s c=>
  right;rw[hx]at h2;have:=Qaq5 cs' (hd _ _ _ _ _ h2) (Jbj h1 hB);rw[outR,outR,hx,this]
structure Fr.ok (cs:List CodeD)(f:Fr):Prop where
 k:f.k<cs.length
 b:f.b<(Qac cs f.k).blocks.length
 t:∃p,(Qan (Qac cs f.k) f.b).ins=p++f.todo
 r:f.regs.length=(Qac cs f.k).regs.toNat
theorem Qbj {cs:List CodeD}{k:Nat}(h:k<cs.length):Qac cs k=cs[k]:=by simp[Qac,Ja,h]
theorem Qa9m {v:PhiD→Int}:∀(l:List PhiD) (T:List Int),(l.foldl (fun T p=>T.set p.to.toNat (v p)) T).length=T.length
 |[],T=>rfl
 |p::l,T=>by rw[List.foldl_cons,Qa9m l,Jq]
inductive RelF (RF:Fr→Fr→Prop):List Fr→List Fr→Prop where
 |nil:RelF RF [] []
 |cons {f f':Fr} {fs fs':List Fr}:RF f f'∧f.todo≠[]→RelF RF fs fs'→RelF RF (f::fs) (f'::fs')
inductive RelC (RF:Fr→Fr→Prop):Cf→Cf→Prop where
 |dn (e v:Int) (s c:List Int):RelC RF (.dn e v s c) (.dn e v s c)
 |go {f f':Fr} {fs fs':List Fr} (s c:List Int):RF f f'→RelF RF fs fs'→RelC RF (.go (f::fs) s c) (.go (f'::fs') s c)
structure InsS (cs cs':List CodeD)(RF:Fr→Fr→Prop)(x x':InsD):Prop where
 op:x'.op=x.op
 to:x'.to=x.to
 args:x'.args=x.args
 n:x.op=1→x'.n=x.n
 call:x.op=14→∀l,l.length=x.args.length→RF (fr0 cs x.n.toNat l) (fr0 cs' x'.n.toNat l)
structure SimR (cs cs':List CodeD)(RF:Fr→Fr→Prop)(B:Nat):Prop where
 b:1≤B
 ins:∀k b x t R f',RF ⟨k,b,x::t,R⟩ f'→∃k' b' x' t',f'=⟨k',b',x'::t',R⟩∧InsS cs cs' RF x x'∧∀R',R'.length=R.length→RF ⟨k,b,t,R'⟩ ⟨k',b',t',R'⟩
 jump:∀k b R f' fs fs' s c,RF ⟨k,b,[],R⟩ f'→RelF RF fs fs'→∃m,m≤B∧RelC RF (stJ cs k b R fs s c) (Qoy cs' m (.go (f'::fs') s c))
theorem SimR.rtnF {RF:Fr→Fr→Prop}{v:Int}{fs fs':List Fr}{s c:List Int}(hf:RelF RF fs fs')
  (h:∀k b x t R f',RF ⟨k,b,x::t,R⟩ f'→∃k' b' x' t',f'=⟨k',b',x'::t',R⟩∧x'.to=x.to∧∀R',R'.length=R.length→RF ⟨k,b,t,R'⟩ ⟨k',b',t',R'⟩):RelC RF (rtn v fs s c) (rtn v fs' s c):=by
 cases hf with
 |nil=>exact .dn ..
 |cons h1 h2=>
  rename_i f f' fs fs'
  obtain⟨h1,h3⟩:=h1;obtain⟨k,b,t,R⟩:=f
  cases t with
  |nil=>exact absurd rfl h3
  |cons x t=>
   obtain⟨k',b',x',t',rfl,hx,hr⟩:=h _ _ _ _ _ _ h1;show RelC RF (.go (⟨k,b,t,R.set x.to.toNat v⟩::fs) s c) (.go (⟨k',b',t',R.set x'.to.toNat v⟩::fs') s c);rw[hx];exact .go s c (hr _ (by simp)) h2
theorem SimR.one {cs cs':List CodeD}{RF:Fr→Fr→Prop}{B:Nat}(h:SimR cs cs' RF B)(x x':Cf)(hx:RelC RF x x'):∃m,m≤B∧RelC RF (step cs x) (Qoy cs' m x'):=by
 cases hx with
 |dn e v s c=>exact⟨0,by omega,.dn ..⟩
 |go s c h1 h2=>
  rename_i f f' fs fs'
  obtain⟨k,b,t,R⟩:=f
  cases t with
  |nil=>exact h.jump _ _ _ _ _ _ _ _ h1 h2
  |cons x t=>
   obtain⟨k',b',x',t',rfl,hx,hr⟩:=h.ins _ _ _ _ _ _ h1;refine⟨1,h.b,?_⟩;show RelC RF (stI cs k b x t R fs s c) (stI cs' k' b' x' t' R fs' s c);have ha:∀i,ar R x' i=ar R x i:=fun i=>by rw[ar,ar,hx.args]
   rw[stI,stI];simp only[ha,hx.op,hx.to,hx.args];split
   ·rename_i h1'
    rw[hx.n h1'];exact .go s c (hr _ (by simp)) h2
   ·split
    ·split
     ·exact .dn ..
     ·exact .go s c (hr _ (by simp)) h2
    ·split
     ·split
      ·exact .dn ..
      ·exact .go _ _ (hr _ rfl) h2
     ·split
      ·exact .go _ _ (hr _ rfl) h2
      ·split
       ·rename_i h14
        exact .go s c (hx.call h14 _ (by simp)) (.cons ⟨h1,by simp⟩ h2)
       ·split
        ·exact .go s c (hr _ (by simp)) h2
        ·split
         ·exact .dn ..
         ·exact .go s c (hr _ (by simp)) h2
theorem SimR.same {cs cs':List CodeD}{RF:Fr→Fr→Prop}{B S:Nat}{l:List Int}(h:SimR cs cs' RF B)(hB:S * B≤60000)(h0:RF (fr0 cs (cs.length-1) l) (fr0 cs' (cs'.length-1) l)):Qa0l cs cs' l S:=
 Qbq2 (R:=RelC RF) h.one (fun e v s c x' hx=>by cases hx;rfl) hB (.go _ _ h0 .nil)
theorem Qbjd {cs:List CodeD}{k b:Nat}{R:List Int}{fs:List Fr}{s c:List Int}(h:¬(Qan (Qac cs k) b).jump=3):stJ cs k b R fs s c=.go (frJ cs k b R (nxB (Qan (Qac cs k) b) R)::fs) s c:=by rw[stJ];simp only[h,if_false]
theorem Qbjc {cs:List CodeD}{k b:Nat}{R:List Int}{fs:List Fr}{s c:List Int}(h:(Qan (Qac cs k) b).jump=3):stJ cs k b R fs s c=rtn (rg R (Qan (Qac cs k) b).on) fs s c:=by rw[stJ];simp only[h,if_true]
theorem Qbg8 {q:CodeD}{l:List Int}(h:l.length≤q.regs.toNat):(Qabg q l).length=q.regs.toNat:=by rw[Qabg];simp;omega
structure RunOk (cs:List CodeD):Prop where
 n:0<cs.length
 ok:∀k (h:k<cs.length),(Qac cs k).ok
 jn:∀k b,k<cs.length→b<(Qac cs k).blocks.length→((Qan (Qac cs k) b).next.length:Int)=Qd1 (Qan (Qac cs k) b).jump
 call:∀k b,k<cs.length→∀x∈(Qan (Qac cs k) b).ins,x.op=14→x.n.toNat<k
 op:∀k b,k<cs.length→∀x∈(Qan (Qac cs k) b).ins,1≤x.op∧x.op≤14∧(¬x.op=14→(x.args.length:Int)=Qha x.op)
attribute [local instance] Classical.propDecidable in
theorem Q9f {cs:List CodeD}(h:Qbw cs=true):RunOk cs:=by
 obtain⟨h1,h2,h3⟩:=of_decide_eq_true h;refine⟨by omega,fun k hk=>by rw[Qbj hk];exact Qaq8 h hk,fun k b hk hb=>?_,fun k b hk x hx h14=>?_,fun k b hk x hx=>?_⟩
 ·rw[Qbj hk]at hb⊢;have g:=(h2 k hk).2 b hb;simp only[Q84,Qor,J1,decide_eq_true_eq]at g;rw[Qbs hb];exact g.1.1.1.1
 ·rw[Qbj hk]at hx;by_cases hb:b<cs[k].blocks.length
  ·rw[Qbs hb]at hx;have g:=(h2 k hk).2 b hb;simp only[Q84,J1,Jak]at g;have:=g.1.2 x hx;simp only[Q6l,insL,h14,if_true,J1,decide_eq_true_eq]at this;omega
  ·simp[Qan,Ja,Ja6 (Nat.le_of_not_lt hb)]at hx
 ·rw[Qbj hk]at hx;by_cases hb:b<cs[k].blocks.length
  ·rw[Qbs hb]at hx;have g:=(h2 k hk).2 b hb;simp only[Q84,J1,Jak]at g;have:=g.1.2 x hx;simp only[Q6l,insH,insL,J1,decide_eq_true_eq]at this;refine⟨this.1.1.1.1,this.1.1.1.2,fun h14=>?_⟩;have:=this.2;simp only[h14,if_false,J1,decide_eq_true_eq]at this;exact this.1.1
  ·simp[Qan,Ja,Ja6 (Nat.le_of_not_lt hb)]at hx
theorem Qbsa {cs:List CodeD}(hr:RunOk cs){k b:Nat}(hk:k<cs.length)(hb:b<(Qac cs k).blocks.length)(hj:¬(Qan (Qac cs k) b).jump=3)(R:List Int):ixB (Qan (Qac cs k) b) R<(Qan (Qac cs k) b).next.length:=by
 have h1:=hr.jn k b hk hb;have h2:=((hr.ok k hk).bs b hb).jmp;rw[←Qbs hb]at h2;generalize Qan (Qac cs k) b=y at *;rw[Qd1]at h1;rcases h2 with h2|h2|h2
 ·simp only[h2,if_true]at h1;rw[ixB,if_neg (by omega)];omega
 ·rw[h2]at h1;simp at h1;rw[ixB];split <;> omega
 ·exact absurd h2 hj
theorem Qbgy {cs:List CodeD}(hr:RunOk cs){k b:Nat}(hk:k<cs.length)(hb:b<(Qac cs k).blocks.length)(hj:¬(Qan (Qac cs k) b).jump=3)(R:List Int) :
  ∃v∈(Qan (Qac cs k) b).next,nxB (Qan (Qac cs k) b) R=v.toNat∧(Qan (Qac cs k) b).next[ixB (Qan (Qac cs k) b) R]? = some v:=by
 have h:=Qbsa hr hk hb hj R;refine⟨_,Jc h,?_,Jf h⟩;rw[nxB,Ja,Jf h];rfl
end Go.AE.Y
namespace Go.AE.Y
attribute [local instance] Classical.propDecidable
variable {cs:List CodeD}{q:CodeD}{y:BlkD}
def evB (y:BlkD):BlkD:=if y.jump=2∧y.next.getD 0 0=y.next.getD 1 0 then ⟨y.phis,y.ins,1,0,[y.next.getD 0 0]⟩else y
def evE (q:CodeD):CodeD:=⟨q.params,q.regs,q.blocks.map evB⟩
theorem Qx8 (y:BlkD):(evB y).phis=y.phis∧(evB y).ins=y.ins:=by rw[evB];split <;> exact⟨rfl,rfl⟩
theorem Qano (hn:(y.next.length:Int)=Qd1 y.jump)(hj:y.jump=2):y.next=[y.next.getD 0 0,y.next.getD 1 0]:=by
 rw[hj]at hn;have h2:y.next.length=2:=by simp[Qd1]at hn;omega
 match h:y.next,h2 with
 |[a,c],_=>rfl
theorem Qboe (hn:(y.next.length:Int)=Qd1 y.jump)(v:Int):v∈(evB y).next↔v∈y.next:=by
 rw[evB];split
 ·rename_i h
  have e:=Qano hn h.1;generalize y.next.getD 0 0=a at *;generalize y.next.getD 1 0=c at *;obtain⟨_,rfl⟩:=h;rw[e];simp
 ·rfl
theorem Q9t (q:CodeD):(evE q).blocks.length=q.blocks.length:=by simp[evE]
theorem Qamo (q:CodeD)(b:Nat):Qan (evE q) b=evB (Qan q b):=by
 rw[Qan,Qan,evE];simp only[Ja,Jr]
 cases q.blocks[b]? with
 |none=>
  show (⟨[],[],0,0,[]⟩:BlkD)=evB ⟨[],[],0,0,[]⟩;rw[evB,if_neg];rintro⟨h,_⟩;exact absurd h (by decide)
 |some y=>rfl
theorem Qa8n (hn:∀b,b<q.blocks.length→((Qan q b).next.length:Int)=Qd1 (Qan q b).jump)(b:Int):Q8 (gnx (evE q)) b (evE q).blocks.length=Q8 (gnx q) b q.blocks.length:=by
 rw[Q8,Q8,Q9t];congr 1;refine List.filter_congr fun i hi=>?_;have hi:=J9.1 hi;rw[Qart (by rw[Q9t];exact hi),Qart hi,Qamo,Bool.eq_iff_iff,Jas,Jas];exact Qboe (hn i hi) b
structure EvFr (cs:List CodeD)(f f':Fr):Prop where
 k:f.k<cs.length
 b:f.b<(Qac cs f.k).blocks.length
 t:∃p,(Qan (Qac cs f.k) f.b).ins=p++f.todo
 e:f'=f
theorem Qben {k:Nat}(hk:k<cs.length):Qac (cs.map evE) k=evE (Qac cs k):=by
 rw[Qbj (by simpa using hk),Qbj hk];simp
theorem Qbod (hr:RunOk cs){k:Nat}(hk:k<cs.length)(l:List Int):EvFr cs (fr0 cs k l) (fr0 (cs.map evE) k l):=by
 refine⟨hk,(hr.ok k hk).b0,⟨[],rfl⟩,?_⟩;rw[fr0,fr0,Qben hk,Qamo,(Qx8 _).2];rfl
theorem Qbkd (hr:RunOk cs):SimR cs (cs.map evE) (EvFr cs) 1:=by
 have hins:∀k b x t R f',EvFr cs ⟨k,b,x::t,R⟩ f'→∃k' b' x' t',f'=⟨k',b',x'::t',R⟩∧x'=x∧k'=k∧x∈(Qan (Qac cs k) b).ins∧k<cs.length∧∀R',R'.length=R.length→EvFr cs ⟨k,b,t,R'⟩ ⟨k',b',t',R'⟩:=fun k b x t R f' h=>by
  obtain⟨hk,hb,⟨p,hp⟩,rfl⟩:=h;exact⟨_,_,_,_,rfl,rfl,rfl,by rw[hp];simp,hk,fun R' _=>⟨hk,hb,⟨p++[x],by rw[hp];simp⟩,rfl⟩⟩
 refine⟨Jj _,fun k b x t R f' h=>?_,fun k b R f' fs fs' s c h hf=>⟨1,Jj _,?_⟩⟩
 ·obtain⟨k',b',x',t',rfl,rfl,rfl,hx,hk,hR⟩:=hins _ _ _ _ _ _ h;exact⟨_,_,_,_,rfl,⟨rfl,rfl,rfl,fun _=>rfl,fun h14 l _=>Qbod hr (Nat.lt_trans (hr.call _ b hk _ hx h14) hk) l⟩,hR⟩
 ·obtain⟨hk,hb,⟨p,hp⟩,rfl⟩:=h;change k<cs.length at hk;change b<(Qac cs k).blocks.length at hb;have ho:=hr.ok k hk;have hblk:Qan (Qac (cs.map evE) k) b=evB (Qan (Qac cs k) b):=by rw[Qben hk,Qamo]
  have hn:=hr.jn k b hk hb;show RelC _ (stJ cs k b R fs s c) (stJ (cs.map evE) k b R fs' s c);by_cases hj:(Qan (Qac cs k) b).jump=3
  ·have e:evB (Qan (Qac cs k) b)=Qan (Qac cs k) b:=by rw[evB,if_neg (fun h=>by omega)]
   rw[Qbjc hj,Qbjc (by rw[hblk,e];exact hj),hblk,e];exact SimR.rtnF hf fun k b x t R f' h=>by
    obtain⟨k',b',x',t',rfl,rfl,_,_,_,hR⟩:=hins _ _ _ _ _ _ h;exact⟨_,_,_,_,rfl,rfl,hR⟩
  ·have hj':¬(evB (Qan (Qac cs k) b)).jump=3:=by
    rw[evB];split
    ·simp
    ·exact hj
   obtain⟨v,hv,e,e2⟩:=Qbgy hr hk hb hj R;have hvn:=(ho.bs b hb).nx v (by rw[Qbs hb]at hv;exact hv);have e':nxB (evB (Qan (Qac cs k) b)) R=nxB (Qan (Qac cs k) b) R:=by
    rw[evB];split
    ·rename_i h
     rw[nxB,nxB,ixB,ixB];rw[if_neg (fun hh=>absurd (show (1:Int)=2 from hh.1) (by decide))];split
     ·rw[←h.2];rfl
     ·rfl
    ·rfl
   rw[Qbjd hj,Qbjd (by rw[hblk];exact hj'),hblk,e',e];have hm:v.toNat<(Qac cs k).blocks.length:=by omega
   refine .go s c ⟨hk,hm,⟨[],rfl⟩,?_⟩ hf;rw[frJ,frJ,Qben hk,Qamo,(Qx8 _).1,(Qx8 _).2];have:wayI (evE (Qac cs k)) v.toNat b=wayI (Qac cs k) v.toNat b:=by
    rw[wayI,wayI,Qa8n fun b hb=>hr.jn k b hk hb]
   rw[this]
theorem Qbet (hr:RunOk cs)(l:List Int){S:Nat}(hS:S≤60000):Qa0l cs (cs.map evE) l S:=by
 refine (Qbkd hr).same (by omega) ?_;rw[Jd];exact Qbod hr (by have:=hr.n;omega) l
theorem Qbpk (y:BlkD):Qx7 (evB y)=Qx7 y:=by rw[Qx7,Qx7,(Qx8 y).1,(Qx8 y).2]
theorem Qarq (hg:Qbw cs=true):Qbw (cs.map evE)=true:=by
 have hr:=Q9f hg;obtain⟨h1,h2,h3⟩:=of_decide_eq_true hg;refine decide_eq_true ⟨by rw[Jd];exact h1,fun k hk=>?_,?_⟩
 ·have hk':k<cs.length:=by rw[Jd]at hk;exact hk
  obtain⟨g1,g2⟩:=h2 k hk';have e:(cs.map evE)[k]=evE cs[k]:=by rw[Jal]
  have hpr:∀b:Int,Q8 (gnx (evE cs[k])) b (evE cs[k]).blocks.length=Q8 (gnx cs[k]) b cs[k].blocks.length:=fun b=>by
   have:=Qa8n (q:=Qac cs k) (fun b hb=>hr.jn k b hk' hb) b
   rwa [Qbj hk']at this
  refine⟨?_,fun b hb=>?_⟩
  ·rw[e];simp only[Qpf,J1,decide_eq_true_eq]at g1⊢;rw[Q9t];exact g1
  ·have hb':b<cs[k].blocks.length:=by rw[e,Q9t]at hb;exact hb
   have g:=g2 b hb';have hn:(cs[k].blocks[b].next.length:Int)=Qd1 cs[k].blocks[b].jump:=by
    have:=hr.jn k b hk' (by rw[Qbj hk'];exact hb')
    rwa [Qbj hk',Qbs hb']at this
   have eb:(cs.map evE)[k].blocks[b]=evB cs[k].blocks[b]:=by simp only[e,evE,Jal]
   have er:∀m,rgOf (cs.map evE) m=rgOf cs m:=fun m=>by
    rw[rgOf,rgOf,Jr];cases cs[m]? <;> rfl
   have ep:∀m,pmOf (cs.map evE) m=pmOf cs m:=fun m=>by
    rw[pmOf,pmOf,Jr];cases cs[m]? <;> rfl
   have hG:(fun i=>(cs[k].blocks.map BlkD.next).getD i [])=gnx cs[k]:=rfl;have hG':(fun i=>((evE cs[k]).blocks.map BlkD.next).getD i [])=gnx (evE cs[k]):=rfl;rw[eb,e];simp only[Q84,J1,Jak,Qo,hG]at g;simp only[Q84,J1,Jak,Qo,hG',(Qx8 _).1,(Qx8 _).2];obtain⟨⟨⟨gj,gn⟩,gi⟩,gp⟩:=g;refine⟨⟨⟨?_,fun x hx=>?_⟩,fun x hx=>?_⟩,fun x hx=>?_⟩
   ·rw[evB];split
    ·simp[Qor,Qd1]
    ·exact gj
   ·rw[Q9t];exact gn x ((Qboe hn x).1 hx)
   ·have:=gi x hx;simp only[Q6l,insL,er,ep]at this⊢;exact this
   ·rw[hpr];exact gp x hx
 ·have:Qoo Q9p (cs.map evE)=Qoo Q9p cs:=by
   simp only[Qoo,Jao];congr 1;refine Jax fun q _=>?_;show Q9p (evE q)=Q9p q;simp only[Q9p,Qoo,evE,Jao];congr 1;exact Jax fun y _=>Qbpk y
  rw[this];exact h3
end Go.AE.Y
namespace Go.AE.Y
attribute [local go_sem] cond_true cond_false Bool.not_true Bool.not_false
open Go.Proofs.Tryz
variable {H H0:Heap}{K:V→Heap→Prop}{E B Lg:List (Nat×Obj)}
theorem OBlk.row_eq (o:OBlk):o.row=[o.pc,o.ic,.int .i64 o.jump,.int .i64 o.on,.vsl o.nx.y 1 0 o.nx.ns.length]:=rfl
def OBlk.rest (o:OBlk):List (Nat×Obj):=o.phis.flatMap OPhi.lg++(o.pl++(o.ins.flatMap OIns.lg++o.il))
theorem OBlk.lg_eq (o:OBlk):o.lg=[(o.nx.y,.vec 1 (Qb o.nx.ns))]++o.rest:=rfl
theorem KBlk.row_eq (b:KBlk):b.row=[b.pc,.sl false 4 (Qaq b.y.ins),.int .i64 b.y.jump,.int .i64 b.y.on,.sl false 1 (Qb b.y.next)]:=rfl
structure PkS (q:CodeD)(P:List Int)(l:List Nat)(i:Nat)(ks:List KBlk):Prop where
 n:ks.length=l.length
 b:∀j (h:j<ks.length),PkB q P (l.getD j 0) ks[j].y
 ok:∀b∈ks,b.ok
 a:∀j (h:j<ks.length),j<i→∀p∈ks[j].y.phis,PkA q P l j p
 u:∀j (h:j<ks.length),i≤j→ks[j].y.phis=(Qan q (l.getD j 0)).phis
theorem Qdr {α β:Type}{f:α→List β}:∀{l:List α} {i:Nat} (h:i<l.length),(l.flatMap f).Perm (f l[i]++(l.eraseIdx i).flatMap f)
 |[],i,h=>by simp at h
 |x::l,0,h=>by simp
 |x::l,i+1,h=>by
  have:=Qdr (f:=f) (l:=l) (i:=i) (by simpa using h);simp only[Jae,J0,List.eraseIdx_cons_succ];refine (List.Perm.append_left _ this).trans ?_;rw[←J3,←J3];exact List.Perm.append_right _ Jv
theorem vslc {H:Heap}{z sz n:Nat}{rows:List (List C)}(h:H z=.vec sz rows)(hn:n=rows.length):Slc H sz rows (.vsl z sz 0 n):=by
 subst hn;exact⟨by simp only[okSl,h,Ji,Jj,and_self],rfl,by simp only[rowsOf,h,Jbe,Jam],rfl⟩
variable {q:CodeD}{P:List Int}{l:List Nat}{ks:List KBlk}
theorem PkS.step {i:Nat}(hS:PkS q P l i ks)(hi:i<ks.length){ph:List PhiD}{pl:List (Nat×Obj)}(h1:ph.map PhiD.to=(Qan q (l.getD i 0)).phis.map PhiD.to)(h2:∀p∈ph,PkA q P l i p)(hg:Gr pl 2 (Q1 ph) ks[i].pc) :
  PkS q P l (i+1) (ks.set i ⟨⟨ph,ks[i].y.ins,ks[i].y.jump,ks[i].y.on,ks[i].y.next⟩,ks[i].pc,pl⟩):=by
 have hb:=hS.b i hi;refine⟨by rw[Jq];exact hS.n,fun j h=>?_,fun w hw=>?_,fun j h hj=>?_,fun j h hj=>?_⟩
 ·have h':j<ks.length:=by simpa using h
  rw[J5];split
  ·rename_i e;subst e;exact⟨hb.j,hb.o,hb.i,hb.n,h1⟩
  ·exact hS.b j h'
 ·rcases J8 hw with h|rfl
  ·exact hS.ok w h
  ·exact hg
 ·have h':j<ks.length:=by simpa using h
  rw[J5];split
  ·rename_i e;subst e;exact h2
  ·exact hS.a j h' (by omega)
 ·have h':j<ks.length:=by simpa using h
  rw[J5];split
  ·omega
  ·exact hS.u j h' (by omega)
theorem PkS.rows {i:Nat}{ph:List PhiD}{pl:List (Nat×Obj)}(hi:i<ks.length):(ks.set i ⟨⟨ph,ks[i].y.ins,ks[i].y.jump,ks[i].y.on,ks[i].y.next⟩,ks[i].pc,pl⟩).map KBlk.row=ks.map KBlk.row:=by
 rw[Ja0];have:(KBlk.mk ⟨ph,ks[i].y.ins,ks[i].y.jump,ks[i].y.on,ks[i].y.next⟩ ks[i].pc pl).row=(ks.map KBlk.row)[i]'(by simpa using hi):=by simp[KBlk.row,kRow]
 rw[this,Jbb]
set_option maxHeartbeats 8000000 in
theorem Qbg1 {H0 H:Heap}{E:List (Nat×Obj)}{Q:X→Env→Heap→Prop}{e:Env}{fl fl2:Bool}{x4 x6 zb:Nat}{ks0:List KBlk}(ho:q.ok)(hp:Pk q l)(hP:Qbd3 q.blocks.length l P)(hS:PkS q P l 0 ks0)
  (kn:Kn H0 H E ([(x4,.st [.int .i64 0,.int .i64 0,.sl true 5 []]),(x6,.st [.int .i64 q.params,.int .i64 q.regs,.vsl zb 5 0 l.length]),(zb,.vec 5 (ks0.map KBlk.row))]++ks0.flatMap KBlk.pl))
  (l1:lk 1 e=.c (.sl fl2 1 (Qaf l))) (l2:lk 2 e=.c (.pp [.int .i64 q.params,.int .i64 q.regs,.sl fl 5 (Qm q.blocks)])) (l4:lk 4 e=.c (.ptr x4 0)) (l6:lk 6 e=.c (.ptr x6 0))
  (hQ:∀(e:Env) (H':Heap) (ks:List KBlk),PkS q P l l.length ks→Kn H0 H' E ([(x4,.st [.int .i64 q.params,.int .i64 q.regs,.vsl zb 5 0 l.length]),(x6,.st [.int .i64 q.params,.int .i64 q.regs,.vsl zb 5 0 l.length]),(zb,.vec 5 (ks.map KBlk.row))]++ks.flatMap KBlk.pl)→
   lk 4 e=.c (.ptr x4 0)→Q .ret e H'):Qah prog Q3u Q e H:=by
 have hb1:=ho.b1;have hln:=hp.n;obtain⟨X4,hX4⟩:∃o,o=Obj.st [.int .i64 0,.int .i64 0,.sl true 5 []]:=⟨_,rfl⟩;obtain⟨X6,hX6⟩:∃o,o=Obj.st [.int .i64 q.params,.int .i64 q.regs,.vsl zb 5 0 l.length]:=⟨_,rfl⟩;rw[←hX4,←hX6]at kn;refine Qy ?_;refine Qa ?_;simp only[go_sem,l1,l2,l4,l6];refine Qh (Qf (Qw (fun m e1 H1=>∃(i:Nat) (ks:List KBlk),m=l.length-i∧i≤l.length∧PkS q P l i ks∧
  Kn H0 H1 E ([(x4,X4),(x6,X6),(zb,.vec 5 (ks.map KBlk.row))]++ks.flatMap KBlk.pl)∧
  lk 1 e1=.c (.sl fl2 1 (Qaf l))∧lk 2 e1=.c (.pp [.int .i64 q.params,.int .i64 q.regs,.sl fl 5 (Qm q.blocks)])∧lk 4 e1=.c (.ptr x4 0)∧lk 6 e1=.c (.ptr x6 0)∧lk 10 e1=.c (.int .i64 i)) l.length ?_ ?_))
 ·exact⟨0,ks0,by omega,by omega,hS,kn,rfl,rfl,rfl,rfl,rfl⟩
 ·clear kn hS l1 l2 l4 l6;rintro m e1 H1 ⟨i,ks,hm,hi,hS,kn,l1,l2,l4,l6,l10⟩;have hkl:=hS.n;refine Qy ?_;refine Qa ?_;simp only[go_sem,l1,l2,l4,l6,l10,Q7];try intro _
  refine Qh (Qe rfl ?_ ?_)
  ·intro hc;have hlt:i<l.length:=by simpa using hc
   have hki:i<ks.length:=by omega
   obtain⟨b,hb⟩:∃b,l[i]=b:=⟨_,rfl⟩;have hbm:b∈l:=by rw[←hb];exact Jc hlt
   have hbn:=hp.lt b hbm;have hgd:l.getD i 0=b:=by simp[Ja,hlt,hb]
   obtain⟨kb,hkb⟩:∃kb,ks[i]=kb:=⟨_,rfl⟩;have hkbo:Gr kb.pl 2 (Q1 kb.y.phis) kb.pc:=by rw[←hkb];exact hS.ok _ (Jc hki)
   have hkbB:PkB q P b kb.y:=by have:=hS.b i hki;rw[hgd,hkb]at this;exact this
   have hkbU:kb.y.phis=(Qan q b).phis:=by have:=hS.u i hki (Jj _);rw[hgd,hkb]at this;exact this
   have hyo:=ho.bs b hbn;have hil:=ho.il b hbn;rw[←Qbs hbn]at hyo hil;obtain⟨R,hR⟩:∃R,(ks.eraseIdx i).flatMap KBlk.pl=R:=⟨_,rfl⟩;have hflat:(ks.flatMap KBlk.pl).Perm (kb.pl++R):=by rw[←hR,←hkb];exact Qdr hki
   obtain⟨RW,hRW⟩:∃RW,ks.map KBlk.row=RW:=⟨_,rfl⟩;have hRWl:RW.length=l.length:=by rw[←hRW,Jd,hkl]
   have hRWg:RW.getD i []=[kb.pc,.sl false 4 (Qaq kb.y.ins),.int .i64 kb.y.jump,.int .i64 kb.y.on,.sl false 1 (Qb kb.y.next)]:=by
    rw[←hRW,Ja];simp only[Jr,Jf hki,hkb,Jz,Jw];exact kb.row_eq
   have hRWt:RW.take l.length=RW:=Jh (by omega);rw[hRW]at kn;have hx6:H1 x6=X6:=(kn.get (x6,X6) (by simp)).1;rw[hX6]at hx6;refine Qi ?_;try simp only[go_sem]
   refine Qh (Qf ?_);refine Qag ?_;simp only[go_sem,l1,l2,l4,l6,l10,hlt,Q7,Qau _ _ hlt,hgd];refine Qfm (nx:=gnx q) (.mk' _ _ _ _) rfl (Qg0 H1 q fl).x fun H2 hu=>?_;have kn:=kn.call0 hu;simp only[go_sem,Qzm,Qo];obtain⟨olds,hol⟩:∃o,Q8 (gnx q) (b:Int) q.blocks.length=o:=⟨_,rfl⟩;rw[hol];have hx6:H2 x6=X6:=(kn.get (x6,X6) (by simp)).1;rw[hX6]at hx6;have hzb:H2 zb=.vec 5 RW:=(kn.get (zb,.vec 5 RW) (by simp)).1;refine Qa ?_;simp only[go_sem,l1,l2,l4,l6,l10,hx6];refine Qfm (nx:=pkN q P l) (vslc hzb hRWl.symm) rfl (fun j hj=>?_) fun H3 hu=>?_
   ·have hj':j<ks.length:=(by omega);have hj2:j<l.length:=(by omega);have hjB:=hS.b j hj';rw[(hp.get hj2).1]at hjB;refine⟨ks[j].pc,.sl false 4 (Qaq ks[j].y.ins),.int .i64 ks[j].y.jump,.int .i64 ks[j].y.on,false,?_⟩;rw[←hRW,Ja];simp only[Jr,Jf hj',Jz,Jw];rw[Qbg2 hj2,←hjB.n];exact KBlk.row_eq _
   have kn:=kn.call0 hu;rw[hRWl];obtain⟨news,hnw⟩:∃o,Q8 (pkN q P l) (i:Int) l.length=o:=⟨_,rfl⟩;rw[hnw];have hnl:news.length≤l.length:=by rw[←hnw];exact Qcs _ _ _
   simp only[go_sem,Qzn];refine Qa ?_;simp only[go_sem];have kn:Kn H0 H3 E (([(x4,X4),(x6,X6),(zb,.vec 5 RW)]++R)++kb.pl):=kn.perm (Ql fun f hf h0 hc hp=>by
    have:=hp _ _ hflat;simp only[hf]at this⊢;omega)
   refine Qf (Qw (fun m e1 H1=>∃(k:Nat) (ph:List PhiD) (pl:List (Nat×Obj)),m=ph.length-k∧k≤ph.length∧ph.map PhiD.to=(Qan q b).phis.map PhiD.to∧(∀j (h:j<ph.length),j<k→PkA q P l i ph[j])∧(∀j,k≤j→ph[j]? = (Qan q b).phis[j]?)∧Gr pl 2 (Q1 ph) kb.pc∧
    Kn H0 H1 E (([(x4,X4),(x6,X6),(zb,.vec 5 RW)]++R)++pl)∧
    lk 1 e1=.c (.sl fl2 1 (Qaf l))∧lk 2 e1=.c (.pp [.int .i64 q.params,.int .i64 q.regs,.sl fl 5 (Qm q.blocks)])∧lk 4 e1=.c (.ptr x4 0)∧lk 6 e1=.c (.ptr x6 0)∧lk 10 e1=.c (.int .i64 i)∧lk 11 e1=.c (.sl false 1 (Qb olds))∧lk 12 e1=.c (.sl false 1 (Qb news))∧lk 13 e1=.c (.int .i64 k)) kb.y.phis.length ?_ ?_)
   ·exact⟨0,kb.y.phis,kb.pl,by omega,by omega,by rw[hkbU],fun j h hj=>by omega,fun j _=>by rw[hkbU],hkbo,kn,rfl,rfl,rfl,rfl,rfl,rfl,rfl,rfl⟩
   ·clear kn hx6 hzb hflat hu l1 l2 l4 l6 l10;rintro m2 e2 H4 ⟨k,ph,pl,hm2,hk,hto,hpa,hpu,hgr,kn,l1,l2,l4,l6,l10,l11,l12,l13⟩;have hphl:ph.length=(Qan q b).phis.length:=(by have:=congrArg List.length hto;simpa using this);have hx6:H4 x6=X6:=(kn.get (x6,X6) (by simp)).1;rw[hX6]at hx6;have hzb:H4 zb=.vec 5 RW:=(kn.get (zb,.vec 5 RW) (by simp)).1;have hpw:=hgr.isOw;have hpok:=eq_true (hgr.get kn).1;have hplen:=hgr.lenC;rw[Q0]at hplen;refine Qy ?_;refine Qa ?_;simp only[go_sem,l1,l2,l4,l6,l10,l11,l12,l13,hx6,hzb,hRWl,hRWt,hRWg,hlt,hpw,hpok,hplen,Ji,Jj];try intro _
    refine Qh (Qe rfl ?_ ?_)
    ·intro hc2;have hlt2:k<ph.length:=(by simpa using hc2);obtain⟨z,hpc,hpl⟩:∃z,kb.pc=.vsl z 2 0 ph.length∧pl=[(z,.vec 2 (Q1 ph))]:=by
      rcases hgr with ⟨_,h,_⟩|⟨y,h1,h2⟩
      ·have:=congrArg List.length h;rw[Q0]at this;simp only[Jk]at this;omega
      ·exact⟨y,by rw[h1,Q0],h2⟩
     rw[hpc]at hRWg;rw[hpl]at kn;clear hpw hpok hplen;obtain⟨p,hpk⟩:∃p,ph[k]=p:=⟨_,rfl⟩;have hpm:p∈(Qan q b).phis:=by
      have h1:=hpu k (Jj _);rw[Jf hlt2,hpk]at h1;exact Jaw h1.symm
     have hpal:p.args.length=olds.length:=(by rw[←hol];exact hyo.pal p hpm);have hpargs:=hyo.pargs p hpm;have hptk:(Q1 ph).take ph.length=Q1 ph:=Jh (by rw[Q0];omega);have hpg:(Q1 ph).getD k []=[.int .i64 p.to,.sl false 1 (Qb p.args)]:=(by rw[Qaw _ _ hlt2,hpk];rfl);refine Qi ?_;try simp only[go_sem]
     refine Qh (Qf ?_);refine Qa ?_;simp only[go_sem];refine Qy ?_;refine Qa ?_;simp only[go_sem];refine Qh (Qf (Qw (fun m e1 H1=>∃(j:Nat) (av:List Int) (t:C) (Lg:List (Nat×Obj)),m=news.length-j∧j≤news.length∧av.length=j∧(∀v∈av,rIn q v)∧Gr Lg 1 (Qb av) t∧
      Kn H0 H1 E (([(x4,X4),(x6,X6),(zb,.vec 5 RW)]++R++[(z,.vec 2 (Q1 ph))])++Lg)∧
      lk 1 e1=.c (.sl fl2 1 (Qaf l))∧lk 2 e1=.c (.pp [.int .i64 q.params,.int .i64 q.regs,.sl fl 5 (Qm q.blocks)])∧lk 4 e1=.c (.ptr x4 0)∧lk 6 e1=.c (.ptr x6 0)∧lk 10 e1=.c (.int .i64 i)∧lk 11 e1=.c (.sl false 1 (Qb olds))∧lk 12 e1=.c (.sl false 1 (Qb news))∧lk 13 e1=.c (.int .i64 k)∧
      lk 14 e1=.c t∧lk 15 e1=.c (.int .i64 j)) news.length ?_ ?_))
     ·exact⟨0,[],_,[],by omega,by omega,rfl,by simp,.nil 1,by simpa using kn,rfl,rfl,rfl,rfl,rfl,rfl,rfl,rfl,rfl,rfl⟩
     ·clear kn hx6 hzb l1 l2 l4 l6 l10 l11 l12 l13;rintro m3 e3 H5 ⟨j,av,t,Lg,hm3,hj,hasl,has,hgt,kn,l1,l2,l4,l6,l10,l11,l12,l13,l14,l15⟩;have htw:=hgt.isOw;refine Qy ?_;refine Qa ?_;simp only[go_sem,l1,l2,l4,l6,l10,l11,l12,l13,l14,l15,htw,Qd];try intro _
      refine Qh (Qe rfl ?_ ?_)
      ·intro hc3;have hlt3:j<news.length:=(by simpa using hc3);have hnm:news[j]∈Q8 (pkN q P l) (i:Int) l.length:=(by rw[hnw];exact Jc hlt3);obtain⟨j',hj',hnj,hmo⟩:=hp.preds ho hP hlt hnm;rw[hb,hol]at hmo;have hgd3:news.getD j 0=(j':Int):=(by rw[←hnj];simp[Ja,hlt3]);have hgd4:l.getD j' 0=l[j']:=(by simp[Ja,hj']);have hx6:H5 x6=X6:=(kn.get (x6,X6) (by simp)).1;rw[hX6]at hx6;have hzb:H5 zb=.vec 5 RW:=(kn.get (zb,.vec 5 RW) (by simp)).1;have hz:H5 z=.vec 2 (Q1 ph):=(kn.get (z,.vec 2 (Q1 ph)) (by simp)).1;refine Qi ?_;try simp only[go_sem]
       refine Qh (Qf ?_);refine Qa2 ?_;simp only[go_sem,hx6,hzb,hz,hRWl,hRWt,hRWg,hlt,hlt2,hptk,hpg,Q0,hlt3,Qd,Qn _ _ hlt3,hgd3,hj',Q7,Qau _ _ hj',hgd4,htw,Ji,Jj];refine Qamz (ns:=olds) (.mk' _ _ _ _) rfl fun r hr=>?_;obtain⟨a,ra,hal,_⟩:∃a:Nat,r=(a:Int)∧a<olds.length∧True:=by
        rcases hr with ⟨_,hn⟩|⟨a,h1,h2,_⟩
        ·exact absurd hmo hn
        ·exact⟨a,h1,h2,trivial⟩
       have hal2:a<p.args.length:=(by omega);have hgd5:p.args.getD a 0∈p.args:=Qj8 hal2;simp only[go_sem,Qzp,ra,hx6,hzb,hz,hRWl,hRWt,hRWg,hlt,hlt2,hptk,hpg,Q0,hal2,Qd,Qn _ _ hal2,htw,Ji,Jj];refine kn.growR (new:=Qb [p.args.getD a 0]) hgt (.mk' _ _ _ _) (Qp _) (by simp only[Qd,LIM,Jg,Jk];omega) fun t2 Lg2 H6 hgt2 ht2 kn=>?_;simp only[go_sem,Qzo,ht2];refine Qq ?_;simp only[go_sem,ht2];refine⟨Qr (by omega) (by omega),?_⟩;show ∃m,_;refine⟨news.length-(j+1),by omega,j+1,av++[p.args.getD a 0],t2,Lg2,rfl,by omega,by simp[hasl],fun v hv=>?_,by rw[Qbg];exact hgt2,kn,rfl,rfl,rfl,rfl,rfl,rfl,rfl,rfl,rfl,by simp[lk]⟩;rcases Jo.1 hv with hv|hv
       ·exact has v hv
       ·simp only[Jb]at hv;rw[hv];exact hpargs _ hgd5
      ·intro hc3;have hje:j=news.length:=(by have:news.length≤j:=(by simpa using hc3);omega);refine Qv ?_;simp only[go_sem,X.next];obtain⟨S,hSL,hSB,hfz,kn⟩:=kn.freeze0;have hft:FrzC H5 S t (.sl false 1 (Qb av)):=Gr.frzM hgt hSL (FrzR.same (Qp _));refine c_gh (Qdt S (Q1k ?_) hfz) (e':=[(1,.c (.sl fl2 1 (Qaf l))),(2,.c (.pp [.int .i64 q.params,.int .i64 q.regs,.sl fl 5 (Qm q.blocks)])),(4,.c (.ptr x4 0)),(6,.c (.ptr x6 0)),(10,.c (.int .i64 i)),(11,.c (.sl false 1 (Qb olds))),(12,.c (.sl false 1 (Qb news))),(13,.c (.int .i64 k)),(14,.c (.sl false 1 (Qb av)))]) ?_
       ·simp only[Jp,l1,l2,l4,l6,l10,l11,l12,l13,l14];exact⟨.c _ _ (.same _ rfl),.c _ _ (.same _ rfl),.c _ _ (.same _ rfl),.c _ _ (.same _ rfl),.c _ _ (.same _ rfl),.c _ _ (.same _ rfl),.c _ _ (.same _ rfl),.c _ _ (.same _ rfl),.c _ _ hft,by simp⟩
       generalize H5.frz S=H6 at *;have hx6:H6 x6=X6:=(kn.get (x6,X6) (by simp)).1;rw[hX6]at hx6;have hzb:H6 zb=.vec 5 RW:=(kn.get (zb,.vec 5 RW) (by simp)).1;have hz:H6 z=.vec 2 (Q1 ph):=(kn.get (z,.vec 2 (Q1 ph)) (by simp)).1;have hset:(Q1 ph).set k [.int .i64 p.to,.sl false 1 (Qb av)]=Q1 (ph.set k ⟨p.to,av⟩):=Qbbd ph k ⟨p.to,av⟩;refine Qq ?_;simp only[go_sem,hx6,hzb,hz,hRWl,hRWt,hRWg,hlt,hlt2,hptk,hpg,hset,Q0,Ji,Jj];intro H7 h7;have kn:Kn H0 H7 E (([(x4,X4),(x6,X6),(zb,.vec 5 RW)]++R)++[(z,.vec 2 (Q1 (ph.set k ⟨p.to,av⟩)))]):=by
        have:=kn.stL ([(x4,X4),(x6,X6),(zb,Obj.vec 5 RW)]++R).length (x:=z) (o:=.vec 2 (Q1 ph)) (by simp) h7;simpa using this
       refine Qq ?_;simp only[go_sem];refine⟨Qr (by omega) (by omega),?_⟩;show ∃m,_;refine⟨ph.length-(k+1),by omega,k+1,ph.set k ⟨p.to,av⟩,_,by rw[Jq],by rw[Jq];omega,?_,fun j2 h2 hj2=>?_,fun j2 hj2=>?_,?_,kn,rfl,rfl,rfl,rfl,rfl,rfl,rfl,by simp[lk]⟩
       ·rw[Ja0,hto];have e:p.to=((Qan q b).phis.map PhiD.to)[k]'(by rw[Jd];omega):=by
         have h1:(ph.map PhiD.to)[k]? = some p.to:=(by simp[hlt2,hpk]);rw[hto,Jf (by rw[Jd];omega)]at h1;exact (Jag h1).symm
        show List.set _ k p.to=_
        conv=>lhs;rw[e]
        exact Jbb _
       ·rw[J5];split
        ·exact⟨by show av.length=_;rw[hnw];omega,has⟩
        ·exact hpa j2 (by simpa using h2) (by omega)
       ·rw[Jbd (by omega)];exact hpu j2 (by omega)
       ·rw[hpc];exact .mk _ _ _ (by rw[Q0,Jq])
    ·intro hc2;have hge:ph.length≤k:=(by simpa using hc2);refine Qv ?_;simp only[go_sem,X.next];refine Qq ?_;simp only[go_sem,l1,l2,l4,l6,l10];refine⟨Qr (by omega) (by omega),?_⟩;show ∃m,_;have hst:=hS.step hki (ph:=ph) (pl:=pl) (by rw[hgd];exact hto) (fun w hw=>by
      obtain⟨j,hj,rfl⟩:=Jab.1 hw;exact hpa j hj (by omega)) (by rw[hkb];exact hgr)
     have hrw:=PkS.rows (ks:=ks) (ph:=ph) (pl:=pl) hki;have hs2:=Qdr (f:=KBlk.pl) (l:=ks.set i ⟨⟨ph,ks[i].y.ins,ks[i].y.jump,ks[i].y.on,ks[i].y.next⟩,ks[i].pc,pl⟩) (i:=i) (by rw[Jq];exact hki);rw[Ja7,Jav,hR]at hs2;generalize ks.set i ⟨⟨ph,ks[i].y.ins,ks[i].y.jump,ks[i].y.on,ks[i].y.next⟩,ks[i].pc,pl⟩=ks' at *;have kn:Kn H0 H4 E ([(x4,X4),(x6,X6),(zb,.vec 5 (ks'.map KBlk.row))]++ks'.flatMap KBlk.pl):=by
      rw[hrw,hRW];refine kn.perm (Ql fun f hf h0 hc hp=>?_);have:=hp _ _ hs2;simp only[hf]at this⊢;omega
     exact⟨l.length-(i+1),by omega,i+1,ks',rfl,by omega,hst,kn,rfl,rfl,rfl,rfl,by simp[lk]⟩
  ·intro hc;have hie:i=l.length:=by have:l.length≤i:=(by simpa using hc);omega
   subst hie;refine Qv ?_;simp only[go_sem,X.next];have hx4:=kn.l 0 rfl;have hx6:=kn.l 1 rfl;rw[hX6]at hx6;rw[hX4]at hx4;refine Qa ?_;simp only[go_sem,l4,l6,hx4,hx6];intro H2 h2;have kn:=kn.stL 0 rfl h2;refine Qk ?_;refine hQ _ _ ks hS ?_ (by simp[lk]);rw[hX6]at kn;exact kn
set_option maxHeartbeats 8000000 in
theorem Qbap {q:CodeD}{fl fl2:Bool}{l:List Nat}(ho:q.ok)(hp:Pk q l)
  (hK:∀(d:CodeD) z H',PkR q d→Kn H H' [] [(z,.vec 5 (Qm d.blocks))]→K (.ag [.int .i64 d.params,.int .i64 d.regs,.vsl z 5 0 d.blocks.length]) H') :
  Qs prog Qtm [.ag [.int .i64 q.params,.int .i64 q.regs,.sl fl 5 (Qm q.blocks)],.c (.sl fl2 1 (Qaf l))] H K:=by
 have hb1:=ho.b1;have hln:=hp.n;have hl0:0<l.length:=by
  have:=hp.z
  cases l with
  |nil=>simp at this
  |cons=>simp
 refine Qcb ?_;refine Qc Qaj Qbf4 ?_;refine Qa ?_;simp only[go_sem];intro x4 hx4 H1 h1;have kn:=(Kn.start0 H).al hx4 h1;refine Qa ?_;simp only[go_sem,Qo];try intro _
 refine Qbaq (n:=q.blocks.length) (by omega) (by omega) hp.lt fun P H2 hP hu=>?_;have kn:=kn.call0 hu;simp only[go_sem,Q3v];refine Qa ?_;simp only[go_sem];intro x6 hx6 H3 h3;have kn:=kn.al hx6 h3;have hx6:=kn.l 1 rfl;simp only[go_sem,Q3w,hx6];intro H4 h4;have kn:Kn H H4 [] [(x4,.st [.int .i64 0,.int .i64 0,.sl true 5 []]),(x6,.st [.int .i64 q.params,.int .i64 q.regs,.sl true 5 []])]:=kn.stL 1 rfl h4;refine Qy ?_;refine Qa ?_;simp only[go_sem];refine Qh (Qf (Qw (fun m e1 H1=>∃(ks:List KBlk) (bc:C) (bl:List (Nat×Obj)),m=l.length-ks.length∧ks.length≤l.length∧ks.map KBlk.y=(l.take ks.length).map (pkY q P)∧(∀b∈ks,b.ok)∧Gr bl 5 (ks.map KBlk.row) bc∧
  Kn H H1 [] (([(x4,.st [.int .i64 0,.int .i64 0,.sl true 5 []]),(x6,.st [.int .i64 q.params,.int .i64 q.regs,bc])]++ks.flatMap KBlk.pl)++bl)∧
  lk 1 e1=.c (.sl fl2 1 (Qaf l))∧lk 2 e1=.c (.pp [.int .i64 q.params,.int .i64 q.regs,.sl fl 5 (Qm q.blocks)])∧lk 4 e1=.c (.ptr x4 0)∧lk 5 e1=.c (.sl false 1 (Qb P))∧lk 6 e1=.c (.ptr x6 0)∧lk 7 e1=.c (.int .i64 ks.length)) l.length ?_ ?_))
 ·exact⟨[],_,[],by simp,by simp,by simp,by simp,.nil 5,by simpa using kn,rfl,rfl,rfl,rfl,rfl,rfl⟩
 ·clear kn hx6;rintro m e1 H5 ⟨ks,bc,bl,hm,hkl,hky,hko,hgr,kn,l1,l2,l4,l5,l6,l7⟩;have hbw:=hgr.isOw;refine Qy ?_;refine Qa ?_;simp only[go_sem,l1,l2,l4,l5,l6,l7,Q7];try intro _
  refine Qh (Qe rfl ?_ ?_)
  ·intro hc;have hlt:ks.length<l.length:=by simpa using hc
   obtain⟨b,hb⟩:∃b,l[ks.length]=b:=⟨_,rfl⟩;have hbm:b∈l:=by rw[←hb];exact Jc hlt
   have hbn:=hp.lt b hbm;have hgd:l.getD ks.length 0=b:=by simp[Ja,hlt,hb]
   refine Qi ?_;try simp only[go_sem]
   refine Qh (Qf ?_);refine Qag ?_;simp only[go_sem,hlt,Q7,Qau _ _ hlt,hgd,hbn,Qo,Qaa _ _ hbn,BlkD.take5,BlkD.allOw,BlkD.len5];refine Qyh (ho.sg.bs _ (Jc hbn)) fun o H6 k2 hok hod _=>?_;have kn:=kn.comp0 k2;rw[←Qbs hbn]at hod;have how:=o.noOw hok;have hpw:=hok.p.isOw;have hiw:=hok.i.isOw;simp only[go_sem,Q3y];intro x8 hx8 H7 h7;have kn:=(kn.al hx8 h7).perm Jv;have hx8:=kn.l 0 rfl;simp only[go_sem,Q3x,hx8,o.row_eq,hlt,Q7,Qau _ _ hlt,hgd,hbn,Qo,Qaa _ _ hbn,BlkD.take5,BlkD.allOw,BlkD.len5];intro H8 h8;have kn:Kn H H8 [] ([(o.nx.y,.vec 1 (Qb o.nx.ns))]++([(x8,.st [o.pc,o.ic,.int .i64 o.jump,.int .i64 o.on,.vsl o.nx.y 1 0 o.nx.ns.length])]++(([(x4,.st [.int .i64 0,.int .i64 0,.sl true 5 []]),(x6,.st [.int .i64 q.params,.int .i64 q.regs,bc])]++ks.flatMap KBlk.pl)++bl)++o.rest)):=
    (kn.stL 0 rfl h8).perm (Ql fun f hf h0 hc hp=>by
     show f ([(x8,_)]++(_++_))=_;simp only[o.lg_eq,hf];omega)
   clear hx8;have hns:o.nx.ns=(Qan q b).next:=by rw[←hod];rfl
   have hns2:o.nx.ns.length≤2:=by rw[hns,Qbs hbn];exact (ho.bs b hbn).nxl
   refine Qy ?_;refine Qa ?_;simp only[go_sem];refine Qh (Qf (Qw (fun m e1 H1=>∃(k:Nat) (ns:List Int),m=o.nx.ns.length-k∧k≤o.nx.ns.length∧ns=(o.nx.ns.take k).map (fun v=>P.getD v.toNat 0)++o.nx.ns.drop k∧
    Kn H H1 [] ([(o.nx.y,.vec 1 (Qb ns))]++([(x8,.st [o.pc,o.ic,.int .i64 o.jump,.int .i64 o.on,.vsl o.nx.y 1 0 o.nx.ns.length])]++(([(x4,.st [.int .i64 0,.int .i64 0,.sl true 5 []]),(x6,.st [.int .i64 q.params,.int .i64 q.regs,bc])]++ks.flatMap KBlk.pl)++bl)++o.rest))∧
    lk 1 e1=.c (.sl fl2 1 (Qaf l))∧lk 2 e1=.c (.pp [.int .i64 q.params,.int .i64 q.regs,.sl fl 5 (Qm q.blocks)])∧lk 4 e1=.c (.ptr x4 0)∧lk 5 e1=.c (.sl false 1 (Qb P))∧lk 6 e1=.c (.ptr x6 0)∧lk 7 e1=.c (.int .i64 ks.length)∧lk 8 e1=.c (.ptr x8 0)∧lk 9 e1=.c (.int .i64 k)) o.nx.ns.length ?_ ?_))
   ·exact⟨0,o.nx.ns,by omega,by omega,by simp,kn,rfl,rfl,rfl,rfl,rfl,rfl,rfl,rfl⟩
   ·clear kn;rintro m2 e2 H9 ⟨k,ns,hm2,hk,hnse,kn,l1,l2,l4,l5,l6,l7,l8,l9⟩;have hnl:ns.length=o.nx.ns.length:=(by rw[hnse];simp;omega);have hx8:H9 x8=.st [o.pc,o.ic,.int .i64 o.jump,.int .i64 o.on,.vsl o.nx.y 1 0 o.nx.ns.length]:=(kn.get (x8,.st [o.pc,o.ic,.int .i64 o.jump,.int .i64 o.on,.vsl o.nx.y 1 0 o.nx.ns.length]) (by simp)).1;have hy:=kn.l 0 rfl;refine Qy ?_;refine Qa ?_;simp only[go_sem,l1,l2,l4,l5,l6,l7,l8,l9,hx8,hpw,hiw,hy,Qd,hnl,Ji,Jj];try intro _
    refine Qh (Qe rfl ?_ ?_)
    ·intro hc2;have hlt2:k<o.nx.ns.length:=(by simpa using hc2);obtain⟨w,hw⟩:∃w,o.nx.ns[k]=w:=⟨_,rfl⟩;have hwm:w∈(Qan q b).next:=(by rw[←hns,←hw];exact Jc hlt2);obtain⟨w1,w2,_⟩:=hp.to ho hP hbm hwm;have hgd2:ns.getD k 0=w:=by
      rw[hnse,Ja,Jaj (by rw[Jd,Ja5];exact Nat.min_le_left _ _)];simp[hlt2,hw,Jbn (Jbp hlt2)]
     have hkn:k<ns.length:=(by omega);have htk:(Qb ns).take o.nx.ns.length=Qb ns:=Jh (by rw[Qd];omega);have hstep:=Qbl2 (f:=fun v=>P.getD v.toNat 0) hlt2;rw[hw]at hstep;have hwe:w=(w.toNat:Int):=(by omega);refine Qi ?_;try simp only[go_sem]
     refine Qh (Qf ?_);refine Qa2 ?_;generalize hr:w.toNat=r at *;simp only[go_sem,hx8,hpw,hiw,hy,htk,hlt2,Qd,hnl,Qn _ _ hkn,hgd2,hwe,w2,Qn _ _ w2,Qcx,Ji,Jj];intro H10 h10;have kn:=kn.stL 0 rfl h10;refine Qq ?_;simp only[go_sem,l9];refine⟨Qr (by omega) (by omega),?_⟩;show ∃m,_;exact⟨o.nx.ns.length-(k+1),by omega,k+1,ns.set k (P.getD r 0),rfl,by omega,by rw[hnse];exact hstep,kn,rfl,rfl,rfl,rfl,rfl,rfl,rfl,rfl⟩
    ·intro hc2;have hge:o.nx.ns.length≤k:=(by simpa using hc2);rw[Jh hge,List.drop_eq_nil_of_le hge,Jac]at hnse;refine Qv ?_;simp only[go_sem,X.next];obtain⟨o2,ho2⟩:∃o2:OBlk,o2=⟨o.phis,o.pc,o.pl,o.ins,o.ic,o.il,o.jump,o.on,⟨ns,o.nx.y⟩⟩:=⟨_,rfl⟩;have hok2:o2.ok:=(by rw[ho2];exact⟨hok.p,hok.i,hok.a⟩);have hd2:o2.d=pkY q P b:=by
      rw[ho2,pkY,←hod];simp only[OBlk.d,hnse]
     have hpc2:o2.pc=o.pc:=(by rw[ho2]);have kn:Kn H H9 [] ([(x8,.st o2.row)]++((([(x4,.st [.int .i64 0,.int .i64 0,.sl true 5 []]),(x6,.st [.int .i64 q.params,.int .i64 q.regs,bc])]++ks.flatMap KBlk.pl)++bl)++o2.lg)):=by
      have er:o2.row=[o.pc,o.ic,.int .i64 o.jump,.int .i64 o.on,.vsl o.nx.y 1 0 o.nx.ns.length]:=(by rw[ho2,OBlk.row_eq,hnl]);have el:o2.lg=[(o.nx.y,.vec 1 (Qb ns))]++o.rest:=(by rw[ho2];rfl);rw[er,el];exact kn.perm (Ql fun f hf h0 hc hp=>by simp only[hf];omega)
     obtain⟨S,H10,pl,hfz,hgp,kn⟩:=OBlk.gh hok2 kn;rw[hd2,hpc2]at hgp kn;refine c_gh (Qdt S (Q1k ?_) hfz) (e':=[(1,.c (.sl fl2 1 (Qaf l))),(2,.c (.pp [.int .i64 q.params,.int .i64 q.regs,.sl fl 5 (Qm q.blocks)])),(4,.c (.ptr x4 0)),(5,.c (.sl false 1 (Qb P))),(6,.c (.ptr x6 0)),(7,.c (.int .i64 ks.length)),(8,.c (.ptr x8 0))]) ?_
     ·simp only[Jp,l1,l2,l4,l5,l6,l7,l8];exact⟨.c _ _ (.same _ rfl),.c _ _ (.same _ rfl),.c _ _ (.same _ rfl),.c _ _ (.same _ rfl),.c _ _ (.same _ rfl),.c _ _ (.same _ rfl),.c _ _ (.same _ rfl),by simp⟩
     clear hfz hx8 hy;have kn:Kn H H10 [] (([(x6,.st [.int .i64 q.params,.int .i64 q.regs,bc])]++([(x8,.st (kRow (pkY q P b) o.pc))]++([(x4,.st [.int .i64 0,.int .i64 0,.sl true 5 []])]++(ks.flatMap KBlk.pl++pl))))++bl):=
      kn.perm (Ql fun f hf h0 hc hp=>by
       have e:∀(a b:Nat×Obj),f [a,b]=f [a]+f [b]:=fun a b=>hc a [b];simp only[hf,e];omega)
     have hx6:=kn.l 0 rfl;have hx8:=kn.l 1 rfl;obtain⟨kb,hkb⟩:∃kb:KBlk,kb=⟨pkY q P b,o.pc,pl⟩:=⟨_,rfl⟩;have hkbr:kRow (pkY q P b) o.pc=kb.row:=(by rw[hkb];rfl);have hkbo:kb.ok:=(by rw[hkb];exact hgp);have hkw:=KBlk.noOw hkbo;rw[hkbr]at hx8 kn;have hkl5:kb.row.length=5:=rfl;have hkt5:kb.row.take 5=kb.row:=rfl;have hka:(kb.row.all fun c=>!c.isOw)=true:=hkw;refine Qq ?_;simp only[go_sem,hx6,hx8,hbw,hkl5,hkt5,hka];refine kn.growR (new:=[kb.row]) hgr (.mk' _ _ _ _) (by intro r hr;simp only[Jb]at hr;rw[hr];exact hkw) (by simp only[Jd,LIM,Jg,Jk];omega) fun bc2 bl2 H11 hgr2 hbw2 kn=>?_;have hx6:=kn.l 0 rfl;simp only[go_sem,Q3z,hx6,hbw2];intro H12 h12;have kn:Kn H H12 [] ((([(x4,.st [.int .i64 0,.int .i64 0,.sl true 5 []]),(x6,.st [.int .i64 q.params,.int .i64 q.regs,bc2])]++(ks++[kb]).flatMap KBlk.pl)++bl2)++[(x8,.st kb.row)]):=
      (kn.stL 0 rfl h12).perm (Ql fun f hf h0 hc hp=>by
       have e:∀(a b:Nat×Obj),f [a,b]=f [a]+f [b]:=fun a b=>hc a [b];have ek:kb.pl=pl:=(by rw[hkb]);show f ([(x6,_)]++([(x8,_)]++([(x4,_)]++(ks.flatMap KBlk.pl++pl)))++bl2)=_;simp only[Jbf,Jae,Jbk,Jac,ek,hf,e];omega)
     refine Qq ?_;simp only[go_sem];refine⟨Qr (by omega) (by omega),?_⟩;show ∃m,_;refine⟨l.length-(ks.length+1),by omega,ks++[kb],bc2,bl2,by simp,by simp only[Jx,Jg,Jk];omega,?_,fun w hw=>?_,by rw[Jm];exact hgr2,kn.drop,rfl,rfl,rfl,rfl,rfl,by simp[lk]⟩
     ·simp only[Jx,Jg,Jk,Ji];rw[Jm,hky,Jn hlt,Jm,hb,hkb];rfl
     ·rcases Jo.1 hw with hw|hw
      ·exact hko w hw
      ·simp only[Jb]at hw;rw[hw];exact hkbo
  ·intro hc;have hke:ks.length=l.length:=by have:l.length≤ks.length:=(by simpa using hc);omega
   rw[hke,Jam]at hky;obtain⟨zb,rfl,rfl⟩:∃z,bc=.vsl z 5 0 l.length∧bl=[(z,.vec 5 (ks.map KBlk.row))]:=by
    rcases hgr with ⟨_,h,_⟩|⟨y,h1,h2⟩
    ·have:=congrArg List.length h;simp only[Jd,Jk]at this;omega
    ·exact⟨y,by rw[h1,Jd,hke],h2⟩
   have hS:PkS q P l 0 ks:=by
    have hg:∀j (h:j<ks.length),ks[j].y=pkY q P (l.getD j 0):=fun j h=>by
     have hj:j<l.length:=(by omega);have h1:(ks.map KBlk.y)[j]? = some ks[j].y:=(by simp[h]);rw[hky]at h1;simp only[Jr,Jf hj,Jz]at h1;rw[(hp.get hj).1];exact (Jag h1).symm
    exact⟨hke,fun j h=>by rw[hg j h];exact⟨rfl,rfl,rfl,rfl,rfl⟩,hko,fun j h h0=>by omega,fun j h _=>by rw[hg j h];rfl⟩
   have kn:Kn H H5 [] ([(x4,.st [.int .i64 0,.int .i64 0,.sl true 5 []]),(x6,.st [.int .i64 q.params,.int .i64 q.regs,.vsl zb 5 0 l.length]),(zb,.vec 5 (ks.map KBlk.row))]++ks.flatMap KBlk.pl):=
    kn.perm (Ql fun f hf h0 hc hp=>by
     have e2:∀(a b:Nat×Obj),f [a,b]=f [a]+f [b]:=fun a b=>hc a [b];have e3:∀(a b c:Nat×Obj),f [a,b,c]=f [a]+f [b]+f [c]:=fun a b c=>(by rw[hc a [b,c],e2];omega);simp only[hf,e2,e3];omega)
   clear hky hko hke hgr;refine Qv ?_;simp only[go_sem,X.next];refine Qbg1 (fl:=fl) (fl2:=fl2) ho hp hP hS kn rfl rfl rfl rfl fun e6 H6 ks hS kn l4=>?_;have hx4:=kn.l 0 rfl;simp only[go_sem,Q3,Qab,Qasx,Jb,forall_eq,RS.op,l4,hx4];obtain⟨d,hd⟩:∃d:CodeD,d=⟨q.params,q.regs,ks.map KBlk.y⟩:=⟨_,rfl⟩;have hdl:d.blocks.length=l.length:=by rw[hd];simpa using hS.n
   have hR:=Qbtr (d:=d) ho hp hP (by rw[hd]) (by rw[hd]) hdl fun j h=>by
    have hj:j<ks.length:=(by rw[hS.n];omega);have e:d.blocks[j]=ks[j].y:=(by subst hd;simp);rw[e];exact⟨hS.b j hj,hS.a j hj (by omega)⟩
   have kn:Kn H H6 [] ([(zb,.vec 5 (ks.map KBlk.row))]++(([(x4,.st [.int .i64 q.params,.int .i64 q.regs,.vsl zb 5 0 l.length])]++[(x6,.st [.int .i64 q.params,.int .i64 q.regs,.vsl zb 5 0 l.length])])++ks.flatMap KBlk.pl)):=
    kn.perm (Ql fun f hf h0 hc hp=>by
     have e3:∀(a b c:Nat×Obj),f [a,b,c]=f [a]+f [b]+f [c]:=fun a b c=>(by rw[hc a [b,c],hc b [c]];omega);simp only[hf,e3];omega)
   obtain⟨S,hSL,hSB,hfz,kn⟩:=kn.freeze0;have hz:=hSB (zb,.vec 5 (ks.map KBlk.row)) (by simp);have hrows:FrzR H6 S (ks.map KBlk.row) (Qm d.blocks):=by
    rw[hd];show FrzR H6 S (ks.map KBlk.row) (Qm (ks.map KBlk.y));rw[Qm,Jao];refine Qgz ks fun k hk=>?_;refine .cons (Gr.frzM (hS.ok k hk) (fun p hp=>hSL p (Je _ (Jt.2 ⟨k,hk,hp⟩))) (FrzR.same (Qhs _))) (.cons (Qg rfl) (.cons (Qg rfl) (.cons (Qg rfl) (.cons (Qg rfl) .nil))))
   have hno:∀r∈ks.map KBlk.row,Go.AE.noOw r=true:=fun r hr=>by
    obtain⟨k,hk,rfl⟩:=Js.1 hr;exact KBlk.noOw (hS.ok k hk)
   refine⟨S,.ag [.int .i64 q.params,.int .i64 q.regs,.vsl zb 5 0 l.length],_,FrzL.ag (.cons (Qg rfl) (.cons (Qg rfl) (.cons (.same _ rfl) .nil))),hfz.set (o:=.vec 5 (Qm d.blocks)) hz.2 (by rw[hz.1];exact .vecR hrows hno),?_⟩;have:=hK d zb _ hR (kn.setL (o':=.vec 5 (Qm d.blocks)) 0 rfl (by simp));rw[hdl,hR.p,hR.r]at this;exact this
end Go.AE.Y
namespace Go.AE.Y
attribute [local go_sem] cond_true cond_false Bool.not_true Bool.not_false
open Go.Proofs.Tryz
variable {H H0:Heap}{K:V→Heap→Prop}{E B Lg:List (Nat×Obj)}{q:CodeD}
theorem CodeD.ok.gd (h:q.ok):q.gd:=⟨h.b0,h.b1,fun y hy=>by
 obtain⟨b,hb,rfl⟩:=Jab.1 hy;exact (h.bs b hb).nxl,h.fts⟩
theorem CodeD.ok.fitB (h:q.ok):Qoq q.blocks.length (gnx q)=true:=by
 have h1:(List.range q.blocks.length).all (fun i=>(gnx q i).all fun x=>decide (0≤x∧x≤(q.blocks.length:Int)-1))=true:=by
  simp only[Jak,J9,decide_eq_true_eq];intro b hb x hx;rw[Qye hb]at hx;have:=(h.bs b hb).nx x hx;omega
 have h2:decide (0<q.blocks.length)=true:=decide_eq_true h.b0;simp only[Qoq,h1,Bool.true_and]
 first|exact h2|simpa using h.b0
theorem CodeD.ok.rchPk (h:q.ok):Pk q (rchL q.blocks.length (nxN (gnx q))):=by
 have hb0:=h.b0;have hb1:=h.b1;refine⟨?_,?_,fun x hx=>?_,fun x hx v hv=>?_⟩
 ·have:=Jat (Qvh (nxN (gnx q)) (-1)) (List.range q.blocks.length);rw[Jbi]at this;rw[rchL];omega
 ·obtain⟨m,hm⟩:∃m,q.blocks.length=m+1:=⟨q.blocks.length-1,by omega⟩;have h0:Qvh (nxN (gnx q)) (-1) 0=true:=rchB_iff.2 (.refl (by omega));rw[rchL,hm,List.range_succ_eq_map,List.filter_cons,h0];rfl
 ·rw[rchL,Jay,J9]at hx;exact hx.1
 ·rw[rchL,Jay,J9]at hx⊢;have hvx:=hv;rw[Qye hx.1]at hvx;have:=(h.bs x hx.1).nx v hvx;refine⟨by omega,rchB_iff.2 (.step (rchB_iff.1 hx.2) (Js.2 ⟨v,hv,rfl⟩) (by omega))⟩
theorem Qbfd {fl:Bool}(ho:q.ok)(hK:∀(d:CodeD) z H',PkR q d→Kn H H' [] [(z,.vec 5 (Qm d.blocks))]→K (.ag [.int .i64 d.params,.int .i64 d.regs,.vsl z 5 0 d.blocks.length]) H') :
  Qs prog Qtl [.ag [.int .i64 q.params,.int .i64 q.regs,.sl fl 5 (Qm q.blocks)]] H K:=by
 refine Qcb ?_;refine Qc Qaj Qbf2 ?_;refine Qa ?_;simp only[go_sem];intro x2 hx2 H1 h1;have kn:=(Kn.start0 H).al hx2 h1;refine Qag ?_;simp only[go_sem];refine Qaq4 (rows:=Qm q.blocks) (nx:=gnx q) (Qa05 ho.gd) (by rw[Qo];exact ho.fitB) fun H2 hu=>?_;have kn:=kn.call0 hu;rw[Qo];simp only[go_sem,Q3s];refine Qbap ho ho.rchPk fun d z H3 hR k2=>?_;have kn:=kn.comp0 k2;have hx2:=kn.l 0 rfl;simp only[go_sem,Q3r,hx2];intro H4 h4;have kn:Kn H H4 [] ([(x2,.st [.int .i64 d.params,.int .i64 d.regs,.vsl z 5 0 d.blocks.length])]++[(z,.vec 5 (Qm d.blocks))]):=kn.stL 0 rfl h4;have hx2:=kn.l 0 rfl;refine Qk ?_;simp only[go_sem,Q3,Qab,Qasw,Jb,forall_eq,RS.op,hx2];obtain⟨S,hSL,hSB,hfz,kn⟩:=(kn.perm Jv).freeze0;exact⟨S,_,_,FrzL.ag (.cons (Qg rfl) (.cons (Qg rfl) (.cons (.same _ rfl) .nil))),hfz,hK d z _ hR kn⟩
def zRow (v:Int):List C:=[.int .i64 1,.int .i64 v,.sl true 1 [],.int .i64 0]
def zIns (v:Int):InsD:=⟨1,v,[],0⟩
theorem Qbn9 {S:Nat→Bool}(vs:List Int):FrzR H S (vs.map zRow) (Qaq (vs.map zIns)):=by
 rw[Qaq,Jao];exact Qgz vs fun v _=>.cons (Qg rfl) (.cons (Qg rfl) (.cons FrzR.nil.sl (.cons (Qg rfl) .nil)))
theorem Qbj1 {d:CodeD}(ho:d.ok)(h9:∀y∈d.blocks,y.ins.length≤900∧y.phis.length≤900){vs:List Int}(hv:∀v∈vs,rIn d v)(hl:vs.length≤300){y:BlkD}{ys:List BlkD}(hd:d.blocks=y::ys) :
  (CodeD.mk d.params d.regs (⟨y.phis,vs.map zIns++y.ins,y.jump,y.on,y.next⟩::ys)).ok:=by
 obtain⟨y',hy'⟩:∃y':BlkD,y'=⟨y.phis,vs.map zIns++y.ins,y.jump,y.on,y.next⟩:=⟨_,rfl⟩;obtain⟨d',hd'⟩:∃d':CodeD,d'=⟨d.params,d.regs,y'::ys⟩:=⟨_,rfl⟩;rw[←hy',←hd'];have hlen:d'.blocks.length=d.blocks.length:=by rw[hd',hd];rfl
 have hmap:d'.blocks.map BlkD.next=d.blocks.map BlkD.next:=by rw[hd',hd,hy'];rfl
 have hg:gnx d'=gnx d:=by funext i;rw[gnx,gnx,hmap]
 have hr:∀v,rIn d v→rIn d' v:=fun v h=>by simp only[rIn,hd']at h⊢;exact h
 have h9y:=h9 y (by rw[hd];exact J7);have hrg:d'.regs=d.regs:=by rw[hd']
 refine⟨by rw[hrg];exact ho.r0,by rw[hrg];exact ho.r1,by rw[hlen];exact ho.b0,by rw[hlen];exact ho.b1,fun b h=>?_,fun b h=>?_⟩
 ·have h':b<d.blocks.length:=by omega
  have o:=ho.bs b h';have hin:∀x∈d'.blocks[b].ins,x∈d.blocks[b].ins∨∃v∈vs,x=zIns v:=fun x hx=>by
   cases b with
   |zero=>
    simp only[hd',J4,hy']at hx;rcases Jo.1 hx with hx|hx
    ·obtain⟨v,hv,rfl⟩:=Js.1 hx;exact .inr ⟨v,hv,rfl⟩
    ·left;simp only[hd,J4];exact hx
   |succ b=>left;simp only[hd',hd,J0]at hx⊢;exact hx
  have e:d'.blocks[b].phis=d.blocks[b].phis∧d'.blocks[b].jump=d.blocks[b].jump∧d'.blocks[b].on=d.blocks[b].on∧d'.blocks[b].next=d.blocks[b].next:=by
   cases b with
   |zero=>simp only[hd',hd,J4,hy',and_self]
   |succ b=>simp only[hd',hd,J0,and_self]
  obtain⟨e1,e2,e3,e4⟩:=e;refine⟨by rw[e4];exact o.nxl,fun v hv=>by rw[e4]at hv;rw[hlen];exact o.nx v hv,by rw[e2];exact o.jmp,fun hj=>by rw[e2]at hj;rw[e3];exact hr _ (o.on hj),fun x hx v hv=>?_,fun x hx hm=>?_,
   fun p hp=>by rw[e1]at hp;exact hr _ (o.pto p hp),fun p hp v hv=>by rw[e1]at hp;exact hr _ (o.pargs p hp v hv),fun p hp=>by rw[e1]at hp;rw[hg,hlen];exact o.pal p hp,fun x hx=>?_⟩
  ·rcases hin x hx with h|⟨v',_,rfl⟩
   ·exact hr _ (o.args x h v hv)
   ·simp[zIns]at hv
  ·rcases hin x hx with h|⟨v',hv',rfl⟩
   ·exact hr _ (o.to x h hm)
   ·exact hr _ (hv v' hv')
  ·rcases hin x hx with h|⟨v',_,rfl⟩
   ·exact o.al x h
   ·simp[zIns]
 ·have h':b<d.blocks.length:=by omega
  have o:=ho.il b h'
  cases b with
  |zero=>
   simp only[hd',J4,hy',Jx,Jd];omega
  |succ b=>simp only[hd',hd,J0]at o⊢;exact o
set_option maxHeartbeats 4000000 in
theorem Qbat {fl:Bool}(ho:q.ok)(hpar:0≤q.params)(h9:∀y∈q.blocks,y.ins.length≤900∧y.phis.length≤900)
  (hK:∀(d:CodeD) H',d.ok→d.params=q.params→d.regs=q.regs→(∀y∈d.blocks,y.phis.length≤900)→Upd H H' []→K (.ag d.cells) H') :
  Qs prog Qwr [.ag [.int .i64 q.params,.int .i64 q.regs,.sl fl 5 (Qm q.blocks)]] H K:=by
 refine Qx ?_;refine Qc Qaj Qba1 ?_;refine Qa ?_;simp only[go_sem];intro x2 hx2 H1 h1;have kn:=(Kn.start0 H).al hx2 h1;refine Qa ?_;simp only[go_sem];refine Qbfd ho fun d z H2 hR k2=>?_;have kn:=kn.comp0 k2;have hdo:=hR.ok;have hd9:∀y∈d.blocks,y.ins.length≤900∧y.phis.length≤900:=fun y hy=>by
  obtain⟨y0,hy0,h1,h2⟩:=hR.i y hy;rw[h1,h2];exact h9 y0 hy0
 have hpar:0≤d.params:=by rw[hR.p];exact hpar
 have hr0:=hdo.r0;have hr1:=hdo.r1;have hb0:=hdo.b0;have hb1:=hdo.b1;simp only[go_sem,Qzy];intro x3 hx3 H3 h3;have kn:=(kn.al hx3 h3).perm Jv;have hx3:=kn.l 0 rfl;simp only[go_sem,Qzx,hx3];intro H4 h4;have kn:Kn H H4 [] ([(x3,.st [.int .i64 d.params,.int .i64 d.regs,.vsl z 5 0 d.blocks.length]),(x2,.st [.int .i64 0,.int .i64 0,.sl true 5 []]),(z,.vec 5 (Qm d.blocks))]):=kn.stL 0 rfl h4;have hx3:=kn.l 0 rfl;have hz:=kn.l 2 rfl;refine Qa ?_;simp only[go_sem,hx3];refine Qar2 hdo (CodeR.vsl hz (by simp)) fun zi zo H5 hu hlv=>?_;have kn:=kn.call0 hu;obtain⟨y,ys,hys⟩:∃y ys,d.blocks=y::ys:=by
  cases hb:d.blocks with
  |nil=>rw[hb]at hb0;simp at hb0
  |cons y ys=>exact⟨y,ys,rfl⟩
 have hzl:0<zi.length:=by rw[hlv.1.i];exact hb0
 obtain⟨nd,hnd⟩:∃nd,zi[0].2=nd:=⟨_,rfl⟩;have hndl:nd.length=d.regs.toNat:=by rw[←hnd];exact hlv.1.li _ (Jc hzl)
 simp only[go_sem,Qzz,hzl,Qata,Qalx _ _ hzl,hnd];refine⟨Ja3 0,?_⟩;refine Qa ?_;simp only[go_sem];have hx3:=kn.l 0 rfl;refine Qy ?_;refine Qa ?_;simp only[go_sem,hx3];refine Qh (Qf (Qw (fun m e1 H1=>∃(r:Int) (vs:List Int) (t:C) (Lg:List (Nat×Obj)),m=(d.regs-r).toNat∧0≤r∧(r≤d.regs∨r=d.params)∧(vs.length:Int)≤r∧(vs=[]∨r≤d.regs)∧(∀v∈vs,rIn d v)∧Gr Lg 4 (vs.map zRow) t∧
  Kn H H1 [] ([(x3,.st [.int .i64 d.params,.int .i64 d.regs,.vsl z 5 0 d.blocks.length]),(x2,.st [.int .i64 0,.int .i64 0,.sl true 5 []]),(z,.vec 5 (Qm d.blocks))]++Lg)∧
  lk 2 e1=.c (.ptr x2 0)∧lk 3 e1=.c (.ptr x3 0)∧lk 4 e1=.c (.sl false 1 (Qu nd))∧lk 5 e1=.c t∧lk 6 e1=.c (.int .i64 r)) (d.regs-d.params).toNat ?_ ?_))
 ·exact⟨d.params,[],_,[],rfl,hpar,.inr rfl,hpar,.inl rfl,by simp,.nil 4,by simpa using kn,rfl,rfl,rfl,rfl,rfl⟩
 ·clear kn hx3 hz;rintro m e1 H6 ⟨r,vs,t,Lg,hm,hr,hrr,hvl,hve,hvs,hgr,kn,l2,l3,l4,l5,l6⟩;have htw:=hgr.isOw;have hx3:=kn.l 0 rfl;refine Qy ?_;refine Qa ?_;simp only[go_sem,l2,l3,l4,l5,l6,hx3,htw];refine Qh (Qe rfl ?_ ?_)
  ·intro hc;have hlt:r<d.regs:=by simpa using hc
   obtain⟨rn,hrn⟩:∃rn:Nat,r=(rn:Int):=⟨r.toNat,by omega⟩;subst hrn;have hrl:rn<nd.length:=by omega
   refine Qi ?_;try simp only[go_sem]
   refine Qd2 (fun e2 H2=>∃(vs:List Int) (t:C) (Lg:List (Nat×Obj)),(vs.length:Int)≤(rn:Int)+1∧(∀v∈vs,rIn d v)∧Gr Lg 4 (vs.map zRow) t∧
    Kn H H2 [] ([(x3,.st [.int .i64 d.params,.int .i64 d.regs,.vsl z 5 0 d.blocks.length]),(x2,.st [.int .i64 0,.int .i64 0,.sl true 5 []]),(z,.vec 5 (Qm d.blocks))]++Lg)∧
    lk 2 e2=.c (.ptr x2 0)∧lk 3 e2=.c (.ptr x3 0)∧lk 4 e2=.c (.sl false 1 (Qu nd))∧lk 5 e2=.c t∧lk 6 e2=.c (.int .i64 (rn:Int))) ?_ ?_
   ·intro Q hnr _ _;refine Qf ?_;refine Qa ?_;simp only[go_sem,htw,hrl,Qz,Q6 _ _ hrl];refine Qe rfl ?_ ?_
    ·intro hc2;refine Qq ?_;simp only[go_sem,htw];refine kn.growR (new:=[zRow (rn:Int)]) hgr (.mk' _ _ _ _) (by intro w hw;simp only[Jb]at hw;rw[hw];rfl) (by simp only[Jd,LIM,Jg,Jk];omega) fun t2 Lg2 H7 hgr2 ht2 kn=>?_;simp only[go_sem,Qz0,ht2];refine hnr _ _ ⟨vs++[(rn:Int)],t2,Lg2,by simp only[Jx,Jg,Jk];omega,fun v hv=>?_,by rw[Jm];exact hgr2,kn,rfl,rfl,rfl,rfl,rfl⟩;rcases Jo.1 hv with hv|hv
     ·exact hvs v hv
     ·simp only[Jb]at hv;rw[hv];exact⟨by omega,hlt⟩
    ·intro hc2;refine Qi ?_;try simp only[go_sem]
     exact hnr _ _ ⟨vs,t,Lg,by omega,hvs,hgr,kn,rfl,rfl,rfl,rfl,rfl⟩
   ·rintro e2 H7 ⟨vs,t,Lg,hvl,hvs,hgr,kn,l2,l3,l4,l5,l6⟩;have htw:=hgr.isOw;refine Qq ?_;simp only[go_sem,l2,l3,l4,l5,l6,htw];refine⟨Qr (by omega) (by omega),?_⟩;show ∃m,_;exact⟨(d.regs-((rn:Int)+1)).toNat,by omega,(rn:Int)+1,vs,t,Lg,rfl,by omega,.inl (by omega),hvl,.inr (by omega),hvs,hgr,kn,rfl,rfl,rfl,rfl,rfl⟩
  ·intro hc;have hvl3:vs.length≤300:=by
    rcases hve with rfl|h
    ·simp
    ·omega
   have hge:d.regs≤r:=by simpa using hc
   have hz:=kn.l 2 rfl;have h0:0<(Qm d.blocks).length:=by rw[Qo];exact hb0
   have hb0g:(Qm d.blocks).getD 0 []=[.sl false 2 (Q1 y.phis),.sl false 4 (Qaq y.ins),.int .i64 y.jump,.int .i64 y.on,.sl false 1 (Qb y.next)]:=by rw[hys];rfl
   have hbt:(Qm d.blocks).take d.blocks.length=Qm d.blocks:=Jh (by rw[Qo];exact Jj _);have hyl:=hd9 y (by rw[hys];exact J7);refine Qv ?_;simp only[go_sem,X.next];refine Qag ?_;simp only[go_sem,l2,l3,l4,l5,l6,hx3,hz,htw,Qo,hb0,hb0g,hbt,Ji,Jj,Ja3];refine kn.growR (new:=Qaq y.ins) hgr (.mk' _ _ _ _) (Qj9 _) (by simp only[Jd,Qal,LIM];omega) fun t2 Lg2 H7 hgr2 ht2 kn=>?_;have hx3:=kn.l 0 rfl;have hz:=kn.l 2 rfl;simp only[go_sem,Qz1,hx3,hz,ht2,Qo,hb0,hb0g,hbt,Ji,Jj,Ja3];intro H8 h8;have hset:∀R:List C,(Qm d.blocks).set 0 R=R::Qm ys:=fun R=>by rw[hys];rfl
   rw[hset]at h8;have kn:Kn H H8 [] ([(x3,.st [.int .i64 d.params,.int .i64 d.regs,.vsl z 5 0 d.blocks.length]),(x2,.st [.int .i64 0,.int .i64 0,.sl true 5 []]),(z,.vec 5 ([.sl false 2 (Q1 y.phis),t2,.int .i64 y.jump,.int .i64 y.on,.sl false 1 (Qb y.next)]::Qm ys))]++Lg2):=kn.stL 2 rfl h8;have hx2:=kn.l 1 rfl;have hx3:=kn.l 0 rfl;refine Qa ?_;simp only[go_sem,hx2,hx3];intro H9 h9';have kn:Kn H H9 [] ([(x3,.st [.int .i64 d.params,.int .i64 d.regs,.vsl z 5 0 d.blocks.length]),(x2,.st [.int .i64 d.params,.int .i64 d.regs,.vsl z 5 0 d.blocks.length]),(z,.vec 5 ([.sl false 2 (Q1 y.phis),t2,.int .i64 y.jump,.int .i64 y.on,.sl false 1 (Qb y.next)]::Qm ys))]++Lg2):=kn.stL 1 rfl h9';have hx2:=kn.l 1 rfl;have hz:=kn.l 2 rfl;have hzu:=kn.un 2 rfl;refine Qk ?_;simp only[go_sem,Q3,Qab,Qalu,Jb,forall_eq,RS.op,hx2];have hins:FrzC H9 (un H) t2 (.sl false 4 (Qaq (vs.map zIns++y.ins))):=by
    have:Qaq (vs.map zIns++y.ins)=Qaq (vs.map zIns)++Qaq y.ins:=(by simp[Qaq]);rw[this];exact hgr2.frzR kn ((Qbn9 vs).app (FrzR.same (Qj9 _)))
   have hrows:FrzR H9 (un H) ([.sl false 2 (Q1 y.phis),t2,.int .i64 y.jump,.int .i64 y.on,.sl false 1 (Qb y.next)]::Qm ys) (Qm (⟨y.phis,vs.map zIns++y.ins,y.jump,y.on,y.next⟩::ys)):=
    .cons (.cons (Qg rfl) (.cons hins (.cons (Qg rfl) (.cons (Qg rfl) (.cons (Qg rfl) .nil))))) (FrzR.same (Qwk _))
   have hdl:d.blocks.length=(⟨y.phis,vs.map zIns++y.ins,y.jump,y.on,y.next⟩::ys:List BlkD).length:=by rw[hys];rfl
   refine⟨_,FrzL.ag (.cons (Qg rfl) (.cons (Qg rfl) (.cons (hrows.vsl hzu hz (by rw[hdl,Jg,Jg,Qo])) .nil))),hK (CodeD.mk d.params d.regs (⟨y.phis,vs.map zIns++y.ins,y.jump,y.on,y.next⟩::ys)) _ (Qbj1 hdo hd9 hvs hvl3 hys) hR.p hR.r (fun w hw=>?_) kn.fin⟩;rcases Jy.1 hw with rfl|hw
   ·exact hyl.2
   ·exact (hd9 w (by rw[hys];exact J6 _ hw)).2
end Go.AE.Y
namespace Go.AE.Y
attribute [local go_sem] cond_true cond_false Bool.not_true Bool.not_false
open Go.Proofs.Tryz
variable {H H0:Heap}{K:V→Heap→Prop}{q:CodeD}{E L:List (Nat×Obj)}
def mI (l:List (Int×Int)):List (C×V):=l.map fun p=>(.int .i64 p.1,.c (.int .i64 p.2))
structure PMap where
 m:Nat
 ver:Nat
 l:List (Int×Int)
def PMap.lg (p:PMap):List (Nat×Obj):=[(p.m,.map p.ver (mI p.l))]
def Qbtp (ms:List PMap):List (List C):=ms.map fun p=>[.mp p.m]
structure PSl where
 ms:List PMap
 c:C
 g:List (Nat×Obj)
def PSl.row (s:PSl):List C:=[s.c]
def PSl.ok (s:PSl):Prop:=Gr s.g 1 (Qbtp s.ms) s.c
def PSl.lg (s:PSl):List (Nat×Obj):=s.ms.flatMap PMap.lg++s.g
end Go.AE.Y
namespace Go.AE.Y
variable {q:CodeD}
def OBlk.nxt (o:OBlk)(ns:List Int):OBlk:=⟨o.phis,o.pc,o.pl,o.ins,o.ic,o.il,o.jump,o.on,⟨ns,o.nx.y⟩⟩
end Go.AE.Y
namespace Go.AE.Y
open Go.Proofs.Tryz
def Qn3:List Item:=[gF 45 39 (.not (.t 44)),pT 46 39 45]
def Qaex:SC:=cT 46 (sR [fB 4 false] [4] .ret) .skip
def Qn4:List Item:=[gF 81 67 (.not (.t 80)),pT 82 67 81]
def Qaey:SC:=cT 82 (sR [fB 4 false] [4] .ret) .skip
def Qaez:SC:=.reg [mJ 52 5,cJ 53 .add 52 1,mJ 5 53] [2,3,5]
def Qae0:SC:=.seq (.block 1 (.seq (.dreg 29 [0,1,2,3,4,5,6,7,8,9,10,11,12,13,14,15,16,17,18,19,20,21,22,23,24,25,26,27,28] ( fJ 54 0 2::lJ 55 54::mJ 56 5::iJ 57 2 55 56::fJ 58 0 57::lJ 59 58::fJ 60 0 3::lJ 61 60::mJ 62 5::iJ 63 2 61 62::fJ 64 0 63::lJ 65 64::bJ 66 .neq 59 65::mJ 67 66::gFf 68 67 0 2::gFl 69 67 68::gFm 70 67 5::gF 71 67 (.iad 2 (.t 69) (.t 70))::gFf 72 67 1 71::gFl 73 67 72::gFf 74 67 0 3::gFl 75 67 74::gFm 76 67 5::gF 77 67 (.iad 2 (.t 75) (.t 76))::gFf 78 67 1 77::gFl 79 67 78::.e (some 80) (some (67,false)) (.call Qo9 [.t 73,.t 79])::Qn4) [2,3,5,82]) Qaey)) Qaez
def Q8e:SC:=.seq (sR [mJ 47 5,fJ 48 0 2,lJ 49 48,nJ 50 49,bJ 51 .lss 47 50] [2,3,5,51] (cT 51 .skip (.exit 0))) Qae0
def Qn5:List Item:=[sJ 4 7 94]
def Qn6:List Item:=[sJ 4 8 99]
def Qn7:List Item:=[gF 125 119 (.not (.t 124)),pT 126 119 125]
def Q75:SC:=cT 126 (sR [fB 4 false] [4] .ret) .skip
def Q76:SC:=sR (fJ 100 0 7::lJ 101 100::fJ 102 0 8::lJ 103 102::bJ 104 .neq 101 103::mJ 105 104::gFf 106 105 1 7::gFl 107 105 106::gFf 108 105 1 8::gFl 109 105 108::gF 110 105 (.bin 0 .neq (.t 107) (.t 109))::pT 111 105 110::mJ 112 111::gFf 113 112 3 7::gFl 114 112 113::gFf 115 112 3 8::gFl 116 112 115::gF 117 112 (.bin 0 .neq (.t 114) (.t 116))::pT 118 112 117::mJ 119 118::gFf 120 119 2 7::gFl 121 119 120::gFf 122 119 2 8::gFl 123 119 122::.e (some 124) (some (119,false)) (.call Qo9 [.t 121,.t 123])::Qn7) [2,3,6,126] Q75
def Q77:SC:=sR (fJ 95 1 3::lJ 96 95::mJ 97 6::iJ 98 4 96 97::tJ 99 4 98::eI 8 (.alloc [.int .i64 0,.int .i64 0,.sl true 1 [],.int .i64 0])::Qn6) [2,3,6,7,8] Q76
def Q78:SC:=.reg [mJ 88 6,cJ 89 .add 88 1,mJ 6 89] [2,3,6]
def Q79:SC:=.seq (.block 3 (sR (fJ 90 1 2::lJ 91 90::mJ 92 6::iJ 93 4 91 92::tJ 94 4 93::eI 7 (.alloc [.int .i64 0,.int .i64 0,.sl true 1 [],.int .i64 0])::Qn5) [2,3,6,7] Q77)) Q78
def Q2s:SC:=.seq (sR [mJ 83 6,fJ 84 1 2,lJ 85 84,nJ 86 85,bJ 87 .lss 83 86] [2,3,6,87] (cT 87 .skip (.exit 2))) Q79
def Q8a:SC:=sR [fB 4 true] [4] .ret
def Q8b:SC:=.seq (sR [zJ 6 0] [2,3,6] (bL 2 Q2s)) Q8a
def Q8c:SC:=.seq (sR [zJ 5 0] [2,3,5] (bL 0 Q8e)) Q8b
def Q8d:SC:=.seq (sR (fJ 9 0 2::lJ 10 9::nJ 11 10::fJ 12 0 3::lJ 13 12::nJ 14 13::bJ 15 .neq 11 14::mJ 16 15::gFf 17 16 1 2::gFl 18 16 17::gF 19 16 (.len (.t 18))::gFf 20 16 1 3::gFl 21 16 20::gF 22 16 (.len (.t 21))::gF 23 16 (.bin 0 .neq (.t 19) (.t 22))::pT 24 16 23::mJ 25 24::gFf 26 25 2 2::gFl 27 25 26::gFf 28 25 2 3::gFl 29 25 28::gF 30 25 (.bin 0 .neq (.t 27) (.t 29))::pT 31 25 30::mJ 32 31::gFf 33 32 3 2::gFl 34 32 33::gFf 35 32 3 3::gFl 36 32 35::gF 37 32 (.bin 0 .neq (.t 34) (.t 36))::pT 38 32 37::mJ 39 38::gFf 40 39 4 2::gFl 41 39 40::gFf 42 39 4 3::gFl 43 39 42::.e (some 44) (some (39,false)) (.call Qo9 [.t 41,.t 43])::Qn3) [2,3,46] Qaex) Q8c
def Qaqf:SC:=sR [vJ 2 0,vJ 3 1,fB 4 false] [2,3] Q8d
def Qyx:List RS:=[.tmp 4]
theorem Qani:mFn prog Qji 2 127 Qaqf Qyx=true:=by kernel_rfl
def Qaj0:SC:=cT 26 (sR [fB 4 false] [4] .ret) .skip
def Qsx:List Item:=[oJ 45 44]
def Qaj1:SC:=cT 45 (sR [fB 4 false] [4] .ret) .skip
def Qaj2:SC:=.reg [mJ 32 5,cJ 33 .add 32 1,mJ 5 33] [2,3,5]
def Qaj3:SC:=.seq (.block 1 (.seq (.dreg 12 [0,1,2,3,4,5,6,7,8,9,10,11] ( fJ 34 2 2::lJ 35 34::mJ 36 5::iJ 37 5 35 36::tJ 38 5 37::fJ 39 2 3::lJ 40 39::mJ 41 5::iJ 42 5 40 41::tJ 43 5 42::aJ 44 Qji [.t 38,.t 43]::Qsx) [2,3,5,45]) Qaj1)) Qaj2
def Qae1:SC:=.seq (sR [mJ 27 5,fJ 28 2 2,lJ 29 28,nJ 30 29,bJ 31 .lss 27 30] [2,3,5,31] (cT 31 .skip (.exit 0))) Qaj3
def Qaj4:SC:=sR [fB 4 true] [4] .ret
def Qaj5:SC:=.seq (sR [zJ 5 0] [2,3,5] (bL 0 Qae1)) Qaj4
def Qaj6:SC:=.seq (sR [fJ 6 0 2,lJ 7 6,fJ 8 0 3,lJ 9 8,bJ 10 .neq 7 9,mJ 11 10,gFf 12 11 1 2,gFl 13 11 12,gFf 14 11 1 3,gFl 15 11 14,gF 16 11 (.bin 0 .neq (.t 13) (.t 15)),pT 17 11 16,mJ 18 17,gFf 19 18 2 2,gFl 20 18 19,gF 21 18 (.len (.t 20)),gFf 22 18 2 3,gFl 23 18 22,gF 24 18 (.len (.t 23)),gF 25 18 (.bin 0 .neq (.t 21) (.t 24)),pT 26 18 25] [2,3,26] Qaj0) Qaj5
def Qay6:SC:=sR [vJ 2 0,vJ 3 1,fB 4 false] [2,3] Qaj6
def Q3j:List RS:=[.tmp 4]
theorem Qasl:mFn prog Ql0 2 46 Qay6 Q3j=true:=by kernel_rfl
def Qbcj:SC:=cT 10 (sR [fB 4 false] [4] .ret) .skip
def Qbck:SC:=cT 25 (sR [fB 4 false] [4] .ret) .skip
def Qbcl:SC:=.reg [mJ 15 5,cJ 16 .add 15 1,mJ 5 16] [0,1,5]
def Qbcm:SC:=.seq (.block 1 (.seq (.dreg 9 [0,1,2,3,4,5,6,7,8] ( mJ 17 0::mJ 18 5::iJ 19 1 17 18::lJ 20 19::mJ 21 1::mJ 22 5::iJ 23 1 21 22::lJ 24 23::bJ 25 .neq 20 24::[]) [0,1,5,25]) Qbck)) Qbcl
def Qa5m:SC:=.seq (sR [mJ 11 5,mJ 12 0,nJ 13 12,bJ 14 .lss 11 13] [0,1,5,14] (cT 14 .skip (.exit 0))) Qbcm
def Qbcn:SC:=sR [fB 4 true] [4] .ret
def Qbco:SC:=.seq (sR [zJ 5 0] [0,1,5] (bL 0 Qa5m)) Qbcn
def Qbcp:SC:=.seq (sR [mJ 6 0,nJ 7 6,mJ 8 1,nJ 9 8,bJ 10 .neq 7 9] [0,1,10] Qbcj) Qbco
def Qbmz:SC:=sR [fB 4 false] [0,1] Qbcp
def Qa84:List RS:=[.tmp 4]
theorem Qblq:mFn prog Qo9 2 26 Qbmz Qa84=true:=by kernel_rfl
def Qazu:SC:=cT 10 (sR [fB 4 false] [4] .ret) .skip
def Qazv:SC:=cT 24 (sR [fB 4 false] [4] .ret) .skip
def Qazw:SC:=.seq (.dreg 9 [0,1,2,3,4,5,6,7,8] ( mJ 16 0::mJ 17 5::iJ 18 1 16 17::lJ 19 18::mJ 20 1::mJ 21 5::iJ 22 1 20 21::lJ 23 22::bJ 24 .neq 19 23::[]) [0,1,12,13,24]) Qazv
def Qazx:SC:=.reg [cJ 25 .add 13 1,mJ 13 25] [0,1,12,13]
def Qazy:SC:=.seq (.block 1 (sR [mJ 15 13,mJ 5 15] [0,1,5,12,13] Qazw)) Qazx
def Qaqv:SC:=sR [bJ 14 .lss 13 12] [0,1,12,13,14] (cX 14 0 Qazy)
def Qazz:SC:=sR [fB 4 true] [4] .ret
def Qaz0:SC:=.seq (sR [mJ 11 0,nJ 12 11,zJ 13 0] [0,1,12,13] (bL 0 Qaqv)) Qazz
def Qaz1:SC:=.seq (sR [mJ 6 0,nJ 7 6,mJ 8 1,nJ 9 8,bJ 10 .neq 7 9] [0,1,10] Qazu) Qaz0
def Qbdu:SC:=sR [fB 4 false] [0,1] Qaz1
def Qalw:List RS:=[.tmp 4]
theorem Qba6:mFn prog Ql3 2 26 Qbdu Qalw=true:=by kernel_rfl
def Q8s:SC:=cT 12 (sR [fB 4 false] [4] .ret) .skip
def Qlf:List Item:=[oJ 31 30]
def Q8t:SC:=cT 31 (sR [fB 4 false] [4] .ret) .skip
def Q8u:SC:=.reg [mJ 18 5,cJ 19 .add 18 1,mJ 5 19] [2,3,5]
def Q8v:SC:=.seq (.block 1 (.seq (.dreg 12 [0,1,2,3,4,5,6,7,8,9,10,11] ( fJ 20 0 2::lJ 21 20::mJ 22 5::iJ 23 3 21 22::tJ 24 3 23::fJ 25 0 3::lJ 26 25::mJ 27 5::iJ 28 3 26 27::tJ 29 3 28::aJ 30 Ql0 [.t 24,.t 29]::Qlf) [2,3,5,31]) Q8t)) Q8u
def Q2w:SC:=.seq (sR [mJ 13 5,fJ 14 0 2,lJ 15 14,nJ 16 15,bJ 17 .lss 13 16] [2,3,5,17] (cT 17 .skip (.exit 0))) Q8v
def Q8w:SC:=sR [fB 4 true] [4] .ret
def Q8x:SC:=.seq (sR [zJ 5 0] [2,3,5] (bL 0 Q2w)) Q8w
def Q8y:SC:=.seq (sR [fJ 6 0 2,lJ 7 6,nJ 8 7,fJ 9 0 3,lJ 10 9,nJ 11 10,bJ 12 .neq 8 11] [2,3,12] Q8s) Q8x
def Qak3:SC:=sR [vJ 2 0,vJ 3 1,fB 4 false] [2,3] Q8y
def Qvg:List RS:=[.tmp 4]
theorem Qahl:mFn prog Qd6 2 32 Qak3 Qvg=true:=by kernel_rfl
end Go.AE.Y
namespace Go.AE.Y
attribute [local go_sem] cond_true cond_false Bool.not_true Bool.not_false
attribute [local instance] Classical.propDecidable
open Go.Proofs.Tryz
variable {H H0:Heap}{K:V→Heap→Prop}{fl:Bool}
theorem Qba8 {fn:Nat}{f:CodeD→CodeD}{l:List CodeD}(hl:l.length≤4)(hf:∀p∈l,∀(H:Heap) (K:V→Heap→Prop) (fl:Bool),(∀H',Upd H H' []→K (.ag (f p).cells) H')→Qs prog fn [.ag [.int .i64 p.params,.int .i64 p.regs,.sl fl 5 (Qm p.blocks)]] H K)
  (hK:∀H',Upd H H' []→K (.c (.sl false 3 (Qj (l.map f)))) H') :
  Qs prog Qck [.c (.sl fl 3 (Qj l)),.c (.fn fn [])] H K:=by
 refine Qx ?_;refine Qc Qaj Qph ?_;refine Qa ?_;simp only[go_sem];refine Qa ?_;simp only[go_sem];refine Qy ?_;refine Qa ?_;simp only[go_sem,Q4];intro _;refine Qh (Qf (Qw (fun m e1 H1=>∃(ds:List CodeD) (t:C) (Lg:List (Nat×Obj)),m=l.length-ds.length∧ds.length≤l.length∧(∀i (h1:i<l.length) (h2:i<ds.length),ds[i]=f l[i])∧Gr Lg 3 (Qj ds) t∧Kn H H1 [] ([]++Lg)∧
  e1=[(1,.c (.fn fn [])),(5,.c t),(8,.c (.sl fl 3 (Qj l))),(9,.c (.int .i64 l.length)),(10,.c (.int .i64 ds.length))]) l.length ?_ ?_))
 ·exact⟨[],_,[],by simp,by simp,by simp,.nil 3,Kn.start0 H,rfl⟩
 ·rintro m e1 H1 ⟨ds,t,Lg,hm,hi,hdr,hgr,kn,rfl⟩;have htw:=hgr.isOw;refine Qa ?_;simp only[go_sem,htw];refine Qh (Qe rfl ?_ ?_)
  ·intro hc;have hlt:ds.length<l.length:=by simpa using hc
   obtain⟨p,hp⟩:∃p,l[ds.length]=p:=⟨_,rfl⟩;have hpm:p∈l:=by rw[←hp];exact Jc hlt
   refine Qi ?_;try simp only[go_sem]
   refine Qh (Qf ?_);refine Qa ?_;simp only[go_sem,htw,hlt,Q4,Qam _ _ hlt,CodeD.cells,hp];intro x7 hx7 H2 h2;have kn:=kn.al hx7 h2;have hx7:H2 x7=.st [.int .i64 0,.int .i64 0,.sl true 5 []]:=(kn.get (x7,.st [.int .i64 0,.int .i64 0,.sl true 5 []]) (by simp)).1;simp only[go_sem,Qdx,hx7,htw];intro H3 h3;have kn:Kn H H3 [] ([(x7,.st [.int .i64 p.params,.int .i64 p.regs,.sl false 5 (Qm p.blocks)])]++Lg):=by
    have:=kn.stL ([]++Lg).length (x:=x7) (o:=.st [.int .i64 0,.int .i64 0,.sl true 5 []]) (by simp) h3;refine Kn.perm (by simpa using this) ?_;exact Jv
   have hx7:=kn.l 0 rfl;refine Qq ?_;simp only[go_sem,htw,hx7,Jac,Jap];refine hf p hpm _ _ _ fun H4 hu=>?_;obtain⟨d,hd⟩:∃d,f p=d:=⟨_,rfl⟩;rw[hd];have kn:=kn.call0 hu;simp only[go_sem,Qdz,htw,CodeD.cells];refine kn.growR (new:=Qj [d]) hgr (.mk' _ _ _ _) (Qa9 _) (by simp only[Q4,LIM,Jg,Jk];omega) fun t2 Lg2 H5 hgr2 ht2 kn=>?_;simp only[go_sem,Qdy,ht2];refine Qq ?_;simp only[go_sem,X.next,ht2];refine⟨Qr (by omega) (by omega),l.length-(ds.length+1),by omega,ds++[d],t2,Lg2,by simp,by simp;omega,fun i h1 h2=>?_,?_,?_,by simp⟩
   ·by_cases hi:i<ds.length
    ·rw[List.getElem_append_left hi];exact hdr i h1 hi
    ·have hie:i=ds.length:=(by simp only[Jx,Jg,Jk]at h2;omega);subst hie;rw[hp];have:(ds++[d])[ds.length]=d:=(by simp);rw[this];exact hd.symm
   ·have:Qj (ds++[d])=Qj ds++Qj [d]:=(by simp[Qj]);rw[this];exact hgr2
   ·exact Kn.drop (B:=[(x7,.st [.int .i64 p.params,.int .i64 p.regs,.sl false 5 (Qm p.blocks)])]) (kn.perm Jv)
  ·intro hc;have hge:ds.length=l.length:=by have:l.length≤ds.length:=(by simpa using hc);omega
   refine Qv ?_;simp only[go_sem,X.next];refine Qa ?_;simp only[go_sem,htw];refine Qk ?_;simp only[go_sem,Q3,Qab,Qfo,Jb,forall_eq,RS.op,htw];have hde:ds=l.map f:=Jau (by rw[Jd,hge]) fun i h1 h2=>by rw[Jal];exact hdr i (by omega) h1
   have hfin:=hK _ kn.fin;rw[←hde]at hfin;exact⟨_,.c _ _ (hgr.frz kn (Qa9 _)),hfin⟩
noncomputable def perL (f:CodeD→CodeD)(cs:List CodeD):List CodeD:=if Qbw cs=true then cs.map f else []
theorem Qbbc {fn:Nat}{f:CodeD→CodeD}{cs:List CodeD}(hfit:∀c∈cs,c.fits)(hf:Qbw cs=true→∀p∈cs,∀(H:Heap) (K:V→Heap→Prop) (fl:Bool),(∀H',Upd H H' []→K (.ag (f p).cells) H')→Qs prog fn [.ag [.int .i64 p.params,.int .i64 p.regs,.sl fl 5 (Qm p.blocks)]] H K)
  (hK:∀H',Upd H H' []→K (.tup [.ag [.sl false 3 (Qj (perL f cs))],.c (.bool (Qbw cs))]) H') :
  Qs prog Qlt [.ag [.sl fl 3 (Qj cs)],.c (.fn fn [])] H K:=by
 refine Qx ?_;refine Qc Qaj Qasa ?_;refine Qa ?_;simp only[go_sem];intro x4 hx4 H1 h1;have kn:=(Kn.start0 H).al hx4 h1;simp only[go_sem,Qqs];refine Qy ?_;refine Qa ?_;simp only[go_sem];refine Qg1 hfit fun H2 hu=>?_;have kn:=kn.call0 hu;simp only[go_sem,Qqt];have hx4:=kn.l 0 rfl;refine Qh (Qe rfl ?_ ?_)
 ·intro hc;have hc:=Qt3 hc;refine Qa ?_;simp only[go_sem,hx4];intro H3 h3;have kn:=kn.stL 0 rfl h3;have hx4:=kn.l 0 rfl;simp only[go_sem,Qqu];refine Qk ?_;simp only[go_sem,X.next,Q3,Qab,Qpr,Jp,J2,RS.op,hx4];have hK:=hK _ kn.fin;rw[perL,hc]at hK;exact⟨fun _=>trivial,_,Qhr (FrzL.ag (.cons FrzR.nil.sl .nil)) (.c _ _ (Qg rfl)),hK⟩
 ·intro hc;have hg:=Qez hc;have hc4:cs.length≤4:=by have:=(of_decide_eq_true hg).1;omega
  refine Qi ?_;try simp only[go_sem]
  refine Qa ?_;simp only[go_sem];refine Qba8 hc4 (hf hg) fun H3 hu=>?_;have kn:=kn.call0 hu;have hx4:=kn.l 0 rfl;simp only[go_sem,Qqw,hx4];intro H4 h4;have kn:=kn.stL 0 rfl h4;have hx4:=kn.l 0 rfl;simp only[go_sem,Qqv];refine Qk ?_;simp only[go_sem,X.next,Q3,Qab,Qpr,Jp,J2,RS.op,hx4];have hK:=hK _ kn.fin;rw[perL,if_pos hg,hg]at hK;exact⟨fun _=>trivial,_,Qhr (Qdg _) (.c _ _ (Qg rfl)),hK⟩
theorem Qasu {f:CodeD→CodeD}{cs:List CodeD}(hfit:∀c∈cs,c.fits)(hf:∀c,c.fits→(f c).fits):∀c∈perL f cs,c.fits:=fun c hc=>by
 rw[perL]at hc;split at hc
 ·obtain⟨x,hx,rfl⟩:=Js.1 hc;exact hf x (hfit x hx)
 ·simp at hc
noncomputable def Qaho (cs:List CodeD)(b:Bool):List CodeD:=if (b&&Qbw cs)=true then cs else []
set_option maxHeartbeats 4000000 in
theorem Qban {cs:List CodeD}{pass:List UInt8}{f:CodeD→CodeD}(hfit:∀c∈cs,c.fits)(hff:∀c∈perL f cs,c.fits)
  (hf:Qbw cs=true→∀p∈cs,∀(H:Heap) (K:V→Heap→Prop),(∀H',Upd H H' []→K (.ag (f p).cells) H')→Qs prog Qj4 [.ag [.int .i64 p.params,.int .i64 p.regs,.sl false 5 (Qm p.blocks)],.c (.str pass)] H K)
  (hK:∀H',Upd H H' []→K (.tup [.ag [.sl false 3 (Qj (Qaho (perL f cs) (Qbw cs)))],.c (.bool (Qbw cs&&Qbw (perL f cs)))]) H') :
  Qs prog Qj3 [.ag [.sl fl 3 (Qj cs)],.c (.str pass)] H K:=by
 refine Qx ?_;refine Qc Qaj Qasd ?_;refine Qa ?_;simp only[go_sem];intro x4 hx4 H1 h1;have kn:=(Kn.start0 H).al hx4 h1;simp only[go_sem,Qrs];refine Qy ?_;refine Qa ?_;simp only[go_sem];refine Qfi hfit fun H2 hu=>?_;have kn:=kn.call0 hu;simp only[go_sem,Qrt];refine Qh (Qe rfl ?_ ?_)
 ·intro hc;have hc:Qbw cs=false:=Qt3 hc;have hx4:=kn.l 0 rfl;refine Qa ?_;simp only[go_sem,hx4];intro H3 h3;have kn:=kn.stL 0 rfl h3;have hx4:=kn.l 0 rfl;simp only[go_sem,Qru];refine Qk ?_;simp only[go_sem,X.next,Q3,Qab,Qhx,Jp,J2,RS.op,hx4];have hK:=hK _ kn.fin;have eo:Qaho (perL f cs) false=[]:=by simp[Qaho]
  rw[hc,eo]at hK;exact⟨fun _=>trivial,_,Qhr (FrzL.ag (.cons (FrzR.nil.sl) .nil)) (.c _ _ (Qg rfl)),hK⟩
 ·intro hc;have hG:Qbw cs=true:=Qez hc;refine Qi ?_;try simp only[go_sem]
  refine Qa ?_;simp only[go_sem];intro x6 hx6 H3 h3;have kn:=kn.al hx6 h3;have hx6:=kn.l 1 rfl;simp only[go_sem,Qrv,hx6];intro H4 h4;have kn:Kn H H4 [] [(x4,.st [.sl true 3 []]),(x6,.st [.sl true 3 []])]:=kn.stL 1 rfl h4;refine Qy ?_;refine Qa ?_;simp only[go_sem];have hcl:=(Q9e hfit hG).1;refine Qh (Qf (Qw (fun m e1 H1=>∃(ds:List CodeD) (t:C) (Lg:List (Nat×Obj)),m=cs.length-ds.length∧ds.length≤cs.length∧ds=(cs.take ds.length).map f∧Gr Lg 3 (Qj ds) t∧Kn H H1 [] ([(x4,.st [.sl true 3 []]),(x6,.st [t])]++Lg)∧
   lk 1 e1=.c (.str pass)∧lk 2 e1=.c (.pp [.sl fl 3 (Qj cs)])∧lk 4 e1=.c (.ptr x4 0)∧lk 6 e1=.c (.ptr x6 0)∧lk 7 e1=.c (.int .i64 ds.length)) cs.length ?_ ?_))
  ·exact⟨[],_,[],by simp,by simp,by simp,.nil 3,by simpa using kn,rfl,rfl,rfl,rfl,rfl⟩
  ·clear kn hx6;rintro m e1 H5 ⟨ds,t,Lg,hm,hdl,hds,hgr,kn,l1,l2,l4,l6,l7⟩;have htw:=hgr.isOw;refine Qy ?_;refine Qa ?_;simp only[go_sem,l1,l2,l4,l6,l7,Q4];try intro _
   refine Qh (Qe rfl ?_ ?_)
   ·intro hc2;have hlt:ds.length<cs.length:=(by simpa using hc2);have hx6:=kn.l 1 rfl;obtain⟨q,hq⟩:∃q,cs[ds.length]=q:=⟨_,rfl⟩;have hqm:q∈cs:=(by rw[←hq];exact Jc hlt);refine Qi ?_;try simp only[go_sem]
    refine Qh (Qf ?_);refine Qa2 ?_;simp only[go_sem,l1,l2,l4,l6,l7,hx6,htw,hlt,Q4,Qam _ _ hlt,CodeD.cells,hq];refine hf hG q hqm _ _ fun H6 hu=>?_;obtain⟨d,hd⟩:∃d,f q=d:=⟨_,rfl⟩;rw[hd];have kn:=kn.call0 hu;have hx6:=kn.l 1 rfl;simp only[go_sem,Qrx,CodeD.cells,hx6,htw];refine kn.growR (new:=Qj [d]) hgr (.mk' _ _ _ _) (Qa9 _) (by simp only[Q4,LIM,Jg,Jk];omega) fun t2 Lg2 H7 hgr2 ht2 kn=>?_;have hx6:=kn.l 1 rfl;simp only[go_sem,Qrw,hx6,ht2];intro H8 h8;have kn:=kn.stL 1 rfl h8;refine Qq ?_;simp only[go_sem,l1,l2,l4,l6,l7];refine⟨Qr (by omega) (by omega),?_⟩;show ∃m,_;refine⟨cs.length-(ds.length+1),by omega,ds++[d],t2,Lg2,by simp,by simp only[Jx,Jg,Jk];omega,?_,?_,kn,rfl,rfl,rfl,rfl,by simp[lk]⟩
    ·have e:(ds++[d]).length=ds.length+1:=(by simp);rw[e,Jn hlt,Jm,←hds,hq,Jai,Jap,hd]
    ·have:Qj (ds++[d])=Qj ds++Qj [d]:=(by simp[Qj]);rw[this];exact hgr2
   ·intro hcx;have hdl2:ds.length=cs.length:=(by have:cs.length≤ds.length:=(by simpa using hcx);omega);rw[hdl2,Jam]at hds;have hdp:perL f cs=ds:=(by rw[perL,if_pos hG,←hds]);rw[hG,hdp]at hK;rw[hdp]at hff;refine Qv ?_;simp only[go_sem,X.next];have hx6:=kn.l 1 rfl;obtain⟨S,hSL,hSB,hfz,kn⟩:=kn.freeze0;have hx6b:=hSB (x6,.st [t]) (by simp);have hft:FrzC H5 S t (.sl false 3 (Qj ds)):=Gr.frzM hgr hSL (FrzR.same (Qa9 _));have kn:=kn.setL (o':=.st [.sl false 3 (Qj ds)]) 1 rfl (by simp);refine c_gh (Qdt S (Q1k ?_) (hfz.set (o:=.st [.sl false 3 (Qj ds)]) hx6b.2 (by rw[hx6b.1];exact FrzKL.st (.cons htw hft .nil)))) (e':=[(4,.c (.ptr x4 0)),(6,.c (.ptr x6 0))]) ?_
    ·simp only[Jp];exact⟨.c _ _ (.same _ rfl),.c _ _ (.same _ rfl),by simp⟩
    generalize (H5.frz S).set x6 (Obj.st [C.sl false 3 (Qj ds)])=H6 at *;have hx6:=kn.l 1 rfl;have hx4:=kn.l 0 rfl;clear hfz hx6b hft hSL hSB;refine Qy ?_;refine Qa ?_;simp only[go_sem,hx6];refine Qfi hff fun H7 hu=>?_;have kn:=kn.call0 hu;have hx6:=kn.l 1 rfl;have hx4:=kn.l 0 rfl;simp only[go_sem,Qmm];refine Qh (Qe rfl ?_ ?_)
    ·intro hc3;have hG2:Qbw ds=false:=Qt3 hc3;refine Qa ?_;simp only[go_sem,hx4];intro H8 h8;have kn:=kn.stL 0 rfl h8;have hx4:=kn.l 0 rfl;simp only[go_sem,Qmn];refine Qk ?_;simp only[go_sem,X.next,Q3,Qab,Qhx,Jp,J2,RS.op,hx4];have hK:=hK _ kn.fin;have eo:Qaho ds true=[]:=(by simp[Qaho,hG2]);rw[hG2,eo]at hK;exact⟨fun _=>trivial,_,Qhr (FrzL.ag (.cons (FrzR.nil.sl) .nil)) (.c _ _ (Qg rfl)),hK⟩
    ·intro hc3;have hG2:Qbw ds=true:=Qez hc3;refine Qi ?_;try simp only[go_sem]
     refine Qa ?_;simp only[go_sem,hx6,hx4];intro H8 h8;have kn:=kn.stL 0 rfl h8;have hx4:=kn.l 0 rfl;simp only[go_sem,Qmo];refine Qk ?_;simp only[go_sem,X.next,Q3,Qab,Qhx,Jp,J2,RS.op,hx4];have hK:=hK _ kn.fin;have eo:Qaho ds true=ds:=(by simp[Qaho,hG2]);rw[hG2,eo]at hK;exact⟨fun _=>trivial,_,Qhr (Qdg ds) (.c _ _ (Qg rfl)),hK⟩
end Go.AE.Y
namespace Go.AE.Y
variable {g g':Nat→List Nat}{xs:List Nat}{S S' S'':List Bool}{o o' o'':List Nat}
theorem Dfs.nodup (h:Dfs g xs S o S' o'):(∀x,x<S.length→∀y∈g x,y<S.length)→(∀x∈xs,x<S.length)→(∀y∈o,S.getD y false=true)→o.Nodup→o'.Nodup:=by
 induction h with
 |nil S o=>exact fun _ _ _ h=>h
 |skip h1 h2 ih=>exact fun hg hx ho hn=>ih hg (fun y hy=>hx y (J6 _ hy)) ho hn
 |@go x xs S S1 S' o o1 o' h1 h2 h3 ih1 ih2=>
  intro hg hx ho hn;have hxl:=hx x J7;have hS1:=h2.len;rw[Jq]at hS1;have hg1:∀z,z<(S.set x true).length→∀y∈g z,y<(S.set x true).length:=by rw[Jq];exact hg
  have hx1:∀y∈g x,y<(S.set x true).length:=by rw[Jq];exact hg x hxl
  have ho1:∀y∈o,(S.set x true).getD y false=true:=fun y hy=>by
   rw[Ql5];split
   ·rfl
   ·exact ho y hy
  have hn1:=ih1 hg1 hx1 ho1 hn;obtain⟨t,e,a1,a2,a3,a4⟩:=h2.adds hg1 hx1;have hxo:x∉o1:=fun hm=>by
   rw[e]at hm;rcases Jo.1 hm with hm|hm
   ·have:=ho x hm;rw[h1]at this;simp at this
   ·obtain⟨z,_,hr⟩:=a4 x hm;refine hr.snd ?_;rw[Ql5,if_pos ⟨rfl,hxl⟩]
  refine ih2 (by rw[hS1];exact hg) (fun y hy=>by rw[hS1];exact hx y (J6 _ hy)) (fun y hy=>?_) ?_
  ·rcases Jo.1 hy with hy|hy
   ·rw[e]at hy;rw[a1];rcases Jo.1 hy with hy|hy
    ·exact .inl (ho1 y hy)
    ·exact .inr hy
   ·rw[Jb]at hy;subst hy;refine h2.mono y ?_;rw[Ql5,if_pos ⟨rfl,hxl⟩]
  ·rw[Ju];refine⟨hn1,by simp,fun a ha b hb he=>?_⟩;rw[Jb]at hb;subst hb;subst he;exact hxo ha
end Go.AE.Y
namespace Go.AE.Y
open Go.Proofs.Tryz
def Qko:List Item:=[fB 3 false]
def Qkp:List Item:=[mJ 3 7]
def Qkq:List Item:=fI 6 (.ext (.t 5) 0)::fI 7 (.ext (.t 5) 1)::sJ 1 2 6::Qkp
def Q6s:SC:=sR (tJ 4 1 1::eI 5 (.call Qlt [.t 4,.k (.c (.fn Q04 []))])::Qkq) [2,3] .ret
def Qahp:SC:=sR (vJ 1 0::eI 2 (.alloc [.sl true 3 []])::Qko) [1,2] Q6s
def Qu6:List RS:=[.cell 2 1 true,.tmp 3]
theorem Qag7:mFn prog Qhd 1 8 Qahp Qu6=true:=by kernel_rfl
def Q47:List Item:=[sJ 3 3 7]
def Q48:List Item:=eI 3 (.alloc [.int .i64 0,.int .i64 0,.sl true 5 []])::Q47
def Qa3x:SC:=.reg [mJ 45 5,mJ 46 5,kJ 47 46,fJ 48 4 47,lJ 49 48,fI 50 (.iad 1 (.t 49) (kI 0)),lJ 51 50,fI 52 (.bsl 1 [.t 51]),kJ 53 45,fJ 54 4 53,sJ 1 54 52] [2,3,4]
def Qa3y:SC:=sR [mJ 42 5,kJ 43 42,fJ 44 3 43,.e none none (.sto 1 (.t 44) (kI 0))] [2,3,4,5] Qa3x
def Qa3z:SC:=cT 38 (sR [mJ 39 5,kJ 40 39,fJ 41 2 40,.e none none (.sto 1 (.t 41) (kI 1))] [2,3,4,5] Qa3y) .skip
def Qa30:SC:=.seq (.dreg 20 [0,1,2,3,4,5,6,7,8,9,10,11,12,13,14,15,16,17,18,19] ( mJ 19 5::kJ 20 19::fJ 21 2 20::lJ 22 21::cJ 23 .eql 22 2::mJ 24 23::gTm 25 24 5::gT 26 24 (.nck (.t 25))::gTf 27 24 4 26::gTl 28 24 27::gT 29 24 (.iad 1 (.t 28) (kI 0))::gTl 30 24 29::gTm 31 24 5::gT 32 24 (.nck (.t 31))::gTf 33 24 4 32::gTl 34 24 33::gT 35 24 (.iad 1 (.t 34) (kI 1))::gTl 36 24 35::gT 37 24 (.bin 0 .eql (.t 30) (.t 36))::pF 38 24 37::[]) [2,3,4,5,38]) Qa3z
def Qa31:SC:=.reg [mJ 13 4,cJ 14 .add 13 1,mJ 4 14] [2,3,4]
def Qa32:SC:=.seq (.block 1 (sR [fJ 15 2 3,lJ 16 15,mJ 17 4,iJ 18 5 16 17,mJ 5 18] [2,3,4,5] Qa30)) Qa31
def Qax1:SC:=.seq (sR [mJ 8 4,fJ 9 2 3,lJ 10 9,nJ 11 10,bJ 12 .lss 8 11] [2,3,4,12] (cT 12 .skip (.exit 0))) Qa32
def Qa33:SC:=sR [tJ 55 3 3,sJ 3 2 55] [2] .ret
def Qaxz:SC:=.seq (sR [zJ 4 0] [2,3,4] (bL 0 Qax1)) Qa33
def Qax0:SC:=sR (tJ 6 3 1::aJ 7 Qfl [.t 6]::Q48) [2,3] Qaxz
def Qbh4:SC:=sR [vJ 1 0,eI 2 (.alloc [.int .i64 0,.int .i64 0,.sl true 5 []])] [1,2] Qax0
def Qas4:List RS:=[.cell 2 3 true]
theorem Qbgf:mFn prog Q1d 1 56 Qbh4 Qas4=true:=by kernel_rfl
def Qk8:List Item:=[fB 3 false]
def Qk9:List Item:=[mJ 3 7]
def Qla:List Item:=fI 6 (.ext (.t 5) 0)::fI 7 (.ext (.t 5) 1)::sJ 1 2 6::Qk9
def Q8n:SC:=sR (tJ 4 1 1::eI 5 (.call Qj3 [.t 4,.k (.c (.str [101,118,101,110]))])::Qla) [2,3] .ret
def Qak0:SC:=sR (vJ 1 0::eI 2 (.alloc [.sl true 3 []])::Qk8) [1,2] Q8n
def Qve:List RS:=[.cell 2 1 true,.tmp 3]
theorem Qahi:mFn prog Qho 1 8 Qak0 Qve=true:=by kernel_rfl
def Qf2:List Item:=[sJ 1 2 4]
def Qu1:SC:=sR (mJ 3 0::aJ 4 Q1c [.t 3]::Qf2) [2] .ret
def Q0t:SC:=sR [eI 2 (.alloc [.sl true 3 []])] [0,2] Qu1
def Qix:List RS:=[.cell 2 1 true]
theorem Qyk:mFn prog Qdl 1 5 Q0t Qix=true:=by kernel_rfl
end Go.AE.Y
namespace Go.AE.Y
attribute [local go_sem] cond_true cond_false Bool.not_true Bool.not_false
attribute [local instance] Classical.propDecidable
open Go.Proofs.Tryz
variable {H H0:Heap}{K:V→Heap→Prop}{E B:List (Nat×Obj)}{q:CodeD}{fl:Bool}
noncomputable def evR (y:BlkD):List C:=if y.jump=2∧y.next.getD 0 0=y.next.getD 1 0 then [.sl false 2 (Q1 y.phis),.sl false 4 (Qaq y.ins),.int .i64 1,.int .i64 0,.sl true 1 [[.int .i64 (y.next.getD 0 0)]]]else y.cells
noncomputable def evS (q:CodeD)(i:Nat):List (List C):=(q.blocks.take i).map evR++Qm (q.blocks.drop i)
theorem Qa0v {i:Nat}(hi:i≤q.blocks.length):(evS q i).length=q.blocks.length:=by
 simp[evS,Qo];omega
theorem Qa8m:evS q 0=Qm q.blocks:=by simp[evS]
theorem Qbep:evS q q.blocks.length=q.blocks.map evR:=by simp[evS,Qm]
theorem Qboc {i:Nat}(hi:i<q.blocks.length):(evS q i).getD i []=q.blocks[i].cells:=by
 rw[evS,Ja,Jaj (by simp;omega)];simp[Qm,hi,Jbn (Jbp hi)]
theorem Qbeq {i:Nat}(hi:i<q.blocks.length):(evS q i).set i (evR q.blocks[i])=evS q (i+1):=by
 have hl:((q.blocks.take i).map evR).length=i:=by simp;omega
 rw[evS,evS,Jba _ _ (by omega),hl,Nat.sub_self,Ja1 hi,Jn hi];have e:Qm (q.blocks[i]::q.blocks.drop (i+1))=q.blocks[i].cells::Qm (q.blocks.drop (i+1)):=rfl;rw[e,List.set_cons_zero,Jm];simp only[Jai,Jap,J3,Jbc]
theorem Qa8l {i:Nat}(hi:i<q.blocks.length)(h:¬(q.blocks[i].jump=2∧q.blocks[i].next.getD 0 0=q.blocks[i].next.getD 1 0)):evS q (i+1)=evS q i:=by
 rw[evS,evS,Ja1 hi,Jn hi];simp only[Jm,Jai,Jap,Qm,J3,Jbc];congr 2;rw[evR,if_neg h]
theorem Qbpj {S:Nat→Bool}(y:BlkD):FrzL H S (evR y) (evB y).cells:=by
 rw[evR,evB];split
 ·exact .cons (.same _ rfl) (.cons (.same _ rfl) (.cons (.same _ rfl) (.cons (.same _ rfl) (.cons (FrzR.same (Qp [_])).sl .nil))))
 ·exact .same (Qwk [y] _ (by simp[Qm]))
theorem Qbeo {S:Nat→Bool}(l:List BlkD):FrzR H S (l.map evR) (Qm (l.map evB)):=by
 rw[Qm,Jao];exact Qgz l fun y _=>Qbpj y
set_option maxHeartbeats 4000000 in
theorem Qbfo (ho:q.ok)(hjn:∀b (h:b<q.blocks.length),(q.blocks[b].next.length:Int)=Qd1 q.blocks[b].jump)(hK:∀H',Upd H H' []→K (.ag (evE q).cells) H'):Qs prog Q1d [.ag [.int .i64 q.params,.int .i64 q.regs,.sl false 5 (Qm q.blocks)]] H K:=by
 have hb1:=ho.b1;refine Qx ?_;refine Qc Qaj Qbgf ?_;refine Qa ?_;simp only[go_sem];intro x2 hx2 H1 h1;have kn:=(Kn.start0 H).al hx2 h1;refine Qa ?_;simp only[go_sem];refine Qblc (q:=q) ho.sg ho.b0 fun z H2 k2=>?_;have kn:=kn.comp0 k2;simp only[go_sem,Q48];intro x3 hx3 H3 h3;have kn:=kn.al hx3 h3;have hx3:=kn.l 2 rfl;simp only[go_sem,Q47,hx3];intro H4 h4;have kn:Kn H H4 [] [(x2,.st [.int .i64 0,.int .i64 0,.sl true 5 []]),(z,.vec 5 (evS q 0)),(x3,.st [.int .i64 q.params,.int .i64 q.regs,.vsl z 5 0 q.blocks.length])]:=by
  rw[Qa8m];exact kn.stL 2 rfl h4
 refine Qy ?_;refine Qa ?_;simp only[go_sem];refine Qh (Qf (Qw (fun mm e1 H1=>∃(i:Nat),mm=q.blocks.length-i∧i≤q.blocks.length∧Kn H H1 [] [(x2,.st [.int .i64 0,.int .i64 0,.sl true 5 []]),(z,.vec 5 (evS q i)),(x3,.st [.int .i64 q.params,.int .i64 q.regs,.vsl z 5 0 q.blocks.length])]∧
  e1=[(2,.c (.ptr x2 0)),(3,.c (.ptr x3 0)),(4,.c (.int .i64 i))]) q.blocks.length ?_ ?_))
 ·exact⟨0,by omega,by omega,kn,rfl⟩
 clear kn hx3;rintro mm e1 H5 ⟨i,hmm,hi,kn,rfl⟩;have hx3:=kn.l 2 rfl;have hz:=kn.l 1 rfl;have hel:=Qa0v hi;have het:(evS q i).take q.blocks.length=evS q i:=Jh (by omega);refine Qy ?_;refine Qa ?_;simp only[go_sem,hx3,hz,hel];refine⟨by omega,fun _=>?_⟩;refine Qh (Qe rfl ?_ ?_)
 ·intro hc;have hlt:i<q.blocks.length:=by have:(i:Int)<q.blocks.length:=of_decide_eq_true hc;omega
  refine Qi ?_;try simp only[go_sem]
  refine Qh (Qf ?_);refine Qa ?_;simp only[go_sem,hx3,hz,hel,hlt];try refine⟨by omega,?_⟩
  have hat:=Qboc hlt;have hset:=Qbeq hlt;have hsame:=Qa8l hlt;have hn:=hjn i hlt;generalize q.blocks[i]=y at *;have t2:y.jump=2→2≤y.next.length:=fun h=>by
   have:=congrArg List.length (Qano hn h);simp at this;omega
  by_cases hj:y.jump=2
  ·have hl2:=t2 hj;have hl0:0<y.next.length:=by omega
   have hl1:1<y.next.length:=by omega
   have g0:=Qn y.next 0 hl0;have g1:=Qn y.next 1 hl1;refine Qag ?_;simp only[go_sem,hz,hel,het,hlt,hat,hj,g0,g1,hl0,hl1,BlkD.cells,Qd,decide_true];refine⟨by omega,by omega,by omega,by omega,by omega,?_⟩;refine Qe rfl ?_ ?_
   ·intro hc2;have he:y.next.getD 0 0=y.next.getD 1 0:=of_decide_eq_true hc2;have evr:evR y=[.sl false 2 (Q1 y.phis),.sl false 4 (Qaq y.ins),.int .i64 1,.int .i64 0,.sl true 1 [[.int .i64 (y.next.getD 0 0)]]]:=(by rw[evR,if_pos ⟨hj,he⟩]);refine Qa ?_;simp only[go_sem,hz,hel,hlt,hat,BlkD.cells];refine⟨by omega,?_⟩;rw[Ji,hat];intro H6 h6;obtain⟨T1,hT1⟩:∃T,T=(evS q i).set i [.sl false 2 (Q1 y.phis),.sl false 4 (Qaq y.ins),.int .i64 1,.int .i64 y.on,.sl false 1 (Qb y.next)]:=⟨_,rfl⟩;have kn:Kn H H6 [] [(x2,.st [.int .i64 0,.int .i64 0,.sl true 5 []]),(z,.vec 5 T1),(x3,.st [.int .i64 q.params,.int .i64 q.regs,.vsl z 5 0 q.blocks.length])]:=by
     rw[hT1];exact kn.stL 1 rfl h6
    have l1:T1.length=q.blocks.length:=(by rw[hT1,Jq,hel]);have a1:T1.getD i []=[.sl false 2 (Q1 y.phis),.sl false 4 (Qaq y.ins),.int .i64 1,.int .i64 y.on,.sl false 1 (Qb y.next)]:=by
     rw[hT1,Ja,Jaq (by omega)];rfl
    have hz:=kn.l 1 rfl;refine Qa ?_;simp only[go_sem,hz,l1,hlt,a1];refine⟨by omega,?_⟩;rw[Ji,a1];intro H7 h7;obtain⟨T2,hT2⟩:∃T,T=T1.set i [.sl false 2 (Q1 y.phis),.sl false 4 (Qaq y.ins),.int .i64 1,.int .i64 0,.sl false 1 (Qb y.next)]:=⟨_,rfl⟩;have kn:Kn H H7 [] [(x2,.st [.int .i64 0,.int .i64 0,.sl true 5 []]),(z,.vec 5 T2),(x3,.st [.int .i64 q.params,.int .i64 q.regs,.vsl z 5 0 q.blocks.length])]:=by
     rw[hT2];exact kn.stL 1 rfl h7
    have l2:T2.length=q.blocks.length:=(by rw[hT2,Jq,l1]);have a2:T2.getD i []=[.sl false 2 (Q1 y.phis),.sl false 4 (Qaq y.ins),.int .i64 1,.int .i64 0,.sl false 1 (Qb y.next)]:=by
     rw[hT2,Ja,Jaq (by omega)];rfl
    have t2:T2.take q.blocks.length=T2:=Jh (by omega);have hz:=kn.l 1 rfl;refine Qq ?_;simp only[go_sem,hz,l2,hlt,a2,t2,g0,hl0,Qd];refine⟨by omega,by omega,by omega,?_⟩;rw[Ji,a2];intro H8 h8;have e3:T2.set i [.sl false 2 (Q1 y.phis),.sl false 4 (Qaq y.ins),.int .i64 1,.int .i64 0,.sl true 1 [[.int .i64 (y.next.getD 0 0)]]]=evS q (i+1):=by
     rw[←hset,evr,hT2,hT1,Jbo,Jbo]
    have kn:Kn H H8 [] [(x2,.st [.int .i64 0,.int .i64 0,.sl true 5 []]),(z,.vec 5 (evS q (i+1))),(x3,.st [.int .i64 q.params,.int .i64 q.regs,.vsl z 5 0 q.blocks.length])]:=by
     rw[←e3];exact kn.stL 1 rfl h8
    refine Qq ?_;simp only[go_sem,X.next];exact⟨Qr (by omega) (by omega),q.blocks.length-(i+1),by omega,i+1,rfl,by omega,kn,rfl⟩
   ·intro hc2;have he:¬y.next.getD 0 0=y.next.getD 1 0:=of_decide_eq_false hc2;refine Qi ?_;try simp only[go_sem]
    refine Qq ?_;simp only[go_sem,X.next];exact⟨Qr (by omega) (by omega),q.blocks.length-(i+1),by omega,i+1,rfl,by omega,by rw[hsame fun h=>he h.2];exact kn,rfl⟩
  ·have hjf:decide (y.jump=2)=false:=decide_eq_false hj;refine Qag ?_;simp only[go_sem,hz,hel,het,hlt,hat,hjf,BlkD.cells];refine⟨by omega,?_⟩;refine Qe (c:=false) (by simp only[go_sem];split <;> simp_all) (fun h=>by cases h) fun _=>?_;refine Qi ?_;try simp only[go_sem]
   refine Qq ?_;simp only[go_sem,X.next];exact⟨Qr (by omega) (by omega),q.blocks.length-(i+1),by omega,i+1,rfl,by omega,by rw[hsame fun h=>hj h.1];exact kn,rfl⟩
 ·intro hc;have hie:i=q.blocks.length:=by have:¬(i:Int)<q.blocks.length:=of_decide_eq_false hc;omega
  subst hie;refine Qv ?_;simp only[go_sem,X.next];have hx2:=kn.l 0 rfl;refine Qa ?_;simp only[go_sem,hx3,hx2];intro H6 h6;have kn:=kn.stL 0 rfl h6;have hx2:=kn.l 0 rfl;have hz:=kn.l 1 rfl;refine Qk ?_;simp only[go_sem,X.next,Q3,Qab,Qas4,Jb,forall_eq,RS.op,hx2];have el:(evE q).blocks=q.blocks.map evB:=rfl;refine⟨_,FrzL.ag (.cons (.same _ rfl) (.cons (.same _ rfl) (.cons (FrzR.vsl (rows':=Qm (evE q).blocks) (kn.un 1 rfl) hz hel.symm (by rw[Qbep,el];exact Qbeo _)) .nil))),hK _ kn.fin⟩
end Go.AE.Y
namespace Go.AE.Y
attribute [local go_sem] cond_true cond_false Bool.not_true Bool.not_false
open Go.Proofs.Tryz
variable {H H0:Heap}{K:V→Heap→Prop}{E B Lg:List (Nat×Obj)}{q:CodeD}
abbrev Plc:=Int×Int
def pRow (p:Plc):List C:=[.sl true 1 [[.int .i64 p.1],[.int .i64 p.2]]]
def Qkd (ps:List Plc):List (List C):=ps.map pRow
theorem Qyl (ps:List Plc):(Qkd ps).length=ps.length:=by simp[Qkd]
theorem Qbbf (ps:List Plc)(i:Nat)(h:i<ps.length):(Qkd ps).getD i []=pRow ps[i]:=by simp[Qkd,Ja,h]
theorem Q1u (ps:List Plc):∀r∈Qkd ps,noOw r=true:=by intro r hr;obtain⟨x,_,rfl⟩:=Js.1 hr;rfl
def phS (q:CodeD)(b k r:Nat):List Plc:=(((Qan q b).phis.take k).filter fun p=>decide (p.to=(r:Int))).map fun _=>((b:Int),(-1:Int))
def Qalk (q:CodeD)(b i:Nat):Int:=(((Qan q b).ins[i]?).map Qos).getD (-1)
def inS (q:CodeD)(b j r:Nat):List Plc:=((List.range j).filter fun i=>decide (Qalk q b i=(r:Int))).map fun (i:Nat)=>((b:Int),(i:Int))
def blS (q:CodeD)(b r:Nat):List Plc:=phS q b (Qan q b).phis.length r++inS q b (Qan q b).ins.length r
def Qf3 (q:CodeD)(b r:Nat):List Plc:=(List.range b).flatMap fun b=>blS q b r
def Qa71 (q:CodeD)(r:Nat):List Plc:=Qf3 q q.blocks.length r
def Qja (q:CodeD):List (List C):=(List.range q.regs.toNat).map fun r=>[.sl false 1 (Qkd (Qa71 q r))]
theorem Qbmd {b k r:Nat}(h:k<(Qan q b).phis.length):phS q b (k+1) r=phS q b k r++if (Qan q b).phis[k].to=(r:Int)then [((b:Int),(-1:Int))]else []:=by
 rw[phS,phS,Jn h,Jaz,Jm];congr 1;by_cases hc:(Qan q b).phis[k].to=(r:Int)
 ·rw[if_pos hc];simp[hc]
 ·rw[if_neg hc];simp[hc]
theorem Qbgr {b i:Nat}(h:i<(Qan q b).ins.length):Qalk q b i=Qos (Qan q b).ins[i]:=by simp[Qalk,h]
theorem Qa8t {b j r:Nat}:inS q b (j+1) r=inS q b j r++if Qalk q b j=(r:Int)then [((b:Int),(j:Int))]else []:=by
 rw[inS,inS,Ja9,Jaz,Jm];congr 1;by_cases hc:Qalk q b j=(r:Int)
 ·rw[if_pos hc];simp[hc]
 ·rw[if_neg hc];simp[hc]
theorem Qa73 {b r:Nat}:Qf3 q (b+1) r=Qf3 q b r++blS q b r:=by simp[Qf3,Ja9]
theorem Qa1q (x:InsD):(Qdv x.op=true∧Qos x=x.to)∨(Qdv x.op=false∧Qos x=-1):=by
 cases h:Qdv x.op with
 |true=>exact .inl ⟨rfl,by simp[Qos,h]⟩
 |false=>exact .inr ⟨rfl,by simp[Qos,h]⟩
structure SReg where
 ps:List Plc
 c:C
 lg:List (Nat×Obj)
def SReg.row (s:SReg):List C:=[s.c]
def SReg.ok (s:SReg):Prop:=Gr s.lg 1 (Qkd s.ps) s.c
structure SInv (R N:Nat)(F:Nat→List Plc)(ss:List SReg):Prop where
 n:ss.length=R
 f:∀r (h:r<ss.length),ss[r].ps=F r
 ok:∀s∈ss,s.ok
 l:∀s∈ss,s.ps.length≤N
variable {R N:Nat}{F F':Nat→List Plc}{ss:List SReg}
theorem SInv.get (h:SInv R N F ss){x:Nat}(hx:x<R):∃s∈ss,∃hx':x<ss.length,ss[x]=s∧s.ps=F x∧s.ok∧s.ps.length≤N∧(ss.map SReg.row).getD x []=[s.c]:=
 have hx':x<ss.length:=by rw[h.n];exact hx
 ⟨ss[x],Jc hx',hx',rfl,h.f x hx',h.ok _ (Jc hx'),h.l _ (Jc hx'),by simp[Ja,hx',SReg.row]⟩
theorem SInv.put (h:SInv R N F ss){x:Nat}(hx:x<R){p:Plc}{t:C}{Lg:List (Nat×Obj)}(hg:Gr Lg 1 (Qkd (F x++[p])) t)(hF:∀r,F' r=if r=x then F x++[p]else F r) :
  SInv R (N+1) F' (ss.set x ⟨F x++[p],t,Lg⟩):=by
 obtain⟨s,hs,hx',e1,e2,e3,e4,_⟩:=h.get hx;refine⟨by rw[Jq];exact h.n,fun r hr=>?_,fun w hw=>?_,fun w hw=>?_⟩
 ·rw[J5,hF];split
  ·rename_i e;rw[if_pos e.symm]
  ·rename_i e;rw[if_neg (fun hh=>e hh.symm)];exact h.f r (by simpa using hr)
 ·rcases J8 hw with hw|rfl
  ·exact h.ok w hw
  ·exact hg
 ·rcases J8 hw with hw|rfl
  ·have:=h.l w hw;omega
  ·rw[e2]at e4;simp only[Jx,Jg,Jk];omega
theorem SInv.same (h:SInv R N F ss)(hF:∀r,r<R→F' r=F r):SInv R N F' ss:=⟨h.n,fun r hr=>by rw[h.f r hr,hF r (by rw[←h.n];exact hr)],h.ok,h.l⟩
theorem SInv.up (h:SInv R N F ss){M:Nat}(hM:N≤M):SInv R M F ss:=⟨h.n,h.f,h.ok,fun s hs=>by have:=h.l s hs;omega⟩
def ssL (o:Nat)(ss:List SReg):List (Nat×Obj):=[(o,.vec 1 (ss.map SReg.row))]++ss.flatMap SReg.lg
theorem Qagv {o x:Nat}{s:SReg}(hx:x<ss.length)(hs:ss[x]=s):(ssL o ss).Perm (([(o,.vec 1 (ss.map SReg.row))]++(ss.eraseIdx x).flatMap SReg.lg)++s.lg):=by
 subst hs;have:=Qdr (f:=SReg.lg) hx;rw[ssL];refine Ql fun f hf h0 hc hp=>?_;have:=hp _ _ this;simp only[hf]at this⊢;omega
theorem Qa9n {o x:Nat}{s:SReg}(hx:x<ss.length):(([(o,Obj.vec 1 ((ss.set x s).map SReg.row))]++(ss.eraseIdx x).flatMap SReg.lg)++s.lg).Perm (ssL o (ss.set x s)):=by
 have h1:=Qagv (o:=o) (ss:=ss.set x s) (x:=x) (s:=s) (by rw[Jq];exact hx) (by simp);rw[Jav]at h1;exact h1.symm
set_option maxHeartbeats 4000000 in
theorem Qbfm {fl:Bool}(ho:q.ok)(hK:∀H',Upd H H' []→K (.c (.sl false 1 (Qja q))) H') :
  Qs prog Q1b [.ag [.int .i64 q.params,.int .i64 q.regs,.sl fl 5 (Qm q.blocks)]] H K:=by
 have hr0:=ho.r0;have hr1:=ho.r1;have hb1:=ho.b1;obtain⟨R,hR⟩:∃R:Nat,q.regs.toNat=R:=⟨_,rfl⟩;have hRq:q.regs=(R:Int):=by omega
 refine Qx ?_;refine Qc Qaj Qbgd ?_;refine Qa ?_;simp only[go_sem];refine Qa ?_;simp only[go_sem,hRq];refine⟨by simp only[LIM];omega,fun o ho2 H1 h1=>?_⟩;have kn:Kn H H1 [] (ssL o (List.replicate R ⟨[],.sl true 1 [],[]⟩)):=by
  have e:(List.replicate R (SReg.mk [] (.sl true 1 []) [])).flatMap SReg.lg=[]:=List.flatMap_eq_nil_iff.2 fun s hs=>by rw[Jad hs]
  have:=(Kn.start0 H).al ho2 h1;rw[ssL,e];simpa[SReg.row]using this
 simp only[go_sem,Q4z];have hS0:SInv R 0 (Qf3 q 0) (List.replicate R ⟨[],.sl true 1 [],[]⟩):=⟨by simp,fun r h=>by simp[Qf3],fun s hs=>by rw[Jad hs];exact .nil 1,fun s hs=>by rw[Jad hs];simp⟩;generalize List.replicate R (SReg.mk [] (.sl true 1 []) [])=ss0 at *;refine Qy ?_;refine Qa ?_;simp only[go_sem];refine Qh (Qf (Qw (fun m e1 H1=>∃(b N:Nat) (ss:List SReg),m=q.blocks.length-b∧b≤q.blocks.length∧N≤b * 2400∧SInv R N (Qf3 q b) ss∧Kn H H1 [] (ssL o ss)∧
  lk 1 e1=.c (.pp [.int .i64 q.params,.int .i64 (R:Int),.sl fl 5 (Qm q.blocks)])∧lk 3 e1=.c (.vsl o 1 0 R)∧lk 4 e1=.c (.int .i64 b)) q.blocks.length ?_ ?_))
 ·exact⟨0,0,ss0,by omega,by omega,by omega,hS0,kn,rfl,rfl,rfl⟩
 ·clear kn hS0 h1 ho2;clear ss0;rintro m e1 H1 ⟨b,N,ss,hm,hb,hNb,hS,kn,l1,l3,l4⟩;refine Qy ?_;refine Qa ?_;simp only[go_sem,l1,l3,l4,Qo];try intro _
  refine Qh (Qe rfl ?_ ?_)
  ·intro hc;have hlt:b<q.blocks.length:=by simpa using hc
   obtain⟨y,hy⟩:∃y,q.blocks[b]=y:=⟨_,rfl⟩;have hya:Qan q b=y:=by rw[Qbs hlt,hy]
   have hyo:=ho.bs b hlt;have hil:=ho.il b hlt;rw[hy]at hyo hil;refine Qi ?_;try simp only[go_sem]
   refine Qh (Qf ?_);refine Qy ?_;refine Qa ?_;simp only[go_sem,l1,l3,l4];refine Qh (Qf (Qw (fun m e1 H1=>∃(k N:Nat) (ss:List SReg),m=y.phis.length-k∧k≤y.phis.length∧N≤b * 2400+k∧SInv R N (fun r=>Qf3 q b r++phS q b k r) ss∧Kn H H1 [] (ssL o ss)∧
    lk 1 e1=.c (.pp [.int .i64 q.params,.int .i64 (R:Int),.sl fl 5 (Qm q.blocks)])∧lk 3 e1=.c (.vsl o 1 0 R)∧lk 4 e1=.c (.int .i64 b)∧lk 5 e1=.c (.int .i64 k)) y.phis.length ?_ ?_))
   ·exact⟨0,N,ss,by omega,by omega,Jbj hNb (Jbl _ _),hS.same fun r _=>by simp[phS],kn,rfl,rfl,rfl,rfl⟩
   ·clear kn hS l1 l3 l4;clear ss hNb;clear N;rintro m2 e2 H2 ⟨k,N,ss,hm2,hk,hNb,hS,kn,l1,l3,l4,l5⟩;refine Qy ?_;refine Qa ?_;simp only[go_sem,l1,l3,l4,l5,hlt,Qo,Qaa _ _ hlt,BlkD.cells,hy,Q0];try intro _
    refine Qh (Qe rfl ?_ ?_)
    ·intro hc2;have hlt2:k<y.phis.length:=(by simpa using hc2);obtain⟨p,hp⟩:∃p,y.phis[k]=p:=⟨_,rfl⟩;have hpm:p∈y.phis:=(by rw[←hp];exact Jc hlt2);obtain⟨hv,hvl⟩:=(hyo.pto p hpm).nat;have hsucc:∀r,phS q b (k+1) r=phS q b k r++if p.to=(r:Int)then [((b:Int),(-1:Int))]else []:=fun r=>by
      have:=Qbmd (q:=q) (b:=b) (k:=k) (r:=r) (by rw[hya];exact hlt2);simp only[hya,hp]at this;exact this
     refine Qi ?_;try simp only[go_sem]
     refine Qh (Qf ?_);rw[hR]at hvl;generalize hx:p.to.toNat=x at *;obtain⟨s,hsm,hxl,hsx,hsF,hsok,hsl,hsg⟩:=hS.get hvl;have hsw:=hsok.isOw;refine Qa ?_;simp only[go_sem,l1,l3,l4,l5,hlt,Qo,Qaa _ _ hlt,BlkD.cells,hy,Q0,hlt2,Qaw _ _ hlt2,PhiD.cells,hp];have kn:=kn.perm (Qagv hxl hsx);have hob:H2 o=.vec 1 (ss.map SReg.row):=(kn.get (o,.vec 1 (ss.map SReg.row)) (by simp)).1;have hrl:(ss.map SReg.row).length=R:=(by rw[Jd,hS.n]);have hrt:(ss.map SReg.row).take R=ss.map SReg.row:=Jh (by omega);refine Qq ?_;simp only[go_sem,hob,hrl,hrt,hv,hvl,hsg,hsw,Ji,Jj];refine kn.growR (new:=Qkd [((b:Int),(-1:Int))]) hsok (.mk' _ _ _ _) (Q1u _) (by simp only[Qyl,LIM,Jg,Jk];omega) fun t2 Lg2 H3 hg2 ht2 kn=>?_;have hob:H3 o=.vec 1 (ss.map SReg.row):=(kn.get (o,.vec 1 (ss.map SReg.row)) (by simp)).1;simp only[go_sem,Q40,hob,hrl,hrt,hv,hvl,hsg,hsw,ht2,Ji,Jj];intro H4 h4;obtain⟨s',hs'⟩:∃s':SReg,s'=⟨(Qf3 q b x++phS q b k x)++[((b:Int),(-1:Int))],t2,Lg2⟩:=⟨_,rfl⟩;have hset:(ss.map SReg.row).set x [t2]=(ss.set x s').map SReg.row:=(by rw[Ja0,hs'];rfl);rw[hset]at h4;have kn:Kn H H4 [] (([(o,.vec 1 ((ss.set x s').map SReg.row))]++(ss.eraseIdx x).flatMap SReg.lg)++s'.lg):=by
      have e:s'.lg=Lg2:=(by rw[hs']);rw[e];exact kn.stL 0 rfl h4
     have kn:=kn.perm (Qa9n hxl);refine Qq ?_;simp only[go_sem,l1,l3,l4,l5];refine⟨Qr (by omega) (by omega),?_⟩;show ∃m,_;refine⟨y.phis.length-(k+1),by omega,k+1,N+1,ss.set x s',rfl,by omega,by omega,?_,kn,rfl,rfl,rfl,rfl⟩;rw[hs'];refine (hS.put hvl (p:=((b:Int),(-1:Int))) (t:=t2) (Lg:=Lg2) ?_ fun r=>?_)
     ·have:Qkd ((Qf3 q b x++phS q b k x)++[((b:Int),(-1:Int))])=Qkd s.ps++Qkd [((b:Int),(-1:Int))]:=(by rw[hsF];simp[Qkd]);rw[this];exact hg2
     ·show Qf3 q b r++phS q b (k+1) r=_;rw[hsucc];by_cases hrx:r=x
      ·subst hrx;rw[if_pos rfl,if_pos hv];simp
      ·rw[if_neg hrx,if_neg (by omega)];simp
    ·intro hc2;have hke:k=y.phis.length:=(by have:y.phis.length≤k:=(by simpa using hc2);omega);subst hke;refine Qv ?_;simp only[go_sem,X.next];refine Qa ?_;simp only[go_sem,l1,l3,l4,l5];refine Qf (Qw (fun m e1 H1=>∃(j N:Nat) (ss:List SReg),m=y.ins.length-j∧j≤y.ins.length∧N≤b * 2400+y.phis.length+j∧SInv R N (fun r=>Qf3 q b r++phS q b y.phis.length r++inS q b j r) ss∧Kn H H1 [] (ssL o ss)∧
      lk 1 e1=.c (.pp [.int .i64 q.params,.int .i64 (R:Int),.sl fl 5 (Qm q.blocks)])∧lk 3 e1=.c (.vsl o 1 0 R)∧lk 4 e1=.c (.int .i64 b)∧lk 7 e1=.c (.int .i64 j)) y.ins.length ?_ ?_)
     ·exact⟨0,N,ss,by omega,by omega,Jbj hNb (Jbl _ _),hS.same fun r _=>by simp[inS],kn,rfl,rfl,rfl,rfl⟩
     ·clear kn hS l1 l3 l4 l5;clear ss hNb;clear N;rintro m3 e3 H3 ⟨j,N,ss,hm3,hj,hNb,hS,kn,l1,l3,l4,l7⟩;refine Qy ?_;refine Qa ?_;simp only[go_sem,l1,l3,l4,l7,hlt,Qo,Qaa _ _ hlt,BlkD.cells,hy,Qal];try intro _
      refine Qh (Qe rfl ?_ ?_)
      ·intro hc3;have hlt3:j<y.ins.length:=(by simpa using hc3);obtain⟨x,hx⟩:∃x,y.ins[j]=x:=⟨_,rfl⟩;have hxm:x∈y.ins:=(by rw[←hx];exact Jc hlt3);have hma:Qalk q b j=Qos x:=by
        have:=Qbgr (q:=q) (b:=b) (i:=j) (by rw[hya];exact hlt3);simp only[hya,hx]at this;exact this
       refine Qi ?_;try simp only[go_sem]
       refine Qd2 (fun e2 H2=>∃(N:Nat) (ss:List SReg),N≤b * 2400+y.phis.length+(j+1)∧SInv R N (fun r=>Qf3 q b r++phS q b y.phis.length r++inS q b (j+1) r) ss∧Kn H H2 [] (ssL o ss)∧
        lk 1 e2=.c (.pp [.int .i64 q.params,.int .i64 (R:Int),.sl fl 5 (Qm q.blocks)])∧lk 3 e2=.c (.vsl o 1 0 R)∧lk 4 e2=.c (.int .i64 b)∧lk 7 e2=.c (.int .i64 j)) ?_ ?_
       ·intro Q hnr _ _;refine Qf ?_;refine Qa ?_;simp only[go_sem,l1,l3,l4,l7,hlt,Qo,Qaa _ _ hlt,BlkD.cells,hy,hlt3,Qal,Qb7 _ _ hlt3,InsD.take4,InsD.allOw,InsD.len4,hx];refine Qamd ?_;simp only[go_sem,Q41];refine Qa ?_;simp only[go_sem];refine Qe rfl ?_ ?_
        ·intro hc4;have hge:0≤Qos x:=(by simpa using hc4);have hmk:Qdv x.op=true∧Qos x=x.to:=by
          rcases Qa1q x with h|⟨_,h⟩
          ·exact h
          ·omega
         obtain⟨hv,hvl⟩:=(hyo.to x hxm hmk.1).nat;rw[←hmk.2,hR]at hvl;rw[←hmk.2]at hv;clear hmk;generalize hx:(Qos x).toNat=z at *;obtain⟨s,hsm,hxl,hsx,hsF,hsok,hsl,hsg⟩:=hS.get hvl;have hsw:=hsok.isOw;have kn:=kn.perm (Qagv hxl hsx);have hob:H3 o=.vec 1 (ss.map SReg.row):=(kn.get (o,.vec 1 (ss.map SReg.row)) (by simp)).1;have hrl:(ss.map SReg.row).length=R:=(by rw[Jd,hS.n]);have hrt:(ss.map SReg.row).take R=ss.map SReg.row:=Jh (by omega);refine Qq ?_;simp only[go_sem,hob,hrl,hrt,hv,hvl,hsg,hsw,Ji,Jj];refine kn.growR (new:=Qkd [((b:Int),(j:Int))]) hsok (.mk' _ _ _ _) (Q1u _) (by simp only[Qyl,LIM,Jg,Jk];omega) fun t2 Lg2 H4 hg2 ht2 kn=>?_;have hob:H4 o=.vec 1 (ss.map SReg.row):=(kn.get (o,.vec 1 (ss.map SReg.row)) (by simp)).1;simp only[go_sem,Q42,hob,hrl,hrt,hv,hvl,hsg,hsw,ht2,Ji,Jj];intro H5 h5;obtain⟨s',hs'⟩:∃s':SReg,s'=⟨(Qf3 q b z++phS q b y.phis.length z++inS q b j z)++[((b:Int),(j:Int))],t2,Lg2⟩:=⟨_,rfl⟩;have hset:(ss.map SReg.row).set z [t2]=(ss.set z s').map SReg.row:=(by rw[Ja0,hs'];rfl);rw[hset]at h5;have kn:Kn H H5 [] (([(o,.vec 1 ((ss.set z s').map SReg.row))]++(ss.eraseIdx z).flatMap SReg.lg)++s'.lg):=by
          have e:s'.lg=Lg2:=(by rw[hs']);rw[e];exact kn.stL 0 rfl h5
         have kn:=kn.perm (Qa9n hxl);refine hnr _ _ ⟨N+1,ss.set z s',by omega,?_,kn,rfl,rfl,rfl,rfl⟩;rw[hs'];refine (hS.put hvl (p:=((b:Int),(j:Int))) (t:=t2) (Lg:=Lg2) ?_ fun r=>?_)
         ·have:Qkd ((Qf3 q b z++phS q b y.phis.length z++inS q b j z)++[((b:Int),(j:Int))])=Qkd s.ps++Qkd [((b:Int),(j:Int))]:=(by rw[hsF];simp[Qkd]);rw[this];exact hg2
         ·show Qf3 q b r++phS q b y.phis.length r++inS q b (j+1) r=_;rw[Qa8t,hma];by_cases hrx:r=z
          ·subst hrx;rw[if_pos rfl,if_pos hv];simp
          ·rw[if_neg hrx,if_neg (by omega)];simp
        ·intro hc4;have hneg:¬0≤Qos x:=(by simpa using hc4);refine Qi ?_;try simp only[go_sem]
         refine hnr _ _ ⟨N,ss,by omega,hS.same fun r _=>?_,kn,rfl,rfl,rfl,rfl⟩;rw[Qa8t,hma,if_neg (by omega)];simp
       ·rintro e4 H4 ⟨N,ss,hNb,hS,kn,l1,l3,l4,l7⟩;refine Qq ?_;simp only[go_sem,l1,l3,l4,l7];refine⟨Qr (by omega) (by omega),?_⟩;show ∃m,_;exact⟨y.ins.length-(j+1),by omega,j+1,N,ss,rfl,by omega,hNb,hS,kn,rfl,rfl,rfl,rfl⟩
      ·intro hc3;have hje:j=y.ins.length:=(by have:y.ins.length≤j:=(by simpa using hc3);omega);subst hje;refine Qv ?_;simp only[go_sem,X.next];refine Qq ?_;simp only[go_sem,l1,l3,l4];refine⟨Qr (by omega) (by omega),?_⟩;show ∃m,_;refine⟨q.blocks.length-(b+1),by omega,b+1,N,ss,rfl,by omega,by omega,hS.same fun r _=>?_,kn,rfl,rfl,rfl⟩;rw[Qa73,blS,hya];simp
  ·intro hc;have hbe:b=q.blocks.length:=by have:q.blocks.length≤b:=(by simpa using hc);omega
   subst hbe;refine Qv ?_;simp only[go_sem,X.next];refine Qa ?_;simp only[go_sem,l3];refine Qk ?_;simp only[go_sem,Q3,Qab,Qas3,Jb,forall_eq,RS.op];have hob:=kn.l 0 rfl;have hmem:∀p∈ssL o ss,H1 p.1=p.2∧un H p.1=true:=fun p hp=>⟨(kn.get p (Je _ hp)).1,Qe8 (kn.loc p hp)⟩;have hrows:FrzR H1 (un H) (ss.map SReg.row) (Qja q):=by
    have e:Qja q=ss.map fun s=>[C.sl false 1 (Qkd s.ps)]:=by
     rw[Qja,hR];refine Jau (by simp[hS.n]) fun i h1 h2=>?_;have h3:i<ss.length:=(by simpa using h2);simp only[Jal,List.getElem_range,hS.f i h3];rfl
    rw[e];exact Qgz ss fun s hs=>.cons (Gr.frzM (hS.ok s hs) (fun p hp=>hmem p (Je _ (Jt.2 ⟨s,hs,hp⟩))) (FrzR.same (Q1u _))) .nil
   exact⟨_,.c _ _ (hrows.vsl (kn.un 0 rfl) hob (by rw[Jd,hS.n])),hK _ kn.fin⟩
end Go.AE.Y
namespace Go.AE.Y
open Go.Proofs.Tryz
variable {H H0:Heap}{K:V→Heap→Prop}{E B Lg:List (Nat×Obj)}
def Gq (Lg:List (Nat×Obj))(W:List Nat)(c:C):Prop:=
 (c=.sl true 1 []∧W=[]∧Lg=[])∨∃z st R,c=.vsl z 1 st W.length∧Lg=[(z,.vec 1 R)]∧(R.drop st).take W.length=Qaf W∧st+W.length≤R.length
theorem Gq.isOw {W:List Nat}{c:C}(h:Gq Lg W c):c.isOw=false:=by rcases h with ⟨rfl,_⟩|⟨z,st,R,rfl,_⟩ <;> rfl
theorem Gq.elemSz {W:List Nat}{c:C}(h:Gq Lg W c):c.elemSz=1:=by rcases h with ⟨rfl,_⟩|⟨z,st,R,rfl,_⟩ <;> rfl
theorem Gq.lenC {W:List Nat}{c:C}(h:Gq Lg W c):lenC c=W.length:=by rcases h with ⟨rfl,rfl,_⟩|⟨z,st,R,rfl,_⟩ <;> rfl
theorem Gq.get {W:List Nat}{c:C}(h:Gq Lg W c)(kn:Kn H0 H E (B++Lg)):okSl H c∧rowsOf H c=Qaf W:=by
 rcases h with ⟨rfl,rfl,_⟩|⟨z,st,R,rfl,rfl,h1,h2⟩
 ·exact⟨trivial,rfl⟩
 ·have hz:H z=.vec 1 R:=(kn.get (z,.vec 1 R) (by simp)).1;exact⟨by simp[okSl,hz,h2],by simp[rowsOf,hz,h1]⟩
theorem Gr.gq {W:List Nat}{c:C}(h:Gr Lg 1 (Qaf W) c):Gq Lg W c:=by
 rcases h with ⟨h1,h2,h3⟩|⟨y,h1,h2⟩
 ·refine .inl ⟨h1,?_,h3⟩;have:=congrArg List.length h2;rw[Q7]at this;exact List.length_eq_zero_iff.1 this
 ·exact .inr ⟨y,0,Qaf W,by rw[h1,Q7],h2,by rw[Jbe,Jh (by rw[Q7];exact Jj _)],by rw[Q7];omega⟩
theorem Kn.growQ {K:V→Heap→Prop}{W new:List Nat}{b c:C}(kn:Kn H0 H E (B++Lg))(hc:Gq Lg W c)(hb:Slc H 1 (Qaf new) b)(h2:W.length+new.length≤LIM)
  (h:∀t Lg' H',Gq Lg' (W++new) t→t.isOw=false→Kn H0 H' E (B++Lg')→K (.c t) H'):appQ H 1 c b K:=by
 rcases hc with ⟨rfl,rfl,rfl⟩|⟨z,st,R,rfl,rfl,h3,h4⟩
 ·refine Kn.growR (new:=Qaf new) kn (.nil 1) hb (Qbr _) (by simp only[Q7,Jk]at *;omega) fun t Lg' H' hg ht k=>h t Lg' H' (Gr.gq ?_) ht k;simpa using hg
 ·have hz:H z=.vec 1 R:=(kn.get (z,.vec 1 R) (by simp)).1;refine⟨hb.ok,hb.sz,?_⟩;simp only[hz,hb.rows,hb.len,h3,Q7];refine⟨trivial,trivial,h4,Qbr _,h2,fun l' hl' H' hH'=>?_⟩;have hg:Gr [(l',.vec 1 (Qaf (W++new)))] 1 (Qaf (W++new)) (.vsl l' 1 0 (W.length+new.length)):=.mk _ _ _ (by simp[Q7]);refine h _ _ H' (Gr.gq hg) rfl ?_;have:=kn.ap B.length (y:=z) (o:=.vec 1 R) (by simp) hl' hH';rw[Q1s];simpa using this
end Go.AE.Y
namespace Go.AE.Y
attribute [local go_sem] cond_true cond_false Bool.not_true Bool.not_false
open Go.Proofs.Tryz
variable {H H0:Heap}{K:V→Heap→Prop}{E B Lg:List (Nat×Obj)}{q:CodeD}
theorem Qa1v {nx:Nat→List Int}{f:Int}{n i:Nat}(h:i<(Q8 nx f n).length):∃p:Nat,(Q8 nx f n).getD i 0=(p:Int)∧p<n:=by
 have h1:(Q8 nx f n)[i]∈Q8 nx f n:=Jc h;have e:(Q8 nx f n).getD i 0=(Q8 nx f n)[i]:=by simp[Ja,h]
 rw[e];generalize (Q8 nx f n)[i]=v at h1;simp only[Q8,Js,Jay,J9]at h1;obtain⟨p,⟨h2,_⟩,rfl⟩:=h1;exact⟨p,rfl,h2⟩
theorem Qaak {ns:List Int}(h:∀x∈ns,0≤x):Qb ns=Qaf (ns.map Int.toNat):=by
 have hk:ns=(ns.map Int.toNat).map Int.ofNat:=by
  rw[Jao]
  conv=>lhs;rw[←List.map_id ns]
  refine Jax fun x hx=>?_;have:=h x hx;simp;omega
 conv=>lhs;rw[hk]
 rfl
theorem Qoz {ns:List Int}(h:∀x∈ns,0≤x)(ha:ns.Pairwise (· < ·)):(ns.map Int.toNat).Pairwise (· < ·):=by
 rw[List.pairwise_map];refine ha.imp_of_mem fun {a b} h1 h2 h3=>?_;have:=h a h1;have:=h b h2;omega
theorem Q9l {l:List Nat}{n:Nat}(ha:l.Pairwise (· < ·))(hn:∀x∈l,x<n):l.length≤n:=by
 have h1:l.Nodup:=ha.imp fun h=>by omega
 have h2:l ⊆ List.range n:=fun x hx=>J9.2 (hn x hx);have:=(List.nodup_iff_count.1 h1);have h3:=Jar h1 h2;simpa using h3
set_option maxHeartbeats 2000000 in
theorem Qam0 {fl flo:Bool}{b:Nat}(ho:q.ok)(hb:b<q.blocks.length)
  (hK:∀(fl':Bool) (fs:List Nat) H',Upd H H' []→fs.Pairwise (· < ·)→(∀x∈fs,x<q.blocks.length)→K (.c (.sl fl' 1 (Qaf fs))) H') :
  Qs prog Qjg [.ag [.int .i64 q.params,.int .i64 q.regs,.sl fl 5 (Qm q.blocks)],.c (.sl flo 1 (ovOf q.blocks.length (nxN (gnx q)) q.blocks.length)),.c (.int .i64 b)] H K:=by
 have hb1:=ho.b1;obtain⟨n,hn⟩:∃n,q.blocks.length=n:=⟨_,rfl⟩;obtain⟨g,hg⟩:∃g,nxN (gnx q)=g:=⟨_,rfl⟩;rw[hn]at hb hb1 hK;rw[hn,hg];refine Qx ?_;refine Qc Qaj Qane ?_;refine Qa ?_;simp only[go_sem];refine Qa ?_;simp only[go_sem];refine Qy ?_;refine Qa ?_;simp only[go_sem];refine Qh (Qf (Qw (fun m e1 H1=>∃(f:Nat) (fo:Bool) (ns:List Int),m=n-f∧f≤n∧ns.Pairwise (· < ·)∧(∀x∈ns,0≤x∧x<n)∧ns.length≤f * 200∧Kn H H1 [] []∧
  lk 1 e1=.c (.sl flo 1 (ovOf n g n))∧lk 2 e1=.c (.int .i64 b)∧lk 3 e1=.c (.pp [.int .i64 q.params,.int .i64 q.regs,.sl fl 5 (Qm q.blocks)])∧lk 7 e1=.c (.sl fo 1 (Qb ns))∧lk 8 e1=.c (.int .i64 f)) n ?_ ?_))
 ·exact⟨0,true,[],by omega,by omega,by simp,by simp,by simp,Kn.start0 H,rfl,rfl,rfl,rfl,rfl⟩
 ·rintro m e1 H1 ⟨f,fo,ns,hm,hf,ha,hns,hnl,kn,l1,l2,l3,l7,l8⟩;refine Qy ?_;refine Qa ?_;simp only[go_sem,l1,l2,l3,l7,l8,Qtv];try intro _
  refine Qh (Qe rfl ?_ ?_)
  ·intro hc;have hlt:f<n:=by simpa using hc
   refine Qi ?_;try simp only[go_sem]
   refine Qh (Qf ?_);refine Qa ?_;simp only[go_sem,l1,l2,l3,l7,l8];refine Qfm (nx:=gnx q) (.mk' _ _ _ _) rfl (Qg0 H1 q fl).x fun H2 hu=>?_;have kn:=kn.call0 hu;rw[Qo,hn];have hpl:=Qcs (gnx q) (f:Int) n;have hpg:=fun (i:Nat)=>Qa1v (nx:=gnx q) (f:=(f:Int)) (n:=n) (i:=i);generalize Q8 (gnx q) (f:Int) n=pr at *;simp only[go_sem,Qng];refine Qa ?_;simp only[go_sem];refine Qf (Qw (fun m e1 H1=>∃(i:Nat) (fo:Bool) (ns:List Int),m=pr.length-i∧i≤pr.length∧ns.Pairwise (· < ·)∧(∀x∈ns,0≤x∧x<n)∧ns.length≤f * 200+i∧Kn H H1 [] []∧
    lk 1 e1=.c (.sl flo 1 (ovOf n g n))∧lk 2 e1=.c (.int .i64 b)∧lk 3 e1=.c (.pp [.int .i64 q.params,.int .i64 q.regs,.sl fl 5 (Qm q.blocks)])∧lk 7 e1=.c (.sl fo 1 (Qb ns))∧lk 8 e1=.c (.int .i64 f)∧lk 9 e1=.c (.sl false 1 (Qb pr))∧lk 10 e1=.c (.int .i64 i)) pr.length ?_ ?_)
   ·exact⟨0,fo,ns,by omega,by omega,ha,hns,by omega,kn,rfl,rfl,rfl,rfl,rfl,rfl,rfl⟩
   ·clear kn ha hns hnl l1 l2 l3 l7 l8;clear ns fo;rintro m2 e2 H3 ⟨i,fo,ns,hm2,hi,ha,hns,hnl,kn,l1,l2,l3,l7,l8,l9,l10⟩;refine Qy ?_;refine Qa ?_;simp only[go_sem,l1,l2,l3,l7,l8,l9,l10,Qd];try intro _
    refine Qh (Qe rfl ?_ ?_)
    ·intro hc2;have hlt2:i<pr.length:=(by simpa using hc2);obtain⟨p,hp1,hp2⟩:=hpg i hlt2;have hpd:p<(Qhb n g b).length:=(by rw[Qeq];exact hp2);have hfd:f<(Qhb n g b).length:=(by rw[Qeq];exact hlt);refine Qi ?_;try simp only[go_sem]
     refine Qd2 (fun e2 H2=>∃(fo:Bool) (ns:List Int),ns.Pairwise (· < ·)∧(∀x∈ns,0≤x∧x<n)∧ns.length≤f * 200+(i+1)∧Kn H H2 [] []∧
      lk 1 e2=.c (.sl flo 1 (ovOf n g n))∧lk 2 e2=.c (.int .i64 b)∧lk 3 e2=.c (.pp [.int .i64 q.params,.int .i64 q.regs,.sl fl 5 (Qm q.blocks)])∧lk 7 e2=.c (.sl fo 1 (Qb ns))∧lk 8 e2=.c (.int .i64 f)∧lk 9 e2=.c (.sl false 1 (Qb pr))∧lk 10 e2=.c (.int .i64 i)) ?_ ?_
     ·intro Q hnr _ _;refine Qf ?_;refine Qag ?_;simp only[go_sem,l1,l2,l3,l7,l8,l9,l10,hb,Qtv,Qaan hb,hlt2,Qd,Qn _ _ hlt2,hp1,hp2,hlt,Qeq,Qz,Q6 _ _ hpd,Q6 _ _ hfd];refine Qe rfl ?_ ?_
      ·intro _;refine Qq ?_;simp only[go_sem];refine Qts ha (by omega) fun fl2 ns2 H4 hu ha2 hm2' hl2=>?_;have kn:=kn.call0 hu;simp only[go_sem,Qnh];refine hnr _ _ ⟨fl2,ns2,ha2,fun x hx=>?_,by omega,kn,rfl,rfl,rfl,rfl,rfl,rfl,rfl⟩;rcases (hm2' x).1 hx with rfl|hx
       ·omega
       ·exact hns x hx
      ·intro _;refine Qi ?_;try simp only[go_sem]
       exact hnr _ _ ⟨fo,ns,ha,hns,by omega,kn,rfl,rfl,rfl,rfl,rfl,rfl,rfl⟩
     ·rintro e3 H4 ⟨fo,ns,ha,hns,hnl,kn,l1,l2,l3,l7,l8,l9,l10⟩;refine Qq ?_;simp only[go_sem,l1,l2,l3,l7,l8,l9,l10];refine⟨Qr (by omega) (by omega),?_⟩;show ∃m,_;exact⟨pr.length-(i+1),by omega,i+1,fo,ns,rfl,by omega,ha,hns,hnl,kn,rfl,rfl,rfl,rfl,rfl,rfl,rfl⟩
    ·intro hc2;refine Qv ?_;simp only[go_sem,X.next];refine Qq ?_;simp only[go_sem,l1,l2,l3,l7,l8];refine⟨Qr (by omega) (by omega),?_⟩;show ∃m,_;exact⟨n-(f+1),by omega,f+1,fo,ns,rfl,by omega,ha,hns,by omega,kn,rfl,rfl,rfl,rfl,rfl⟩
  ·intro hc;refine Qv ?_;simp only[go_sem,X.next];refine Qa ?_;simp only[go_sem,l7];refine Qk ?_;simp only[go_sem,Q3,Qab,Qys,Jb,forall_eq,RS.op];have h0:∀x∈ns,0≤x:=fun x hx=>(hns x hx).1;rw[Qaak h0];refine⟨_,.c _ _ (FrzR.same (Qbr _)).sl,hK false _ _ kn.fin (Qoz h0 ha) fun x hx=>?_⟩;obtain⟨v,hv,rfl⟩:=Js.1 hx;have:=hns v hv;omega
set_option maxHeartbeats 2000000 in
theorem Qag5 {fl flo fll:Bool}{ls:List Nat}(ho:q.ok)(hls:ls.length≤1000000)
  (hK:∀(fs:List Nat) H',Upd H H' []→fs.Pairwise (· < ·)→(∀x∈fs,x<q.blocks.length)→K (.c (.sl false 1 (Qaf fs))) H') :
  Qs prog Qhl [.ag [.int .i64 q.params,.int .i64 q.regs,.sl fl 5 (Qm q.blocks)],.c (.sl flo 1 (ovOf q.blocks.length (nxN (gnx q)) q.blocks.length)),.c (.sl fll 1 (Qaf ls))] H K:=by
 have hb1:=ho.b1;obtain⟨n,hn⟩:∃n,q.blocks.length=n:=⟨_,rfl⟩;obtain⟨OV,hOV⟩:∃OV,ovOf q.blocks.length (nxN (gnx q)) q.blocks.length=OV:=⟨_,rfl⟩;have hOVl:OV.length=n:=by rw[←hOV,Qtv,hn]
 rw[hn]at hb1 hK;rw[hOV];refine Qx ?_;refine Qc Qaj Qahg ?_;refine Qa ?_;simp only[go_sem];refine Qa ?_;simp only[go_sem];refine Qa ?_;simp only[go_sem];refine⟨.inl trivial,Qbr _,by rw[Q7];simp only[LIM];omega,fun y0 hy0 H1 h1=>?_⟩;have kn:Kn H H1 [] ([]++[(y0,.vec 1 (Qaf ls))]):=(Kn.start0 H).al hy0 h1;obtain⟨wc0,hwc⟩:∃wc0,C.vsl y0 1 0 (0+(Qaf ls).length)=wc0:=⟨_,rfl⟩;have hq0:Gq [(y0,.vec 1 (Qaf ls))] ls wc0:=by rw[←hwc];exact Gr.gq (.mk _ _ _ (by omega))
 have hw0:=hq0.isOw;rw[hwc];simp only[go_sem,Qk2,hw0];refine Qh (Qf (Qw (fun m e1 H1=>∃(O:List Int) (W:List Nat) (fo:Bool) (wc:C) (Lg:List (Nat×Obj)),m=W.length+2 * (n-O.length)∧W.length+2 * (n-O.length)≤ls.length+2 * n∧O.Pairwise (· < ·)∧(∀x∈O,0≤x∧x<n)∧Gq Lg W wc∧Kn H H1 [] ([]++Lg)∧
  lk 1 e1=.c (.sl flo 1 OV)∧lk 3 e1=.c (.pp [.int .i64 q.params,.int .i64 q.regs,.sl fl 5 (Qm q.blocks)])∧lk 7 e1=.c (.sl fo 1 (Qb O))∧lk 8 e1=.c wc) (ls.length+2 * n) ?_ ?_))
 ·exact⟨[],ls,true,wc0,[(y0,.vec 1 (Qaf ls))],by simp,by simp,by simp,by simp,hq0,kn,rfl,rfl,rfl,rfl⟩
 ·clear kn hq0 hw0 hwc h1 hy0;rintro m e1 H2 ⟨O,W,fo,wc,Lg,hm,hWl,ha,hO,hq,kn,l1,l3,l7,l8⟩;have hqw:=hq.isOw;obtain⟨hqok,hqr⟩:=hq.get kn;have hqok:=eq_true hqok;have hql:=hq.lenC;have hqs:=hq.elemSz;refine Qy ?_;refine Qa ?_;simp only[go_sem,l1,l3,l7,l8,hqw,hqok,hql];try intro _
  refine Qh (Qe rfl ?_ ?_)
  ·intro hc2;obtain⟨b,W,rfl⟩:∃b W',W=b::W':=by
    cases W with
    |nil=>simp at hc2
    |cons b W=>exact⟨b,W,rfl⟩
   have hr0:(Qaf (b::W)).getD 0 []=[.int .i64 (b:Int)]:=rfl;obtain⟨wc2,hsli,hq2⟩:∃wc2,sliC (some 1) none wc=wc2∧Gq Lg W wc2:=by
    refine⟨_,rfl,?_⟩;rcases hq with ⟨_,h,_⟩|⟨z,st,R,rfl,rfl,h3,h4⟩
    ·simp at h
    ·refine .inr ⟨z,st+1,R,?_,rfl,?_,by simp at h4;omega⟩
     ·simp[sliC]
     ·have:=congrArg (List.drop 1) h3;rw[←List.drop_drop,List.drop_take]at *;simp only[Jg,Nat.add_sub_cancel]at this;rw[this];rfl
   refine Qi ?_;try simp only[go_sem]
   refine Qf ?_;refine Qa ?_;simp only[go_sem,l1,l3,l7,l8,hqw,hqok,hqr,hqs,hql,hr0,Nat.succ_pos,Jg]
   first|refine⟨by omega,?_⟩|skip
   refine Qa ?_;simp only[go_sem,hqw,hqok,hqs,hql,hsli,Jg];refine⟨⟨by omega,by omega,by omega⟩,?_⟩;have hqw2:=hq2.isOw;simp only[Jg]at hWl hm;refine Qy ?_;refine Qa ?_;simp only[go_sem,hqw2,hOVl];try intro _
   refine⟨Qr (by omega) (by omega),?_⟩;refine Qc9 ?_;simp only[go_sem,Qk3,hqw2];refine Qh (Qe rfl ?_ ?_)
   ·intro _;refine Qv ?_;show ∃m,_;exact⟨W.length+2 * (n-O.length),by omega,O,W,fo,wc2,Lg,rfl,by omega,ha,hO,hq2,kn,rfl,rfl,rfl,rfl⟩
   ·intro hc3;have hbn:b<n:=by
     have:=Qez hc3;have:=of_decide_eq_true this;omega
    refine Qi ?_;try simp only[go_sem]
    refine Qa ?_;simp only[go_sem,hqw2];rw[←hOV];refine Qam0 ho (by rw[hn];exact hbn) fun flf fs H3 hu hfa hfn=>?_;rw[hOV];rw[hn]at hfn;have kn:=kn.call0 hu;have hfl:=Q9l hfa hfn;simp only[go_sem,Qk4,hqw2];refine Qa ?_;simp only[go_sem,hqw2];refine Qf (Qw (fun m2 e1 H1=>∃(i:Nat) (O2:List Int) (W:List Nat) (fo:Bool) (wc:C) (Lg:List (Nat×Obj)),m2=fs.length-i∧i≤fs.length∧W.length+2 * (n-O2.length)<m∧O2.Pairwise (· < ·)∧(∀x∈O2,0≤x∧x<n)∧Gq Lg W wc∧Kn H H1 [] ([]++Lg)∧
     lk 1 e1=.c (.sl flo 1 OV)∧lk 3 e1=.c (.pp [.int .i64 q.params,.int .i64 q.regs,.sl fl 5 (Qm q.blocks)])∧lk 7 e1=.c (.sl fo 1 (Qb O2))∧lk 8 e1=.c wc∧lk 10 e1=.c (.sl flf 1 (Qaf fs))∧lk 11 e1=.c (.int .i64 i)) fs.length ?_ ?_)
    ·exact⟨0,O,W,fo,wc2,Lg,by omega,by omega,by omega,ha,hO,hq2,kn,rfl,rfl,rfl,rfl,rfl,rfl⟩
    ·clear kn hq2 hqw2 hqok hqr hql hqs hqw hq hsli ha hO l1 l3 l7 l8;have hmb:m≤ls.length+2 * n:=(by omega);clear hm hWl;rintro m2 e2 H4 ⟨i,O,W,fo,wc,Lg,hm2,hi,hWl,ha,hO,hq,kn,l1,l3,l7,l8,l10,l11⟩;have hqw:=hq.isOw;refine Qy ?_;refine Qa ?_;simp only[go_sem,l1,l3,l7,l8,l10,l11,hqw,Q7];try intro _
     refine Qh (Qe rfl ?_ ?_)
     ·intro hc4;have hlt:i<fs.length:=(by simpa using hc4);obtain⟨f,hf⟩:∃f,fs[i]=f:=⟨_,rfl⟩;have hfg:fs.getD i 0=f:=(by simp[Ja,hlt,hf]);have hfn2:f<n:=(by rw[←hf];exact hfn _ (Jc hlt));have hO0:∀x∈O,0≤x:=fun x hx=>(hO x hx).1;have hOl:O.length≤n:=by
       have:=Q9l (n:=n) (Qoz hO0 ha) fun x hx=>by
        obtain⟨v,hv,rfl⟩:=Js.1 hx;have:=hO v hv;omega
       simpa using this
      refine Qi ?_;try simp only[go_sem]
      refine Qd2 (fun e1 H1=>∃(O:List Int) (W:List Nat) (fo:Bool) (wc:C) (Lg:List (Nat×Obj)),W.length+2 * (n-O.length)<m∧O.Pairwise (· < ·)∧(∀x∈O,0≤x∧x<n)∧Gq Lg W wc∧Kn H H1 [] ([]++Lg)∧
       lk 1 e1=.c (.sl flo 1 OV)∧lk 3 e1=.c (.pp [.int .i64 q.params,.int .i64 q.regs,.sl fl 5 (Qm q.blocks)])∧lk 7 e1=.c (.sl fo 1 (Qb O))∧lk 8 e1=.c wc∧lk 10 e1=.c (.sl flf 1 (Qaf fs))∧lk 11 e1=.c (.int .i64 i)) ?_ ?_
      ·intro Q hnr _ _;refine Qf ?_;refine Qa ?_;simp only[go_sem,l1,l3,l7,l8,l10,l11,hqw,hlt,Q7,Qau _ _ hlt,hfg];refine Qamz (ns:=O) (.mk' _ _ _ _) rfl fun r hr=>?_;simp only[go_sem,Qk5,hqw];refine Qe rfl ?_ ?_
       ·intro hc5;have hneg:r<0:=(by simpa using hc5);have hnin:(f:Int)∉O:=by
         rcases hr with ⟨_,h⟩|⟨i,rfl,_⟩
         ·exact h
         ·omega
        refine Qa ?_;simp only[go_sem,hqw,hlt,Q7,Qau _ _ hlt,hfg];refine Qts ha (by omega) fun fl2 O2 H5 hu ha2 hm2' hl2=>?_;have kn:=kn.call0 hu;have hO2l:O2.length=O.length+1:=by
         have h1:((f:Int)::O).Nodup:=Ja8.2 ⟨hnin,ha.imp fun h=>by omega⟩;have h2:((f:Int)::O) ⊆ O2:=fun x hx=>by
          rw[hm2'];rcases Jy.1 hx with h|h
          ·exact .inl h
          ·exact .inr h
         have:=Jar h1 h2;simp only[Jg]at this;omega
        have hO2:∀x∈O2,0≤x∧x<n:=fun x hx=>by
         rcases (hm2' x).1 hx with rfl|hx
         ·omega
         ·exact hO x hx
        have hO2n:O2.length≤n:=by
         have:=Q9l (n:=n) (Qoz (fun x hx=>(hO2 x hx).1) ha2) fun x hx=>by
          obtain⟨v,hv,rfl⟩:=Js.1 hx;have:=hO2 v hv;omega
         simpa using this
        simp only[go_sem,Qk6,hqw];refine Qq ?_;simp only[go_sem,hqw,hlt,Q7,Qau _ _ hlt,hfg];refine Kn.growQ kn (new:=[f]) hq (.mk' _ _ _ _) (by simp only[LIM,Jg,Jk];omega) fun wc2 Lg2 H6 hq2 hw2 kn=>?_;simp only[go_sem,Qk7,hw2];refine hnr _ _ ⟨O2,W++[f],fl2,wc2,Lg2,by simp only[Jx,Jg,Jk];omega,ha2,hO2,hq2,kn,rfl,rfl,rfl,rfl,rfl,rfl⟩
       ·intro _;refine Qi ?_;try simp only[go_sem]
        exact hnr _ _ ⟨O,W,fo,wc,Lg,hWl,ha,hO,hq,kn,rfl,rfl,rfl,rfl,rfl,rfl⟩
      ·rintro e3 H5 ⟨O,W,fo,wc,Lg,hWl,ha,hO,hq,kn,l1,l3,l7,l8,l10,l11⟩;have hqw:=hq.isOw;refine Qq ?_;simp only[go_sem,l1,l3,l7,l8,l10,l11,hqw];refine⟨Qr (by omega) (by omega),?_⟩;show ∃m,_;exact⟨fs.length-(i+1),by omega,i+1,O,W,fo,wc,Lg,rfl,by omega,hWl,ha,hO,hq,kn,rfl,rfl,rfl,rfl,rfl,rfl⟩
     ·intro _;refine Qv ?_;show ∃m,_;exact⟨_,hWl,O,W,fo,wc,Lg,rfl,by omega,ha,hO,hq,kn,rfl,rfl,rfl,rfl⟩
  ·intro _;refine Qv ?_;simp only[go_sem,X.next];refine Qa ?_;simp only[go_sem,l7];refine Qk ?_;simp only[go_sem,Q3,Qab,Qvd,Jb,forall_eq,RS.op];have h0:∀x∈O,0≤x:=fun x hx=>(hO x hx).1;rw[Qaak h0];refine⟨_,.c _ _ (FrzR.same (Qbr _)).sl,hK _ _ kn.fin (Qoz h0 ha) fun x hx=>?_⟩;obtain⟨v,hv,rfl⟩:=Js.1 hx;have:=hO v hv;omega
end Go.AE.Y
namespace Go.AE.Y
attribute [local go_sem] cond_true cond_false Bool.not_true Bool.not_false
open Go.Proofs.Tryz
variable {H H0:Heap}{K:V→Heap→Prop}{E B Lg:List (Nat×Obj)}{q:CodeD}{S:Nat→Bool}
theorem OBlk.frzD (x:OBlk)(hok:x.ok)(h:Held H S x.lg):FrzL H S x.row x.d.cells:=
 .cons (Gr.frzM hok.p h.r.r.l (Qaao hok.a h.r.l)) (.cons (Gr.frzM hok.i h.r.r.r.r (Qamy h.r.r.r.l)) (.cons (Qg rfl) (.cons (Qg rfl) (.cons (x.nx.frz h.l) .nil))))
theorem OBlks.frzD {os:List OBlk}(hok:∀b∈os,b.ok)(h:Held H S (os.flatMap OBlk.lg)):FrzR H S (os.map OBlk.row) (Qm (os.map OBlk.d)):=by
 rw[Qm,Jao];exact Qgz os fun x hx=>x.frzD (hok x hx) (h.m hx)
theorem Qbi9 {r:Nat}{p:Plc}(h:p∈Qa71 q r):∃b:Nat,p.1=(b:Int)∧b<q.blocks.length:=by
 simp only[Qa71,Qf3,Jt,J9]at h;obtain⟨b,hb,h⟩:=h;refine⟨b,?_,hb⟩;simp only[blS,phS,inS,Jo,Js]at h;rcases h with ⟨_,_,rfl⟩|⟨_,_,rfl⟩ <;> rfl
theorem Qamc:(Qja q).length=q.regs.toNat:=by simp[Qja]
theorem Qa72 {r:Nat}(h:r<q.regs.toNat):(Qja q).getD r []=[.sl false 1 (Qkd (Qa71 q r))]:=by simp[Qja,Ja,h]
structure PhS (q:CodeD)(k:Nat→Nat)(os:List OBlk):Prop where
 n:os.length=q.blocks.length
 ok:∀b∈os,b.ok
 d:∀j (h:j<os.length) (h':j<q.blocks.length),os[j].d.ins=q.blocks[j].ins∧os[j].jump=q.blocks[j].jump∧os[j].on=q.blocks[j].on∧os[j].nx.ns=q.blocks[j].next
 p:∀j (h:j<os.length),∀p∈os[j].phis,rIn q p.to∧(∀v∈p.ns,rIn q v)∧p.ns.length=(Q8 (gnx q) (j:Int) q.blocks.length).length
 l:∀j (h:j<os.length) (h':j<q.blocks.length),os[j].phis.length≤q.blocks[j].phis.length+k j
variable {k k':Nat→Nat}{os:List OBlk}
theorem PhS.up (h:PhS q k os)(hk:∀j,k j≤k' j):PhS q k' os:=⟨h.n,h.ok,h.d,h.p,fun j h1 h2=>by have:=h.l j h1 h2;have:=hk j;omega⟩
theorem Qbmc (ho:q.ok){o:OCode}(hok:o.ok)(hd:o.d=q):PhS q (fun _=>0) o.blocks:=by
 have hb:o.blocks.map OBlk.d=q.blocks:=by rw[←hd];rfl
 have hl:o.blocks.length=q.blocks.length:=by rw[←hb,Jd]
 have hg:∀j (h:j<o.blocks.length) (h':j<q.blocks.length),o.blocks[j].d=q.blocks[j]:=fun j h h'=>by
  have h1:(o.blocks.map OBlk.d)[j]? = some o.blocks[j].d:=by simp[h]
  rw[hb,Jf h']at h1;exact (Jag h1).symm
 refine⟨hl,hok.bs,fun j h h'=>by rw[←hg j h h'];exact⟨rfl,rfl,rfl,rfl⟩,fun j h p hp=>?_,fun j h h'=>?_⟩
 ·have h':j<q.blocks.length:=by omega
  have o1:=ho.bs j h';rw[←hg j h h']at o1;have hm:p.d∈o.blocks[j].d.phis:=Js.2 ⟨p,hp,rfl⟩;exact⟨o1.pto _ hm,o1.pargs _ hm,o1.pal _ hm⟩
 ·rw[←hg j h h'];simp[OBlk.d]
theorem PhS.step {b:Nat}(h:PhS q k os)(hb:b<os.length){o:OBlk}(hob:os[b]=o){p:OPhi}{pc:C}{pl:List (Nat×Obj)}(hp:p.ok)(hg:Gr pl 2 ((p::o.phis).map OPhi.row) pc)
  (h1:rIn q p.to) (h2:∀v∈p.ns,rIn q v) (h3:p.ns.length=(Q8 (gnx q) (b:Int) q.blocks.length).length) (hk:∀j,k' j=if j=b then k j+1 else k j) :
  PhS q k' (os.set b ⟨p::o.phis,pc,pl,o.ins,o.ic,o.il,o.jump,o.on,o.nx⟩):=by
 subst hob;have hok:=h.ok _ (Jc hb);refine⟨by rw[Jq];exact h.n,fun w hw=>?_,fun j hj hj'=>?_,fun j hj x hx=>?_,fun j hj hj'=>?_⟩
 ·rcases J8 hw with hw|rfl
  ·exact h.ok w hw
  ·refine⟨hg,hok.i,fun x hx=>?_⟩;rcases Jy.1 hx with rfl|hx
   ·exact hp
   ·exact hok.a x hx
 ·have hjl:j<os.length:=by simpa using hj
  have hd:=h.d j hjl hj';rw[J5];split
  ·rename_i e;subst e;exact hd
  ·exact hd
 ·have hjl:j<os.length:=by simpa using hj
  rw[J5]at hx;split at hx
  ·rename_i e;subst e
   rcases Jy.1 hx with rfl|hx
   ·exact⟨h1,h2,h3⟩
   ·exact h.p _ hjl x hx
  ·exact h.p j hjl x hx
 ·have hjl:j<os.length:=by simpa using hj
  have hl:=h.l j hjl hj';rw[J5,hk];split
  ·rename_i e;subst e;rw[if_pos rfl];show (p::os[b].phis).length≤_;simp only[Jg];omega
  ·rename_i e;rw[if_neg (fun h=>e h.symm)];exact hl
theorem PhS.fin (ho:q.ok)(h:PhS q k os)(hk:∀j (hj:j<q.blocks.length),q.blocks[j].phis.length+k j≤1200):(CodeD.mk q.params q.regs (os.map OBlk.d)).ok:=by
 obtain⟨d,hd⟩:∃d:CodeD,d=⟨q.params,q.regs,os.map OBlk.d⟩:=⟨_,rfl⟩;rw[←hd];have hl:d.blocks.length=q.blocks.length:=by rw[hd];simpa using h.n
 have hget:∀j (h1:j<d.blocks.length) (h2:j<os.length),d.blocks[j]=os[j].d:=fun j h1 h2=>by subst hd;simp
 have hmap:d.blocks.map BlkD.next=q.blocks.map BlkD.next:=Jau (by simp[hl]) fun j h1 h2=>by
  simp only[Jd]at h1 h2;have h3:j<os.length:=by rw[h.n];exact h2
  simp only[Jal,hget j h1 h3];exact (h.d j h3 h2).2.2.2
 have hg:gnx d=gnx q:=by funext i;rw[gnx,gnx,hmap]
 have hr:∀v,rIn q v→rIn d v:=fun v hv=>by simp only[rIn,hd]at hv⊢;exact hv
 have hrg:d.regs=q.regs:=by rw[hd]
 refine⟨by rw[hrg];exact ho.r0,by rw[hrg];exact ho.r1,by rw[hl];exact ho.b0,by rw[hl];exact ho.b1,fun b hb=>?_,fun b hb=>?_⟩
 ·have h2:b<q.blocks.length:=by omega
  have h3:b<os.length:=by rw[h.n];exact h2
  have o:=ho.bs b h2;obtain⟨e1,e2,e3,e4⟩:=h.d b h3 h2;have hp:=h.p b h3;rw[hget b hb h3];have hph:∀p∈os[b].d.phis,rIn q p.to∧(∀v∈p.args,rIn q v)∧p.args.length=(Q8 (gnx q) (b:Int) q.blocks.length).length:=fun p hp'=>by
   obtain⟨x,hx,rfl⟩:=Js.1 hp';exact hp x hx
  refine⟨by show os[b].nx.ns.length≤2;rw[e4];exact o.nxl,fun v hv=>by rw[hl];exact o.nx v (by rw[←e4];exact hv),by show os[b].jump=1∨os[b].jump=2∨os[b].jump=3;rw[e2];exact o.jmp,fun hj=>?_,
   fun x hx v hv=>hr _ (o.args x (by rw[←e1];exact hx) v hv),fun x hx hm=>hr _ (o.to x (by rw[←e1];exact hx) hm),fun p hp=>hr _ (hph p hp).1,fun p hp v hv=>hr _ ((hph p hp).2.1 v hv),fun p hp=>by rw[hg,hl];exact (hph p hp).2.2,
   fun x hx=>o.al x (by rw[←e1];exact hx)⟩
  show rIn d os[b].on;rw[e3];exact hr _ (o.on (by rw[←e2];exact hj))
 ·have h2:b<q.blocks.length:=by omega
  have h3:b<os.length:=by rw[h.n];exact h2
  have o:=ho.il b h2;have e1:=(h.d b h3 h2).1;have:=h.l b h3 h2;have:=hk b h2;rw[hget b hb h3,e1];refine⟨o.1,?_⟩;simp only[OBlk.d,Jd];omega
theorem Qa81 {l:List Nat}(h:l.Nodup){i:Nat}(hi:i<l.length):l[i]∉l.take i:=fun hh=>by
 obtain⟨j,hj,he⟩:=Jab.1 hh;rw[Ja5]at hj;rw[List.getElem_take]at he;have hj2:j<l.length:=by omega
 have:=(List.getElem?_inj hj2 h (j:=i)).1 (by rw[Jf hj2,Jf hi,he]);omega
def OBlk.rst (o:OBlk):List (Nat×Obj):=o.nx.lg++(o.phis.flatMap OPhi.lg++(o.ins.flatMap OIns.lg++o.il))
theorem OBlk.lg_perm (o:OBlk):o.lg.Perm (o.rst++o.pl):=Ql fun f hf h0 hc hp=>by simp only[hf,OBlk.lg,OBlk.rst];omega
set_option maxHeartbeats 8000000 in
theorem Qbfl (ho:q.ok)(hph:∀y∈q.blocks,y.phis.length≤900)(hK:∀(d:CodeD) H',d.ok→d.params=q.params→d.regs=q.regs→Upd H H' []→K (.ag d.cells) H') :
  Qs prog Q1a [.ag [.int .i64 q.params,.int .i64 q.regs,.sl false 5 (Qm q.blocks)]] H K:=by
 have hr0:=ho.r0;have hr1:=ho.r1;have hb0:=ho.b0;have hb1:=ho.b1;obtain⟨n,hn⟩:∃n,q.blocks.length=n:=⟨_,rfl⟩;obtain⟨R,hR⟩:∃R:Nat,q.regs.toNat=R:=⟨_,rfl⟩;have hRq:q.regs=(R:Int):=by omega
 have hgf:=Qa05 ho.gd;refine Qx ?_;refine Qc Qaj Qbgc ?_;refine Qa ?_;simp only[go_sem];intro x2 hx2 H1 h1;have kn:=(Kn.start0 H).al hx2 h1;refine Qa ?_;simp only[go_sem];refine Q88 ho.sg fun o H2 k2 hok hod _=>?_;have kn:=kn.comp0 k2;have hpar:o.params=q.params:=by rw[←hod];rfl
 have hreg:o.regs=q.regs:=by rw[←hod];rfl
 have hol:o.blocks.length=n:=by rw[←hn,←hod];simp[OCode.d]
 obtain⟨zb,hbc,hbl⟩:∃z,o.bc=.vsl z 5 0 n∧o.bl=[(z,.vec 5 (o.blocks.map OBlk.row))]:=by
  rcases hok.b with ⟨_,h,_⟩|⟨y,h1,h2⟩
  ·have:=congrArg List.length h;simp only[Jd,Jk]at this;omega
  ·exact⟨y,by rw[h1,Jd,hol],h2⟩
 have hrow:o.row=[.int .i64 q.params,.int .i64 q.regs,.vsl zb 5 0 n]:=by rw[OCode.row,hpar,hreg,hbc]
 have hP:=Qbmc ho hok hod;have hlg:o.lg=o.blocks.flatMap OBlk.lg++[(zb,.vec 5 (o.blocks.map OBlk.row))]:=by rw[OCode.lg,hbl]
 rw[hlg]at kn;rw[hrow];generalize o.blocks=os0 at *;clear hok hod hpar hreg hrow hlg hbc hbl k2;simp only[go_sem,Q4t];intro x3 hx3 H3 h3;have kn:=(kn.al hx3 h3).perm Jv;have hx3:=kn.l 0 rfl;simp only[go_sem,Q4s,hx3];intro H4 h4;have kn:Kn H H4 [] ([(x3,.st [.int .i64 q.params,.int .i64 q.regs,.vsl zb 5 0 n])]++([(x2,.st [.int .i64 0,.int .i64 0,.sl true 5 []])]++(os0.flatMap OBlk.lg++[(zb,.vec 5 (os0.map OBlk.row))]))):=kn.stL 0 rfl h4;refine Qa ?_;simp only[go_sem];refine Qar1 (rows:=Qm q.blocks) (nx:=gnx q) hgf (by rw[Qo];exact ho.fitB) fun H5 hu=>?_;have kn:=kn.call0 hu;rw[Qo];simp only[go_sem,Q4u];refine Qa ?_;simp only[go_sem];refine Qar2 ho (.sl _ _ _ _) fun zi zo H6 hu hlv=>?_;have kn:=kn.call0 hu;simp only[go_sem,Q4w];intro x5 hx5 H7 h7;have kn:=(kn.al hx5 h7).perm Jv;have hx5:=kn.l 0 rfl;simp only[go_sem,Q4v,hx5];intro H8 h8;have kn:Kn H H8 [] (([(x3,.st [.int .i64 q.params,.int .i64 q.regs,.vsl zb 5 0 n]),(x2,.st [.int .i64 0,.int .i64 0,.sl true 5 []]),(x5,.st [.sl false 1 (Q10 zi),.sl false 1 (Q10 zo)])]++[(zb,.vec 5 (os0.map OBlk.row))])++os0.flatMap OBlk.lg):=
  (kn.stL 0 rfl h8).perm (Ql fun f hf h0 hc hp=>by
   have e3:∀(a b c:Nat×Obj),f [a,b,c]=f [a]+f [b]+f [c]:=fun a b c=>by rw[hc a [b,c],hc b [c]];omega
   show f ([(x5,_)]++_)=_;simp only[hf,e3];omega)
 obtain⟨XL,hX⟩:∃XL,[(x3,Obj.st [.int .i64 q.params,.int .i64 q.regs,.vsl zb 5 0 n]),(x2,.st [.int .i64 0,.int .i64 0,.sl true 5 []]),(x5,.st [.sl false 1 (Q10 zi),.sl false 1 (Q10 zo)])]=XL:=⟨_,rfl⟩;rw[hX]at kn;have gX:∀{H1:Heap} {A:List (Nat×Obj)},Kn H H1 [] (XL++A)→H1 x3=.st [.int .i64 q.params,.int .i64 q.regs,.vsl zb 5 0 n]∧H1 x5=.st [.sl false 1 (Q10 zi),.sl false 1 (Q10 zo)]:=fun {H1 A} k=>by
  rw[←hX]at k;exact⟨k.l 0 rfl,k.l 2 rfl⟩
 clear hx3 hx5 h8 h4 h1 hx2;refine Qa ?_;simp only[go_sem];refine Qbfm ho fun H9 hu=>?_;have kn:=kn.call0 hu;simp only[go_sem,Q4x];refine Qy ?_;refine Qa ?_;simp only[go_sem];refine⟨Qr (by omega) (by omega),?_⟩;have hS0:PhS q (fun _=>0) os0:=hP;refine Qh (Qf (Qw (fun m e1 H1=>∃(r:Nat) (os:List OBlk),m=r∧r≤R∧PhS q (fun _=>R-r) os∧Kn H H1 [] ((XL++[(zb,.vec 5 (os.map OBlk.row))])++os.flatMap OBlk.lg)∧
  lk 1 e1=.c (.pp [.int .i64 q.params,.int .i64 q.regs,.sl false 5 (Qm q.blocks)])∧lk 2 e1=.c (.ptr x2 0)∧lk 3 e1=.c (.ptr x3 0)∧lk 4 e1=.c (.sl false 1 (ovOf q.blocks.length (nxN (gnx q)) q.blocks.length))∧lk 5 e1=.c (.ptr x5 0)∧lk 6 e1=.c (.sl false 1 (Qja q))∧lk 7 e1=.c (.int .i64 ((r:Int)-1))) R ?_ ?_))
 ·exact⟨R,os0,rfl,by omega,hS0.up fun j=>by simp,kn,rfl,rfl,rfl,rfl,rfl,rfl,by simp only[lk,hRq];rfl⟩
 ·clear kn hS0 hP;rintro m e1 H10 ⟨r,os,rfl,hrR,hS,kn,l1,l2,l3,l4,l5,l6,l7⟩;refine Qy ?_;refine Qa ?_;simp only[go_sem,l1,l2,l3,l4,l5,l6,l7];refine Qh (Qe rfl ?_ ?_)
  ·intro hc;have hge:(0:Int)≤(m:Int)-1:=by simpa using hc
   obtain⟨r,rfl⟩:∃r,m=r+1:=⟨m-1,by omega⟩;have er:((r+1:Nat):Int)-1=(r:Int):=by omega
   rw[er];have hrlt:r<R:=by omega
   have hrR2:r<q.regs.toNat:=by omega
   refine Qi ?_;try simp only[go_sem]
   refine Qh (Qf ?_);refine Qa ?_;simp only[go_sem];refine Qy ?_;refine Qa ?_;simp only[go_sem];refine Qd2 (fun e2 H2=>∃(fo:Bool) (ns:List Int),H2=H10∧ns.Pairwise (· < ·)∧(∀x∈ns,0≤x∧x<n)∧
    lk 1 e2=.c (.pp [.int .i64 q.params,.int .i64 q.regs,.sl false 5 (Qm q.blocks)])∧lk 2 e2=.c (.ptr x2 0)∧lk 3 e2=.c (.ptr x3 0)∧lk 4 e2=.c (.sl false 1 (ovOf q.blocks.length (nxN (gnx q)) q.blocks.length))∧lk 5 e2=.c (.ptr x5 0)∧lk 6 e2=.c (.sl false 1 (Qja q))∧lk 7 e2=.c (.int .i64 r)∧lk 8 e2=.c (.sl fo 1 (Qb ns))) ?_ ?_
   ·intro Q hnr _ _;refine Qe rfl ?_ ?_
    ·intro _;refine Qq ?_;simp only[go_sem];refine hnr _ _ ⟨true,[0],rfl,by simp,?_,rfl,rfl,rfl,rfl,rfl,rfl,rfl,rfl⟩;intro x hx;simp only[Jb]at hx;subst hx;omega
    ·intro _;refine Qi ?_;try simp only[go_sem]
     exact hnr _ _ ⟨true,[],rfl,by simp,by simp,rfl,rfl,rfl,rfl,rfl,rfl,rfl,rfl⟩
   rintro e2 H2 ⟨fo,ns,rfl,ha,hns,l1,l2,l3,l4,l5,l6,l7,l8⟩;refine Qy ?_;refine Qa ?_;simp only[go_sem,l1,l2,l3,l4,l5,l6,l7,l8];have hsm:∀i (h:i<(Qa71 q r).length),∃b:Nat,(Qa71 q r)[i].1=(b:Int)∧b<n:=fun i h=>by rw[←hn];exact Qbi9 (Jc h)
   obtain⟨sl,hsl⟩:∃sl,Qa71 q r=sl:=⟨_,rfl⟩;have hsg:=Qa72 hrR2;rw[hsl]at hsg hsm;refine Qh (Qf (Qw (fun m2 e1 H1=>∃(i:Nat) (fo:Bool) (ns:List Int),m2=sl.length-i∧i≤sl.length∧ns.Pairwise (· < ·)∧(∀x∈ns,0≤x∧x<n)∧Kn H H1 [] ((XL++[(zb,.vec 5 (os.map OBlk.row))])++os.flatMap OBlk.lg)∧
    lk 1 e1=.c (.pp [.int .i64 q.params,.int .i64 q.regs,.sl false 5 (Qm q.blocks)])∧lk 2 e1=.c (.ptr x2 0)∧lk 3 e1=.c (.ptr x3 0)∧lk 4 e1=.c (.sl false 1 (ovOf q.blocks.length (nxN (gnx q)) q.blocks.length))∧lk 5 e1=.c (.ptr x5 0)∧lk 6 e1=.c (.sl false 1 (Qja q))∧lk 7 e1=.c (.int .i64 r)∧lk 8 e1=.c (.sl fo 1 (Qb ns))∧lk 9 e1=.c (.int .i64 i)) sl.length ?_ ?_))
   ·exact⟨0,fo,ns,by omega,by omega,ha,hns,kn,rfl,rfl,rfl,rfl,rfl,rfl,rfl,rfl,rfl⟩
   ·clear kn ha hns l1 l2 l3 l4 l5 l6 l7 l8;rintro m2 e3 H11 ⟨i,fo,ns,hm2,hi,ha,hns,kn,l1,l2,l3,l4,l5,l6,l7,l8,l9⟩;have hns0:∀x∈ns,0≤x:=fun x hx=>(hns x hx).1;have hnsl:ns.length≤n:=by
     have:=Q9l (n:=n) (Qoz hns0 ha) fun x hx=>by
      obtain⟨v,hv,rfl⟩:=Js.1 hx;have:=hns v hv;omega
     simpa using this
    refine Qy ?_;refine Qa ?_;simp only[go_sem,l1,l2,l3,l4,l5,l6,l7,l8,l9,hrR2,Qamc,hsg,Qyl];intro hlim;simp only[LIM]at hlim;refine Qh (Qe rfl ?_ ?_)
    ·intro hc2;have hlt:i<sl.length:=(by simpa using hc2);obtain⟨b,hb,hbn⟩:=hsm i hlt;refine Qi ?_;try simp only[go_sem]
     refine Qh (Qf ?_);refine Qq ?_;simp only[go_sem,hrR2,Qamc,hsg,Qyl,hlt,Qbbf _ _ hlt,pRow,hb,Jan,Jbm];try simp only[go_sem,Jan,Jbm,Jg,Jk]
     refine⟨Ja3 0,?_⟩;refine Qts ha (by omega) fun fl2 ns2 H12 hu ha2 hm2' hl2=>?_;have kn:=kn.call0 hu;simp only[go_sem,Q4y];refine Qq ?_;simp only[go_sem];refine⟨Qr (by omega) (by omega),?_⟩;show ∃m,_;refine⟨sl.length-(i+1),by omega,i+1,fl2,ns2,rfl,by omega,ha2,fun x hx=>?_,kn,rfl,rfl,rfl,rfl,rfl,rfl,rfl,rfl,by simp[lk]⟩;rcases (hm2' x).1 hx with rfl|hx
     ·omega
     ·exact hns x hx
    ·intro _;refine Qv ?_;simp only[go_sem,X.next];refine Qa ?_;simp only[go_sem,l1,l2,l3,l4,l5,l6,l7,l8];rw[Qaak hns0];refine Qag5 ho (by rw[Jd];omega) fun fs H12 hu hfa hfn=>?_;have kn:=kn.call0 hu;have hfl:=Q9l hfa hfn;rw[hn]at hfl hfn;simp only[go_sem,Q0a];refine Qa ?_;simp only[go_sem];refine Qf (Qw (fun m2 e1 H1=>∃(i:Nat) (os:List OBlk),m2=fs.length-i∧i≤fs.length∧PhS q (fun j=>R-(r+1)+if j∈fs.take i then 1 else 0) os∧Kn H H1 [] ((XL++[(zb,.vec 5 (os.map OBlk.row))])++os.flatMap OBlk.lg)∧
      lk 1 e1=.c (.pp [.int .i64 q.params,.int .i64 q.regs,.sl false 5 (Qm q.blocks)])∧lk 2 e1=.c (.ptr x2 0)∧lk 3 e1=.c (.ptr x3 0)∧lk 4 e1=.c (.sl false 1 (ovOf q.blocks.length (nxN (gnx q)) q.blocks.length))∧lk 5 e1=.c (.ptr x5 0)∧lk 6 e1=.c (.sl false 1 (Qja q))∧lk 7 e1=.c (.int .i64 r)∧
      lk 10 e1=.c (.sl false 1 (Qaf fs))∧lk 11 e1=.c (.int .i64 i)) fs.length ?_ ?_)
     ·exact⟨0,os,by omega,by omega,hS.up fun j=>by simp,kn,rfl,rfl,rfl,rfl,rfl,rfl,rfl,rfl,rfl⟩
     ·have hfnd:fs.Nodup:=hfa.imp fun h=>(by omega);clear kn hS hfa ha hns hns0 hnsl l1 l2 l3 l4 l5 l6 l7 l8 l9;rintro m3 e4 H13 ⟨i,os,hm3,hi,hS,kn,l1,l2,l3,l4,l5,l6,l7,l10,l11⟩;refine Qy ?_;refine Qa ?_;simp only[go_sem,l1,l2,l3,l4,l5,l6,l7,l10,l11,Q7];try intro _
      refine Qh (Qe rfl ?_ ?_)
      ·intro hc2;have hlt:i<fs.length:=(by simpa using hc2);obtain⟨b,hb⟩:∃b,fs[i]=b:=⟨_,rfl⟩;have hfg:fs.getD i 0=b:=(by simp[Ja,hlt,hb]);have hbn:b<n:=(by rw[←hb];exact hfn _ (Jc hlt));have hnotin:b∉fs.take i:=(by rw[←hb];exact Qa81 hfnd hlt);have htk:∀j,j∈fs.take (i+1)↔j∈fs.take i∨j=b:=fun j=>by
        rw[Jn hlt,hb];simp
       have hbz:b<zi.length:=(by rw[hlv.1.i,hn];exact hbn);obtain⟨nd,hnd⟩:∃nd,zi[b].2=nd:=⟨_,rfl⟩;have hndl:r<nd.length:=(by rw[←hnd,hlv.1.li _ (Jc hbz)];exact hrR2);have hx5:=(gX (by rw[J3]at kn;exact kn)).2;refine Qi ?_;try simp only[go_sem]
       refine Qd2 (fun e2 H2=>∃(os:List OBlk),PhS q (fun j=>R-(r+1)+if j∈fs.take (i+1)then 1 else 0) os∧Kn H H2 [] ((XL++[(zb,.vec 5 (os.map OBlk.row))])++os.flatMap OBlk.lg)∧
        lk 1 e2=.c (.pp [.int .i64 q.params,.int .i64 q.regs,.sl false 5 (Qm q.blocks)])∧lk 2 e2=.c (.ptr x2 0)∧lk 3 e2=.c (.ptr x3 0)∧lk 4 e2=.c (.sl false 1 (ovOf q.blocks.length (nxN (gnx q)) q.blocks.length))∧lk 5 e2=.c (.ptr x5 0)∧lk 6 e2=.c (.sl false 1 (Qja q))∧lk 7 e2=.c (.int .i64 r)∧
        lk 10 e2=.c (.sl false 1 (Qaf fs))∧lk 11 e2=.c (.int .i64 i)) ?_ ?_
       ·intro Q hnr _ _;refine Qf ?_;refine Qy ?_;refine Qag ?_;simp only[go_sem,l1,l2,l3,l4,l5,l6,l7,l10,l11,hx5,hlt,Q7,Qau _ _ hlt,hfg,hbz,Qata,Qalx _ _ hbz,hnd,hndl,Qz,Q6 _ _ hndl];refine Qh (Qe rfl ?_ ?_)
        ·intro _;refine Qv ?_;simp only[go_sem];refine hnr _ _ ⟨os,hS.up fun j=>?_,kn,rfl,rfl,rfl,rfl,rfl,rfl,rfl,rfl,rfl⟩;show _+_≤_+_;by_cases hj:j∈fs.take i
         ·rw[if_pos hj,if_pos ((htk j).2 (.inl hj))];exact Jj _
         ·rw[if_neg hj];omega
        ·intro _;refine Qi ?_;try simp only[go_sem]
         refine Qa ?_;simp only[go_sem];intro x12 hx12 H14 h14;have kn:=kn.al hx12 h14;have hx12:H14 x12=.st [.int .i64 0,.sl true 1 []]:=(kn.get (x12,.st [.int .i64 0,.sl true 1 []]) (by simp)).1;simp only[go_sem,Q0b,hx12];intro H15 h15;have kn:Kn H H15 [] (([(x12,.st [.int .i64 r,.sl true 1 []])]++((XL++[(zb,.vec 5 (os.map OBlk.row))])++os.flatMap OBlk.lg))++[]):=by
          rw[Jac];exact (kn.perm Jv).stL 0 rfl h15
         refine Qy ?_;refine Qag ?_;simp only[go_sem,hlt,Q7,Qau _ _ hlt,hfg];refine Qfm (nx:=gnx q) (.mk' _ _ _ _) rfl (Qg0 H15 q false).x fun H16 hu=>?_;have kn:=kn.call0 hu;rw[Qo];have hpl:=Qcs (gnx q) (b:Int) q.blocks.length;obtain⟨np,hnp⟩:∃np,(Q8 (gnx q) (b:Int) q.blocks.length).length=np:=⟨_,rfl⟩;rw[hnp]at hpl;simp only[go_sem,Q0c,Qd,hnp];try intro _
         refine Qh (Qf (Qw (fun m4 e1 H1=>∃(j:Nat) (t:C) (Lg:List (Nat×Obj)),m4=np-j∧j≤np∧Gr Lg 1 (Qb (List.replicate j (r:Int))) t∧Kn H H1 [] (([(x12,.st [.int .i64 r,t])]++((XL++[(zb,.vec 5 (os.map OBlk.row))])++os.flatMap OBlk.lg))++Lg)∧
          lk 1 e1=.c (.pp [.int .i64 q.params,.int .i64 q.regs,.sl false 5 (Qm q.blocks)])∧lk 2 e1=.c (.ptr x2 0)∧lk 3 e1=.c (.ptr x3 0)∧lk 4 e1=.c (.sl false 1 (ovOf q.blocks.length (nxN (gnx q)) q.blocks.length))∧lk 5 e1=.c (.ptr x5 0)∧lk 6 e1=.c (.sl false 1 (Qja q))∧lk 7 e1=.c (.int .i64 r)∧
          lk 10 e1=.c (.sl false 1 (Qaf fs))∧lk 11 e1=.c (.int .i64 i)∧lk 12 e1=.c (.ptr x12 0)∧lk 85 e1=.c (.int .i64 np)∧lk 86 e1=.c (.int .i64 j)) np ?_ ?_))
         ·exact⟨0,_,[],by omega,by omega,.nil 1,kn,rfl,rfl,rfl,rfl,rfl,rfl,rfl,rfl,rfl,rfl,rfl,rfl⟩
         ·clear kn hx12 hx5 l1 l2 l3 l4 l5 l6 l7 l10 l11;rintro m4 e5 H17 ⟨j,t,Lg,hm4,hj,hgt,kn,l1,l2,l3,l4,l5,l6,l7,l10,l11,l12,l85,l86⟩;have htw:=hgt.isOw;have hx12:=kn.l 0 rfl;refine Qa ?_;simp only[go_sem,l1,l2,l3,l4,l5,l6,l7,l10,l11,l12,l85,l86];refine Qh (Qe rfl ?_ ?_)
          ·intro hc3;have hlt3:j<np:=(by simpa using hc3);refine Qi ?_;try simp only[go_sem]
           refine Qh (Qf ?_);refine Qq ?_;simp only[go_sem,hx12,htw];refine kn.growR (new:=Qb [(r:Int)]) hgt (.mk' _ _ _ _) (Qp _) (by simp only[Qd,LIM,Jg,Jk,List.length_replicate];omega) fun t2 Lg2 H18 hgt2 ht2 kn=>?_;have hx12:=kn.l 0 rfl;simp only[go_sem,Q0d,hx12,ht2];intro H19 h19;have kn:=kn.stL 0 rfl h19;refine Qq ?_;simp only[go_sem];refine⟨Qr (by omega) (by omega),?_⟩;show ∃m,_;refine⟨np-(j+1),by omega,j+1,t2,Lg2,rfl,by omega,?_,kn,rfl,rfl,rfl,rfl,rfl,rfl,rfl,rfl,rfl,rfl,rfl,by simp[lk]⟩;rw[List.replicate_succ',Qbg];exact hgt2
          ·intro hc3;have hje:j=np:=(by have:np≤j:=(by simpa using hc3);omega);subst hje;refine Qv ?_;simp only[go_sem,X.next];have hbo:b<os.length:=(by rw[hS.n,hn];exact hbn);obtain⟨o,hob⟩:∃o,os[b]=o:=⟨_,rfl⟩;have hoo:o.ok:=(by rw[←hob];exact hS.ok _ (Jc hbo));obtain⟨Z,hZ⟩:∃Z,(os.eraseIdx b).flatMap OBlk.lg=Z:=⟨_,rfl⟩;have hflat:(os.flatMap OBlk.lg).Perm (o.lg++Z):=(by rw[←hZ,←hob];exact Qdr hbo);obtain⟨RW,hRW⟩:∃RW,os.map OBlk.row=RW:=⟨_,rfl⟩;have hRWl:RW.length=n:=(by rw[←hRW,Jd,hS.n,hn]);have hRWg:RW.getD b []=[o.pc,o.ic,.int .i64 o.jump,.int .i64 o.on,.vsl o.nx.y 1 0 o.nx.ns.length]:=by
            rw[←hRW,Ja];simp only[Jr,Jf hbo,hob,Jz,Jw];exact o.row_eq
           have hRWt:RW.take n=RW:=Jh (by omega);have hpw:=hoo.p.isOw;have hiw:=hoo.i.isOw;rw[hRW]at kn;obtain⟨p,hp⟩:∃p:OPhi,p=⟨r,List.replicate j (r:Int),t,Lg⟩:=⟨_,rfl⟩;have hpok:p.ok:=by
            rw[hp];rcases hgt with ⟨h1,h2,h3⟩|⟨y,h1,h2⟩
            ·right;refine⟨true,?_,h3⟩;show t=_;rw[h1,h2]
            ·left;refine⟨y,?_,h2⟩;show t=_;rw[h1,Qd]
           have hpr:p.row=[.int .i64 r,t]:=(by rw[hp];rfl);have kn:Kn H H17 [] (([(zb,.vec 5 RW)]++([(x12,.st p.row)]++(XL++(Z++(o.rst++Lg)))))++o.pl):=kn.perm (Ql fun f hf h0 hc hp'=>by
            have h1:=hp' _ _ hflat;have h2:=hp' _ _ o.lg_perm;rw[hpr];simp only[hf]at h1 h2⊢;omega)
           have hx3:H17 x3=.st [.int .i64 q.params,.int .i64 q.regs,.vsl zb 5 0 n]:=(kn.get (x3,.st [.int .i64 q.params,.int .i64 q.regs,.vsl zb 5 0 n]) (by rw[←hX];simp)).1;have hx12:=kn.l 1 rfl;rw[hpr]at hx12;have hzb:=kn.l 0 rfl;refine Qa2 ?_;simp only[go_sem,l1,l2,l3,l4,l5,l6,l7,l10,l11,l12,hx3,hx12,hzb,hRWl,hRWt,hRWg,hlt,Q7,Qau _ _ hlt,hfg,hbn,hpw,hiw,htw,Ji,Jj];intro y hy H18 h18;have kn:=kn.al hy h18;have kp:=kn.perm (L':=(([(zb,.vec 5 RW)]++([(x12,.st p.row)]++(XL++(Z++(o.rst++Lg)))))++[(y,.vec 2 [[.int .i64 r,t]])])++o.pl) Qaln;have hget:=hoo.p.get kp;have hsl:Slc H18 2 (o.phis.map OPhi.row) o.pc:=⟨hget.1,hoo.p.elemSz,hget.2,hoo.p.lenC⟩;have hpno:∀w∈o.phis.map OPhi.row,Go.AE.noOw w=true:=fun w hw=>by
            obtain⟨x,hx,rfl⟩:=Js.1 hw;exact x.noOw (hoo.a x hx)
           have hpg:Gr [(y,.vec 2 [[.int .i64 r,t]])] 2 [[.int .i64 r,t]] (.vsl y 2 0 1):=.mk _ _ _ rfl;generalize hyc:C.vsl y 2 0 1=yc at hpg⊢;have hycw:=hpg.isOw;have hbq:b<q.blocks.length:=(by rw[hn];exact hbn);have hplen:o.phis.length≤3000:=by
            have h1:=hS.l b hbo hbq;have h2:=ho.il b hbq;rw[hob]at h1;have h3:(R-(r+1)+if b∈fs.take i then 1 else 0)≤R+1:=(by split <;> omega);have h1:o.phis.length≤q.blocks[b].phis.length+(R-(r+1)+if b∈fs.take i then 1 else 0):=h1;omega
           have hx3:H18 x3=.st [.int .i64 q.params,.int .i64 q.regs,.vsl zb 5 0 n]:=(kn.get (x3,.st [.int .i64 q.params,.int .i64 q.regs,.vsl zb 5 0 n]) (by rw[←hX];simp)).1;have hzb:H18 zb=.vec 5 RW:=(kn.get (zb,.vec 5 RW) (by simp)).1;simp only[go_sem,Q0f,hycw,hx3,hzb,hRWl,hRWt,hRWg,hlt,Q7,Qau _ _ hlt,hfg,hbn,hpw,hiw,htw,Ji,Jj];refine kn.growR (new:=o.phis.map OPhi.row) hpg hsl hpno (by simp only[Jd,Jg,Jk,LIM];omega) fun t2 Lg2 H19 hg2 ht2 kn=>?_;have hx3:H19 x3=.st [.int .i64 q.params,.int .i64 q.regs,.vsl zb 5 0 n]:=(kn.get (x3,.st [.int .i64 q.params,.int .i64 q.regs,.vsl zb 5 0 n]) (by rw[←hX];simp)).1;have hzb:H19 zb=.vec 5 RW:=(kn.get (zb,.vec 5 RW) (by simp)).1;simp only[go_sem,Q0e,hx3,hzb,hRWl,hRWt,hRWg,hlt,Q7,Qau _ _ hlt,hfg,hbn,hpw,hiw,htw,ht2,Ji,Jj];intro H20 h20;obtain⟨o',ho'⟩:∃o':OBlk,o'=⟨p::o.phis,t2,Lg2,o.ins,o.ic,o.il,o.jump,o.on,o.nx⟩:=⟨_,rfl⟩;have hset:RW.set b [t2,o.ic,.int .i64 o.jump,.int .i64 o.on,.vsl o.nx.y 1 0 o.nx.ns.length]=(os.set b o').map OBlk.row:=(by rw[←hRW,Ja0,ho'];rfl);rw[hset]at h20;have kn:=kn.stL 0 rfl h20;have hst:=hS.step hbo hob (k':=fun j=>R-(r+1)+if j∈fs.take (i+1)then 1 else 0) hpok (pc:=t2) (pl:=Lg2) (by rw[Jai,hpr];exact hg2) (by rw[hp];exact (⟨by omega,by omega⟩:(0:Int)≤(r:Int)∧(r:Int)<q.regs)) (fun v hv=>by
            rw[hp]at hv;rw[Jad hv];exact⟨by omega,by omega⟩) (by rw[hp,hnp];simp) (fun j'=>by
            by_cases hj':j'=b
            ·subst hj';rw[if_pos rfl,if_pos ((htk j').2 (.inr rfl)),if_neg hnotin]
            ·rw[if_neg hj'];by_cases hj2:j'∈fs.take i
             ·rw[if_pos hj2,if_pos ((htk j').2 (.inl hj2))]
             ·rw[if_neg hj2,if_neg (fun h=>by rcases (htk j').1 h with h|h;exact hj2 h;exact hj' h)])
           rw[←ho']at hst;refine hnr _ _ ⟨os.set b o',hst,?_,rfl,rfl,rfl,rfl,rfl,rfl,rfl,rfl,rfl⟩;have hs2:=Qdr (f:=OBlk.lg) (l:=os.set b o') (i:=b) (by rw[Jq];exact hbo);rw[Ja7,Jav,hZ]at hs2;have hrst:∀f:List (Nat×Obj)→Nat,(∀a b,f (a++b)=f a+f b)→f o'.rst=f o.rst+f Lg:=fun f hf=>by
            rw[ho'];simp only[OBlk.rst,Jae,hf];have:p.lg=Lg:=(by rw[hp]);rw[this];omega
           have hpl':o'.pl=Lg2:=(by rw[ho']);refine Kn.drop (B:=[(x12,.st p.row)]++o.pl) (kn.perm (Ql fun f hf h0 hc hp'=>?_));have h1:=hp' _ _ hs2;have h2:=hp' _ _ o'.lg_perm;have h3:=hrst f hf;rw[hpl']at h2;show f (([(zb,_)]++([(x12,_)]++(XL++(Z++(o.rst++Lg)))))++o.pl++Lg2)=_;simp only[hf]at h1 h2 h3⊢;omega
       ·rintro e5 H14 ⟨os,hS,kn,l1,l2,l3,l4,l5,l6,l7,l10,l11⟩;refine Qq ?_;simp only[go_sem,l1,l2,l3,l4,l5,l6,l7,l10,l11];refine⟨Qr (by omega) (by omega),?_⟩;show ∃m,_;exact⟨fs.length-(i+1),by omega,i+1,os,rfl,by omega,hS,kn,rfl,rfl,rfl,rfl,rfl,rfl,rfl,rfl,by simp[lk]⟩
      ·intro hc2;refine Qv ?_;simp only[go_sem,X.next];refine Qq ?_;simp only[go_sem,l1,l2,l3,l4,l5,l6,l7];refine⟨Qr (by omega) (by omega),?_⟩;show ∃m,_;refine⟨r,by omega,r,os,rfl,by omega,hS.up fun j=>?_,kn,rfl,rfl,rfl,rfl,rfl,rfl,rfl⟩;show _+_≤_;split <;> omega
  ·intro hc;have hre:m=0:=by have:¬(0:Int)≤(m:Int)-1:=(by simpa using hc);omega
   subst hre;refine Qv ?_;simp only[go_sem,X.next];have hx3:H10 x3=.st [.int .i64 q.params,.int .i64 q.regs,.vsl zb 5 0 n]:=(kn.get (x3,.st [.int .i64 q.params,.int .i64 q.regs,.vsl zb 5 0 n]) (by rw[←hX];simp)).1;rw[←hX]at kn;have hx2:=kn.l 1 rfl;refine Qa ?_;simp only[go_sem,l2,l3,hx3,hx2];intro H11 h11;have kn:=kn.stL 1 rfl h11;have hx2:=kn.l 1 rfl;refine Qk ?_;simp only[go_sem,Q3,Qab,Qas2,Jb,forall_eq,RS.op,hx2];have hheld:Held H11 (un H) (os.flatMap OBlk.lg):=fun p hp=>⟨(kn.get p (by simp only[List.set,Jah,Jaf,J3,Jy];exact .inr (.inr (.inr (.inr hp))))).1,Qe8 (kn.loc p (by simp only[List.set,Jah,Jaf,J3,Jy];exact .inr (.inr (.inr (.inr hp)))))⟩;have hz:=kn.l 3 rfl;have hrows:=OBlks.frzD (H:=H11) (S:=un H) hS.ok hheld;exact⟨_,FrzL.ag (.cons (Qg rfl) (.cons (Qg rfl) (.cons (hrows.vsl (kn.un 3 rfl) hz (by rw[Jd,hS.n,hn])) .nil))),hK ⟨q.params,q.regs,os.map OBlk.d⟩ _ (hS.fin ho fun j hj=>by
    have:=hph _ (Jc hj);have:=ho.il j hj;show _+(R-0)≤_;omega) rfl rfl kn.fin⟩
end Go.AE.Y
namespace Go.AE
def SimC (c c':C):Prop:=c'=c∨∃a b:Int,c=.int .i64 a∧c'=.int .i64 b
inductive SimR:List C→List C→Prop
 |nil:SimR [] []
 |cons {c c':C} {l l':List C} (h:SimC c c') (t:SimR l l'):SimR (c::l) (c'::l')
theorem SimR.same:∀l,SimR l l
 |[]=>.nil
 |c::l=>.cons (.inl rfl) (SimR.same l)
theorem SimC.trans {a b c:C}(h:SimC a b)(k:SimC b c):SimC a c:=by
 rcases h with rfl|⟨x,y,rfl,rfl⟩
 ·exact k
 ·rcases k with rfl|⟨u,v,hu,rfl⟩
  ·exact .inr ⟨x,y,rfl,rfl⟩
  ·exact .inr ⟨x,v,rfl,rfl⟩
theorem SimR.trans {a b c:List C}(h:SimR a b):SimR b c→SimR a c:=by
 induction h generalizing c with
 |nil=>exact id
 |cons h t ih=>
  intro k
  cases k with
  |cons h2 t2=>exact .cons (h.trans h2) (ih t2)
theorem SimC.int {a:Int}{c:C}(h:SimC (.int .i64 a) c):∃b:Int,c=.int .i64 b:=by
 rcases h with rfl|⟨x,y,_,rfl⟩
 ·exact⟨a,rfl⟩
 ·exact⟨y,rfl⟩
theorem SimC.sl {fl:Bool}{sz:Nat}{rows:List (List C)}{c:C}(h:SimC (.sl fl sz rows) c):c=.sl fl sz rows:=by
 rcases h with rfl|⟨x,y,h,_⟩
 ·rfl
 ·simp at h
theorem SimC.vsl {l sz st n:Nat}{c:C}(h:SimC (.vsl l sz st n) c):c=.vsl l sz st n:=by
 rcases h with rfl|⟨x,y,h,_⟩
 ·rfl
 ·simp at h
def SimO (X:Nat→Prop)(o o':Obj):Prop:=∃sz rows rows',o=.vec sz rows∧o'=.vec sz rows'∧rows'.length=rows.length∧∀r,r<rows.length→SimR (rows.getD r []) (rows'.getD r [])∧(X r→rows'.getD r []=rows.getD r [])
variable {X X':Nat→Prop}{o o':Obj}
theorem SimO.same (sz:Nat)(rows:List (List C)):SimO X (.vec sz rows) (.vec sz rows):=⟨sz,rows,rows,rfl,rfl,rfl,fun r _=>⟨.same _,fun _=>rfl⟩⟩
theorem SimO.mono (h:SimO X o o')(hX:∀r,X' r→X r):SimO X' o o':=by
 obtain⟨sz,rows,rows',h1,h2,h3,h4⟩:=h;exact⟨sz,rows,rows',h1,h2,h3,fun r hr=>⟨(h4 r hr).1,fun hx=>(h4 r hr).2 (hX r hx)⟩⟩
theorem SimO.get {sz:Nat}{rows:List (List C)}(h:SimO X (.vec sz rows) o'):∃rows',o'=.vec sz rows'∧rows'.length=rows.length∧∀r,r<rows.length→SimR (rows.getD r []) (rows'.getD r [])∧(X r→rows'.getD r []=rows.getD r []):=by
 obtain⟨sz,rows,rows',h1,h2,h3,h4⟩:=h;cases h1;exact⟨rows',h2,h3,h4⟩
theorem SimO.set {sz:Nat}{rows rows':List (List C)}(h:SimO X (.vec sz rows) (.vec sz rows')){r:Nat}{new:List C}(hr:r<rows.length)(hs:SimR (rows.getD r []) new)(hX:∀r',r'≠r→X' r'→X r')(hn:¬X' r) :
  SimO X' (.vec sz rows) (.vec sz (rows'.set r new)):=by
 obtain⟨rows2,h2,h3,h4⟩:=h.get;cases h2;refine⟨sz,rows,_,rfl,rfl,by rw[Jq];exact h3,fun r' hr'=>?_⟩;by_cases e:r'=r
 ·subst e;have:(rows'.set r' new).getD r' []=new:=by rw[Ja,Jaq (by omega)];rfl
  rw[this];exact⟨hs,fun hx=>absurd hx hn⟩
 ·have:(rows'.set r new).getD r' []=rows'.getD r' []:=by rw[Ja,Jbd (fun h=>e h.symm),←Ja]
  rw[this];exact⟨(h4 r' hr').1,fun hx=>(h4 r' hr').2 (hX r' e hx)⟩
def Ty (LG:List (Nat×Obj))(F:Heap)(E0:List (Nat×Obj))(X:Nat→Nat→Prop)(H:Heap)(L:List (Nat×Obj)):Prop:=
 ∃E1:List (Nat×Obj),E1.map Prod.fst=LG.map Prod.fst∧(∀p∈LG,∀ob,(p.1,ob)∈E1→SimO (X p.1) p.2 ob)∧Kn F H (E0++E1) L
namespace Ty
variable {LG E0 L A N:List (Nat×Obj)}{F H H':Heap}{X X':Nat→Nat→Prop}{m:Nat}{o ob:Obj}
theorem nodup (t:Ty LG F E0 X H L):(LG.map Prod.fst).Nodup:=by
 obtain⟨E1,h1,h2,kn⟩:=t;have:=kn.dE;rw[Jm]at this;rw[←h1];exact (Ju.1 this).2.1
theorem get (t:Ty LG F E0 X H L)(hm:(m,o)∈LG):SimO (X m) o (H m):=by
 obtain⟨E1,h1,h2,kn⟩:=t;have h3:m∈E1.map Prod.fst:=by rw[h1];exact Qao hm
 obtain⟨p,hp,he⟩:=Js.1 h3;have h4:=(kn.get p (Jl _ (Je _ hp))).1;obtain⟨a,b⟩:=p;simp only at he h4;subst he;rw[h4];exact h2 _ hm _ hp
theorem e (t:Ty LG F E0 X H L)(i:Nat){x:Nat}{oo:Obj}(h:E0[i]? = some (x,oo)):H x=oo:=by
 obtain⟨E1,h1,h2,kn⟩:=t;exact (kn.get (x,oo) (Jl _ (Jl _ (Jaw h)))).1
theorem weak (t:Ty LG F E0 X H L)(hX:∀m r,X' m r→X m r):Ty LG F E0 X' H L:=by
 obtain⟨E1,h1,h2,kn⟩:=t;exact⟨E1,h1,fun p hp ob hob=>(h2 p hp ob hob).mono (hX p.1),kn⟩
theorem st (t:Ty LG F E0 X H L)(hm:(m,o)∈LG)(h:H'=H.set m ob)(hs:SimO (X' m) o ob)(hX:∀m',m'≠m→∀r,X' m' r→X m' r):Ty LG F E0 X' H' L:=by
 have hnd:=t.nodup;obtain⟨E1,h1,h2,kn⟩:=t;have h3:m∈E1.map Prod.fst:=by rw[h1];exact Qao hm
 obtain⟨p,hp,he⟩:=Js.1 h3;obtain⟨i,hi⟩:=Jaa hp;obtain⟨a,b⟩:=p;simp only at he;subst he;have hob:ob≠.none:=by
  obtain⟨_,_,_,_,h,_⟩:=hs;rw[h];simp
 have hd1:(E1.map Prod.fst).Nodup:=by rw[h1];exact hnd
 have hi':(E0++E1)[E0.length+i]? = some (a,b):=by rw[Jaj (by omega),Ja4];exact hi
 have k2:=kn.stE (E0.length+i) hi' h hob;rw[Jba _ _ (by omega),Ja4]at k2;refine⟨E1.set i (a,ob),(Qbx hi).trans h1,fun p hp ob' hob'=>?_,k2⟩;rcases Qbh hob' with e|⟨j,hj,hj2⟩
 ·have e1:p.1=a:=congrArg Prod.fst e;have e2:ob'=ob:=congrArg Prod.snd e;have e3:p.2=o:=by
   obtain⟨i1,g1⟩:=Jaa hp;obtain⟨i2,g2⟩:=Jaa hm;have:=Qcp hnd g1 g2 e1;subst this;rw[g1]at g2;rw[Jag g2]
  rw[e1,e2,e3];exact hs
 ·have hne:p.1≠a:=fun hh=>hj (Qcp hd1 hj2 hi hh);exact (h2 p hp ob' (Jaw hj2)).mono (hX p.1 hne)
theorem stE (t:Ty LG F E0 X H L)(i:Nat){x:Nat}{a b:Obj}(h:E0[i]? = some (x,a))(h1:H'=H.set x b)(hb:b≠.none:=by nofun):Ty LG F (E0.set i (x,b)) X H' L:=by
 obtain⟨E1,g1,g2,kn⟩:=t;have hlt:=(Ja2.1 h).1;have k2:=kn.stE (o:=a) i (by rw[List.getElem?_append_left hlt];exact h) h1 hb;rw[List.set_append_left _ _ hlt]at k2;exact⟨E1,g1,g2,k2⟩
theorem call0 (t:Ty LG F E0 X H L)(hu:Upd H H' []):Ty LG F E0 X H' L:=by
 obtain⟨E1,g1,g2,kn⟩:=t;exact⟨E1,g1,g2,kn.call0 hu⟩
theorem al (t:Ty LG F E0 X H L){x:Nat}{b:Obj}(hx:H x=.none)(h1:H'=H.set x b)(hb:b≠.none:=by nofun):Ty LG F E0 X H' (L++[(x,b)]):=by
 obtain⟨E1,g1,g2,kn⟩:=t;exact⟨E1,g1,g2,kn.al hx h1 hb⟩
theorem drop (t:Ty LG F E0 X H (A++N)):Ty LG F E0 X H A:=by
 obtain⟨E1,g1,g2,kn⟩:=t;exact⟨E1,g1,g2,kn.drop⟩
theorem sub {wl cy c0:Nat}{a b c:Obj}(t:Ty LG F [(wl,a),(c0,b)] X H (L++[(cy,c)])):Ty LG H [(wl,a),(cy,c)] X H []:=by
 obtain⟨E1,g1,g2,kn⟩:=t;refine⟨E1,g1,g2,Kn.startE (fun p hp=>kn.get p ?_) ?_⟩
 ·rcases Jo.1 hp with hp|hp
  ·rcases Jy.1 hp with rfl|hp
   ·simp
   ·rcases Jy.1 hp with rfl|hp
    ·simp
    ·simp at hp
  ·simp[hp]
 ·have hd:=kn.dE;simp only[Jah,Jaf,Jai,Ja8,Jy,not_or]at hd⊢;have hcy:∀p∈[(wl,a),(c0,b)]++E1,p.1≠cy:=fun p hp hh=>kn.ext p hp (hh▸kn.loc (cy,c) (by simp));refine⟨⟨hcy (wl,a) (by simp),hd.1.2⟩,fun hh=>?_,hd.2.2⟩;obtain⟨p,hp,he⟩:=Js.1 hh;exact hcy p (Je _ hp) he
theorem ret {wl cy c0:Nat}{a b c a' c':Obj}(t:Ty LG F [(wl,a),(c0,b)] X H (L++[(cy,c)]))(t2:Ty LG H [(wl,a'),(cy,c')] X' H' []):Ty LG F [(wl,a'),(c0,b)] X' H' L:=by
 obtain⟨E1,g1,g2,kn⟩:=t;obtain⟨E2,k1,k2,kn2⟩:=t2;have hu:=kn2.upd;have hne:∀p∈[(wl,a'),(cy,c')]++E2,p.2≠.none:=fun p hp=>(kn2.get p (Jl _ hp)).2;have hfst:E2.map Prod.fst=E1.map Prod.fst:=k1.trans g1.symm;have hd:=kn.dE;have hdL:=kn.dL;rw[Jm]at hdL;have hcy:∀p∈[(wl,a),(c0,b)]++E1,p.1≠cy:=fun p hp hh=>kn.ext p hp (hh▸kn.loc (cy,c) (by simp));have hk:Kn F H' ([(wl,a'),(c0,b)]++E2) (L++[(cy,c')]):=by
  refine kn.callg hu (by simp[hfst]) (by simp) (fun p hp=>?_) (fun u hu'=>?_)
  ·rcases Jo.1 hp with hp|hp
   ·rcases Jo.1 hp with hp|hp
    ·rcases Jy.1 hp with rfl|hp
     ·exact⟨hne _ (by simp),.inl (by simp)⟩
     ·simp only[Jb]at hp;subst hp;have h0:(c0,b)∈([(wl,a),(c0,b)]++E1)++(L++[(cy,c)]):=(by simp);refine⟨(kn.get _ h0).2,.inr ⟨h0,?_⟩⟩;simp only[Jah,Jaf,Jai,Ja8,Jy,not_or]at hd⊢;refine⟨fun h=>hd.1.1 h.symm,hcy (c0,b) (by simp),?_⟩;rw[hfst];exact hd.2.1
    ·exact⟨hne p (Je _ hp),.inl (Je _ hp)⟩
   ·rcases Jo.1 hp with hp|hp
    ·have h0:p∈([(wl,a),(c0,b)]++E1)++(L++[(cy,c)]):=(by simp[hp]);refine⟨(kn.get _ h0).2,.inr ⟨h0,fun hh=>?_⟩⟩;have hpf:F p.1=.none:=kn.loc p (Jl _ hp);simp only[Jah,Jaf,Jai,Jy]at hh;rcases hh with hh|hh|hh
     ·exact kn.ext (wl,a) (by simp) (hh▸hpf)
     ·exact (Ju.1 hdL).2.2 _ (Qao hp) cy (by simp) hh
     ·rw[hfst]at hh;obtain⟨p',hp',he⟩:=Js.1 hh;exact kn.ext p' (Je _ hp') (he▸hpf)
    ·simp only[Jb]at hp;subst hp;exact⟨hne _ (by simp),.inl (by simp)⟩
  ·rcases Jo.1 hu' with h|h
   ·rcases Jy.1 h with rfl|h
    ·left;simp
    ·simp only[Jb]at h;subst h;right;simp
   ·left;rw[Jm,Jo,←hfst];exact .inr (Qao h)
 exact⟨E2,k1,k2,hk.drop⟩
end Ty
end Go.AE
namespace Go.AE.Y
variable {H H' F:Heap}{q:CodeD}{os:List OBlk}{zb wl cy R n:Nat}{ids:List Int}{U:Nat→Prop}{X X':Nat→Nat→Prop}{nx:Int}{cs:List Int}{o:OBlk}{b x:Nat}
def LGo (os:List OBlk)(zb:Nat):List (Nat×Obj):=os.flatMap OBlk.lg++[(zb,.vec 5 (os.map OBlk.row))]
def OBlk.inN (o:OBlk):List (Nat×Obj):=o.ins.flatMap OIns.lg++o.il
def OBlk.phN (o:OBlk):List (Nat×Obj):=o.phis.flatMap OPhi.lg++o.pl
def XU (os:List OBlk)(zb:Nat)(U:Nat→Prop)(m r:Nat):Prop:=(∃x,∃h:x<os.length,m=os[x].nx.y)∨∃x,∃h:x<os.length,U x∧((m=zb∧r=x)∨∃p∈os[x].inN,m=p.1)
def XP (o:OBlk)(zb b:Nat)(j:Bool)(i k m r:Nat):Prop:=(j=true∧m=zb∧r=b)∨(∃p∈o.il,m=p.1∧i≤r)∨∃i',∃h:i'<o.ins.length,m=o.ins[i'].a.y∧(i<i'∨(i=i'∧k≤r))
theorem Q9x {α:Type}{f:α→List (Nat×Obj)}:∀{l:List α},((l.flatMap f).map Prod.fst).Nodup→∀{i j:Nat} (hi:i<l.length) (hj:j<l.length),i≠j→∀p∈f l[i],∀p'∈f l[j],p.1≠p'.1
 |[],_,i,j,hi,_,_=>by simp at hi
 |x::l,hd,i,j,hi,hj,hij=>by
  rw[Jae,Jm]at hd;obtain⟨d1,d2,d3⟩:=Ju.1 hd;intro p hp p' hp'
  cases i with
  |zero=>
   cases j with
   |zero=>exact absurd rfl hij
   |succ j=>
    simp only[J4,J0]at hp hp';exact d3 _ (Qao hp) _ (Qao (Jt.2 ⟨_,Jc _,hp'⟩))
  |succ i=>
   cases j with
   |zero=>
    simp only[J4,J0]at hp hp';exact fun h=>d3 _ (Qao hp') _ (Qao (Jt.2 ⟨_,Jc _,hp⟩)) h.symm
   |succ j=>
    simp only[J0]at hp hp';exact Q9x d2 (by simpa using hi) (by simpa using hj) (by omega) p hp p' hp'
theorem Qa8p {α:Type}{f:α→List (Nat×Obj)}:∀{l:List α},((l.flatMap f).map Prod.fst).Nodup→∀x∈l,((f x).map Prod.fst).Nodup
 |[],_,x,h=>by simp at h
 |y::l,hd,x,h=>by
  rw[Jae,Jm]at hd;obtain⟨d1,d2,d3⟩:=Ju.1 hd;rcases Jy.1 h with rfl|h
  ·exact d1
  ·exact Qa8p d2 x h
structure BlkN (o:OBlk):Prop where
 pn:∀p∈o.phN,p.1≠o.nx.y
 inn:∀p∈o.inN,p.1≠o.nx.y
 pi:∀p∈o.phN,∀p'∈o.inN,p.1≠p'.1
 ii:∀p∈o.ins.flatMap OIns.lg,∀p'∈o.il,p.1≠p'.1
 ij:∀i j (hi:i<o.ins.length) (hj:j<o.ins.length),i≠j→o.ins[i].a.y≠o.ins[j].a.y
theorem Qbox (h:(o.lg.map Prod.fst).Nodup):BlkN o:=by
 have e:o.lg=o.nx.lg++(o.phN++o.inN):=by simp only[OBlk.lg,OBlk.phN,OBlk.inN,J3]
 rw[e,Jm,Jm]at h;obtain⟨_,d2,d3⟩:=Ju.1 h;obtain⟨_,e2,e3⟩:=Ju.1 d2;rw[OBlk.inN,Jm]at e2;obtain⟨g1,_,g3⟩:=Ju.1 e2;have hy:o.nx.y∈o.nx.lg.map Prod.fst:=by simp[OInts.lg]
 refine⟨fun p hp hh=>d3 _ hy _ (Jl _ (Qao hp)) hh.symm,fun p hp hh=>d3 _ hy _ (Je _ (Qao hp)) hh.symm,fun p hp p' hp'=>e3 _ (Qao hp) _ (Qao hp'),
  fun p hp p' hp'=>g3 _ (Qao hp) _ (Qao hp'),fun i j hi hj hij=>?_⟩
 exact Q9x g1 hi hj hij (o.ins[i].a.y,.vec 1 (Qb o.ins[i].a.ns)) (by simp[OIns.lg,OInts.lg]) (o.ins[j].a.y,.vec 1 (Qb o.ins[j].a.ns)) (by simp[OIns.lg,OInts.lg])
def Apart (os:List OBlk)(zb:Nat):Prop:=((LGo os zb).map Prod.fst).Nodup
theorem Apart.zbn (h:Apart os zb)(hx:x<os.length){p:Nat×Obj}(hp:p∈os[x].lg):p.1≠zb:=by
 rw[Apart,LGo,Jm]at h;exact (Ju.1 h).2.2 _ (Qao (Jt.2 ⟨_,Jc hx,hp⟩)) zb (by simp)
theorem Apart.same (h:Apart os zb){x y:Nat}(hx:x<os.length)(hy:y<os.length){p p':Nat×Obj}(hp:p∈os[x].lg)(hp':p'∈os[y].lg)(he:p.1=p'.1):x=y:=by
 rw[Apart,LGo,Jm]at h;by_cases hxy:x=y
 ·exact hxy
 ·exact absurd he (Q9x (Ju.1 h).1 hx hy hxy p hp p' hp')
theorem Apart.blk (h:Apart os zb)(hx:x<os.length):BlkN os[x]:=by
 rw[Apart,LGo,Jm]at h;exact Qbox (Qa8p (Ju.1 h).1 _ (Jc hx))
theorem OBlk.nxM (o:OBlk):(o.nx.y,Obj.vec 1 (Qb o.nx.ns))∈o.lg:=by simp[OBlk.lg,OInts.lg]
theorem OBlk.phM {p:Nat×Obj}(h:p∈o.phN):p∈o.lg:=by
 simp only[OBlk.phN,OBlk.lg,Jo]at h⊢;rcases h with h|h
 ·exact .inr (.inl h)
 ·exact .inr (.inr (.inl h))
theorem OBlk.inM {p:Nat×Obj}(h:p∈o.inN):p∈o.lg:=by
 simp only[OBlk.inN,OBlk.lg,Jo]at h⊢;exact .inr (.inr (.inr h))
theorem OBlk.aM (o:OBlk){i:Nat}(h:i<o.ins.length):(o.ins[i].a.y,Obj.vec 1 (Qb o.ins[i].a.ns))∈o.ins.flatMap OIns.lg:=Jt.2 ⟨_,Jc h,by simp[OIns.lg,OInts.lg]⟩
theorem LGo.of {p:Nat×Obj}(hx:x<os.length)(hp:p∈os[x].lg):p∈LGo os zb:=Jl _ (Jt.2 ⟨_,Jc hx,hp⟩)
theorem LGo.zbm:(zb,Obj.vec 5 (os.map OBlk.row))∈LGo os zb:=Je _ (by simp)
theorem Apart.ph (h:Apart os zb)(hx:x<os.length){p:Nat×Obj}(hp:p∈os[x].phN)(r:Nat):¬XU os zb U p.1 r:=by
 rintro (⟨y,hy,he⟩|⟨y,hy,_,he⟩)
 ·have:=h.same hx hy (OBlk.phM hp) os[y].nxM he;subst this;exact (h.blk hx).pn p hp he
 ·rcases he with ⟨he,_⟩|⟨p',hp',he⟩
  ·exact h.zbn hx (OBlk.phM hp) he
  ·have:=h.same hx hy (OBlk.phM hp) (OBlk.inM hp') he;subst this;exact (h.blk hx).pi p hp p' hp' he
theorem Apart.phP (h:Apart os zb)(hx:x<os.length)(hb:b<os.length){p:Nat×Obj}(hp:p∈os[x].phN)(j:Bool)(i k r:Nat):¬XP os[b] zb b j i k p.1 r:=by
 rintro (⟨_,he,_⟩|⟨p',hp',he,_⟩|⟨i',hi',he,_⟩)
 ·exact h.zbn hx (OBlk.phM hp) he
 ·have hp2:p'∈os[b].inN:=Je _ hp';have:=h.same hx hb (OBlk.phM hp) (OBlk.inM hp2) he;subst this;exact (h.blk hx).pi p hp p' hp2 he
 ·have hp2:(os[b].ins[i'].a.y,Obj.vec 1 (Qb os[b].ins[i'].a.ns))∈os[b].inN:=Jl _ (os[b].aM hi');have:=h.same hx hb (OBlk.phM hp) (OBlk.inM hp2) he;subst this;exact (h.blk hx).pi p hp _ hp2 he
theorem Apart.inU (h:Apart os zb)(hb:b<os.length){p:Nat×Obj}(hp:p∈os[b].inN)(hU:¬U b)(r:Nat):¬XU os zb U p.1 r:=by
 rintro (⟨y,hy,he⟩|⟨y,hy,hUy,he⟩)
 ·have:=h.same hb hy (OBlk.inM hp) os[y].nxM he;subst this;exact (h.blk hb).inn p hp he
 ·rcases he with ⟨he,_⟩|⟨p',hp',he⟩
  ·exact h.zbn hb (OBlk.inM hp) he
  ·have:=h.same hb hy (OBlk.inM hp) (OBlk.inM hp') he;subst this;exact hU hUy
theorem Apart.zbU (h:Apart os zb)(hU:¬U b):¬XU os zb U zb b:=by
 rintro (⟨y,hy,he⟩|⟨y,hy,hUy,he⟩)
 ·exact h.zbn hy os[y].nxM he.symm
 ·rcases he with ⟨_,he⟩|⟨p',hp',he⟩
  ·subst he;exact hU hUy
  ·exact h.zbn hy (OBlk.inM hp') he.symm
theorem Apart.zbP (h:Apart os zb)(hb:b<os.length)(i k r:Nat):¬XP os[b] zb b false i k zb r:=by
 rintro (⟨h0,_⟩|⟨p',hp',he,_⟩|⟨i',hi',he,_⟩)
 ·simp at h0
 ·exact h.zbn hb (OBlk.inM (Je _ hp')) he.symm
 ·exact h.zbn hb (OBlk.inM (Jl _ (os[b].aM hi'))) he.symm
structure NC (q:CodeD)(os:List OBlk)(zb R n:Nat)(ids:List Int):Prop where
 ok:q.ok
 hn:q.blocks.length=n
 hR:q.regs.toNat=R
 l:os.length=n
 d:∀x (h:x<os.length) (h':x<q.blocks.length),os[x].d=q.blocks[x]
 bo:∀b∈os,b.ok
 ow:∀b∈os,∀p∈b.phis,p.own
 t:Tree n ids (depL n (nxN (gnx q)))
def wO (q:CodeD)(ids:List Int)(zb n:Nat)(nx:Int):Obj:=.st [.int .i64 q.params,.int .i64 q.regs,.sl false 5 (Qm q.blocks),.int .i64 q.params,.int .i64 q.regs,.vsl zb 5 0 n,.sl false 1 (Qb ids),.int .i64 nx]
abbrev TT (q:CodeD)(os:List OBlk)(zb n wl cy:Nat)(ids:List Int)(F:Heap)(nx:Int)(cs:List Int)(X:Nat→Nat→Prop)(H:Heap):Prop:=Ty (LGo os zb) F [(wl,wO q ids zb n nx),(cy,.vec 1 (Qb cs))] X H []
theorem Qbg7 (hs:SimO (X zb) (.vec 5 (os.map OBlk.row)) (H zb))(c:NC q os zb R n ids)(hx:x<n)(hxl:x<os.length)(ho:os[x]=o) :
  ∃RW j on,H zb=.vec 5 RW∧RW.length=n∧RW.take n=RW∧RW.getD x []=[o.pc,o.ic,.int .i64 j,.int .i64 on,.vsl o.nx.y 1 0 o.nx.ns.length]∧(X zb x→j=o.jump∧on=o.on)∧SimO (X zb) (.vec 5 (os.map OBlk.row)) (.vec 5 RW):=by
 subst ho;obtain⟨RW,h1,h2,h3⟩:=hs.get;rw[h1]at hs;rw[Jd,c.l]at h2;have hg:(os.map OBlk.row).getD x []=os[x].row:=by simp[Ja,hxl]
 obtain⟨h4,h5⟩:=h3 x (by rw[Jd];exact hxl);rw[hg]at h4 h5;have hok:=c.bo _ (Jc hxl);have hpc:∀c',SimC os[x].pc c'→c'=os[x].pc:=fun c' h=>by
  rcases hok.p with ⟨e,_⟩|⟨y,e,_⟩
  ·rw[e]at h⊢;exact h.sl
  ·rw[e]at h⊢;exact h.vsl
 have hic:∀c',SimC os[x].ic c'→c'=os[x].ic:=fun c' h=>by
  rcases hok.i with ⟨e,_⟩|⟨y,e,_⟩
  ·rw[e]at h⊢;exact h.sl
  ·rw[e]at h⊢;exact h.vsl
 generalize hR:RW.getD x []=row at h4 h5;rw[OBlk.row_eq]at h4 h5
 cases h4 with
 |cons a1 t1=>cases t1 with
  |cons a2 t2=>cases t2 with
   |cons a3 t3=>cases t3 with
    |cons a4 t4=>cases t4 with
     |cons a5 t5=>cases t5 with
      |nil=>
       have e1:=hpc _ a1;have e2:=hic _ a2;obtain⟨j,e3⟩:=a3.int;obtain⟨on,e4⟩:=a4.int;have e5:=a5.vsl;subst e1;subst e2;subst e3;subst e4;subst e5;refine⟨RW,j,on,h1,h2,Jh (by omega),hR,fun hX=>?_,hs⟩;have:=h5 hX;simp only[List.cons.injEq,C.int.injEq,true_and]at this;exact⟨this.1,this.2.1⟩
theorem Qabf (t:TT q os zb n wl cy ids F nx cs X H)(c:NC q os zb R n ids)(hx:x<n)(hxl:x<os.length)(ho:os[x]=o) :
  ∃RW j on,H zb=.vec 5 RW∧RW.length=n∧RW.take n=RW∧RW.getD x []=[o.pc,o.ic,.int .i64 j,.int .i64 on,.vsl o.nx.y 1 0 o.nx.ns.length]∧(X zb x→j=o.jump∧on=o.on)∧SimO (X zb) (.vec 5 (os.map OBlk.row)) (.vec 5 RW):=Qbg7 (t.get LGo.zbm) c hx hxl ho
theorem Qa9c {m:Nat}{ns:List Int}(hs:SimO (X m) (.vec 1 (Qb ns)) (H m)):∃ns':List Int,H m=.vec 1 (Qb ns')∧ns'.length=ns.length∧(∀r,r<ns.length→X m r→ns'.getD r 0=ns.getD r 0)∧SimO (X m) (.vec 1 (Qb ns)) (.vec 1 (Qb ns')):=by
 obtain⟨rows',h1,h2,h3⟩:=hs.get;rw[Qd]at h2 h3;have hg:∀r,r<ns.length→∃v:Int,rows'.getD r []=[.int .i64 v]∧(X m r→v=ns.getD r 0):=fun r hr=>by
  obtain⟨h4,h5⟩:=h3 r hr;rw[Qn _ _ hr]at h4 h5;generalize hR:rows'.getD r []=row at h4 h5
  cases h4 with
  |cons a1 t1=>cases t1 with
   |nil=>
    obtain⟨v,e⟩:=a1.int;subst e;refine⟨v,rfl,fun hX=>?_⟩;have:=h5 hX;simpa using this
 obtain⟨f,hf⟩:∃f:Nat→Int,∀r,r<ns.length→rows'.getD r []=[.int .i64 (f r)]∧(X m r→f r=ns.getD r 0):=by
  classical
  exact⟨fun r=>if h:r<ns.length then (hg r h).choose else 0,fun r hr=>by simp only[hr,dite_true];exact (hg r hr).choose_spec⟩
 have hrows:rows'=Qb ((List.range ns.length).map f):=by
  refine Jau (by simp[Qb,h2]) fun i h4 h5=>?_;have hi:i<ns.length:=by omega
  have:=(hf i hi).1;rw[Ja,Jf h4]at this;simp only[Jw]at this;rw[this];simp[Qb]
 subst hrows;rw[h1]at hs;refine⟨_,h1,by simp,fun r hr hX=>?_,hs⟩;rw[Ja];simp only[Jr,List.getElem?_range hr,Jz,Jw];exact (hf r hr).2 hX
theorem Qbol (t:TT q os zb n wl cy ids F nx cs X H){m:Nat}{ns ns':List Int}(hm:(m,Obj.vec 1 (Qb ns))∈LGo os zb)(hs:SimO (X m) (.vec 1 (Qb ns)) (.vec 1 (Qb ns'))){r:Nat}(hr:r<ns.length)(v:Int)
  (h:H'=H.set m (.vec 1 (Qb (ns'.set r v)))) (hX:∀m' r',¬(m'=m∧r'=r)→X' m' r'→X m' r') (hn:¬X' m r):TT q os zb n wl cy ids F nx cs X' H':=by
 refine Ty.st t hm h ?_ fun m' hm' r'=>hX m' r' fun e=>hm' e.1;rw[←Qcx];refine hs.set (by rw[Qd];exact hr) ?_ (fun r' hr'=>hX m r' fun e=>hr' e.2) hn;rw[Qn _ _ hr];exact .cons (.inr ⟨_,_,rfl,rfl⟩) .nil
theorem Qbbg (t:TT q os zb n wl cy ids F nx cs X H)(c:NC q os zb R n ids)(hxl:x<os.length)(ho:os[x]=o):okSl H o.pc=True∧lenC o.pc=o.phis.length∧o.pc.isOw=false∧o.ic.isOw=false:=by
 subst ho;have hok:=c.bo _ (Jc hxl);refine⟨?_,by rw[hok.p.lenC,Jd],hok.p.isOw,hok.i.isOw⟩;rcases hok.p with ⟨e,_⟩|⟨z,e,e2⟩
 ·rw[e];rfl
 ·have hm:(z,Obj.vec 2 (os[x].phis.map OPhi.row))∈LGo os zb:=LGo.of hxl (OBlk.phM (Je _ (by rw[e2];simp)));obtain⟨rows',h1,h2,_⟩:=(t.get hm).get;rw[e];simp only[okSl,h1,h2,Ji,Jj,and_self]
theorem OBlk.phZ (hok:o.ok){k:Nat}(hk:k<o.phis.length):∃z,o.pc=.vsl z 2 0 o.phis.length∧o.pl=[(z,.vec 2 (o.phis.map OPhi.row))]:=by
 rcases hok.p with ⟨_,h,_⟩|⟨y,h1,h2⟩
 ·have:=congrArg List.length h;simp only[Jd,Jk]at this;omega
 ·exact⟨y,by rw[h1,Jd],h2⟩
theorem OBlk.inZ (hok:o.ok){k:Nat}(hk:k<o.ins.length):∃z,o.ic=.vsl z 4 0 o.ins.length∧o.il=[(z,.vec 4 (o.ins.map OIns.row))]:=by
 rcases hok.i with ⟨_,h,_⟩|⟨y,h1,h2⟩
 ·have:=congrArg List.length h;simp only[Jd,Jk]at this;omega
 ·exact⟨y,by rw[h1,Jd],h2⟩
theorem rdPh (t:TT q os zb n wl cy ids F nx cs X H)(c:NC q os zb R n ids)(hxl:x<os.length)(ho:os[x]=o){z k:Nat}(hz:o.pl=[(z,.vec 2 (o.phis.map OPhi.row))])(hk:k<o.phis.length) :
  ∃PR to ya,H z=.vec 2 PR∧PR.length=o.phis.length∧PR.take o.phis.length=PR∧PR.getD k []=[.int .i64 to,.vsl ya 1 0 o.phis[k].ns.length]∧(ya,Obj.vec 1 (Qb o.phis[k].ns))∈o.phN∧o.phis[k].ac=.vsl ya 1 0 o.phis[k].ns.length∧SimO (X z) (.vec 2 (o.phis.map OPhi.row)) (.vec 2 PR):=by
 subst ho;have hm:(z,Obj.vec 2 (os[x].phis.map OPhi.row))∈LGo os zb:=LGo.of hxl (OBlk.phM (Je _ (by rw[hz];simp)));have hs:=t.get hm;obtain⟨PR,h1,h2,h3⟩:=hs.get;rw[h1]at hs;rw[Jd]at h2 h3;obtain⟨h4,_⟩:=h3 k hk;obtain⟨ya,e1,e2⟩:=c.ow _ (Jc hxl) _ (Jc hk);have hg:(os[x].phis.map OPhi.row).getD k []=[.int .i64 os[x].phis[k].to,.vsl ya 1 0 os[x].phis[k].ns.length]:=by
  simp only[Ja,Jr,Jf hk,Jz,Jw,OPhi.row,e1]
 rw[hg]at h4;generalize hR:PR.getD k []=row at h4
 cases h4 with
 |cons a1 t1=>cases t1 with
  |cons a2 t2=>cases t2 with
   |nil=>
    obtain⟨v,e⟩:=a1.int;have e3:=a2.vsl;subst e;subst e3;refine⟨PR,v,ya,h1,h2,Jh (by omega),hR,?_,e1,hs⟩;exact Jl _ (Jt.2 ⟨_,Jc hk,by rw[e2];simp⟩)
theorem rdIn (t:TT q os zb n wl cy ids F nx cs X H)(hxl:x<os.length)(ho:os[x]=o){z k:Nat}(hz:o.il=[(z,.vec 4 (o.ins.map OIns.row))])(hk:k<o.ins.length)(hX:X z k) :
  ∃IR,H z=.vec 4 IR∧IR.length=o.ins.length∧IR.take o.ins.length=IR∧IR.getD k []=[.int .i64 o.ins[k].op,.int .i64 o.ins[k].to,.vsl o.ins[k].a.y 1 0 o.ins[k].a.ns.length,.int .i64 o.ins[k].n]∧SimO (X z) (.vec 4 (o.ins.map OIns.row)) (.vec 4 IR):=by
 subst ho;have hm:(z,Obj.vec 4 (os[x].ins.map OIns.row))∈LGo os zb:=LGo.of hxl (OBlk.inM (Je _ (by rw[hz];simp)));have hs:=t.get hm;obtain⟨IR,h1,h2,h3⟩:=hs.get;rw[h1]at hs;rw[Jd]at h2 h3;have h4:=(h3 k hk).2 hX;refine⟨IR,h1,h2,Jh (by omega),?_,hs⟩;rw[h4];simp only[Ja,Jr,Jf hk,Jz,Jw];rfl
theorem Qbts (t:TT q os zb n wl cy ids F nx cs X H)(c:NC q os zb R n ids)(hxl:x<os.length)(ho:os[x]=o):okSl H o.ic=True∧lenC o.ic=o.ins.length:=by
 subst ho;have hok:=c.bo _ (Jc hxl);refine⟨?_,by rw[hok.i.lenC,Jd]⟩;rcases hok.i with ⟨e,_⟩|⟨z,e,e2⟩
 ·rw[e];rfl
 ·have hm:(z,Obj.vec 4 (os[x].ins.map OIns.row))∈LGo os zb:=LGo.of hxl (OBlk.inM (Je _ (by rw[e2];simp)));obtain⟨rows',h1,h2,_⟩:=(t.get hm).get;rw[e];simp only[okSl,h1,h2,Ji,Jj,and_self]
theorem NC.get (c:NC q os zb R n ids)(hb:b<n):∃hl:b<os.length,∃hq:b<q.blocks.length,os[b].d=q.blocks[b]∧os[b].ok∧q.blocks[b].ok q b∧os[b].phis.length≤1200∧os[b].ins.length≤1200:=by
 have hl:b<os.length:=by rw[c.l];exact hb
 have hq:b<q.blocks.length:=by rw[c.hn];exact hb
 have hd:=c.d b hl hq;have hil:=c.ok.il b hq;rw[←hd]at hil;simp only[OBlk.d,Jd]at hil;exact⟨hl,hq,hd,c.bo _ (Jc hl),c.ok.bs b hq,hil.2,hil.1⟩
end Go.AE.Y
namespace Go.AE.Y
attribute [local go_sem] cond_true cond_false Bool.not_true Bool.not_false
open Go.Proofs.Tryz
variable {H H' F:Heap}{K:V→Heap→Prop}{q:CodeD}{os:List OBlk}{zb wl cy R n b:Nat}{ids:List Int}{U:Nat→Prop}{Z Z':Nat→Nat→Prop}{nx:Int}{cs:List Int}{o:OBlk}{y:BlkD}{e:Env}{Q:X→Env→Heap→Prop}
theorem Qa80 (hw:H wl=wO q ids zb n nx)(h1:0≤nx)(h2:nx≤2 ^ 40)(hK:∀H',H'=H.set wl (wO q ids zb n (nx+1))→K (.c (.int .i64 nx)) H'):Qs prog Qcw [.c (.ptr wl 0)] H K:=by
 refine Qc Qaj Q6p ?_;rw[wO]at hw;refine Qa ?_;simp only[go_sem];refine Qa ?_;simp only[go_sem,hw];refine⟨Qr (by omega) (by omega),fun H' h'=>?_⟩;have hw2:H' wl=wO q ids zb n (nx+1):=by rw[h',Heap.set_same];rfl
 have hK:=hK H' h';rw[wO]at hw2;refine Qa ?_;simp only[go_sem,hw2];try refine⟨Qr (by omega) (by omega),?_⟩
 refine Qk ?_;simp only[go_sem,Q3,Qab,Qm2,Jb,forall_eq,RS.op]
 first|exact hK|(have e:nx+1-1=nx:=(by omega);rw[e];exact hK)
def LK (wl b cy R n zb:Nat)(e:Env):Prop:=lk 0 e=.c (.ptr wl 0)∧lk 1 e=.c (.int .i64 b)∧lk 2 e=.c (.vsl cy 1 0 R)∧lk 6 e=.c (.ep (.vsl zb 5 0 n) 5 b 0)
structure NSt (q:CodeD)(os:List OBlk)(zb n R wl cy:Nat)(ids:List Int)(F:Heap)(nx:Int)(cs:List Int)(Z:Nat→Nat→Prop)(H:Heap):Prop where
 t:TT q os zb n wl cy ids F nx cs Z H
 c:cs.length=R
theorem NSt.w (s:NSt q os zb n R wl cy ids F nx cs Z H):H wl=wO q ids zb n nx:=s.t.e 0 rfl
theorem NSt.cu (s:NSt q os zb n R wl cy ids F nx cs Z H):H cy=.vec 1 (Qb cs):=s.t.e 1 rfl
theorem NSt.ct (s:NSt q os zb n R wl cy ids F nx cs Z H):(Qb cs).take R=Qb cs:=Jh (by rw[Qd];exact Nat.le_of_eq s.c)
theorem NSt.cl (s:NSt q os zb n R wl cy ids F nx cs Z H):(Qb cs).length=R:=by rw[Qd];exact s.c
theorem NSt.setW (s:NSt q os zb n R wl cy ids F nx cs Z H){nx':Int}(h:H'=H.set wl (wO q ids zb n nx')):NSt q os zb n R wl cy ids F nx' cs Z H':=⟨s.t.stE 0 rfl h (by simp[wO]),s.c⟩
theorem NSt.setC (s:NSt q os zb n R wl cy ids F nx cs Z H){i:Nat}{v:Int}(h:H'=H.set cy (.vec 1 (Qb (cs.set i v)))):NSt q os zb n R wl cy ids F nx (cs.set i v) Z H':=⟨s.t.stE 1 rfl h,by rw[Jq];exact s.c⟩
theorem NSt.weak (s:NSt q os zb n R wl cy ids F nx cs Z H)(hX:∀m r,Z' m r→Z m r):NSt q os zb n R wl cy ids F nx cs Z' H:=⟨s.t.weak hX,s.c⟩
set_option maxHeartbeats 4000000 in
theorem phA (c:NC q os zb R n ids)(hb:b<n)(hl:b<os.length)(ho:os[b]=o)(hX:∀p∈o.phN,∀r,¬Z p.1 r)(s:NSt q os zb n R wl cy ids F nx cs Z H)(hk:LK wl b cy R n zb e)(h0:0≤nx)(h1:nx+o.phis.length≤2 ^ 40)(hN:o.phis.length≤100000)
  (h:∀e' H',NSt q os zb n R wl cy ids F (nx+o.phis.length) cs Z H'→LK wl b cy R n zb e'→Qah prog Qdp Q e' H'):Qah prog Qh8 Q e H:=by
 obtain⟨l0,l1,l2,l6⟩:=hk;have hok:=c.bo _ (Jc hl);rw[ho]at hok;refine Qy ?_;refine Qa ?_;simp only[go_sem,l0,l1,l2,l6];refine Qh (Qf (Qw (fun m e1 H1=>∃i:Nat,m=o.phis.length-i∧i≤o.phis.length∧NSt q os zb n R wl cy ids F (nx+i) cs Z H1∧lk 0 e1=.c (.ptr wl 0)∧lk 1 e1=.c (.int .i64 b)∧lk 2 e1=.c (.vsl cy 1 0 R)∧lk 6 e1=.c (.ep (.vsl zb 5 0 n) 5 b 0)∧lk 7 e1=.c (.int .i64 i)) o.phis.length ?_ ?_))
 ·exact⟨0,by omega,by omega,by simpa using s,rfl,rfl,rfl,rfl,rfl⟩
 ·clear s l0 l1 l2 l6;rintro m e1 H1 ⟨i,hm,hi,s,l0,l1,l2,l6,l7⟩;obtain⟨RW,j,on,hzb,hRWl,hRWt,hRWg,_,_⟩:=Qabf s.t c hb hl ho;obtain⟨hpok,hplen,hpw,hiw⟩:=Qbbg s.t c hl ho;refine Qy ?_;refine Qa ?_;simp only[go_sem,l0,l1,l2,l6,l7,hzb,hRWl,hRWt,hRWg,hb,hpok,hplen,hpw,hiw,Ji,Jj];try intro _
  refine Qh (Qe rfl ?_ ?_)
  ·intro hc;have hlt:i<o.phis.length:=by simpa using hc
   obtain⟨z,hpc,hpl⟩:=OBlk.phZ hok hlt;rw[hpc]at hRWg;refine Qi ?_;try simp only[go_sem]
   refine Qh (Qf ?_);refine Qa2 ?_;simp only[go_sem,l0,l1,l2,l6,l7,hzb,hRWl,hRWt,hRWg,hb,hiw,Ji,Jj];refine Qa80 s.w (by omega) (by omega) fun H2 h2=>?_;have s:=s.setW h2;obtain⟨RW,j,on,hzb,hRWl,hRWt,hRWg,_,_⟩:=Qabf s.t c hb hl ho;rw[hpc]at hRWg;obtain⟨PR,to,ya,hz,hPl,hPt,hPg,hya,hac,hsim⟩:=rdPh s.t c hl ho hpl hlt;simp only[go_sem,Qh9,hzb,hRWl,hRWt,hRWg,hb,hiw,hz,hPl,hPt,hPg,hlt,Ji,Jj];intro H3 h3;have hzm:(z,Obj.vec 2 (o.phis.map OPhi.row))∈o.phN:=Je _ (by rw[hpl];simp);have s:NSt q os zb n R wl cy ids F (nx+i+1) cs Z H3:=⟨Ty.st s.t (LGo.of hl (by rw[ho];exact OBlk.phM hzm)) h3 (hsim.set (by rw[Jd];exact hlt) (by
    have hg:(o.phis.map OPhi.row).getD i []=[.int .i64 o.phis[i].to,.vsl ya 1 0 o.phis[i].ns.length]:=by
     simp only[Ja,Jr,Jf hlt,Jz,Jw,OPhi.row,hac]
    rw[hg];exact .cons (.inr ⟨_,_,rfl,rfl⟩) (.cons (.inl rfl) .nil)) (fun r' _ h=>h) (hX _ hzm _)) (fun m' _ r h=>h),s.c⟩
   refine Qq ?_;simp only[go_sem,l0,l1,l2,l6,l7];refine⟨Qr (by omega) (by omega),?_⟩;show ∃m,_;exact⟨o.phis.length-(i+1),by omega,i+1,rfl,by omega,by have e:nx+((i+1:Nat):Int)=nx+i+1:=(by omega);rw[e];exact s,rfl,rfl,rfl,rfl,rfl⟩
  ·intro hc;have hie:i=o.phis.length:=by have:o.phis.length≤i:=(by simpa using hc);omega
   subst hie;refine Qv ?_;simp only[go_sem,X.next];exact h _ _ s ⟨rfl,rfl,rfl,rfl⟩
set_option maxHeartbeats 4000000 in
theorem phB (c:NC q os zb R n ids)(hb:b<n)(hl:b<os.length)(ho:os[b]=o)(hy:o.d=y)(hq:b<q.blocks.length)(hyq:q.blocks[b]=y)(s:NSt q os zb n R wl cy ids F nx cs Z H)(hk:LK wl b cy R n zb e)(hN:o.phis.length≤100000)
  (h:∀e' H' cs',NSt q os zb n R wl cy ids F nx cs' Z H'→LK wl b cy R n zb e'→Qah prog Qdo Q e' H'):Qah prog Qdp Q e H:=by
 obtain⟨l0,l1,l2,l6⟩:=hk;have hok:=c.bo _ (Jc hl);rw[ho]at hok;have hyo:=c.ok.bs b hq;rw[hyq]at hyo;have hyl:y.phis.length=o.phis.length:=by rw[←hy];simp[OBlk.d]
 refine Qy ?_;refine Qa ?_;simp only[go_sem,l0,l1,l2,l6];refine Qh (Qf (Qw (fun m e1 H1=>∃(i:Nat) (cs:List Int),m=o.phis.length-i∧i≤o.phis.length∧NSt q os zb n R wl cy ids F nx cs Z H1∧lk 0 e1=.c (.ptr wl 0)∧lk 1 e1=.c (.int .i64 b)∧lk 2 e1=.c (.vsl cy 1 0 R)∧lk 6 e1=.c (.ep (.vsl zb 5 0 n) 5 b 0)∧lk 8 e1=.c (.int .i64 i)) o.phis.length ?_ ?_))
 ·exact⟨0,cs,by omega,by omega,s,rfl,rfl,rfl,rfl,rfl⟩
 ·clear s l0 l1 l2 l6;rintro m e1 H1 ⟨i,cs,hm,hi,s,l0,l1,l2,l6,l8⟩;obtain⟨RW,j,on,hzb,hRWl,hRWt,hRWg,_,_⟩:=Qabf s.t c hb hl ho;obtain⟨hpok,hplen,hpw,hiw⟩:=Qbbg s.t c hl ho;refine Qy ?_;refine Qa ?_;simp only[go_sem,l0,l1,l2,l6,l8,hzb,hRWl,hRWt,hRWg,hb,hpok,hplen,hpw,hiw,Ji,Jj];try intro _
  refine Qh (Qe rfl ?_ ?_)
  ·intro hc;have hlt:i<o.phis.length:=by simpa using hc
   have hlt2:i<y.phis.length:=by omega
   obtain⟨z,hpc,hpl⟩:=OBlk.phZ hok hlt;rw[hpc]at hRWg;obtain⟨PR,to,ya,hz,hPl,hPt,hPg,hya,hac,hsim⟩:=rdPh s.t c hl ho hpl hlt;have hw:=s.w;rw[wO]at hw;have hcu:=s.cu;have hct:=s.ct;have hcl:=s.cl;obtain⟨hv,hvl⟩:=(hyo.pto _ (Jc hlt2)).nat;rw[c.hR]at hvl;refine Qi ?_;try simp only[go_sem]
   refine Qh (Qf ?_);refine Qa2 ?_;generalize hr:y.phis[i].to.toNat=r at *;have hrc:r<cs.length:=by rw[s.c];exact hvl
   simp only[go_sem,l0,l1,l2,l6,l8,hw,hzb,hRWl,hRWt,hRWg,hb,hiw,hz,hPl,hPt,hPg,hlt,hq,Qo,Qaa _ _ hq,BlkD.cells,hyq,Q0,hlt2,Qaw _ _ hlt2,PhiD.cells,hv,hvl,hcu,hct,hcl,Qn _ _ hrc,Qcx,Ji,Jj];intro H2 h2;have s:=s.setC h2;refine Qq ?_;simp only[go_sem,l0,l1,l2,l6,l8];refine⟨Qr (by omega) (by omega),?_⟩;show ∃m,_;exact⟨o.phis.length-(i+1),by omega,i+1,_,rfl,by omega,s,rfl,rfl,rfl,rfl,rfl⟩
  ·intro hc;refine Qv ?_;simp only[go_sem,X.next];exact h _ _ _ s ⟨rfl,rfl,rfl,rfl⟩
def XC (os:List OBlk)(zb:Nat)(U:Nat→Prop)(o:OBlk)(b:Nat)(j:Bool)(i k m r:Nat):Prop:=XU os zb U m r∨XP o zb b j i k m r
theorem XC.stepA {i k m r:Nat}(h:XC os zb U o b true i (k+1) m r):XC os zb U o b true i k m r:=by
 rcases h with h|h|h|⟨i',hi',h1,h2⟩
 ·exact .inl h
 ·exact .inr (.inl h)
 ·exact .inr (.inr (.inl h))
 ·exact .inr (.inr (.inr ⟨i',hi',h1,by omega⟩))
theorem XC.stepI {i k m r:Nat}(h:XC os zb U o b true (i+1) 0 m r):XC os zb U o b true i k m r:=by
 rcases h with h|h|⟨p,hp,h1,h2⟩|⟨i',hi',h1,h2⟩
 ·exact .inl h
 ·exact .inr (.inl h)
 ·exact .inr (.inr (.inl ⟨p,hp,h1,by omega⟩))
 ·exact .inr (.inr (.inr ⟨i',hi',h1,by omega⟩))
theorem XC.notA (ap:Apart os zb)(hl:b<os.length)(ho:os[b]=o)(hU:¬U b){i k:Nat}(hi:i<o.ins.length):¬XC os zb U o b true i (k+1) o.ins[i].a.y k:=by
 subst ho;have hm:(os[b].ins[i].a.y,Obj.vec 1 (Qb os[b].ins[i].a.ns))∈os[b].inN:=Jl _ (os[b].aM hi);rintro (h|⟨_,h,_⟩|⟨p,hp,h1,h2⟩|⟨i',hi',h1,h2⟩)
 ·exact ap.inU hl hm hU _ h
 ·exact ap.zbn hl (OBlk.inM hm) h
 ·exact (ap.blk hl).ii _ (os[b].aM hi) p hp h1
 ·by_cases hii:i=i'
  ·subst hii;omega
  ·exact (ap.blk hl).ij i i' hi hi' hii h1
theorem XC.notI (ap:Apart os zb)(hl:b<os.length)(ho:os[b]=o)(hU:¬U b){i z:Nat}{ob:Obj}(hz:(z,ob)∈o.il):¬XC os zb U o b true (i+1) 0 z i:=by
 subst ho;have hm:(z,ob)∈os[b].inN:=Je _ hz;rintro (h|⟨_,h,_⟩|⟨p,hp,h1,h2⟩|⟨i',hi',h1,h2⟩)
 ·exact ap.inU hl hm hU _ h
 ·exact ap.zbn hl (OBlk.inM hm) h
 ·omega
 ·exact (ap.blk hl).ii _ (os[b].aM hi') (z,ob) hz h1.symm
set_option maxHeartbeats 8000000 in
theorem phC (c:NC q os zb R n ids)(hb:b<n)(hl:b<os.length)(ho:os[b]=o)(hy:o.d=y)(hq:b<q.blocks.length)(hyq:q.blocks[b]=y)(hU:¬U b)(s:NSt q os zb n R wl cy ids F nx cs (XC os zb U o b true 0 0) H)(hk:LK wl b cy R n zb e)
  (h0:0≤nx) (h1:nx+o.ins.length≤2 ^ 40) (hN:o.ins.length≤100000)
  (h:∀e' H' nx' cs',nx≤nx'→nx'≤nx+o.ins.length→NSt q os zb n R wl cy ids F nx' cs' (XC os zb U o b true o.ins.length 0) H'→LK wl b cy R n zb e'→Qah prog Qdn Q e' H'):Qah prog Qdo Q e H:=by
 obtain⟨l0,l1,l2,l6⟩:=hk;have hok:=c.bo _ (Jc hl);rw[ho]at hok;have hyo:=c.ok.bs b hq;rw[hyq]at hyo;have ap:Apart os zb:=s.t.nodup;refine Qy ?_;refine Qa ?_;simp only[go_sem,l0,l1,l2,l6];refine Qh (Qf (Qw (fun m e1 H1=>∃(i:Nat) (nx':Int) (cs:List Int),m=o.ins.length-i∧i≤o.ins.length∧nx≤nx'∧nx'≤nx+i∧NSt q os zb n R wl cy ids F nx' cs (XC os zb U o b true i 0) H1∧lk 0 e1=.c (.ptr wl 0)∧lk 1 e1=.c (.int .i64 b)∧lk 2 e1=.c (.vsl cy 1 0 R)∧lk 6 e1=.c (.ep (.vsl zb 5 0 n) 5 b 0)∧lk 9 e1=.c (.int .i64 i)) o.ins.length ?_ ?_))
 ·exact⟨0,nx,cs,by omega,by omega,by omega,by omega,s,rfl,rfl,rfl,rfl,rfl⟩
 ·clear s l0 l1 l2 l6;rintro m e1 H1 ⟨i,nx',cs,hm,hi,hnx,hnx2,s,l0,l1,l2,l6,l9⟩;obtain⟨RW,j,on,hzb,hRWl,hRWt,hRWg,_,_⟩:=Qabf s.t c hb hl ho;obtain⟨_,_,hpw,hiw⟩:=Qbbg s.t c hl ho;obtain⟨hiok,hilen⟩:=Qbts s.t c hl ho;refine Qy ?_;refine Qa ?_;simp only[go_sem,l0,l1,l2,l6,l9,hzb,hRWl,hRWt,hRWg,hb,hiok,hilen,hpw,hiw,Ji,Jj];try intro _
  refine Qh (Qe rfl ?_ ?_)
  ·intro hc;have hlt:i<o.ins.length:=by simpa using hc
   clear hzb hRWl hRWt hRWg hiok hilen;obtain⟨z,hic,hil⟩:=OBlk.inZ hok hlt;have hzm:(z,Obj.vec 4 (o.ins.map OIns.row))∈o.il:=by rw[hil];simp
   obtain⟨x,hx⟩:∃x,o.ins[i]=x:=⟨_,rfl⟩;have hxm:x.d∈y.ins:=by rw[←hy,←hx];exact Js.2 ⟨_,Jc hlt,rfl⟩
   have hal3:x.a.ns.length≤3:=hyo.al _ hxm;have hXz:∀k,XC os zb U o b true i k z i:=fun k=>.inr (.inr (.inl ⟨_,hzm,rfl,Jj _⟩));refine Qi ?_;try simp only[go_sem]
   refine Qd2 (fun e2 H2=>∃(nx2:Int) (cs:List Int),nx'≤nx2∧nx2≤nx'+1∧NSt q os zb n R wl cy ids F nx2 cs (XC os zb U o b true (i+1) 0) H2∧lk 0 e2=.c (.ptr wl 0)∧lk 1 e2=.c (.int .i64 b)∧lk 2 e2=.c (.vsl cy 1 0 R)∧lk 6 e2=.c (.ep (.vsl zb 5 0 n) 5 b 0)∧lk 9 e2=.c (.int .i64 i)) ?_ ?_
   ·intro Q2 hnr _ _;refine Qf ?_;refine Qy ?_;refine Qa ?_;simp only[go_sem,l0,l1,l2,l6,l9];refine Qh (Qf (Qw (fun m e1 H1=>∃(k:Nat),m=x.a.ns.length-k∧k≤x.a.ns.length∧NSt q os zb n R wl cy ids F nx' cs (XC os zb U o b true i k) H1∧lk 0 e1=.c (.ptr wl 0)∧lk 1 e1=.c (.int .i64 b)∧lk 2 e1=.c (.vsl cy 1 0 R)∧lk 6 e1=.c (.ep (.vsl zb 5 0 n) 5 b 0)∧lk 9 e1=.c (.int .i64 i)∧lk 10 e1=.c (.int .i64 k)) x.a.ns.length ?_ ?_))
    ·exact⟨0,by omega,by omega,s,rfl,rfl,rfl,rfl,rfl,rfl⟩
    ·clear s l0 l1 l2 l6 l9;rintro m2 e3 H3 ⟨k,hm2,hk2,s,l0,l1,l2,l6,l9,l10⟩;obtain⟨RW,j,on,hzb,hRWl,hRWt,hRWg,_,_⟩:=Qabf s.t c hb hl ho;rw[hic]at hRWg;obtain⟨IR,hz,hIl,hIt,hIg,_⟩:=rdIn s.t hl ho hil hlt (hXz k);have hsa:SimO (XC os zb U o b true i k o.ins[i].a.y) (.vec 1 (Qb o.ins[i].a.ns)) (H3 o.ins[i].a.y):=s.t.get (LGo.of hl (by rw[ho];exact OBlk.inM (Jl _ (o.aM hlt))));obtain⟨ns',hay,hnl,hex,hsim⟩:=Qa9c hsa;have hnot:=fun k=>XC.notA (k:=k) ap hl ho hU hlt;have hmem:(o.ins[i].a.y,Obj.vec 1 (Qb o.ins[i].a.ns))∈LGo os zb:=LGo.of hl (by rw[ho];exact OBlk.inM (Jl _ (o.aM hlt)));rw[hx]at hIg hay hnl hex hsim hnot hmem;refine Qy ?_;refine Qa ?_;simp only[go_sem,l0,l1,l2,l6,l9,l10,hzb,hRWl,hRWt,hRWg,hb,hpw,hz,hIl,hIt,hIg,hlt,hay,Qd,hnl,Ji,Jj];try intro _
     refine Qh (Qe rfl ?_ ?_)
     ·intro hc2;have hlt2:k<x.a.ns.length:=(by simpa using hc2);have hlt3:k<ns'.length:=(by omega);have hXk:XC os zb U o b true i k x.a.y k:=.inr (.inr (.inr ⟨i,hlt,by rw[hx],.inr ⟨rfl,Jj _⟩⟩));have hv0:=hex k hlt2 hXk;have hvm:x.a.ns.getD k 0∈x.d.args:=Qj8 hlt2;obtain⟨hv,hvl⟩:=(hyo.args _ hxm _ hvm).nat;rw[c.hR]at hvl;rw[←hv0]at hv hvl;have hat:(Qb ns').take x.a.ns.length=Qb ns':=Jh (by rw[Qd];omega);have hcu:=s.cu;have hct:=s.ct;have hcl:=s.cl;refine Qi ?_;try simp only[go_sem]
      refine Qh (Qf ?_);refine Qa2 ?_;generalize hr:(ns'.getD k 0).toNat=r at *;have hrc:r<cs.length:=(by rw[s.c];exact hvl);simp only[go_sem,l0,l1,l2,l6,l9,l10,hzb,hRWl,hRWt,hRWg,hb,hpw,hz,hIl,hIt,hIg,hlt,hay,hat,Qd,hnl,hlt2,Qn _ _ hlt3,hv,hvl,hcu,hct,s.c,Qn _ _ hrc,Qcx,Ji,Jj];intro H4 h4;have s:NSt q os zb n R wl cy ids F nx' cs (XC os zb U o b true i (k+1)) H4:=⟨Qbol s.t hmem hsim hlt2 _ h4 (fun m' r' _ hh=>hh.stepA) (hnot k),s.c⟩;refine Qq ?_;simp only[go_sem,l0,l1,l2,l6,l9,l10];refine⟨Qr (by omega) (by omega),?_⟩;show ∃m,_;exact⟨x.a.ns.length-(k+1),by omega,k+1,rfl,by omega,s,rfl,rfl,rfl,rfl,rfl,rfl⟩
     ·intro hc2;refine Qv ?_;simp only[go_sem,X.next];refine Qa ?_;simp only[go_sem,l0,l1,l2,l6,l9,l10,hzb,hRWl,hRWt,hRWg,hb,hpw,hz,hIl,hIt,hIg,hlt,Ji,Jj];refine Qpg ?_;try simp only[go_sem]
      refine Qe rfl ?_ ?_
      ·intro hc3;obtain⟨hv,hvl⟩:=(hyo.to _ hxm hc3).nat;rw[c.hR]at hvl;have hxto:x.d.to=x.to:=rfl;rw[hxto]at hv hvl;refine Qa ?_;simp only[go_sem];refine Qa80 s.w (by omega) (by omega) fun H4 h4=>?_;have s:=s.setW h4;obtain⟨RW,j,on,hzb,hRWl,hRWt,hRWg,_,_⟩:=Qabf s.t c hb hl ho;rw[hic]at hRWg;obtain⟨IR,hz,hIl,hIt,hIg,_⟩:=rdIn s.t hl ho hil hlt (hXz k);rw[hx]at hIg;have hcu:=s.cu;have hct:=s.ct;have hcl:=s.cl;simp only[go_sem,Qgk];generalize hr:x.to.toNat=r at *;have hrc:r<cs.length:=(by rw[s.c];exact hvl);refine Qa ?_;simp only[go_sem,hzb,hRWl,hRWt,hRWg,hb,hpw,hz,hIl,hIt,hIg,hlt,hv,hvl,hcu,hct,Qd,s.c,Qn _ _ hrc,Qcx,Ji,Jj];intro H5 h5;have s:=s.setC h5;obtain⟨RW,j,on,hzb,hRWl,hRWt,hRWg,_,_⟩:=Qabf s.t c hb hl ho;rw[hic]at hRWg;obtain⟨IR,hz,hIl,hIt,hIg,hsimI⟩:=rdIn s.t hl ho hil hlt (hXz k);rw[hx]at hIg;refine Qq ?_;simp only[go_sem,hzb,hRWl,hRWt,hRWg,hb,hpw,hz,hIl,hIt,hIg,hlt,Ji,Jj];intro H6 h6;have s:NSt q os zb n R wl cy ids F (nx'+1) (cs.set r nx') (XC os zb U o b true (i+1) 0) H6:=⟨Ty.st s.t (LGo.of hl (by rw[ho];exact OBlk.inM (Je _ hzm))) h6 (hsimI.set (by rw[Jd];exact hlt) (by
        have hg:(o.ins.map OIns.row).getD i []=[.int .i64 x.op,.int .i64 x.to,.vsl x.a.y 1 0 x.a.ns.length,.int .i64 x.n]:=by
         simp only[Ja,Jr,Jf hlt,Jz,Jw,hx];rfl
        rw[hg];exact .cons (.inl rfl) (.cons (.inr ⟨_,_,rfl,rfl⟩) (.cons (.inl rfl) (.cons (.inl rfl) .nil)))) (fun r' _ hh=>hh.stepI) (XC.notI ap hl ho hU hzm)) (fun m' _ r' hh=>hh.stepI),s.c⟩
       exact hnr _ _ ⟨nx'+1,_,by omega,by omega,s,rfl,rfl,rfl,rfl,rfl⟩
      ·intro hc3;refine Qi ?_;try simp only[go_sem]
       exact hnr _ _ ⟨nx',cs,by omega,by omega,s.weak fun m r hh=>hh.stepI,rfl,rfl,rfl,rfl,rfl⟩
   ·rintro e2 H2 ⟨nx2,cs,hn1,hn2,s,l0,l1,l2,l6,l9⟩;refine Qq ?_;simp only[go_sem,l0,l1,l2,l6,l9];refine⟨Qr (by omega) (by omega),?_⟩;show ∃m,_;exact⟨o.ins.length-(i+1),by omega,i+1,nx2,cs,rfl,by omega,by omega,by omega,s,rfl,rfl,rfl,rfl,rfl⟩
  ·intro hc;have hie:i=o.ins.length:=by have:o.ins.length≤i:=(by simpa using hc);omega
   subst hie;refine Qv ?_;simp only[go_sem,X.next];exact h _ _ _ _ hnx hnx2 s ⟨rfl,rfl,rfl,rfl⟩
set_option maxHeartbeats 4000000 in
theorem phD (c:NC q os zb R n ids)(hb:b<n)(hl:b<os.length)(ho:os[b]=o)(hy:o.d=y)(hq:b<q.blocks.length)(hyq:q.blocks[b]=y)(hU:¬U b){i0:Nat}(s:NSt q os zb n R wl cy ids F nx cs (XC os zb U o b true i0 0) H)(hk:LK wl b cy R n zb e)
  (h:∀e' H',NSt q os zb n R wl cy ids F nx cs (XU os zb U) H'→LK wl b cy R n zb e'→Qah prog Qdm Q e' H'):Qah prog Qdn Q e H:=by
 obtain⟨l0,l1,l2,l6⟩:=hk;have hyo:=c.ok.bs b hq;rw[hyq]at hyo;have ap:Apart os zb:=s.t.nodup;obtain⟨RW,j,on,hzb,hRWl,hRWt,hRWg,hex,hsim⟩:=Qabf s.t c hb hl ho;obtain⟨_,_,hpw,hiw⟩:=Qbbg s.t c hl ho;obtain⟨rfl,rfl⟩:=hex (.inr (.inl ⟨rfl,rfl,rfl⟩));have hyj:y.jump=o.jump∧y.on=o.on:=by rw[←hy];exact⟨rfl,rfl⟩
 refine Qy ?_;refine Qa ?_;simp only[go_sem,l0,l1,l2,l6,hzb,hRWl,hRWt,hRWg,hb,hpw,hiw,Ji,Jj];refine Qd2 (fun e2 H2=>NSt q os zb n R wl cy ids F nx cs (XU os zb U) H2∧LK wl b cy R n zb e2) ?_ ?_
 ·intro Q2 hnr _ _;refine Qe rfl ?_ ?_
  ·intro hc;have hj:¬y.jump=1:=by rw[hyj.1];simpa using hc
   obtain⟨hv,hvl⟩:=(hyo.on hj).nat;rw[c.hR]at hvl;rw[hyj.2]at hv hvl;have hcu:=s.cu;have hct:=s.ct;generalize hr:o.on.toNat=r at *;have hrc:r<cs.length:=by rw[s.c];exact hvl
   refine Qq ?_;simp only[go_sem,l0,l1,l2,l6,hzb,hRWl,hRWt,hRWg,hb,hpw,hiw,hv,hvl,hcu,hct,Qd,s.c,Qn _ _ hrc,Ji,Jj];intro H2 h2;have hne:=fun r'=>ap.zbP hl i0 0 r';have hX:∀m' r',XU os zb U m' r'→XC os zb U o b true i0 0 m' r':=fun m' r' hh=>.inl hh;refine hnr _ _ ⟨⟨Ty.st s.t LGo.zbm h2 (hsim.set (by rw[Jd];exact hl) (by
    have hg:(os.map OBlk.row).getD b []=o.row:=by
     simp only[Ja,Jr,Jf hl,Jz,Jw,ho]
    rw[hg,OBlk.row_eq];exact .cons (.inl rfl) (.cons (.inl rfl) (.cons (.inl rfl) (.cons (.inr ⟨_,_,rfl,rfl⟩) (.cons (.inl rfl) .nil))))) (fun r' _ hh=>hX _ _ hh) (ap.zbU hU)) (fun m' _ r' hh=>hX _ _ hh),s.c⟩,rfl,rfl,rfl,rfl⟩
  ·intro _;refine Qi ?_;try simp only[go_sem]
   exact hnr _ _ ⟨s.weak fun m r hh=>.inl hh,rfl,rfl,rfl,rfl⟩
 ·rintro e2 H2 ⟨s,hk⟩;exact h _ _ s hk
set_option maxHeartbeats 8000000 in
theorem phE (c:NC q os zb R n ids)(hb:b<n)(hl:b<os.length)(ho:os[b]=o)(hy:o.d=y)(hq:b<q.blocks.length)(hyq:q.blocks[b]=y)(s:NSt q os zb n R wl cy ids F nx cs (XU os zb U) H)(hk:LK wl b cy R n zb e)
  (h:∀e' H',NSt q os zb n R wl cy ids F nx cs (XU os zb U) H'→LK wl b cy R n zb e'→Qah prog Qh7 Q e' H'):Qah prog Qdm Q e H:=by
 obtain⟨l0,l1,l2,l6⟩:=hk;have hyo:=c.ok.bs b hq;rw[hyq]at hyo;have ap:Apart os zb:=s.t.nodup;have hnl0:o.nx.ns.length≤2:=by have:=hyo.nxl;rw[←hy]at this;exact this
 have hny:y.next=o.nx.ns:=by rw[←hy];rfl
 refine Qy ?_;refine Qa ?_;simp only[go_sem,l0,l1,l2,l6];refine Qh (Qf (Qw (fun m e1 H1=>∃(i:Nat),m=o.nx.ns.length-i∧i≤o.nx.ns.length∧NSt q os zb n R wl cy ids F nx cs (XU os zb U) H1∧lk 0 e1=.c (.ptr wl 0)∧lk 1 e1=.c (.int .i64 b)∧lk 2 e1=.c (.vsl cy 1 0 R)∧lk 6 e1=.c (.ep (.vsl zb 5 0 n) 5 b 0)∧lk 12 e1=.c (.int .i64 i)) o.nx.ns.length ?_ ?_))
 ·exact⟨0,by omega,by omega,s,rfl,rfl,rfl,rfl,rfl⟩
 ·clear s l0 l1 l2 l6;rintro m e1 H1 ⟨i,hm,hi,s,l0,l1,l2,l6,l12⟩;obtain⟨RW,j,on,hzb,hRWl,hRWt,hRWg,_,_⟩:=Qabf s.t c hb hl ho;obtain⟨_,_,hpw,hiw⟩:=Qbbg s.t c hl ho;have hsn:SimO (XU os zb U o.nx.y) (.vec 1 (Qb o.nx.ns)) (H1 o.nx.y):=s.t.get (LGo.of hl (by rw[ho];exact o.nxM));obtain⟨ns',hay,hnl,hex,_⟩:=Qa9c hsn;refine Qy ?_;refine Qa ?_;simp only[go_sem,l0,l1,l2,l6,l12,hzb,hRWl,hRWt,hRWg,hb,hpw,hiw,hay,Qd,hnl,Ji,Jj];try intro _
  refine Qh (Qe rfl ?_ ?_)
  ·intro hc;have hlt:i<o.nx.ns.length:=by simpa using hc
   have hlt2:i<ns'.length:=by omega
   have hat:(Qb ns').take o.nx.ns.length=Qb ns':=Jh (by rw[Qd];omega);have hv0:=hex i hlt (.inl ⟨b,hl,by rw[ho]⟩);have hvm:o.nx.ns.getD i 0∈y.next:=by rw[hny];exact Qj8 hlt
   have hvr:=hyo.nx _ hvm;obtain⟨v,hv⟩:∃v:Nat,o.nx.ns.getD i 0=(v:Int):=⟨(o.nx.ns.getD i 0).toNat,by omega⟩;rw[hv]at hv0 hvr;have hvq:v<q.blocks.length:=by omega
   have hvn:v<n:=by rw[←c.hn];exact hvq
   refine Qi ?_;try simp only[go_sem]
   refine Qh (Qf ?_);refine Qa ?_;simp only[go_sem,l0,l1,l2,l6,l12,hzb,hRWl,hRWt,hRWg,hb,hpw,hiw,hay,hat,Qd,hnl,hlt,Qn _ _ hlt2,hv0,Ji,Jj];have hw:=s.w;rw[wO]at hw;refine Qa ?_;simp only[go_sem,hw];refine Qfm (nx:=gnx q) (.mk' _ _ _ _) rfl (Qg0 H1 q false).x fun H2 hu=>?_;have s:NSt q os zb n R wl cy ids F nx cs (XU os zb U) H2:=⟨s.t.call0 hu,s.c⟩;rw[Qo];simp only[go_sem,Qgm];refine Qamz (ns:=Q8 (gnx q) (v:Int) q.blocks.length) (.mk' _ _ _ _) rfl fun r hr=>?_;have hbm:(b:Int)∈Q8 (gnx q) (v:Int) q.blocks.length:=by
    simp only[Q8,Js,Jay,J9];refine⟨b,⟨hq,Jas.2 ?_⟩,rfl⟩;rw[Qye hq,hyq,←hv];exact hvm
   obtain⟨a,ra,hal⟩:∃a:Nat,r=(a:Int)∧a<(Q8 (gnx q) (v:Int) q.blocks.length).length:=by
    rcases hr with ⟨_,hn⟩|⟨a,h1,h2,_⟩
    ·exact absurd hbm hn
    ·exact⟨a,h1,h2⟩
   subst ra;clear hr;simp only[go_sem,Qgl];obtain⟨hvl,_,hvd,hvok,hvyo,hvp,_⟩:=c.get hvn;obtain⟨o',ho'⟩:∃o',os[v]=o':=⟨_,rfl⟩;obtain⟨y',hy'⟩:∃y',q.blocks[v]=y':=⟨_,rfl⟩;rw[ho',hy']at hvd;rw[ho']at hvok hvp;rw[hy']at hvyo;have hyl':y'.phis.length=o'.phis.length:=by rw[←hvd];simp[OBlk.d]
   refine Qa ?_;simp only[go_sem];refine Qf (Qw (fun m e1 H1=>∃(k:Nat),m=o'.phis.length-k∧k≤o'.phis.length∧NSt q os zb n R wl cy ids F nx cs (XU os zb U) H1∧lk 0 e1=.c (.ptr wl 0)∧lk 1 e1=.c (.int .i64 b)∧lk 2 e1=.c (.vsl cy 1 0 R)∧lk 6 e1=.c (.ep (.vsl zb 5 0 n) 5 b 0)∧lk 12 e1=.c (.int .i64 i)∧
    lk 13 e1=.c (.int .i64 v)∧lk 14 e1=.c (.int .i64 a)∧lk 15 e1=.c (.int .i64 k)) o'.phis.length ?_ ?_)
   ·exact⟨0,by omega,by omega,s,rfl,rfl,rfl,rfl,rfl,rfl,rfl,rfl⟩
   ·clear s hw hzb hRWl hRWt hRWg hay hat hnl hex hlt2 hsn l0 l1 l2 l6 l12;rintro m2 e2 H3 ⟨k,hm2,hk2,s,l0,l1,l2,l6,l12,l13,l14,l15⟩;have hw:=s.w;rw[wO]at hw;refine Qy ?_;refine Qa ?_;simp only[go_sem,l0,l1,l2,l6,l12,l13,l14,l15,hw,hvq,Qo,Qaa _ _ hvq,BlkD.cells,hy',Q0];try intro _
    refine Qh (Qe rfl ?_ ?_)
    ·intro hc2;have hlt2:k<y'.phis.length:=(by simpa using hc2);have hlt3:k<o'.phis.length:=(by omega);obtain⟨z,hpc,hpl⟩:=OBlk.phZ hvok hlt3;obtain⟨RW,j,on,hzb,hRWl,hRWt,hRWg,_,_⟩:=Qabf s.t c hvn hvl ho';obtain⟨_,_,hpw',hiw'⟩:=Qbbg s.t c hvl ho';rw[hpc]at hRWg;obtain⟨PR,to,ya,hz,hPl,hPt,hPg,hya,hac,_⟩:=rdPh s.t c hvl ho' hpl hlt3;obtain⟨p,hp⟩:∃p,y'.phis[k]=p:=⟨_,rfl⟩;have hpm:p∈y'.phis:=(by rw[←hp];exact Jc hlt2);have hpns:p.args=o'.phis[k].ns:=by
      have h1:(o'.phis.map OPhi.d)[k]? = some o'.phis[k].d:=(by simp[hlt3]);have h2:o'.phis.map OPhi.d=y'.phis:=(by rw[←hvd];rfl);rw[h2,Jf hlt2,hp]at h1;rw[Jag h1];rfl
     have hpal:=hvyo.pal p hpm;have hap:a<p.args.length:=(by omega);have hnsl:o'.phis[k].ns.length=p.args.length:=(by rw[hpns]);have hyam:(ya,Obj.vec 1 (Qb o'.phis[k].ns))∈LGo os zb:=LGo.of hvl (by rw[ho'];exact OBlk.phM hya);obtain⟨ns',hay,hnl,_,hsim⟩:=Qa9c (s.t.get hyam);rw[hnsl]at hPg hnl;have hnotX:∀r,¬XU os zb U ya r:=fun r=>ap.ph hvl (p:=(ya,Obj.vec 1 (Qb o'.phis[k].ns))) (by rw[ho'];exact hya) r;have hat:(Qb ns').take p.args.length=Qb ns':=Jh (by rw[Qd];omega);have han:a<ns'.length:=(by omega);obtain⟨hu,hul⟩:=(hvyo.pargs p hpm _ (Qj8 hap)).nat;rw[c.hR]at hul;have hcu:=s.cu;have hct:=s.ct;generalize hr:(p.args.getD a 0).toNat=r at *;have hrc:r<cs.length:=(by rw[s.c];exact hul);refine Qi ?_;try simp only[go_sem]
     refine Qh (Qf ?_);refine Qa2 ?_;simp only[go_sem,l0,l1,l2,l6,l12,l13,l14,l15,hw,hvq,hvn,Qo,Qaa _ _ hvq,BlkD.cells,hy',Q0,hlt2,Qaw _ _ hlt2,PhiD.cells,hp,hzb,hRWl,hRWt,hRWg,hpw',hiw',hz,hPl,hPt,hPg,hlt3,hay,hat,Qd,hnl,hap,Qn _ _ hap,Qn _ _ han,hu,hul,hcu,hct,s.c,Qn _ _ hrc,Qcx,Ji,Jj];intro H4 h4;have s:NSt q os zb n R wl cy ids F nx cs (XU os zb U) H4:=⟨Qbol s.t hyam hsim (by rw[hnsl];exact hap) _ h4 (fun m' r' _ hh=>hh) (hnotX a),s.c⟩;refine Qq ?_;simp only[go_sem,l0,l1,l2,l6,l12,l13,l14,l15];refine⟨Qr (by omega) (by omega),?_⟩;show ∃m,_;exact⟨o'.phis.length-(k+1),by omega,k+1,rfl,by omega,s,rfl,rfl,rfl,rfl,rfl,rfl,rfl,rfl⟩
    ·intro _;refine Qv ?_;simp only[go_sem,X.next];refine Qq ?_;simp only[go_sem,l0,l1,l2,l6,l12];refine⟨Qr (by omega) (by omega),?_⟩;show ∃m,_;exact⟨o.nx.ns.length-(i+1),by omega,i+1,rfl,by omega,s,rfl,rfl,rfl,rfl,rfl⟩
  ·intro _;refine Qv ?_;simp only[go_sem,X.next];exact h _ _ s ⟨rfl,rfl,rfl,rfl⟩
end Go.AE.Y
namespace Go.AE.Y
attribute [local go_sem] cond_true cond_false Bool.not_true Bool.not_false
attribute [local instance] Classical.propDecidable
open Go.Proofs.Tryz
variable {H H' F:Heap}{K:V→Heap→Prop}{q:CodeD}{os:List OBlk}{zb wl cy R n b:Nat}{ids:List Int}{nx:Int}{cs:List Int}
def wgt (os:List OBlk)(x:Nat):Nat:=match os[x]? with
 |some o=>o.phis.length+o.ins.length
 |none=>0
theorem Qbtc {x:Nat}{o:OBlk}(h:x<os.length)(ho:os[x]=o):wgt os x=o.phis.length+o.ins.length:=by simp[wgt,h,ho]
theorem Qbo3 {n:Nat}{g:Nat→List Nat}{b:Nat}:depL n g b≤n:=by
 have:=Jat (fun a=>Q6j g a b) (List.range n);simpa[depL]using this
theorem Qa06 (ids:List Int)(b:Nat):(Qt1 ids b).Nodup:=List.Nodup.sublist List.filter_sublist List.nodup_range
theorem Qbbe {N B:Nat}{w:Nat→Nat}(hw:∀x,w x≤B)(U:Nat→Prop):potW N w U≤N * B:=by
 have key:∀m,(((List.range m).filter fun x=>decide (U x)).map w).sum≤m * B:=fun m=>by
  induction m with
  |zero=>simp
  |succ m ih=>
   rw[Ja9,Jaz,Jm,List.sum_append,Nat.succ_mul];have h1:(((List.filter (fun x=>decide (U x)) [m]).map w)).sum≤B:=by
    by_cases h:U m
    ·simp[h];exact hw m
    ·simp[h]
   omega
 exact key N
noncomputable def pW (n:Nat)(w:Nat→Nat)(U:Nat→Prop):Nat:=@potW n w U fun _=>Classical.propDecidable _
theorem Qbsl {w:Nat→Nat}{U V:Nat→Prop}{b:Nat}(hb:b<n)(hU:U b)(hV:∀x,V x↔U x∧x≠b):pW n w V+w b=pW n w U:=by
 unfold pW;exact Qbmf hb hU hV
theorem Qbsk {w:Nat→Nat}{U V:Nat→Prop}(h:∀x,V x→U x):pW n w V≤pW n w U:=by
 unfold pW;exact Qbqs h
theorem Qbl9 {N B:Nat}{w:Nat→Nat}(hw:∀x,w x≤B)(U:Nat→Prop):pW N w U≤N * B:=by
 unfold pW;exact Qbbe hw U
set_option maxHeartbeats 8000000 in
theorem Qbqj (c:NC q os zb R n ids)(M:Int)(hM:M≤2 ^ 40):∀(N b:Nat) (U:Nat→Prop) (nx:Int) (cs:List Int) (cy:Nat) (H:Heap) (K:V→Heap→Prop),n<N+depL n (nxN (gnx q)) b→b<n→(∀x,Sub ids b x→U x)→NSt q os zb n R wl cy ids H nx cs (XU os zb U) H→0≤nx→nx+pW n (wgt os) U≤M→
  (∀nx' cs' H',NSt q os zb n R wl cy ids H nx' cs' (XU os zb fun x=>U x∧¬Sub ids b x) H'→0≤nx'→nx'+pW n (wgt os) (fun x=>U x∧¬Sub ids b x)≤M→K (.tup []) H')→
  Qs prog Qcv [.c (.ptr wl 0),.c (.int .i64 b),.c (.vsl cy 1 0 R)] H K:=by
 intro N
 induction N with
 |zero=>intro b U nx cs cy H K h1;have:=Qbo3 (n:=n) (g:=nxN (gnx q)) (b:=b);omega
 |succ N ih=>
  intro b U nx cs cy H K hN hb hUs s h0 hpot hK;obtain⟨hl,hq,hd,hok,hyo,hpl,hil⟩:=c.get hb;obtain⟨o,ho⟩:∃o,os[b]=o:=⟨_,rfl⟩;obtain⟨y,hy⟩:∃y,q.blocks[b]=y:=⟨_,rfl⟩;rw[ho]at hd hok hpl hil;rw[hy]at hd hyo;have ap:Apart os zb:=s.t.nodup;have hbU:U b:=hUs b .refl;obtain⟨U1,hU1⟩:∃U1:Nat→Prop,U1=fun x=>U x∧x≠b:=⟨_,rfl⟩;have hU1b:¬U1 b:=by rw[hU1];exact fun h=>h.2 rfl
  have hpo:=Qbsl (n:=n) (w:=wgt os) (U:=U) (V:=U1) hb hbU (fun x=>by rw[hU1]);rw[Qbtc hl ho]at hpo;have s1:NSt q os zb n R wl cy ids H nx cs (XC os zb U1 o b true 0 0) H:=by
   refine⟨?_,s.c⟩;refine s.t.weak fun m r hh=>?_;rcases hh with (h|⟨x,hx,hUx,he⟩)|⟨_,h1,h2⟩|⟨p,hp,h1,_⟩|⟨i',hi',h1,_⟩
   ·exact .inl h
   ·rw[hU1]at hUx;exact .inr ⟨x,hx,hUx.1,he⟩
   ·exact .inr ⟨b,hl,hbU,.inl ⟨h1,h2⟩⟩
   ·exact .inr ⟨b,hl,hbU,.inr ⟨p,by rw[ho];exact Je _ hp,h1⟩⟩
   ·exact .inr ⟨b,hl,hbU,.inr ⟨_,by rw[ho];exact Jl _ (o.aM hi'),h1⟩⟩
  have hXph:∀p∈o.phN,∀r,¬XC os zb U1 o b true 0 0 p.1 r:=fun p hp r hh=>by
   have hp':p∈os[b].phN:=by rw[ho];exact hp
   rcases hh with h|h
   ·exact ap.ph hl hp' r h
   ·exact ap.phP hl hl hp' true 0 0 r (by rw[ho];exact h)
  clear s;refine Qc Qaj Q6o ?_;have hw:=s1.w;rw[wO]at hw;obtain⟨RW,j,on,hzb,hRWl,hRWt,hRWg,_,_⟩:=Qabf s1.t c hb hl ho;refine Qa ?_;simp only[go_sem,hw,hzb,hRWl,hb,Ji,Jj];refine phA c hb hl ho hXph s1 ⟨rfl,rfl,rfl,rfl⟩ h0 (by omega) (by omega) fun e2 H2 s2 k2=>?_;refine phB c hb hl ho hd hq hy s2 k2 (by omega) fun e3 H3 cs3 s3 k3=>?_;refine phC c hb hl ho hd hq hy hU1b s3 k3 (by omega) (by omega) (by omega) fun e4 H4 nx4 cs4 hn1 hn2 s4 k4=>?_;refine phD c hb hl ho hd hq hy hU1b s4 k4 fun e5 H5 s5 k5=>?_;refine phE c hb hl ho hd hq hy s5 k5 fun e6 H6 s6 k6=>?_;obtain⟨l0,l1,l2,l6⟩:=k6;have hw:=s6.w;rw[wO]at hw;refine Qa ?_;simp only[go_sem,l0,l1,l2,l6,hw];refine Qbfh (by rw[c.t.1];have:=c.ok.b1;rw[c.hn]at this;omega) fun H7 hu=>?_;have s7:NSt q os zb n R wl cy ids H nx4 cs4 (XU os zb U1) H7:=⟨s6.t.call0 hu,s6.c⟩;simp only[go_sem,Qgn,l0,l1,l2,l6];obtain⟨kl,hkl⟩:∃kl,Qt1 ids b=kl:=⟨_,rfl⟩;rw[hkl];have hkll:kl.length≤160:=by
   have h1:=Jat (fun i=>decide (ids.getD i 0=(b:Int))) (List.range ids.length);rw[Jbi,c.t.1]at h1;have h2:=c.ok.b1;rw[c.hn]at h2;rw[←hkl,Qt1,c.t.1];omega
  have hkm:∀k∈kl,k∈Qt1 ids b:=fun k hk=>by rw[hkl];exact hk
  have hknd:kl.Nodup:=by rw[←hkl];exact Qa06 ids b
  refine Qa ?_;simp only[go_sem];refine Qf (Qw (fun m e1 H1=>∃(i:Nat) (nx':Int) (cs:List Int),m=kl.length-i∧i≤kl.length∧NSt q os zb n R wl cy ids H nx' cs (XU os zb fun x=>U1 x∧∀k∈kl.take i,¬Sub ids k x) H1∧0≤nx'∧nx'+pW n (wgt os) (fun x=>U1 x∧∀k∈kl.take i,¬Sub ids k x)≤M∧
   lk 0 e1=.c (.ptr wl 0)∧lk 2 e1=.c (.vsl cy 1 0 R)∧lk 16 e1=.c (.sl false 1 (Qaf kl))∧lk 17 e1=.c (.int .i64 i)) kl.length ?_ ?_)
  ·refine⟨0,nx4,cs4,by omega,by omega,⟨s7.t.weak fun m r hh=>?_,s7.c⟩,by omega,?_,rfl,rfl,rfl,rfl⟩
   ·rcases hh with h|⟨x,hx,hUx,he⟩
    ·exact .inl h
    ·exact .inr ⟨x,hx,hUx.1,he⟩
   ·have:=Qbsk (n:=n) (w:=wgt os) (U:=U1) (V:=fun x=>U1 x∧∀k∈kl.take 0,¬Sub ids k x) fun x hx=>hx.1;omega
  ·clear hw hzb hRWl hRWt hRWg s1 s6 s7 hu l0 l1 l2 l6;rintro m e7 H8 ⟨i,nx',cs,hm,hi,s,hn0,hpot',l0,l2,l16,l17⟩;refine Qy ?_;refine Qa ?_;simp only[go_sem,l0,l2,l16,l17,Q7];try intro _
   refine Qh (Qe rfl ?_ ?_)
   ·intro hc;have hlt:i<kl.length:=(by simpa using hc);obtain⟨k,hk⟩:∃k,kl[i]=k:=⟨_,rfl⟩;have hkmem:k∈Qt1 ids b:=hkm k (by rw[←hk];exact Jc hlt);have hgd:kl.getD i 0=k:=(by simp[Ja,hlt,hk]);have hkid:=kidsL_mem.1 hkmem;have hkn:k<n:=(by rw[←c.t.1];exact hkid.1);have hdep:=(c.t.up hkid.1 hkid.2).2;have hcu:=s.cu;refine Qi ?_;try simp only[go_sem]
    refine Qh (Qf ?_);refine Qa2 ?_;simp only[go_sem,l0,l2,l16,l17,hlt,Q7,Qau _ _ hlt,hgd,hcu,s.ct,s.cl,Jaf,Jk,Jbe,Ji,Jj];refine⟨.inl trivial,Qp _,by have h1:=c.ok.r1;have h2:=c.ok.r0;have:=c.hR;simp only[LIM];omega,fun z hz H9 h9=>?_⟩;have t9:=s.t.al hz h9;simp only[go_sem,Qgo,l0,l2,l16,l17,hlt,Q7,Qau _ _ hlt,hgd];have hsub:Ty (LGo os zb) H9 [(wl,wO q ids zb n nx'),(z,.vec 1 (Qb cs))] (XU os zb fun x=>U1 x∧∀k∈kl.take i,¬Sub ids k x) H9 []:=Ty.sub (L:=[]) t9;refine ih k (fun x=>U1 x∧∀k∈kl.take i,¬Sub ids k x) nx' cs z H9 _ (by omega) hkn (fun x hx=>?_) ⟨hsub,s.c⟩ hn0 hpot' fun nx2 cs2 H10 s10 hn2' hpot2=>?_
    ·refine⟨?_,fun k' hk' hs'=>?_⟩
     ·rw[hU1];refine⟨hUs x (Sub.kid hkmem hx),fun hxb=>?_⟩;subst hxb;exact Sub.kid_ne c.t hkmem hx
     ·have hk'm:k'∈kl:=List.mem_of_mem_take hk';have:=Sub.kids_apart c.t (hkm k' hk'm) hkmem hs' hx;subst this;rw[←hk]at hk';exact Qa81 hknd hlt hk'
    have hXeq:∀x,(U1 x∧∀k∈kl.take (i+1),¬Sub ids k x)↔((U1 x∧∀k∈kl.take i,¬Sub ids k x)∧¬Sub ids k x):=fun x=>by
     rw[Jn hlt,hk];constructor
     ·rintro⟨g1,g2⟩;exact⟨⟨g1,fun k' hk'=>g2 k' (Jl _ hk')⟩,g2 k (Je _ (by simp))⟩
     ·rintro⟨⟨g1,g2⟩,g3⟩;refine⟨g1,fun k' hk'=>?_⟩;rcases Jo.1 hk' with h|h
      ·exact g2 k' h
      ·simp only[Jb]at h;rw[h];exact g3
    have hfe:(fun x=>U1 x∧∀k∈kl.take (i+1),¬Sub ids k x)=fun x=>(U1 x∧∀k∈kl.take i,¬Sub ids k x)∧¬Sub ids k x:=funext fun x=>propext (hXeq x);have t11:=Ty.ret (L:=[]) t9 s10.t;refine Qq ?_;simp only[go_sem,l0,l2,l16,l17];refine⟨Qr (by omega) (by omega),?_⟩;show ∃m,_;refine⟨kl.length-(i+1),by omega,i+1,nx2,cs,rfl,by omega,?_,hn2',?_,rfl,rfl,rfl,rfl⟩
    ·rw[hfe];exact⟨t11,s.c⟩
    ·rw[hfe];exact hpot2
   ·intro hc;have hie:i=kl.length:=(by have:kl.length≤i:=(by simpa using hc);omega);subst hie;rw[Jam]at s hpot';refine Qv ?_;simp only[go_sem,X.next,Q3,Qab,Qm1,J2,false_imp_iff,implies_true,Jap];have hsubset:∀x,(U x∧¬Sub ids b x)→(U1 x∧∀k∈kl,¬Sub ids k x):=fun x hx=>by
     refine⟨by rw[hU1];exact⟨hx.1,fun hxb=>hx.2 (by rw[hxb];exact .refl)⟩,fun k hk hs=>hx.2 (Sub.kid (hkm k hk) hs)⟩
    refine hK nx' cs H8 ⟨s.t.weak fun m r hh=>?_,s.c⟩ hn0 ?_
    ·rcases hh with h|⟨x,hx,hUx,he⟩
     ·exact .inl h
     ·exact .inr ⟨x,hx,hsubset x hUx,he⟩
    ·have:=Qbsk (n:=n) (w:=wgt os) hsubset;omega
theorem LGo.vec {zb:Nat}(hok:∀b∈os,b.ok)(how:∀b∈os,∀p∈b.phis,p.own):∀p∈LGo os zb,∃sz rows,p.2=.vec sz rows:=fun p hp=>by
 rcases Jo.1 hp with hp|hp
 ·obtain⟨o,ho,hp⟩:=Jt.1 hp;have h1:=hok o ho;simp only[OBlk.lg,Jo]at hp;rcases hp with hp|hp|hp|hp|hp
  ·simp only[OInts.lg,Jb]at hp;rw[hp];exact⟨_,_,rfl⟩
  ·obtain⟨x,hx,hp⟩:=Jt.1 hp;obtain⟨y,_,e⟩:=how o ho x hx;rw[e]at hp;simp only[Jb]at hp;rw[hp];exact⟨_,_,rfl⟩
  ·rcases h1.p with ⟨_,_,e⟩|⟨y,_,e⟩
   ·rw[e]at hp;simp at hp
   ·rw[e]at hp;simp only[Jb]at hp;rw[hp];exact⟨_,_,rfl⟩
  ·obtain⟨x,hx,hp⟩:=Jt.1 hp;simp only[OIns.lg,OInts.lg,Jb]at hp;rw[hp];exact⟨_,_,rfl⟩
  ·rcases h1.i with ⟨_,_,e⟩|⟨y,_,e⟩
   ·rw[e]at hp;simp at hp
   ·rw[e]at hp;simp only[Jb]at hp;rw[hp];exact⟨_,_,rfl⟩
 ·simp only[Jb]at hp;rw[hp];exact⟨_,_,rfl⟩
theorem Qbn3 {LG E0:List (Nat×Obj)}{Z:Nat→Nat→Prop}(hv:∀p∈LG,∃sz rows,p.2=.vec sz rows)(kn:Kn H H (E0++LG) []):Ty LG H E0 Z H []:=by
 refine⟨LG,rfl,fun p hp ob hob=>?_,kn⟩;have hd:=kn.dE;rw[Jm]at hd;have hnd:=(Ju.1 hd).2.1;obtain⟨i1,g1⟩:=Jaa hp;obtain⟨i2,g2⟩:=Jaa hob;have:=Qcp hnd g1 g2 rfl;subst this;rw[g1]at g2;have e:p.2=ob:=by rw[Jag g2]
 obtain⟨sz,rows,h⟩:=hv p hp;rw[←e,h];exact .same _ _
theorem Qami {S:Nat→Bool}{Z:Nat→Prop}{m k:Nat}{ns:List Int}(hs:SimO Z (.vec 1 (Qb ns)) (H m))(hS:S m=true)(hk:k=ns.length):∃ns':List Int,ns'.length=ns.length∧FrzC H S (.vsl m 1 0 k) (.sl false 1 (Qb ns')):=by
 obtain⟨ns',h1,h2,_⟩:=Qa9c (X:=fun _=>Z) (m:=m) hs;exact⟨ns',h2,(FrzR.same (Qp _)).vsl hS h1 (by rw[Qd];omega)⟩
theorem Q87 {β:Type}{S:Nat→Bool}{g:β→List C}{P:β→Prop}:∀(l:List (List C)),(∀r∈l,∃y,FrzL H S r (g y)∧P y)→∃l':List β,FrzR H S l (l'.map g)∧l'.length=l.length∧∀y∈l',P y
 |[],_=>⟨[],.nil,rfl,by simp⟩
 |x::l,h=>by
  obtain⟨y,hy,hp⟩:=h x J7;obtain⟨l',hl',hn,hps⟩:=Q87 l fun z hz=>h z (J6 _ hz);refine⟨y::l',.cons hy hl',by simp[hn],fun z hz=>?_⟩;rcases Jy.1 hz with rfl|hz
  ·exact hp
  ·exact hps z hz
theorem Qbha {l:List (List C)}{r:List C}(h:r∈l):∃i,i<l.length∧l.getD i []=r:=by
 obtain⟨i,hi,rfl⟩:=Jab.1 h;exact⟨i,hi,by simp[Ja,hi]⟩
theorem Qbjz {S:Nat→Bool}{Z:Nat→Nat→Prop}{o:OBlk}(hok:o.ok)(how:∀p∈o.phis,p.own)(hs:∀p∈o.phN,SimO (Z p.1) p.2 (H p.1)∧S p.1=true):∃ps:List PhiD,FrzC H S o.pc (.sl false 2 (Q1 ps))∧ps.length=o.phis.length:=by
 rcases hok.p with ⟨h1,h2,_⟩|⟨z,h1,h2⟩
 ·have h0:o.phis=[]:=Jbh.1 h2;exact⟨[],by rw[h1];exact FrzR.nil.sl,by simp[h0]⟩
 ·obtain⟨hz,hSz⟩:=hs (z,.vec 2 (o.phis.map OPhi.row)) (Je _ (by rw[h2];simp));obtain⟨PR,g1,g2,g3⟩:=hz.get;rw[Jd]at g2 g3;obtain⟨ps,e1,e2,_⟩:=Q87 (H:=H) (S:=S) (g:=PhiD.cells) (P:=fun _=>True) PR fun r hr=>by
   obtain⟨i,hi,he⟩:=Qbha hr;have hi':i<o.phis.length:=by omega
   obtain⟨h4,_⟩:=g3 i hi';obtain⟨ya,e3,e4⟩:=how _ (Jc hi');have hg:(o.phis.map OPhi.row).getD i []=[.int .i64 o.phis[i].to,.vsl ya 1 0 o.phis[i].ns.length]:=by
    simp only[Ja,Jr,Jf hi',Jz,Jw,OPhi.row,e3]
   rw[hg,he]at h4;have hya:=hs (ya,.vec 1 (Qb o.phis[i].ns)) (Jl _ (Jt.2 ⟨_,Jc hi',by rw[e4];simp⟩));obtain⟨ns',_,hfr⟩:=Qami hya.1 hya.2 rfl
   cases h4 with
   |cons a1 t1=>cases t1 with
    |cons a2 t2=>cases t2 with
     |nil=>
      obtain⟨v,e⟩:=a1.int;have e5:=a2.vsl;subst e;subst e5;exact⟨⟨v,ns'⟩,.cons (Qg rfl) (.cons hfr .nil),trivial⟩
  exact⟨ps,by rw[h1];exact e1.vsl hSz g1 (by rw[Jd,g2]),by omega⟩
theorem Qbot {S:Nat→Bool}{Z:Nat→Nat→Prop}{o:OBlk}(hok:o.ok)(hs:∀p∈o.inN,SimO (Z p.1) p.2 (H p.1)∧S p.1=true):∃is:List InsD,FrzC H S o.ic (.sl false 4 (Qaq is))∧is.length=o.ins.length:=by
 rcases hok.i with ⟨h1,h2,_⟩|⟨z,h1,h2⟩
 ·have h0:o.ins=[]:=Jbh.1 h2;exact⟨[],by rw[h1];exact FrzR.nil.sl,by simp[h0]⟩
 ·obtain⟨hz,hSz⟩:=hs (z,.vec 4 (o.ins.map OIns.row)) (Je _ (by rw[h2];simp));obtain⟨PR,g1,g2,g3⟩:=hz.get;rw[Jd]at g2 g3;obtain⟨ps,e1,e2,_⟩:=Q87 (H:=H) (S:=S) (g:=InsD.cells) (P:=fun _=>True) PR fun r hr=>by
   obtain⟨i,hi,he⟩:=Qbha hr;have hi':i<o.ins.length:=by omega
   obtain⟨h4,_⟩:=g3 i hi';have hg:(o.ins.map OIns.row).getD i []=[.int .i64 o.ins[i].op,.int .i64 o.ins[i].to,.vsl o.ins[i].a.y 1 0 o.ins[i].a.ns.length,.int .i64 o.ins[i].n]:=by
    simp only[Ja,Jr,Jf hi',Jz,Jw];rfl
   rw[hg,he]at h4;have hya:=hs (o.ins[i].a.y,.vec 1 (Qb o.ins[i].a.ns)) (Jl _ (o.aM hi'));obtain⟨ns',_,hfr⟩:=Qami hya.1 hya.2 rfl
   cases h4 with
   |cons a1 t1=>cases t1 with
    |cons a2 t2=>cases t2 with
     |cons a3 t3=>cases t3 with
      |cons a4 t4=>cases t4 with
       |nil=>
        obtain⟨v1,f1⟩:=a1.int;obtain⟨v2,f2⟩:=a2.int;have f3:=a3.vsl;obtain⟨v4,f4⟩:=a4.int;subst f1;subst f2;subst f3;subst f4;exact⟨⟨v1,v2,ns',v4⟩,.cons (Qg rfl) (.cons (Qg rfl) (.cons hfr (.cons (Qg rfl) .nil))),trivial⟩
  exact⟨ps,by rw[h1];exact e1.vsl hSz g1 (by rw[Jd,g2]),by omega⟩
theorem Qbjy {S:Nat→Bool}{Z:Nat→Nat→Prop}(c:NC q os zb R n ids)(t:∀p∈LGo os zb,SimO (Z p.1) p.2 (H p.1))(hS:∀p∈LGo os zb,S p.1=true) :
  ∃bs:List BlkD,FrzC H S (.vsl zb 5 0 n) (.sl false 5 (Qm bs))∧bs.length=n∧∀y∈bs,y.ins.length≤1200∧y.phis.length≤1200:=by
 have hs:=t _ LGo.zbm;obtain⟨RW,h1,h2,h3⟩:=hs.get;rw[Jd,c.l]at h2;obtain⟨bs,e1,e2,e3⟩:=Q87 (H:=H) (S:=S) (g:=BlkD.cells) (P:=fun y=>y.ins.length≤1200∧y.phis.length≤1200) RW fun r hr=>by
  obtain⟨x,hx,he⟩:=Qbha hr;have hxn:x<n:=by omega
  obtain⟨hl,hq,hd,hok,hyo,hpl,hil⟩:=c.get hxn;obtain⟨RW',j,on,g1,g2,_,g4,_,_⟩:=Qbg7 hs c hxn hl rfl;rw[h1]at g1;cases g1;rw[g4]at he;subst he;have hsx:∀p∈os[x].lg,SimO (Z p.1) p.2 (H p.1)∧S p.1=true:=fun p hp=>⟨t p (LGo.of hl hp),hS p (LGo.of hl hp)⟩;obtain⟨ps,p1,p2⟩:=Qbjz (H:=H) (S:=S) (Z:=Z) hok (c.ow _ (Jc hl)) fun p hp=>hsx p (OBlk.phM hp);obtain⟨is,i1,i2⟩:=Qbot (H:=H) (S:=S) (Z:=Z) hok fun p hp=>hsx p (OBlk.inM hp);have hnx:=hsx _ os[x].nxM;obtain⟨ns',_,n2⟩:=Qami hnx.1 hnx.2 rfl;exact⟨⟨ps,is,j,on,ns'⟩,.cons p1 (.cons i1 (.cons (Qg rfl) (.cons (Qg rfl) (.cons n2 .nil)))),by show is.length≤_;omega,by show ps.length≤_;omega⟩
 exact⟨bs,e1.vsl (hS _ LGo.zbm) h1 (by omega),by omega,e3⟩
set_option maxHeartbeats 8000000 in
theorem Qa1a {q:CodeD}(ho:q.ok)(hpar:0≤q.params)(hpr:q.params≤q.regs)(h9:∀y∈q.blocks,y.ins.length≤900∧y.phis.length≤900)(hK:∀(d:CodeD) H',d.fits→Upd H H' []→K (.ag d.cells) H') :
  Qs prog Qo8 [.ag [.int .i64 q.params,.int .i64 q.regs,.sl false 5 (Qm q.blocks)]] H K:=by
 refine Qx ?_;refine Qc Qaj Qa1i ?_;refine Qa ?_;simp only[go_sem];intro x2 hx2 H1 h1;have kn:=(Kn.start0 H).al hx2 h1;refine Qa ?_;simp only[go_sem];refine Qbat ho hpar h9 fun d1 H2 hd1 hp1 hr1 h9d hu=>?_;have kn:=kn.call0 hu;simp only[go_sem,Qvz,CodeD.cells];refine Qbfl hd1 h9d fun d2 H3 hd2 hp2 hr2 hu=>?_;have kn:=kn.call0 hu;have hp:d2.params=q.params:=hp2.trans hp1;have hr:d2.regs=q.regs:=hr2.trans hr1;simp only[go_sem,Qvy,CodeD.cells];intro x3 hx3 H4 h4;have kn:=kn.al hx3 h4;have hx3:=kn.l 1 rfl;simp only[go_sem,Qvx,hx3];intro H5 h5;have kn:Kn H H5 [] [(x2,.st [.int .i64 0,.int .i64 0,.sl true 5 []]),(x3,.st [.int .i64 d2.params,.int .i64 d2.regs,.sl false 5 (Qm d2.blocks)])]:=kn.stL 1 rfl h5;have hx3:=kn.l 1 rfl;have hb0:=hd2.b0;have hb1:=hd2.b1;have hrr0:=hd2.r0;have hrr1:=hd2.r1;refine Qag ?_;simp only[go_sem,hx3];refine Q88 hd2.sg fun o H6 k2 hok hod how=>?_;have kn:=kn.comp0 k2;obtain⟨n,hn⟩:∃n,d2.blocks.length=n:=⟨_,rfl⟩;have hol:o.blocks.length=n:=by rw[←hn,←hod];simp[OCode.d]
 obtain⟨zb,hbc,hbl⟩:∃z,o.bc=.vsl z 5 0 n∧o.bl=[(z,.vec 5 (o.blocks.map OBlk.row))]:=by
  rcases hok.b with ⟨_,h,_⟩|⟨y,h1,h2⟩
  ·have:=congrArg List.length h;simp only[Jd,Jk]at this;omega
  ·exact⟨y,by rw[h1,Jd,hol],h2⟩
 have hrow:o.row=[.int .i64 d2.params,.int .i64 d2.regs,.vsl zb 5 0 n]:=by
  rw[OCode.row,hbc,←hod];rfl
 have hlg:o.lg=LGo o.blocks zb:=by rw[OCode.lg,hbl];rfl
 have hos:o.blocks.map OBlk.d=d2.blocks:=by rw[←hod];rfl
 have hobs:=hok.bs;rw[hlg]at kn;have hx3:=kn.l 1 rfl;simp only[go_sem,Qv3,hx3];refine Qar1 (rows:=Qm d2.blocks) (nx:=gnx d2) (Qa05 hd2.gd) (by rw[Qo];exact hd2.fitB) fun H7 hu=>?_;have kn:=kn.call0 hu;have hx3:=kn.l 1 rfl;rw[Qo,hn];simp only[go_sem,Qv2,hx3];refine Qbas (by omega) (by omega) fun ids H8 htree hu=>?_;have kn:=kn.call0 hu;have hx3:=kn.l 1 rfl;rw[hrow];simp only[go_sem,Qv1,hx3];intro x4 hx4 H9 h9';have kn:=kn.al hx4 h9';have hx3:=kn.l 1 rfl;simp only[go_sem,Qv0];obtain⟨R,hR⟩:∃R:Nat,d2.regs.toNat=R:=⟨_,rfl⟩;have hRq:d2.regs=(R:Int):=by omega
 refine Qa ?_;simp only[go_sem,hx3];refine⟨by omega,by simp only[LIM];omega,fun cy hcy H10 h10=>?_⟩;rw[Qyg,hR]at h10;have kn:=kn.al hcy h10;simp only[go_sem,Qv4,hR];refine Qy ?_;refine Qa ?_;simp only[go_sem];generalize hos0:o.blocks=os at *;have kn:Kn H H10 [] ([(cy,.vec 1 (Qb (List.replicate R 0)))]++([(x2,.st [.int .i64 0,.int .i64 0,.sl true 5 []]),(x3,.st [.int .i64 d2.params,.int .i64 d2.regs,.sl false 5 (Qm d2.blocks)])]++([(x4,wO d2 ids zb n q.params)]++LGo os zb))):=kn.perm (Ql fun f hf h0 hc hp=>by
  have e2:∀(a b:Nat×Obj),f [a,b]=f [a]+f [b]:=fun a b=>hc a [b];simp only[hf,e2,wO];omega)
 refine Qh (Qf (Qw (fun m e1 H1=>∃(r:Nat) (cs:List Int),m=q.params.toNat-r∧(r:Int)≤q.params∧cs.length=R∧
  Kn H H1 [] ([(cy,.vec 1 (Qb cs))]++([(x2,.st [.int .i64 0,.int .i64 0,.sl true 5 []]),(x3,.st [.int .i64 d2.params,.int .i64 d2.regs,.sl false 5 (Qm d2.blocks)])]++([(x4,wO d2 ids zb n q.params)]++LGo os zb)))∧
  lk 1 e1=.c (.pp [.int .i64 q.params,.int .i64 q.regs,.sl false 5 (Qm q.blocks)])∧lk 2 e1=.c (.ptr x2 0)∧lk 4 e1=.c (.ptr x4 0)∧lk 5 e1=.c (.vsl cy 1 0 R)∧lk 6 e1=.c (.int .i64 r)) q.params.toNat ?_ ?_))
 ·exact⟨0,List.replicate R 0,by omega,hpar,by simp,kn,rfl,rfl,rfl,rfl,rfl⟩
 ·clear kn h10;rintro m e1 H11 ⟨r,cs,hm,hrp,hcl,kn,l1,l2,l4,l5,l6⟩;refine Qy ?_;refine Qa ?_;simp only[go_sem,l1,l2,l4,l5,l6];refine Qh (Qe rfl ?_ ?_)
  ·intro hc;have hlt:(r:Int)<q.params:=by simpa using hc
   have hrR:r<R:=by omega
   have hrc:r<cs.length:=by omega
   have hcu:=kn.l 0 rfl;have hct:(Qb cs).take R=Qb cs:=Jh (by rw[Qd];omega);refine Qi ?_;try simp only[go_sem]
   refine Qh (Qf ?_);refine Qq ?_;simp only[go_sem,hcu,hct,Qd,hcl,hrR,Qn _ _ hrc,Qcx,Ji,Jj];intro H12 h12;have kn:=kn.stL 0 rfl h12;refine Qq ?_;simp only[go_sem];refine⟨Qr (by omega) (by omega),?_⟩;show ∃m,_;exact⟨q.params.toNat-(r+1),by omega,r+1,_,rfl,by omega,by rw[Jq];exact hcl,kn,rfl,rfl,rfl,rfl,by simp[lk]⟩
  ·intro hc;refine Qv ?_;simp only[go_sem,X.next];have hC:NC d2 os zb R n ids:=⟨hd2,hn,hR,hol,fun x h h'=>by
    have h1:(os.map OBlk.d)[x]? = some os[x].d:=(by simp[h]);rw[hos,Jf h']at h1;exact (Jag h1).symm,hobs,how,htree⟩
   have kn:Kn H H11 [] ((([(x4,wO d2 ids zb n q.params),(cy,.vec 1 (Qb cs))])++LGo os zb)++[(x2,.st [.int .i64 0,.int .i64 0,.sl true 5 []]),(x3,.st [.int .i64 d2.params,.int .i64 d2.regs,.sl false 5 (Qm d2.blocks)])]):=kn.perm (Ql fun f hf h0 hc hp=>by
    have e2:∀(a b:Nat×Obj),f [a,b]=f [a]+f [b]:=fun a b=>hc a [b];simp only[hf,e2];omega)
   have hw0:wgt os=wgt os:=rfl;have hwb:∀x,wgt os x≤2400:=fun x=>by
    rw[wgt]
    cases hx:os[x]? with
    |none=>simp
    |some o'=>
     obtain⟨hxl,hxo⟩:=Ja2.1 hx;have hxn:x<n:=(by omega);obtain⟨_,_,_,_,_,a1,a2⟩:=hC.get hxn;rw[hxo]at a1 a2;show o'.phis.length+o'.ins.length≤2400;omega
   have hpb:=Qbl9 (N:=n) hwb (fun _=>True);have hst:NSt d2 os zb n R x4 cy ids H11 q.params cs (XU os zb fun _=>True) H11:=⟨Qbn3 (LGo.vec hobs how) kn.mid,hcl⟩;refine Qa ?_;simp only[go_sem,l1,l2,l4,l5,l6];refine Qbqj hC (2 ^ 40) (Ja3 _) (n+1) 0 (fun _=>True) q.params cs cy H11 _ (by omega) (by omega) (fun _ _=>trivial) hst (by omega) (by
    have:n * 2400≤160 * 2400:=Nat.mul_le_mul_right _ (by omega);omega) fun nx' cs' H12 s2 hn0 hpot=>?_
   obtain⟨t2,hcl2⟩:=s2;have hwx:=Ty.e t2 0 rfl;have ht2:=t2;obtain⟨E1,g1,g2,k3⟩:=t2;have kn:=kn.comp k3 (by simp[g1]);have kn:Kn H H12 [] ([(x4,wO d2 ids zb n nx'),(x2,.st [.int .i64 0,.int .i64 0,.sl true 5 []])]++([(x3,.st [.int .i64 d2.params,.int .i64 d2.regs,.sl false 5 (Qm d2.blocks)])]++([(cy,.vec 1 (Qb cs'))]++E1))):=kn.perm (Ql fun f hf h0 hc hp=>by
    have e2:∀(a b:Nat×Obj),f [a,b]=f [a]+f [b]:=fun a b=>hc a [b];simp only[hf,h0,e2];omega)
   rw[wO]at hwx;try simp only[go_sem,l2,l4]
   refine Qa ?_;simp only[go_sem,l2,l4,hwx];intro H13 h13;have kn:=kn.stL 0 rfl h13;have hx4:=kn.l 0 rfl;have hx2:=kn.l 1 rfl;refine Qa ?_;simp only[go_sem,hx4,hx2];intro H14 h14;have kn:=kn.stL 1 rfl h14;have hx2:=kn.l 1 rfl;refine Qk ?_;simp only[go_sem,Q3,Qab,Qaa1,Jb,forall_eq,RS.op,hx2];have hE:∀p∈E1,H14 p.1=p.2∧un H p.1=true:=fun p hp=>by
    have hm:p∈([(x4,Obj.st [.int .i64 d2.params,.int .i64 d2.regs,.sl false 5 (Qm d2.blocks),.int .i64 d2.params,.int .i64 nx',.vsl zb 5 0 n,.sl false 1 (Qb ids),.int .i64 nx']),(x2,.st [.int .i64 d2.params,.int .i64 nx',.vsl zb 5 0 n])]++([(x3,.st [.int .i64 d2.params,.int .i64 d2.regs,.sl false 5 (Qm d2.blocks)])]++([(cy,.vec 1 (Qb cs'))]++E1)):List (Nat×Obj)):=by
     simp[hp]
    exact⟨(kn.get p (Je _ hm)).1,Qe8 (kn.loc p hm)⟩
   have hty:TT d2 os zb n x4 cy ids H11 nx' cs' (XU os zb fun x=>True∧¬Sub ids 0 x) H12:=ht2;have hH:∀p∈LGo os zb,H14 p.1=H12 p.1:=fun p hp=>by
    have h1:p.1∈E1.map Prod.fst:=(by rw[g1];exact Qao hp);obtain⟨p',hp',he⟩:=Js.1 h1;rw[←he,(hE p' hp').1,(k3.get p' (Jl _ (Je _ hp'))).1]
   have hS:∀p∈LGo os zb,un H p.1=true:=fun p hp=>by
    have h1:p.1∈E1.map Prod.fst:=(by rw[g1];exact Qao hp);obtain⟨p',hp',he⟩:=Js.1 h1;rw[←he];exact (hE p' hp').2
   have hty2:∀p∈LGo os zb,SimO (XU os zb (fun x=>True∧¬Sub ids 0 x) p.1) p.2 (H14 p.1):=fun p hp=>by
    rw[hH p hp];exact Ty.get hty hp
   obtain⟨bs,b1,b2,b3⟩:=Qbjy (S:=un H) hC hty2 hS;exact⟨_,FrzL.ag (.cons (Qg rfl) (.cons (Qg rfl) (.cons b1 .nil))),hK ⟨d2.params,nx',bs⟩ _ (fun y hy=>by have:=b3 y hy;exact⟨by omega,by omega⟩) kn.fin⟩
end Go.AE.Y
namespace Go.AE.Y
attribute [local go_sem] cond_true cond_false Bool.not_true Bool.not_false
attribute [local instance] Classical.propDecidable
open Go.Proofs.Tryz
variable {H H0:Heap}{K:V→Heap→Prop}{E B Lg:List (Nat×Obj)}{q:CodeD}
theorem Qbj5 {S:Nat→Bool}(q:CodeD):FrzV H S (.ag q.cells) (.ag q.cells):=FrzL.ag (.cons (.same _ rfl) (.cons (.same _ rfl) (.cons (.same _ rfl) .nil)))
structure CodeD.sgl (q:CodeD):Prop where
 ok:q.ok
 p0:0≤q.params
 pr:q.params≤q.regs
 h9:∀y∈q.blocks,y.ins.length≤900∧y.phis.length≤900
theorem Qbn4 {cs:List CodeD}(h:Qbw cs=true){c:CodeD}(hc:c∈cs):c.sgl:=by
 obtain⟨k,hk,rfl⟩:=Jab.1 hc;have ho:=Qaq8 h hk;obtain⟨_,h2,h3⟩:=of_decide_eq_true h;obtain⟨g1,g2⟩:=h2 k hk;simp only[Qpf,J1,decide_eq_true_eq]at g1;refine⟨ho,by omega,by omega,fun y hy=>?_⟩;have a1:=Q89 (f:=Q9p) (Jc hk);have a2:=Q89 (f:=Qx7) hy;simp only[Q9p,Qx7]at *;omega
set_option maxHeartbeats 2000000 in
theorem Qbfg (hq:q.sgl)(hK:∀(d:CodeD) H',d.fits→Upd H H' []→K (.ag d.cells) H') :
  Qs prog Qj4 [.ag [.int .i64 q.params,.int .i64 q.regs,.sl false 5 (Qm q.blocks)],.c (.str [115,105,110,103,108,101])] H K:=by
 refine Qx ?_;refine Qc Qaj Qase ?_;refine Qa ?_;simp only[go_sem];intro x4 hx4 H1 h1;have kn:=(Kn.start0 H).al hx4 h1;refine Qy ?_;refine Qa ?_;simp only[go_sem];refine Qh (Qf ?_);refine Qa ?_;simp only[go_sem];refine Qe rfl (fun hc=>absurd hc (by decide)) (fun _=>?_);refine Qa ?_;simp only[go_sem];refine Qe rfl (fun hc=>absurd hc (by decide)) (fun _=>?_);refine Qa ?_;simp only[go_sem];refine Qe rfl (fun hc=>absurd hc (by decide)) (fun _=>?_);refine Qa ?_;simp only[go_sem];refine Qe rfl (fun hc=>absurd hc (by decide)) (fun _=>?_);refine Qa ?_;simp only[go_sem];refine Qe rfl (fun _=>?_) (fun hc=>absurd hc (by decide));refine Qa ?_;simp only[go_sem];refine Qa1a hq.ok hq.p0 hq.pr hq.h9 fun d H2 hd hu=>?_;have kn:=kn.call0 hu;have hx4:=kn.l 0 rfl;simp only[go_sem,Q30,CodeD.cells,hx4];intro H3 h3;have kn:=kn.stL 0 rfl h3;have hx4:=kn.l 0 rfl;refine Qk ?_;simp only[go_sem,X.next,Q3,Qab,Qaax,Jb,forall_eq,RS.op,hx4];exact⟨_,Qbj5 d,hK d _ hd kn.fin⟩
set_option maxHeartbeats 4000000 in
theorem Qbfe {cs:List CodeD}{fl:Bool}(hfit:∀c∈cs,c.fits)(hK:∀(ds:List CodeD) (b:Bool) H',(b=true→UnitOk ds)→Upd H H' []→K (.tup [.ag [.sl false 3 (Qj ds)],.c (.bool b)]) H') :
  Qs prog Qj3 [.ag [.sl fl 3 (Qj cs)],.c (.str [115,105,110,103,108,101])] H K:=by
 refine Qx ?_;refine Qc Qaj Qasd ?_;refine Qa ?_;simp only[go_sem];intro x4 hx4 H1 h1;have kn:=(Kn.start0 H).al hx4 h1;simp only[go_sem,Qrs];refine Qy ?_;refine Qa ?_;simp only[go_sem];refine Qfi hfit fun H2 hu=>?_;have kn:=kn.call0 hu;simp only[go_sem,Qrt];refine Qh (Qe rfl ?_ ?_)
 ·intro _;have hx4:=kn.l 0 rfl;refine Qa ?_;simp only[go_sem,hx4];intro H3 h3;have kn:=kn.stL 0 rfl h3;have hx4:=kn.l 0 rfl;simp only[go_sem,Qru];refine Qk ?_;simp only[go_sem,X.next,Q3,Qab,Qhx,Jp,J2,RS.op,hx4];refine⟨fun _=>trivial,_,Qhr (FrzL.ag (.cons (FrzR.nil.sl) .nil)) (.c _ _ (Qg rfl)),hK [] false _ (fun h=>by simp at h) kn.fin⟩
 ·intro hc;have hG:Qbw cs=true:=Qez hc;refine Qi ?_;try simp only[go_sem]
  refine Qa ?_;simp only[go_sem];intro x6 hx6 H3 h3;have kn:=kn.al hx6 h3;have hx6:=kn.l 1 rfl;simp only[go_sem,Qrv,hx6];intro H4 h4;have kn:Kn H H4 [] [(x4,.st [.sl true 3 []]),(x6,.st [.sl true 3 []])]:=kn.stL 1 rfl h4;refine Qy ?_;refine Qa ?_;simp only[go_sem];have hcl:=(Q9e hfit hG).1;refine Qh (Qf (Qw (fun m e1 H1=>∃(ds:List CodeD) (t:C) (Lg:List (Nat×Obj)),m=cs.length-ds.length∧ds.length≤cs.length∧(∀d∈ds,d.fits)∧Gr Lg 3 (Qj ds) t∧Kn H H1 [] ([(x4,.st [.sl true 3 []]),(x6,.st [t])]++Lg)∧
   lk 1 e1=.c (.str [115,105,110,103,108,101])∧lk 2 e1=.c (.pp [.sl fl 3 (Qj cs)])∧lk 4 e1=.c (.ptr x4 0)∧lk 6 e1=.c (.ptr x6 0)∧lk 7 e1=.c (.int .i64 ds.length)) cs.length ?_ ?_))
  ·exact⟨[],_,[],by simp,by simp,by simp,.nil 3,by simpa using kn,rfl,rfl,rfl,rfl,rfl⟩
  ·clear kn hx6;rintro m e1 H5 ⟨ds,t,Lg,hm,hdl,hds,hgr,kn,l1,l2,l4,l6,l7⟩;have htw:=hgr.isOw;refine Qy ?_;refine Qa ?_;simp only[go_sem,l1,l2,l4,l6,l7,Q4];try intro _
   refine Qh (Qe rfl ?_ ?_)
   ·intro hc2;have hlt:ds.length<cs.length:=(by simpa using hc2);have hx6:=kn.l 1 rfl;obtain⟨q,hq⟩:∃q,cs[ds.length]=q:=⟨_,rfl⟩;have hqs:q.sgl:=Qbn4 hG (by rw[←hq];exact Jc hlt);refine Qi ?_;try simp only[go_sem]
    refine Qh (Qf ?_);refine Qa2 ?_;simp only[go_sem,l1,l2,l4,l6,l7,hx6,htw,hlt,Q4,Qam _ _ hlt,CodeD.cells,hq];refine Qbfg hqs fun d H6 hd hu=>?_;have kn:=kn.call0 hu;have hx6:=kn.l 1 rfl;simp only[go_sem,Qrx,CodeD.cells,hx6,htw];refine kn.growR (new:=Qj [d]) hgr (.mk' _ _ _ _) (Qa9 _) (by simp only[Q4,LIM,Jg,Jk];omega) fun t2 Lg2 H7 hgr2 ht2 kn=>?_;have hx6:=kn.l 1 rfl;simp only[go_sem,Qrw,hx6,ht2];intro H8 h8;have kn:=kn.stL 1 rfl h8;refine Qq ?_;simp only[go_sem,l1,l2,l4,l6,l7];refine⟨Qr (by omega) (by omega),?_⟩;show ∃m,_;refine⟨cs.length-(ds.length+1),by omega,ds++[d],t2,Lg2,by simp,by simp only[Jx,Jg,Jk];omega,fun w hw=>?_,?_,kn,rfl,rfl,rfl,rfl,by simp[lk]⟩
    ·rcases Jo.1 hw with hw|hw
     ·exact hds w hw
     ·simp only[Jb]at hw;rw[hw];exact hd
    ·have:Qj (ds++[d])=Qj ds++Qj [d]:=(by simp[Qj]);rw[this];exact hgr2
   ·intro _;refine Qv ?_;simp only[go_sem,X.next];have hx6:=kn.l 1 rfl;obtain⟨S,hSL,hSB,hfz,kn⟩:=kn.freeze0;have hx6b:=hSB (x6,.st [t]) (by simp);have hft:FrzC H5 S t (.sl false 3 (Qj ds)):=Gr.frzM hgr hSL (FrzR.same (Qa9 _));have kn:=kn.setL (o':=.st [.sl false 3 (Qj ds)]) 1 rfl (by simp);refine c_gh (Qdt S (Q1k ?_) (hfz.set (o:=.st [.sl false 3 (Qj ds)]) hx6b.2 (by rw[hx6b.1];exact FrzKL.st (.cons htw hft .nil)))) (e':=[(4,.c (.ptr x4 0)),(6,.c (.ptr x6 0))]) ?_
    ·simp only[Jp];exact⟨.c _ _ (.same _ rfl),.c _ _ (.same _ rfl),by simp⟩
    generalize (H5.frz S).set x6 (Obj.st [C.sl false 3 (Qj ds)])=H6 at *;have hx6:=kn.l 1 rfl;have hx4:=kn.l 0 rfl;clear hfz hx6b hft hSL hSB;refine Qy ?_;refine Qa ?_;simp only[go_sem,hx6];refine Qfi hds fun H7 hu=>?_;have kn:=kn.call0 hu;have hx6:=kn.l 1 rfl;have hx4:=kn.l 0 rfl;simp only[go_sem,Qmm];refine Qh (Qe rfl ?_ ?_)
    ·intro _;refine Qa ?_;simp only[go_sem,hx4];intro H8 h8;have kn:=kn.stL 0 rfl h8;have hx4:=kn.l 0 rfl;simp only[go_sem,Qmn];refine Qk ?_;simp only[go_sem,X.next,Q3,Qab,Qhx,Jp,J2,RS.op,hx4];refine⟨fun _=>trivial,_,Qhr (FrzL.ag (.cons (FrzR.nil.sl) .nil)) (.c _ _ (Qg rfl)),hK [] false _ (fun h=>by simp at h) kn.fin⟩
    ·intro hc3;have hG2:Qbw ds=true:=Qez hc3;refine Qi ?_;try simp only[go_sem]
     refine Qa ?_;simp only[go_sem,hx6,hx4];intro H8 h8;have kn:=kn.stL 0 rfl h8;have hx4:=kn.l 0 rfl;simp only[go_sem,Qmo];refine Qk ?_;simp only[go_sem,X.next,Q3,Qab,Qhx,Jp,J2,RS.op,hx4];obtain⟨u1,u2,u3⟩:=Q9e hds hG2;refine⟨fun _=>trivial,_,Qhr (Qdg ds) (.c _ _ (Qg rfl)),hK ds true _ (fun _=>⟨u2,u1,u3⟩) kn.fin⟩
theorem Qare {cs:List CodeD}{fl:Bool}(hfit:∀c∈cs,c.fits)(hK:∀(ds:List CodeD) (b:Bool) H',(b=true→UnitOk ds)→Upd H H' []→K (.tup [.ag [.sl false 3 (Qj ds)],.c (.bool b)]) H') :
  Qs prog Qf7 [.ag [.sl fl 3 (Qj cs)]] H K:=by
 refine Qx ?_;refine Qc Qaj Qaai ?_;refine Qa ?_;simp only[go_sem];intro x2 hx2 H1 h1;have kn:=(Kn.start0 H).al hx2 h1;simp only[go_sem,Qi7];refine Qa ?_;simp only[go_sem];refine Qbfe hfit fun ds b H2 hb hu=>?_;have kn:=kn.call0 hu;have hx2:=kn.l 0 rfl;simp only[go_sem,Qi9,Jan,Jbg,hx2];intro H3 h3;have kn:=kn.stL 0 rfl h3;have hx2:=kn.l 0 rfl;simp only[go_sem,Qi8];refine Qk ?_;simp only[go_sem,Q3,Qab,Qpv,Jp,J2,RS.op,hx2];exact⟨fun _=>trivial,_,Qhr (Qdg ds) (.c _ _ (Qg rfl)),hK ds b _ hb kn.fin⟩
def oneU:List CodeD:=[⟨0,1,[⟨[],[⟨1,0,[],0⟩],3,0,[]⟩]⟩]
theorem Qbql:UnitOk oneU:=by
 refine⟨by simp[oneU],by simp[oneU],fun c hc=>?_⟩;simp only[oneU,Jb]at hc;subst hc;refine⟨by simp,by simp,fun y hy=>?_,fun y hy=>?_⟩
 ·simp only[Jb]at hy;subst hy;simp
 ·simp only[Jb]at hy;subst hy;simp
theorem Qbl6 {S:Nat→Bool}:FrzC H S (.sl true 3 [[.int .i64 0,.int .i64 1,.sl true 5 [[.sl true 2 [],.sl true 4 [[.int .i64 1,.int .i64 0,.sl true 1 [],.int .i64 0]],.int .i64 3,.int .i64 0,.sl true 1 []]]]]) (.sl false 3 (Qj oneU)):=
 FrzR.sl (.cons (.cons (Qg rfl) (.cons (Qg rfl) (.cons (FrzR.sl (.cons (.cons FrzR.nil.sl (.cons (FrzR.sl (.cons (.cons (Qg rfl) (.cons (Qg rfl) (.cons FrzR.nil.sl (.cons (Qg rfl) .nil)))) .nil)) (.cons (Qg rfl) (.cons (Qg rfl) (.cons FrzR.nil.sl .nil))))) .nil)) .nil))) .nil)
theorem Qbfk {R:Rdr}{k:Nat}(hH:H R.l=R.o k)(hk:k+7100000≤2^30)
  (hK:∀(cs:List CodeD) (H':Heap) (k':Nat),k<k'→k'≤k+7050000→Upd H H' [(R.l,R.o k')]→UnitOk cs→K (.ag [.sl false 3 (Qj cs)]) H') :
  Qs prog Q09 [.c (.ptr R.l 0)] H K:=by
 refine Qx ?_;refine Qc Qaj Qbgb ?_;refine Qa ?_;simp only[go_sem];intro x2 hx2 H1 h1;have kn:=(Kn.start1 hH (R.o_ne k)).al hx2 h1;refine Qa ?_;simp only[go_sem];refine Qar0 (kn.e 0 rfl) (by omega) fun cs H3 k2 hk3 hk4 hu hok=>?_;have kn:=kn.callE 0 rfl hu (R.o_ne _);simp only[go_sem,Q4r];refine Qare hok.fits fun ds b H4 hb hu=>?_;have kn:=kn.call0 hu;simp only[go_sem,Q4q,Jan,Jbg];intro x3 hx3 H5 h5;have kn:=kn.al hx3 h5;have hx3:=kn.l 1 rfl;simp only[go_sem,Q4p,hx3];intro H6 h6;have kn:=kn.stL 1 rfl h6;have hx2:=kn.l 0 rfl;have hx3:=kn.l 1 rfl;simp only[go_sem,Q4o];refine Qy ?_;refine Qa ?_;simp only[go_sem];refine Qh (Qe rfl ?_ ?_)
 ·intro _;refine Qa ?_;simp only[go_sem,hx2];intro H7 h7;have kn:=kn.stL 0 rfl h7;have hx2:=kn.l 0 rfl;refine Qk ?_;simp only[go_sem,X.next,Q3,Qab,Qaa0,Jb,forall_eq,RS.op,hx2];exact⟨_,FrzL.ag (.cons Qbl6 .nil),hK oneU _ k2 hk3 hk4 kn.fin Qbql⟩
 ·intro hc;have hbt:b=true:=Qez hc;refine Qi ?_;try simp only[go_sem]
  refine Qa ?_;simp only[go_sem,hx2,hx3];intro H7 h7;have kn:=kn.stL 0 rfl h7;have hx2:=kn.l 0 rfl;refine Qk ?_;simp only[go_sem,Q3,Qab,Qaa0,Jb,forall_eq,RS.op,hx2];exact⟨_,Qdg ds,hK ds _ k2 hk3 hk4 kn.fin (hb hbt)⟩
theorem Qbfj {R:Rdr}{k:Nat}(hH:H R.l=R.o k)(hk:k+7300000≤2^30)
  (hK:∀(cs:List CodeD) (H':Heap) (k':Nat),k<k'→k'≤k+7150000→Upd H H' [(R.l,R.o k')]→UnitOk cs→K (.ag [.sl false 3 (Qj cs)]) H') :
  Qs prog Q08 [.c (.ptr R.l 0)] H K:=by
 refine Qx ?_;refine Qc Qaj Qbga ?_;refine Qa ?_;simp only[go_sem];intro x2 hx2 H1 h1;have kn:=(Kn.start1 hH (R.o_ne k)).al hx2 h1;refine Qy ?_;refine Qa ?_;simp only[go_sem];refine Qba (kn.e 0 rfl) (by omega) fun v H2 hv hu=>?_;have kn:=kn.callE 0 rfl hu (R.o_ne _);simp only[go_sem,Q4l];refine Qh (Qe rfl ?_ ?_)
 ·intro hc;refine Qa ?_;simp only[go_sem];refine Qarz (kn.e 0 rfl) (by omega) fun cs H3 k2 hk3 hk4 hu hok=>?_;have kn:=kn.callE 0 rfl hu (R.o_ne _);have hx2:=kn.l 0 rfl;simp only[go_sem,Q4m,hx2];intro H4 h4;have kn:=kn.stL 0 rfl h4;have hx2:=kn.l 0 rfl;refine Qk ?_;simp only[go_sem,X.next,Q3,Qab,Qaaz,Jb,forall_eq,RS.op,hx2];exact⟨_,Qdg cs,hK cs _ k2 (by omega) (by omega) kn.fin hok⟩
 ·intro hc;refine Qi ?_;try simp only[go_sem]
  refine Qa ?_;simp only[go_sem];refine Qbfk (kn.e 0 rfl) (by omega) fun cs H3 k2 hk3 hk4 hu hok=>?_;have kn:=kn.callE 0 rfl hu (R.o_ne _);have hx2:=kn.l 0 rfl;simp only[go_sem,Q4n,hx2];intro H4 h4;have kn:=kn.stL 0 rfl h4;have hx2:=kn.l 0 rfl;refine Qk ?_;simp only[go_sem,Q3,Qab,Qaaz,Jb,forall_eq,RS.op,hx2];exact⟨_,Qdg cs,hK cs _ k2 (by omega) (by omega) kn.fin hok⟩
theorem Qbfn {fl:Bool}{bs:List UInt8}(hK:∀(cs:List CodeD) (H':Heap),Upd H H' []→UnitOk cs→K (.ag [.sl false 3 (Qj cs)]) H') :
  Qs prog Q1c [.c (.sl fl 1 (Qbp bs))] H K:=by
 refine Qx ?_;refine Qc Qaj Qbge ?_;refine Qa ?_;simp only[go_sem];intro x2 hx2 H1 h1;have kn:=(Kn.start0 H).al hx2 h1;refine Qa ?_;simp only[go_sem];refine Qbfs fun R H2 hR h2=>?_;have kn:=kn.al hR h2 (R.o_ne 0);simp only[go_sem,Q43];refine Qy ?_;refine Qa ?_;simp only[go_sem];refine Qba (kn.l 1 rfl) (by omega) fun v H2 hv hu=>?_;have kn:=kn.callL 1 rfl hu (R.o_ne _);simp only[go_sem,Q44];refine Qh (Qe rfl ?_ ?_)
 ·intro hc;refine Qa ?_;simp only[go_sem];refine Qbfj (kn.l 1 rfl) (by omega) fun cs H3 k2 hk3 hk4 hu hok=>?_;have kn:=kn.callL 1 rfl hu (R.o_ne _);have hx2:=kn.l 0 rfl;simp only[go_sem,Q45,hx2];intro H4 h4;have kn:=kn.stL 0 rfl h4;have hx2:=kn.l 0 rfl;refine Qk ?_;simp only[go_sem,X.next,Q3,Qab,Qaa2,Jb,forall_eq,RS.op,hx2];exact⟨_,Qdg cs,hK cs _ kn.fin hok⟩
 ·intro hc;refine Qi ?_;try simp only[go_sem]
  refine Qa ?_;simp only[go_sem];refine Qarz (kn.l 1 rfl) (by omega) fun cs H3 k2 hk3 hk4 hu hok=>?_;have kn:=kn.callL 1 rfl hu (R.o_ne _);have hx2:=kn.l 0 rfl;simp only[go_sem,Q46,hx2];intro H4 h4;have kn:=kn.stL 0 rfl h4;have hx2:=kn.l 0 rfl;refine Qk ?_;simp only[go_sem,Q3,Qab,Qaa2,Jb,forall_eq,RS.op,hx2];exact⟨_,Qdg cs,hK cs _ kn.fin hok⟩
def caI (q:CodeD)(b j:Nat):List Plc:=((List.range j).filter fun i=>decide ((((Qan q b).ins[i]?).map InsD.op).getD 0=14)).map fun (i:Nat)=>((b:Int),(i:Int))
def caTo (q:CodeD)(b:Nat):List Plc:=(List.range b).flatMap fun b=>caI q b (Qan q b).ins.length
def caL (q:CodeD):List Plc:=caTo q q.blocks.length
section
variable {P:Program}{e:Env}{its r:List Item}{KK:Env→Heap→Prop}{KP:Value→Heap→Prop}{d:Option Nat}{t:Nat}{w:Bool}{op:FOp}
end
end Go.AE.Y
namespace Go.AE.Y
open Go.Proofs.Tryz
attribute [local instance] Classical.propDecidable
def Qbtl (q:CodeD)(p:Plc):InsD:=((Qan q p.1.toNat).ins[p.2.toNat]?).getD ⟨0,0,[],0⟩
def kcN (q:CodeD):List Nat:=(caL q).map fun p=>(Qbtl q p).n.toNat
def cdAt (cs:List CodeD)(k:Nat):CodeD:=(cs[k]?).getD ⟨0,0,[]⟩
inductive Nd (cs:List CodeD):Nat→Prop
 |top:Nd cs (cs.length-1)
 |to {k n:Nat}:Nd cs k→n∈kcN (cdAt cs k)→Nd cs n
noncomputable def Qbtq (cs:List CodeD):List Nat:=ascL cs.length (Nd cs)
section
variable {cs:List CodeD}{L:List Nat}(hg:Qbw cs=true)(hL:L=Qbtq cs)
include hg hL
end
end Go.AE.Y
namespace Go.AE.Y
attribute [local go_sem] cond_true cond_false Bool.not_true Bool.not_false
attribute [local instance] Classical.propDecidable
open Go.Proofs.Tryz
variable {H H0 F:Heap}{K:V→Heap→Prop}{E L B Lg:List (Nat×Obj)}{q:CodeD}{cs:List CodeD}
theorem Qbgu {l:List PhiD}{fl:Bool}(hl:l.length≤2 ^ 38)(ha:∀x∈l,x.args.length≤LIM)(hK:∀H',Upd H H' []→K (.c (.sl false 2 (Q1 l))) H') :
  Qs prog Qb0 [.c (.sl fl 2 (Q1 l)),.c (.fn Qcg [])] H K:=
 Qx (Qbl1 hl ha (Kn.start0 H) fun t Lg H' hgr kn=>⟨_,.c _ _ (hgr.frz kn (Qhs _)),hK _ kn.fin⟩)
theorem Qbgt {l:List InsD}{fl:Bool}(hl:l.length≤2 ^ 38)(ha:∀x∈l,x.args.length≤LIM)(kn:Kn H0 H E L)(hK:∀t Lg H',Gr Lg 4 (Qaq l) t→Kn H0 H' E (L++Lg)→K (.c t) H') :
  Qs prog Qc4 [.c (.sl fl 4 (Qaq l)),.c (.fn Qc7 [])] H K:=by
 refine Qc Qaj Qws ?_;refine Qa ?_;simp only[go_sem];refine Qa ?_;simp only[go_sem];refine Qy ?_;refine Qa ?_;simp only[go_sem,Qal];intro _;refine Qh (Qf (Qw (fun m e1 H1=>∃(i:Nat) (t:C) (Lg:List (Nat×Obj)),m=l.length-i∧i≤l.length∧Gr Lg 4 (Qaq (l.take i)) t∧Kn H0 H1 E (L++Lg)∧
  e1=[(1,.c (.fn Qc7 [])),(5,.c t),(8,.c (.sl fl 4 (Qaq l))),(9,.c (.int .i64 l.length)),(10,.c (.int .i64 i))]) l.length ?_ ?_))
 ·exact⟨0,_,[],by omega,by omega,.nil 4,by simpa using kn,rfl⟩
 ·clear kn;rintro m e1 H1 ⟨i,t,Lg,hm,hi,hgr,kn,rfl⟩;have htw:=hgr.isOw;refine Qa ?_;simp only[go_sem,htw];refine Qh (Qe rfl ?_ ?_)
  ·intro hc;have hlt:i<l.length:=by simpa using hc
   obtain⟨p,hp⟩:∃p,l[i]=p:=⟨_,rfl⟩;have hpm:p∈l:=by rw[←hp];exact Jc hlt
   have htk:l.take (i+1)=l.take i++[p]:=by rw[Jn hlt,hp]
   refine Qi ?_;try simp only[go_sem]
   refine Qh (Qf ?_);refine Qa ?_;simp only[go_sem,htw,hlt,Qal,Qb7 _ _ hlt,InsD.cells,hp];intro x7 hx7 H2 h2;have kn:=kn.al hx7 h2;have hx7:H2 x7=.st [.int .i64 0,.int .i64 0,.sl true 1 [],.int .i64 0]:=(kn.get (x7,.st [.int .i64 0,.int .i64 0,.sl true 1 [],.int .i64 0]) (by simp)).1;simp only[go_sem,Qea,hx7,htw];intro H3 h3;have kn:Kn H0 H3 E ((L++[(x7,.st [.int .i64 p.op,.int .i64 p.to,.sl false 1 (Qb p.args),.int .i64 p.n])])++Lg):=by
    have:=kn.stL (L++Lg).length (x:=x7) (o:=.st [.int .i64 0,.int .i64 0,.sl true 1 [],.int .i64 0]) (by simp) h3;refine Kn.perm (by simpa using this) (Ql fun f hf h0 hc hp=>by simp only[hf];omega)
   have hx7:H3 x7=.st [.int .i64 p.op,.int .i64 p.to,.sl false 1 (Qb p.args),.int .i64 p.n]:=(kn.get (x7,.st [.int .i64 p.op,.int .i64 p.to,.sl false 1 (Qb p.args),.int .i64 p.n]) (by simp)).1;refine Qq ?_;simp only[go_sem,htw,hx7,Jac,Jap];refine Qa97 (x:=p) (ha p hpm) fun H4 hu=>?_;have kn:=kn.call0 hu;simp only[go_sem,Qec,htw,InsD.cells];have hsm:(l.take i).length≤l.length:=by rw[Ja5];omega
   refine kn.growR (new:=Qaq [p]) hgr (.mk' _ _ _ _) (Qj9 _) (by simp only[Qal,LIM,Jg,Jk];omega) fun t2 Lg2 H5 hgr2 ht2 kn=>?_;simp only[go_sem,Qeb,ht2];refine Qq ?_;simp only[go_sem,X.next,ht2];refine⟨Qr (by omega) (by omega),l.length-(i+1),by omega,i+1,t2,Lg2,rfl,by omega,?_,?_,rfl⟩
   ·rw[htk];have:Qaq (l.take i++[p])=Qaq (l.take i)++Qaq [p]:=(by simp[Qaq]);rw[this];exact hgr2
   ·exact Kn.drop (B:=[(x7,.st [.int .i64 p.op,.int .i64 p.to,.sl false 1 (Qb p.args),.int .i64 p.n])]) (kn.perm (Ql fun f hf h0 hc hp=>by simp only[hf];omega))
  ·intro hc;have hge:l.length≤i:=by simpa using hc
   rw[Jh hge]at hgr;refine Qv ?_;simp only[go_sem,X.next];refine Qa ?_;simp only[go_sem,htw];refine Qk ?_;simp only[go_sem,Q3,Qab,Qhu,Jb,forall_eq,RS.op,htw];exact hK t Lg H1 hgr kn
def iRow (y:BlkD)(ic:C):List C:=[.sl false 2 (Q1 y.phis),ic,.int .i64 y.jump,.int .i64 y.on,.sl false 1 (Qb y.next)]
theorem Qaml {y:BlkD}(hy:y.cl)(hK:∀pc N H',Gr N 4 (Qaq y.ins) pc→Kn H H' [] N→K (.ag (iRow y pc)) H'):Qs prog Qce [.ag y.cells] H K:=by
 refine Qcb ?_;refine Qc Qaj Q6n ?_;refine Qa ?_;simp only[go_sem,BlkD.cells];intro x1 hx1 H0 h0;have kn:=(Kn.start0 H).al hx1 h0;intro x2 hx2 H1 h1;have kn:=kn.al hx2 h1;have hx1:=kn.l 0 rfl;refine Qa ?_;simp only[go_sem,hx1];refine Qbgu hy.p hy.pa fun H2 hu=>?_;have kn:=kn.call0 hu;have hx1:=kn.l 0 rfl;simp only[go_sem,Qh0,hx1];intro H3 h3;have kn:=kn.stL 0 rfl h3;have hx1:=kn.l 0 rfl;refine Qa ?_;simp only[go_sem,hx1];refine Qbgt hy.i hy.ia kn fun pc N H4 hgp kn=>?_;have hpw:=hgp.isOw;have hx1:=kn.l 0 rfl;simp only[go_sem,Qh1,hpw,hx1];intro H5 h5;have kn:=kn.stL 0 rfl h5;have hx1:=kn.l 0 rfl;refine Qa ?_;simp only[go_sem,hx1,hpw];refine Q9i kn hy.n fun t Lg H6 hgr how kn=>?_;have hx1:=kn.l 0 rfl;simp only[go_sem,Qh2,hpw,how,hx1];intro H7 h7;have kn:=kn.stL 0 rfl h7;have hx1:=kn.l 0 rfl;have hx2:=kn.l 1 rfl;refine Qa ?_;simp only[go_sem,hx1,hx2,hpw,how];intro H8 h8;have kn:Kn H H8 [] (([(x1,.st [.sl false 2 (Q1 y.phis),pc,.int .i64 y.jump,.int .i64 y.on,t]),(x2,.st [.sl false 2 (Q1 y.phis),pc,.int .i64 y.jump,.int .i64 y.on,t])]++Lg)++N):=
  (kn.stL 1 rfl h8).perm (Ql fun f hf h0 hc hp=>by
   have e1:=hc (x1,.st [.sl false 2 (Q1 y.phis),pc,.int .i64 y.jump,.int .i64 y.on,t]) ([(x2,.st [.sl false 2 (Q1 y.phis),pc,.int .i64 y.jump,.int .i64 y.on,t])]++N++Lg);have e2:=hc (x1,.st [.sl false 2 (Q1 y.phis),pc,.int .i64 y.jump,.int .i64 y.on,t]) [(x2,.st [.sl false 2 (Q1 y.phis),pc,.int .i64 y.jump,.int .i64 y.on,t])];show f ((x1,_)::([(x2,_)]++N++Lg))=_;rw[e1];simp only[hf,e2];omega)
 have hx2:=kn.l 1 rfl;have hfr:∀p∈Lg,H8 p.1=p.2∧unx H N p.1=true:=fun p hp=>
  ⟨(kn.get p (Je _ (Jl _ (Je _ hp)))).1,kn.unx (Je _ hp)⟩
 refine Qk ?_;simp only[go_sem,Q3,Qab,Qm0,Jb,forall_eq,RS.op,hpw,how,hx2];exact⟨unx H N,.ag (iRow y pc),H8.frz (unx H N),FrzL.ag (.cons (Q1l (noOw_mem (Qhs _))) (.cons (.same _ hpw) (.cons (Qg rfl) (.cons (Qg rfl) (.cons (Gr.frzM hgr hfr (FrzR.same (Qp _))) .nil))))),Qd7 _ _,hK pc N _ hgp kn.finK⟩
structure IBlk where
 y:BlkD
 pc:C
 pl:List (Nat×Obj)
def IBlk.row (b:IBlk):List C:=iRow b.y b.pc
def IBlk.ok (b:IBlk):Prop:=Gr b.pl 4 (Qaq b.y.ins) b.pc
theorem IBlk.noOw {b:IBlk}(h:b.ok):Go.AE.noOw b.row=true:=by
 have:=h.isOw;simp only[Go.AE.noOw,IBlk.row,iRow,List.all_cons,List.all_nil,this];rfl
theorem IBlk.frzR {S:Nat→Bool}:∀{ds:List IBlk},(∀d∈ds,d.ok)→(∀d∈ds,∀p∈d.pl,H p.1=p.2∧S p.1=true)→FrzR H S (ds.map IBlk.row) (Qm (ds.map IBlk.y))
 |[],_,_=>.nil
 |d::ds,h,hm=>.cons (.cons (Q1l (noOw_mem (Qhs _))) (.cons (Gr.frzM (h d J7) (hm d J7) (FrzR.same (Qj9 _)))
   (.cons (Qg rfl) (.cons (Qg rfl) (.cons (Q1l (noOw_mem (Qp _))) .nil)))))
   (IBlk.frzR (fun d hd=>h d (J6 _ hd)) fun d hd=>hm d (J6 _ hd))
theorem Qbgs {l:List BlkD}{fl:Bool}(hl:l.length≤2 ^ 38)(ha:∀y∈l,y.cl)(kn:Kn H0 H E L)
  (hK:∀(ks:List IBlk) t Lg H',ks.map IBlk.y=l→(∀b∈ks,b.ok)→Gr Lg 5 (ks.map IBlk.row) t→Kn H0 H' E ((L++ks.flatMap IBlk.pl)++Lg)→K (.c t) H') :
  Qs prog Qb5 [.c (.sl fl 5 (Qm l)),.c (.fn Qce [])] H K:=by
 refine Qc Qaj Ql6 ?_;refine Qa ?_;simp only[go_sem];refine Qa ?_;simp only[go_sem];refine Qy ?_;refine Qa ?_;simp only[go_sem,Qo];intro _;refine Qh (Qf (Qw (fun m e1 H1=>∃(ks:List IBlk) (t:C) (Lg:List (Nat×Obj)),m=l.length-ks.length∧ks.length≤l.length∧ks.map IBlk.y=l.take ks.length∧(∀b∈ks,b.ok)∧Gr Lg 5 (ks.map IBlk.row) t∧Kn H0 H1 E ((L++ks.flatMap IBlk.pl)++Lg)∧
  e1=[(1,.c (.fn Qce [])),(5,.c t),(8,.c (.sl fl 5 (Qm l))),(9,.c (.int .i64 l.length)),(10,.c (.int .i64 ks.length))]) l.length ?_ ?_))
 ·exact⟨[],_,[],by simp,by simp,by simp,by simp,.nil 5,by simpa using kn,rfl⟩
 ·clear kn;rintro m e1 H1 ⟨ks,t,Lg,hm,hi,hky,hko,hgr,kn,rfl⟩;have htw:=hgr.isOw;refine Qa ?_;simp only[go_sem,htw];refine Qh (Qe rfl ?_ ?_)
  ·intro hc;have hlt:ks.length<l.length:=by simpa using hc
   obtain⟨y,hy⟩:∃y,l[ks.length]=y:=⟨_,rfl⟩;have hym:y∈l:=by rw[←hy];exact Jc hlt
   have htk:l.take (ks.length+1)=l.take ks.length++[y]:=by rw[Jn hlt,hy]
   refine Qi ?_;try simp only[go_sem]
   refine Qh (Qf ?_);refine Qa ?_;simp only[go_sem,htw,hlt,Qo,Qaa _ _ hlt,BlkD.cells,hy];intro x7 hx7 H2 h2;have kn:=kn.al hx7 h2;have hx7:H2 x7=.st [.sl true 2 [],.sl true 4 [],.int .i64 0,.int .i64 0,.sl true 1 []]:=(kn.get (x7,.st [.sl true 2 [],.sl true 4 [],.int .i64 0,.int .i64 0,.sl true 1 []]) (by simp)).1;simp only[go_sem,Qc1,hx7,htw];intro H3 h3;have kn:Kn H0 H3 E (((L++ks.flatMap IBlk.pl)++Lg)++[(x7,blkC y)]):=by
    have:=kn.stL ((L++ks.flatMap IBlk.pl)++Lg).length (x:=x7) (o:=.st [.sl true 2 [],.sl true 4 [],.int .i64 0,.int .i64 0,.sl true 1 []]) (by simp) h3;simpa[blkC]using this
   have hx7:H3 x7=.st [.sl false 2 (Q1 y.phis),.sl false 4 (Qaq y.ins),.int .i64 y.jump,.int .i64 y.on,.sl false 1 (Qb y.next)]:=(kn.get (x7,blkC y) (by simp)).1;have kn:=kn.drop;refine Qq ?_;simp only[go_sem,htw,hx7,Jac,Jap];refine Qaml (y:=y) (ha y hym) fun pc N H4 hgp k2=>?_;have kn:Kn H0 H4 E ((L++(ks++[(⟨y,pc,N⟩:IBlk)]).flatMap IBlk.pl)++Lg):=(kn.comp0 k2).perm (Ql fun f hf h0 hc hp=>by
    simp only[hf,Jbf,Jae,Jbk,Jac];omega)
   have hpw:=hgp.isOw;simp only[go_sem,Qc3,htw,iRow,hpw];refine kn.growR (new:=[IBlk.row ⟨y,pc,N⟩]) hgr (.mk' _ _ _ _) (by intro r hr;simp only[Jb]at hr;subst hr;exact IBlk.noOw hgp) (by simp only[Jd,LIM,Jg,Jk];omega) fun t2 Lg2 H5 hgr2 ht2 kn=>?_;simp only[go_sem,Qc2,ht2];refine Qq ?_;simp only[go_sem,X.next,ht2];refine⟨Qr (by omega) (by omega),l.length-(ks.length+1),by omega,ks++[⟨y,pc,N⟩],t2,Lg2,by simp,by simp;omega,?_,fun b hb=>?_,?_,kn,?_⟩
   ·rw[Jx,List.length_singleton,htk,Jm,hky];rfl
   ·rcases Jo.1 hb with hb|hb
    ·exact hko b hb
    ·simp only[Jb]at hb;subst hb;exact hgp
   ·rw[Jm];exact hgr2
   ·simp
  ·intro hc;have hge:ks.length=l.length:=by have:l.length≤ks.length:=(by simpa using hc);omega
   rw[hge,Jam]at hky;refine Qv ?_;simp only[go_sem,X.next];refine Qa ?_;simp only[go_sem,htw];refine Qk ?_;simp only[go_sem,Q3,Qab,Qd8,Jb,forall_eq,RS.op,htw];exact hK ks t Lg H1 hky hko hgr kn
theorem Qark {q:CodeD}{fl:Bool}(hb:q.blocks.length≤2 ^ 38)(ha:∀y∈q.blocks,y.cl)
  (hK:∀(ks:List IBlk) bc bl H',ks.map IBlk.y=q.blocks→(∀b∈ks,b.ok)→Gr bl 5 (ks.map IBlk.row) bc→Kn H H' [] (ks.flatMap IBlk.pl++bl)→K (.ag [.int .i64 q.params,.int .i64 q.regs,bc]) H') :
  Qs prog Qd4 [.ag [.int .i64 q.params,.int .i64 q.regs,.sl fl 5 (Qm q.blocks)]] H K:=by
 refine Qcb ?_;refine Qc Qaj Qaaf ?_;refine Qa ?_;simp only[go_sem];intro x1 hx1 H0 h0;have kn:=(Kn.start0 H).al hx1 h0;intro x2 hx2 H1 h1;have kn:=kn.al hx2 h1;have hx1:=kn.l 0 rfl;refine Qa ?_;simp only[go_sem,hx1];refine Qbgs hb ha kn fun ks bc bl H2 hky hko hgr kn=>?_;have hbw:=hgr.isOw;have hx1:=kn.l 0 rfl;simp only[go_sem,Qi3,hbw,hx1];intro H3 h3;have kn:=kn.stL 0 rfl h3;have hx1:=kn.l 0 rfl;have hx2:=kn.l 1 rfl;refine Qa ?_;simp only[go_sem,hx1,hx2,hbw];intro H4 h4;have kn:Kn H H4 [] ([(x1,.st [.int .i64 q.params,.int .i64 q.regs,bc]),(x2,.st [.int .i64 q.params,.int .i64 q.regs,bc])]++(ks.flatMap IBlk.pl++bl)):=by
  have:=kn.stL 1 rfl h4;refine this.perm ?_;simp only[List.set,Jah,Jaf,J3];exact .refl _
 have hx2:=kn.l 1 rfl;refine Qk ?_;simp only[go_sem,Q3,Qab,Qpp,Jb,forall_eq,RS.op,hbw,hx2];exact⟨unx H (ks.flatMap IBlk.pl++bl),.ag [.int .i64 q.params,.int .i64 q.regs,bc],H4.frz (unx H (ks.flatMap IBlk.pl++bl)),FrzL.ag (.cons (Qg rfl) (.cons (Qg rfl) (.cons (.same _ hbw) .nil))),Qd7 _ _,hK ks bc bl _ hky hko hgr kn.finK⟩
end Go.AE.Y
namespace Go.AE.Y
open Go.Proofs.Tryz
def Qatt:List Item:=[eI 2 (.alloc [.int .i64 0,.int .i64 0,.sl true 5 []])]
def Qatu:List Item:=[sJ 3 1 6]
def Qatv:List Item:=[kJ 49 39,fJ 50 4 49,sJ 1 50 44]
def Qatw:List Item:=kJ 47 38::fJ 48 3 47::.e none none (.sto 1 (.t 48) (kI 0))::Qatv
def Qbmh:SC:=cT 36 (.dreg 17 [0,1,2,3,4,5,6,7,8,9,10,11,12,13,14,15,16] ( mJ 37 4::mJ 38 4::mJ 39 4::mJ 40 4::kJ 41 40::fJ 42 4 41::lJ 43 42::fI 44 (.slm 1 (.t 43) (kI 1))::kJ 45 37::fJ 46 2 45::.e none none (.sto 1 (.t 46) (kI 1))::Qatw) [1,2,9,10]) .skip
def Qbmi:SC:=.seq (.dreg 20 [0,1,2,3,4,5,6,7,8,9,10,11,12,13,14,15,16,17,18,19] ( mJ 17 4::kJ 18 17::fJ 19 2 18::lJ 20 19::cJ 21 .eql 20 2::mJ 22 21::gTm 23 22 4::gT 24 22 (.nck (.t 23))::gTf 25 22 4 24::gTl 26 22 25::gT 27 22 (.iad 1 (.t 26) (kI 0))::gTl 28 22 27::gTm 29 22 4::gT 30 22 (.nck (.t 29))::gTf 31 22 4 30::gTl 32 22 31::gT 33 22 (.iad 1 (.t 32) (kI 1))::gTl 34 22 33::gT 35 22 (.bin 0 .eql (.t 28) (.t 34))::pF 36 22 35::[]) [1,2,4,9,10,36]) Qbmh
def Qbmj:SC:=sR [fJ 13 2 1,lJ 14 13,mJ 15 3,iJ 16 5 14 15,mJ 4 16] [1,2,4,9,10] Qbmi
def Qbmk:SC:=.reg [cJ 51 .add 10 1,mJ 10 51] [1,2,9,10]
def Qbml:SC:=.seq (.block 1 (sR [mJ 12 10,mJ 3 12] [1,2,3,9,10] Qbmj)) Qbmk
def Qbhi:SC:=sR [bJ 11 .lss 10 9] [1,2,9,10,11] (cX 11 0 Qbml)
def Qbhf:SC:=sR [tJ 52 3 1,sJ 3 2 52] [2] .ret
def Qbhg:SC:=.seq (sR [fJ 7 2 1,lJ 8 7,nJ 9 8,zJ 10 0] [1,2,9,10] (bL 0 Qbhi)) Qbhf
def Qbhh:SC:=sR (tJ 5 3 1::aJ 6 Qd4 [.t 5]::Qatu) [1,2] Qbhg
def Qbsq:SC:=sR (eI 1 (.boxm (.t 0))::Qatt) [1,2] Qbhh
def Qboi:List RS:=[.cell 2 3 true]
theorem Qbsf:mFn prog Q04 1 53 Qbsq Qboi=true:=by kernel_rfl
end Go.AE.Y
