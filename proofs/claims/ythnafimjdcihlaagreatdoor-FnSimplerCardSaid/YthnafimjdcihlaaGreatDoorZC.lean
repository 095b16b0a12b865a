/- Part 3 of the proof: the engine, codes, walks and plain laws, each named where it stands. -/
import Derived.Test.YthnafimjdcihlaaGreatDoorZB
open Nat (reduceEqDiff reduceAdd reduceLeDiff reduceLT)
set_option linter.unusedVariables false
set_option linter.unusedSimpArgs false
set_option maxRecDepth 4000
set_option maxHeartbeats 8000000
open Bool renaming true_and->Jk,and_eq_true->Jo,eq_iff_iff->Jr,and_assoc->J3,not_eq_true'->J5,true_or->J8,false_or->J9,not_false->Jad,false_and->Jai,and_eq_false_iff->Jam,or_eq_true->Jan,and_false->Jav
open Int renaming le_refl->Ja4
open List renaming mem_singleton->Ja,take_of_length_le->Jb,take_succ_eq_append_getElem->Jc,getElem_mem->Jd,mem_append_left->Je,getD_eq_getElem?_getD->Jf,mem_cons->Jg,getD_cons_zero->Jh,getD_cons_succ->Jj,mem_append->Jl,mem_cons_of_mem->Jm,length_cons->Jn,mem_append_right->Jp,mem_map->Jq,append_assoc->Js,getElem?_eq_getElem->Jt,map_append->Ju,forall_mem_cons->Jv,not_mem_nil->Jw,length_nil->Jx,any_eq_true->Jy,length_take->Jz,nodup_append->J1,map_cons->J2,take_append_drop->J4,cons_append->J7,getElem?_cons_zero->Jaa,mem_cons_self->Jab,contains_iff_mem->Jae,all_eq_true->Jaf,drop_succ_cons->Jag,nil_append->Jah,drop_zero->Jaj,getElem?_cons_succ->Jak,foldl_cons->Jap,headD_cons->Jaq,length_singleton->Jar,nodup_cons->Jas,length_append->Jaw,getElem_take->Jax,map_nil->Jay,take_length->Jaz,sum_append->Ja0,map_map->Ja2
open List.cons renaming injEq->Jao
open Nat renaming le_refl->Ji,lt_or_ge->Jat,min_eq_left->Jau,zero_add->Ja3
open Option renaming getD_some->J0,map_some->Jac,getD_none->Jal,map_none->Ja1
open Option.some renaming injEq->J6,inj->Ja5
namespace Go.AE.Y
open Go.Proofs.Tryz
variable {H:Heap}{K:V→Heap→Prop}
theorem C6 {n lo hi:Int}(hK:K (.c (.bool (decide (lo≤n∧n≤hi)))) H):Qm prog IZ [.c (.int .i64 n),.c (.int .i64 lo),.c (.int .i64 hi)] H K:=by
 refine Qc Aa Yc ?_;refine Za ?_;refine Za ?_;refine Zb ?_;have:(bif decide (lo≤n)then decide (n≤hi)else false)=decide (lo≤n∧n≤hi):=by
  by_cases h:lo≤n <;> simp[h]
 rw[this];exact hK
theorem Tl {b:Bool}(hK:K (.c (.int .i64 (if b then 1 else 0))) H):Qm prog LP [.c (.bool b)] H K:=by
 refine Qc Aa Qbg7 ?_;refine Za ?_;refine Qz (Qa ?_);simp only[go_sem];refine Qf (Qb rfl ?_ ?_)
 ·intro hc;subst hc;refine Za ?_;refine Zb ?_;exact hK
 ·intro hc;subst hc;refine Ze ?_;refine Za ?_;refine Zb ?_;exact hK
theorem K8 {s:List UInt8}{b:UInt8}(hK:∀n:Int,K (.c (.int .i64 n)) H):Qm prog Q9f [.c (.str s),.c (.int .u8 b.toNat)] H K:=by
 refine Qc Aa Qbg2 ?_;refine Za ?_;refine Qz (Qa ?_);simp only[go_sem];refine Qf (Qg (Q3 (fun n e1 H1=>∃i:Nat,n=s.length-i∧i≤s.length∧H1=H∧e1=[(0,.c (.str s)),(1,.c (.int .u8 b.toNat)),(5,.c (.int .i64 i))]) s.length ?_ ?_))
 ·exact⟨0,ZT,ZT,rfl,rfl⟩
 ·rintro n e1 H1 ⟨i,hn,hi,rfl,rfl⟩;refine Qz (Qa ?_);simp only[go_sem];intro hl;simp only[LIM]at hl;refine Qf (Qb rfl ?_ ?_)
  ·intro hc;have af:i<s.length:=ZU
   refine Ze ?_;refine Qf (Qg ?_);refine Zd af ?_;refine Qb rfl ?_ ?_
   ·intro au;refine Za ?_;refine Zh ?_;exact hK _
   ·intro au;refine Ze ?_;refine Zo ?_;exact⟨Qv,s.length-(i+1),ZT,i+1,rfl,ZT,rfl⟩
  ·intro hc;refine Zm ?_;refine Za ?_;refine Zb ?_;exact hK _
theorem Qbgc {b:UInt8}(hK:∀n:Int,K (.c (.int .i64 n)) H):Qm prog RW [.c (.int .u8 b.toNat)] H K:=by
 refine Qc Aa KL ?_;refine Za ?_;refine Qf (Qg ?_);refine Za ?_;refine Qb rfl ?_ ?_
 ·intro hc;refine Za ?_;refine Zb ?_;exact hK _
 intro hc;refine Za ?_;refine Qb rfl ?_ ?_
 ·intro hc;refine Za ?_;refine Zb ?_;exact hK _
 intro hc;refine Za ?_;refine K8 fun n=>?_;simp only[go_sem,T6];refine Qb rfl ?_ ?_
 ·intro hc;refine Za ?_;refine Zb ?_;exact hK _
 intro hc;refine Za ?_;refine Qb rfl ?_ ?_
 ·intro hc;refine Za ?_;refine Zb ?_;exact hK _
 intro hc;refine Ze ?_;refine Za ?_;refine Zb ?_;exact hK _
theorem Qbqc {s:List UInt8}{k:Int}(hK:∀b:Bool,K (.c (.bool b)) H):Qm prog DU [.c (.str s),.c (.int .i64 k)] H K:=by
 refine Qc Aa IN ?_;refine Za ?_;refine Qz (Qa ?_);simp only[go_sem];refine Qf (Qg (Q3 (fun n e1 H1=>∃i:Nat,n=s.length-i∧i≤s.length∧H1=H∧e1=[(0,.c (.str s)),(1,.c (.int .i64 k)),(5,.c (.int .i64 i))]) s.length ?_ ?_))
 ·exact⟨0,ZT,ZT,rfl,rfl⟩
 ·rintro n e1 H1 ⟨i,hn,hi,rfl,rfl⟩;refine Qz (Qa ?_);simp only[go_sem];intro hl;simp only[LIM]at hl;refine Qf (Qb rfl ?_ ?_)
  ·intro hc;have af:i<s.length:=ZU
   refine Ze ?_;refine Qf (Qg ?_);refine Zd af ?_;refine Qbgc fun cl=>?_;simp only[go_sem,Gf];refine Qb rfl ?_ ?_
   ·intro au;refine Za ?_;refine Zh ?_;exact hK _
   ·intro au;refine Ze ?_;refine Zo ?_;exact⟨Qv,s.length-(i+1),ZT,i+1,rfl,ZT,rfl⟩
  ·intro hc;refine Zm ?_;refine Za ?_;intro _;refine Zb ?_;exact hK _
theorem Qa9y (hK:∀ss:List (List UInt8),K (.c (.sl true 1 (Q5 ss))) H):Qm prog SD [] H K:=by
 refine Qc Aa Q7r ?_;refine Za ?_;refine Za ?_;refine Zb ?_;exact hK [[102,110],[108,101,116],[115,97,121],[112,117,116],[105,102],[101,108,115,101],[108,111,111,112],[98,97,99,107],[100,111]]
theorem Qbqd {s:List UInt8}(hK:∀b:Bool,K (.c (.bool b)) H):Qm prog DT [.c (.str s)] H K:=by
 refine Qc Aa IT ?_;refine Za ?_;refine Za ?_;refine Qa9y fun ss=>?_;simp only[go_sem,Ge];refine Qz (Qa ?_);simp only[go_sem];refine Qf (Qg (Q3 (fun n e1 H1=>∃i:Nat,n=ss.length-i∧i≤ss.length∧H1=H∧e1=[(0,.c (.str s)),(3,.c (.sl true 1 (Q5 ss))),(4,.c (.int .i64 i))]) ss.length ?_ ?_))
 ·exact⟨0,ZT,ZT,rfl,rfl⟩
 ·rintro n e1 H1 ⟨i,hn,hi,rfl,rfl⟩;refine Qz (Qa ?_);simp only[go_sem,Qt];intro hl;simp only[LIM]at hl;refine Qf (Qb rfl ?_ ?_)
  ·intro hc;have af:i<ss.length:=ZU
   refine Ze ?_;refine Qf (Qg ?_);refine Qa ?_;simp only[go_sem,af,Qt,BT _ _ af];refine Qb rfl ?_ ?_
   ·intro au;refine Za ?_;refine Zh ?_;exact hK _
   ·intro au;refine Ze ?_;refine Zo ?_;exact⟨Qv,ss.length-(i+1),ZT,i+1,rfl,ZT,rfl⟩
  ·intro hc;refine Zm ?_;refine Za ?_;refine Zb ?_;exact hK _
theorem DX {s:List UInt8}(hK:∀b:Bool,K (.c (.bool b)) H):Qm prog EQ [.c (.str s)] H K:=by
 refine Qc Aa NN ?_;refine Za ?_;refine Za ?_;refine Qbqc fun b=>?_;simp only[go_sem,TS];intro hl;refine⟨fun hb=>?_,fun hb=>?_⟩
 ·refine Qbqd fun b2=>?_;simp only[go_sem,HW];refine Zb ?_;exact hK _
 ·simp only[go_sem,HW,hb];refine Zb ?_;exact hK _
theorem Qblx {op:Int}(hK:∀a b:Int,K (.tup [.c (.int .i64 a),.c (.int .i64 b)]) H):Qm prog Tq [.c (.int .i64 op)] H K:=by
 refine Qc Aa P6 ?_;refine Za ?_;refine Qz (Qa ?_);simp only[go_sem];have ret:∀(a b:Int) (e:Env),lk 2 e=.c (.int .i64 a)→lk 3 e=.c (.int .i64 b)→Qq Dt K .ret e H:=by
  intro a b e h1 h2;simp only[go_sem,Qq,Q0,Jv,RS.op,h1,h2];exact hK _ _
 refine Qf (Qg ?_);refine Qz (Qa ?_);simp only[go_sem];have r5:∀(b:Bool),Q6 prog Gc (X.inBlock 0 (X.sq prog Hs (Qq Dt K))) [(4,.c (.int .i64 op)),(5,.c (.bool b))] H:=by
  intro b;refine Qb rfl ?_ ?_
  ·intro hc;refine Za ?_;refine Zn ?_;exact ret 0 0 _ ZX ZX
  intro hc;refine Qz (Qa ?_);simp only[go_sem];have r8:∀(b:Bool),Q6 prog Gd (X.inBlock 0 (X.sq prog Hs (Qq Dt K))) [(4,.c (.int .i64 op)),(8,.c (.bool b))] H:=by
   intro b;refine Qb rfl ?_ ?_
   ·intro hc;refine Za ?_;refine Zn ?_;exact ret 1 1 _ ZX ZX
   intro hc;refine Za ?_;refine Qb rfl ?_ ?_
   ·intro hc;refine Za ?_;refine Zn ?_;exact ret 0 3 _ ZX ZX
   ·intro hc;refine Ze ?_;refine Za ?_;refine Qi ?_;exact ret 2 2 _ ZX ZX
  refine Qf (Qb rfl ?_ ?_)
  ·intro hc;refine Ze ?_;exact r8 _
  ·intro hc;refine Zp ?_;exact r8 _
 refine Qf (Qb rfl ?_ ?_)
 ·intro hc;refine Ze ?_;exact r5 _
 ·intro hc;refine Zp ?_;exact r5 _
theorem PG {op:Int}(hK:K (.c (.int .i64 (if op=4 then 2 else 1))) H):Qm prog FM [.c (.int .i64 op)] H K:=by
 refine Qc Aa Qbmb ?_;refine Za ?_;refine Qz (Qa ?_);simp only[go_sem];refine Qf (Qb rfl ?_ ?_)
 ·intro hc;refine Za ?_;refine Zb ?_;rw[if_pos ZU]at hK;exact hK
 ·intro hc;refine Ze ?_;refine Za ?_;refine Zb ?_;rw[if_neg ZU]at hK;exact hK
end Go.AE.Y
namespace Go.AE.Y
def keysL:List (List UInt8):=[[102,110],[108,101,116],[115,97,121],[112,117,116],[105,102],[101,108,115,101],[108,111,111,112],[98,97,99,107],[100,111]]
def AN (b:UInt8):Bool:=decide (97≤b.toNat∧b.toNat≤122)
def Av (s:List UInt8):Bool:=decide (1≤s.length∧s.length≤4)&&s.all AN&&!keysL.contains s
def AX (op:Int):Int:=if op=1∨op=2∨op=13 then 0 else if op=11∨op=12 then 1 else 2
def AS (op:Int):Int:=if op=1∨op=2 then 0 else if op=11∨op=12 then 1 else if op=13 then 3 else 2
def Ez (op n:Int)(name:List UInt8)(k:Nat):Bool:=
 decide (1≤op∧op≤13)&&decide (AX op≤(k:Int)∧(k:Int)≤AS op)&&(decide (op=2∨op=13) == Av name)&&(decide (op=2∨op=13) || decide (name=[]))&&
  decide (0≤n∧n≤255)&&(decide (op=1) || decide (n=0))
mutual
def Ex.form:Ex→Int→Bool
 |.mk op n name kids,d=>decide (1≤d)&&Ez op n name kids.length&&Az kids (d-1)
def Az:List Ex→Int→Bool
 |[],_=>true
 |x::r,d=>x.form d&&Az r d
end
theorem Ex.form_eq (x:Ex)(d:Int):x.form d=(decide (1≤d)&&Ez x.op x.n x.name x.kids.length&&Az x.kids (d-1)):=by
 cases x;simp only[Ex.form,Ex.op,Ex.n,Ex.name,Ex.kids]
theorem Sk (l:List Ex)(d:Int):Az l d=l.all fun x=>x.form d:=by
 induction l with
 |nil=>simp[Az]
 |cons x r ih=>simp[Az,ih]
def Ex.valid (x:Ex):Bool:=x.form 6&&decide (x.size≤30)
def AO (op:Int):Nat:=if op=4 then 2 else 1
def BF (op:Int)(name:List UInt8)(args:List Ex)(nb ne:Nat):Bool:=
 decide (1≤op∧op≤8)&&decide (args.length=AO op)&&(decide (op=1∨op=2) == Av name)&&(decide (op=1∨op=2) || decide (name=[]))&&args.all Ex.valid&&
  (!decide (op=8) || decide ((args.map Ex.op).getD 0 0=13))&&(decide (op=5) || decide (ne=0))&&(decide (op=5∨op=6) || decide (nb=0))
mutual
def St.form:St→Int→Bool
 |.mk op name args body els,d=>decide (1≤d)&&BF op name args body.length els.length&&Qx body (d-1)&&Qx els (d-1)
def Qx:List St→Int→Bool
 |[],_=>true
 |x::r,d=>x.form d&&Qx r d
end
theorem St.form_eq (x:St)(d:Int):x.form d=(decide (1≤d)&&BF x.op x.name x.args x.body.length x.els.length&&Qx x.body (d-1)&&Qx x.els (d-1)):=by
 cases x;simp only[St.form,St.op,St.name,St.args,St.body,St.els]
theorem D0 (l:List St)(d:Int):Qx l d=l.all fun x=>x.form d:=by
 induction l with
 |nil=>simp[Qx]
 |cons x r ih=>simp[Qx,ih]
mutual
def St.cnt:St→Nat
 |.mk _ _ _ body els=>1+As body+As els
def As:List St→Nat
 |[]=>0
 |x::r=>x.cnt+As r
end
theorem St.cnt_eq (x:St):x.cnt=1+As x.body+As x.els:=by cases x;simp only[St.cnt,St.body,St.els]
def Fn.form (f:Fn):Bool:=f.params.all Av&&Av f.name&&decide (f.params.length≤3)&&Qx f.body 4
def A7:List Fn→Nat
 |[]=>0
 |f::r=>As f.body+A7 r
theorem KR (a b:List Fn):A7 (a++b)=A7 a+A7 b:=by
 induction a with
 |nil=>simp[A7]
 |cons x r ih=>simp only[J7,A7,ih];omega
theorem Q9c {l:List Fn}{i:Nat}(h:i<l.length):A7 (l.take (i+1))=A7 (l.take i)+As (l[i]'h).body:=by
 rw[Jc h,KR];simp[A7]
def AW (l:List Fn):Bool:=decide (1≤l.length∧l.length≤4)&&l.all Fn.form&&decide (A7 l≤40)
mutual
def Ex.pre:Ex→List Ex
 |.mk op n name kids=>.mk op n name kids::Q7 kids
def Q7:List Ex→List Ex
 |[]=>[]
 |x::r=>x.pre++Q7 r
end
theorem Ex.pre_eq (x:Ex):x.pre=x::Q7 x.kids:=by cases x;simp only[Ex.pre,Ex.kids]
theorem Qbaf (a b:List Ex):Q7 (a++b)=Q7 a++Q7 b:=by
 induction a with
 |nil=>simp[Q7]
 |cons x r ih=>simp only[J7,Q7,ih,Js]
def Ai (l:List Fn)(s:List UInt8):Option Nat:=l.findIdx? fun f=>decide (f.name=s)
abbrev Vars:=List (List (List UInt8×Nat))
def Vars.find (v:Vars)(s:List UInt8):Option Nat:=(v.flatten.find? fun p=>decide (p.1=s)).map Prod.snd
def A6 (v:Vars)(s:List UInt8):Bool:=(v.headD []).any fun p=>decide (p.1=s)
def A8 (v:Vars)(s:List UInt8)(n:Nat):Vars:=((s,n)::v.headD [])::v.tail
def Af (a b:Int):Int:=if a=0 then b else a
def AA (fns:List Fn)(k:Nat)(v:Vars)(p:Ex):Int:=
 if p.op=2 then (if (v.find p.name).isSome then 0 else 3)
 else if p.op=13 then (match Ai (fns.take k) p.name with
  |none=>4
  |some j=>if ((fns[j]?.map fun f=>f.params.length).getD 0)=p.kids.length then 0 else 5)
 else 0
def Ax (fns:List Fn)(k:Nat)(v:Vars)(l:List Ex)(c:Int):Int:=l.foldl (fun c p=>Af c (AA fns k v p)) c
structure Ck where
 v:Vars
 c:Int
 n:Nat
def stC (fns:List Fn)(k:Nat)(op:Int)(name:List UInt8)(args:List Ex)(s:Ck):Ck:=
 let c:=Ax fns k s.v (Q7 args) s.c
 if op=1 then ⟨A8 s.v name s.n,Af c (if A6 s.v name then 2 else 0),s.n+1⟩
 else if op=2 then ⟨s.v,Af c (if (s.v.find name).isSome then 0 else 3),s.n⟩
 else ⟨s.v,c,s.n⟩
mutual
def St.ck (fns:List Fn)(k:Nat):St→Ck→Ck
 |.mk op name args body els,s=>
  let s1:=stC fns k op name args s;let s2:=Ae fns k body ⟨[]::s1.v,s1.c,s1.n⟩;let s3:=Ae fns k els ⟨[]::s1.v,s2.c,s2.n⟩
  ⟨s1.v,s3.c,s3.n⟩
def Ae (fns:List Fn)(k:Nat):List St→Ck→Ck
 |[],s=>s
 |x::r,s=>Ae fns k r (x.ck fns k s)
end
theorem St.ck_eq (fns:List Fn)(k:Nat)(x:St)(s:Ck):x.ck fns k s =
  ⟨(stC fns k x.op x.name x.args s).v,(Ae fns k x.els ⟨[]::(stC fns k x.op x.name x.args s).v,(Ae fns k x.body ⟨[]::(stC fns k x.op x.name x.args s).v,(stC fns k x.op x.name x.args s).c,(stC fns k x.op x.name x.args s).n⟩).c,
   (Ae fns k x.body ⟨[]::(stC fns k x.op x.name x.args s).v,(stC fns k x.op x.name x.args s).c,(stC fns k x.op x.name x.args s).n⟩).n⟩).c,
   (Ae fns k x.els ⟨[]::(stC fns k x.op x.name x.args s).v,(Ae fns k x.body ⟨[]::(stC fns k x.op x.name x.args s).v,(stC fns k x.op x.name x.args s).c,(stC fns k x.op x.name x.args s).n⟩).c,
   (Ae fns k x.body ⟨[]::(stC fns k x.op x.name x.args s).v,(stC fns k x.op x.name x.args s).c,(stC fns k x.op x.name x.args s).n⟩).n⟩).n⟩:=by
 cases x;simp only[St.ck,St.op,St.name,St.args,St.body,St.els]
theorem Qbjo (fns:List Fn)(k:Nat)(a b:List St)(s:Ck):Ae fns k (a++b) s=Ae fns k b (Ae fns k a s):=by
 induction a generalizing s with
 |nil=>simp[Ae]
 |cons x r ih=>simp only[J7,Ae,ih]
def A1 (ps:List (List UInt8))(s:Ck):Ck:=ps.foldl (fun s p=>⟨A8 s.v p s.n,Af s.c (if A6 s.v p then 2 else 0),s.n+1⟩) s
def fnCk (fns:List Fn)(k:Nat):Ck:=match fns[k]? with
 |some f=>Ae fns k f.body (A1 f.params ⟨[[]],if Ai fns f.name=some k then 0 else 2,0⟩)
 |none=>⟨[],0,0⟩
def ckK (fns:List Fn)(k:Nat):Int:=(List.range k).foldl (fun c i=>Af c (fnCk fns i).c) 0
def AV (fns:List Fn):Int:=if AW fns=true then ckK fns fns.length else 1
def Bl (fns:List Fn):Bool:=decide (AV fns=0)
open Go.Proofs.Tryz
variable {H:Heap}{K:V→Heap→Prop}
theorem Qbar {b:UInt8}(hK:∀n:Int,decide (n=1)=AN b→K (.c (.int .i64 n)) H):Qm prog RW [.c (.int .u8 b.toNat)] H K:=by
 refine Qc Aa KL ?_;have hs:(bif decide ((97:Int)≤(b.toNat:Int))then decide ((b.toNat:Int)≤122)else false)=AN b:=by
  unfold AN;by_cases h:97≤b.toNat
  ·have h':(97:Int)≤(b.toNat:Int):=ZT
   simp only[h',decide_true,cond_true,h,true_and,decide_eq_decide];omega
  ·have h':¬(97:Int)≤(b.toNat:Int):=ZT
   simp[h',h]
 have ret:∀(n:Int) (e:Env),decide (n=1)=AN b→lk 2 e=.c (.int .i64 n)→Qq Ac K .ret e H:=by
  intro n e h1 h2;simp only[go_sem,Qq,Q0,Ja,forall_eq,RS.op,h2];exact hK n h1
 refine Za ?_;refine Qf (Qg ?_);refine Za ?_;refine Qb rfl ?_ ?_
 ·intro hc;rw[hs]at hc;refine Za ?_;refine Zn ?_;exact ret 1 _ ZbS ZX
 intro hc;rw[hs]at hc;refine Za ?_;refine Qb rfl ?_ ?_
 ·intro _;refine Za ?_;refine Zn ?_;exact ret 2 _ ZbS ZX
 intro _;refine Za ?_;refine K8 fun n=>?_;simp only[go_sem,T6];refine Qb rfl ?_ ?_
 ·intro _;refine Za ?_;refine Zn ?_;exact ret 3 _ ZbS ZX
 intro _;refine Za ?_;refine Qb rfl ?_ ?_
 ·intro _;refine Za ?_;refine Zn ?_;exact ret 4 _ ZbS ZX
 intro _;refine Ze ?_;refine Za ?_;refine Qi ?_;exact ret 0 _ ZbS ZX
theorem Du {α:Type}{p:α→Bool}{l:List α}{i:Nat}(h:i<l.length):(l.take (i+1)).all p=((l.take i).all p&&p l[i]):=by
 rw[Jc h,List.all_append];simp
theorem Dr {α:Type}{p:α→Bool}{l:List α}{i:Nat}(h:i<l.length)(hp:p l[i]=false):l.all p=false:=by
 rw[List.all_eq_false];exact⟨l[i],Jd h,by rw[hp];simp⟩
theorem Qbls {s:List UInt8}(hK:K (.c (.bool (s.all AN&&decide (0<s.length)))) H):Qm prog DU [.c (.str s),.c (.int .i64 1)] H K:=by
 refine Qc Aa IN ?_;have retf:∀(b:Bool) (e:Env),(s.all AN&&decide (0<s.length))=b→lk 4 e=.c (.bool b)→Qq Ab K .ret e H:=by
  intro b e h1 h3;simp only[go_sem,Qq,Q0,Ja,forall_eq,RS.op,h3];rw[←h1];exact hK
 refine Za ?_;refine Qz (Qa ?_);simp only[go_sem];refine Qf (Qg (Q3 (fun n e1 H1=>∃i:Nat,n=s.length-i∧i≤s.length∧H1=H∧(s.take i).all AN=true∧e1=[(0,.c (.str s)),(1,.c (.int .i64 1)),(5,.c (.int .i64 i))]) s.length ?_ ?_))
 ·exact⟨0,ZT,ZT,rfl,rfl,rfl⟩
 ·rintro n e1 H1 ⟨i,hn,hi,rfl,aG,rfl⟩;refine Qz (Qa ?_);simp only[go_sem];intro hl;simp only[LIM]at hl;refine Qf (Qb rfl ?_ ?_)
  ·intro hc;have af:i<s.length:=ZU
   have hg:s.getD i 0=s[i]:=Zbo
   refine Ze ?_;refine Qf (Qg ?_);refine Zi af hg ?_;refine Qbar fun cl cG=>?_;simp only[go_sem,Gf];refine Qb rfl ?_ ?_
   ·intro au;have hf:AN s[i]=false:=by
     rw[←cG]
     cases hd:decide (cl=1)with
     |false=>rfl
     |true=>rw[hd]at au;simp at au
    refine Za ?_;refine ZA ?_;exact retf false _ (by rw[Dr af hf];rfl) ZX
   ·intro au;have hf:AN s[i]=true:=by
     rw[←cG]
     cases hd:decide (cl=1)with
     |true=>rfl
     |false=>rw[hd]at au;simp at au
    refine Ze ?_;refine Zo ?_;exact⟨Qv,s.length-(i+1),ZT,i+1,rfl,ZT,by rw[Du af,aG,hf];rfl,rfl⟩
  ·intro hc;have aV:s.length≤i:=ZU
   rw[Jb aV]at aG;refine Zm ?_;refine Za ?_;intro _;refine Qi ?_;exact retf (decide ((0:Int)<(s.length:Int))) _ (by rw[aG,Jk,decide_eq_decide];omega) ZX
theorem Qa10 (hK:K (.c (.sl true 1 (Q5 keysL))) H):Qm prog SD [] H K:=by
 refine Qc Aa Q7r ?_;refine Za ?_;refine Za ?_;refine Zb ?_;exact hK
theorem Qbj6 {α:Type}{p:α→Bool}{l:List α}{i:Nat}(h:i<l.length):(l.take (i+1)).any p=((l.take i).any p || p l[i]):=by
 rw[Jc h,List.any_append];simp
theorem Qaw3 {l:List (List UInt8)}{s:List UInt8}:l.contains s=l.any fun x=>decide (x=s):=by
 rw[Jr,Jae,Jy];constructor
 ·intro h;exact⟨s,h,ZV⟩
 ·rintro⟨x,hx,h⟩;have:x=s:=Zaz
  rw[←this];exact hx
theorem Qblt {s:List UInt8}(hK:K (.c (.bool (keysL.contains s))) H):Qm prog DT [.c (.str s)] H K:=by
 refine Qc Aa IT ?_;rw[Qaw3]at hK;generalize nG:keysL=ss at *;have retf:∀(b:Bool) (e:Env),(ss.any fun x=>decide (x=s))=b→lk 2 e=.c (.bool b)→Qq Ac K .ret e H:=by
  intro b e h1 h3;simp only[go_sem,Qq,Q0,Ja,forall_eq,RS.op,h3];rw[←h1];exact hK
 refine Za ?_;refine Za ?_;refine Qa10 ?_;rw[nG];simp only[go_sem,Ge];refine Qz (Qa ?_);simp only[go_sem];refine Qf (Qg (Q3 (fun n e1 H1=>∃i:Nat,n=ss.length-i∧i≤ss.length∧H1=H∧((ss.take i).any fun x=>decide (x=s))=false∧e1=[(0,.c (.str s)),(3,.c (.sl true 1 (Q5 ss))),(4,.c (.int .i64 i))]) ss.length ?_ ?_))
 ·exact⟨0,ZT,ZT,rfl,rfl,rfl⟩
 ·rintro n e1 H1 ⟨i,hn,hi,rfl,aG,rfl⟩;refine Qz (Qa ?_);simp only[go_sem,Qt];intro hl;simp only[LIM]at hl;refine Qf (Qb rfl ?_ ?_)
  ·intro hc;have af:i<ss.length:=ZU
   have hg:ss.getD i []=ss[i]:=Zbo
   refine Ze ?_;refine Qf (Qg ?_);refine ZN af hg ?_;refine Qb rfl ?_ ?_
   ·intro au;refine Za ?_;refine ZA ?_;exact retf true _ (Jy.2 ⟨ss[i],Jd af,au⟩) ZX
   ·intro au;refine Ze ?_;refine Zo ?_;exact⟨Qv,ss.length-(i+1),ZT,i+1,rfl,ZT,by rw[Qbj6 af,aG,au];rfl,rfl⟩
  ·intro hc;have aV:ss.length≤i:=ZU
   rw[Jb aV]at aG;refine Zm ?_;refine Za ?_;refine Qi ?_;exact retf false _ aG ZX
theorem Tp {s:List UInt8}(hK:K (.c (.bool (Av s))) H):Qm prog EQ [.c (.str s)] H K:=by
 refine Qc Aa NN ?_;refine Za ?_;refine Za ?_;refine Qbls ?_;simp only[go_sem,TS];intro hl;have aE:decide ((s.length:Int)≤4)=decide (s.length≤4):=Zag
 have e0:Av s=((s.all AN&&decide (0<s.length))&&decide (s.length≤4)&&!keysL.contains s):=by
  unfold Av;have:decide (1≤s.length∧s.length≤4)=(decide (0<s.length)&&decide (s.length≤4)):=by
   rw[Jr];simp only[decide_eq_true_eq,Jo];omega
  rw[this];cases s.all AN <;> cases decide (0<s.length) <;> cases decide (s.length≤4) <;> rfl
 have e1:(bif (s.all AN&&decide (0<s.length))then decide ((s.length:Int)≤4)else false)=((s.all AN&&decide (0<s.length))&&decide (s.length≤4)):=by
  rw[aE];cases (s.all AN&&decide (0<s.length)) <;> rfl
 refine⟨fun hb=>?_,fun hb=>?_⟩
 ·refine Qblt ?_;simp only[go_sem,HW];refine Zb ?_;have:(bif (bif (s.all AN&&decide (0<s.length))then decide ((s.length:Int)≤4)else false)then !keysL.contains s else false)=Av s:=by
   rw[e1,e0];cases ((s.all AN&&decide (0<s.length))&&decide (s.length≤4)) <;> rfl
  first|(rw[this];exact hK)|(rw[e0,←e1,hb];exact hK)
 ·simp only[go_sem,HW,hb];refine Zb ?_;have hf:Av s=false:=by
   rw[e0,←e1];have br:=hb
   first|(rw[br];rfl)|(simp at br;simp[br])
  rw[hf]at hK;exact hK
theorem Pc {l:List Ex}{i:Nat}(h:i<l.length):Qw (l.take (i+1))=Qw (l.take i)+(l[i]'h).size:=by
 rw[Jc h,HJ];simp[Qw]
theorem Tt {l:List St}{i:Nat}(h:i<l.length):Qj (l.take (i+1))=Qj (l.take i)+(l[i]'h).size:=by
 rw[Jc h,Cf];simp[Qj]
theorem Vl (l:List Ex)(i:Nat):Qw (l.take i)≤Qw l:=by
 conv=>rhs;rw[←J4 i l,HJ]
 omega
theorem GV (l:List St)(i:Nat):Qj (l.take i)≤Qj l:=by
 conv=>rhs;rw[←J4 i l,Cf]
 omega
theorem Qa2b (l:List Ex):l.length≤Qw l:=by
 induction l with
 |nil=>simp
 |cons x r ih=>simp only[Jn,Qw];have:=x.size_pos;omega
theorem St.size_pos (x:St):1≤x.size:=by rw[x.size_eq];omega
theorem BM (l:List St):l.length≤Qj l:=by
 induction l with
 |nil=>simp
 |cons x r ih=>simp only[Jn,Qj];have:=x.size_pos;omega
theorem K9:∀(n:Nat) (x:Ex) {H:Heap} {K:V→Heap→Prop},x.size≤n→x.size≤2^40→K (.c (.int .i64 x.size)) H→Qm prog RV [.ag x.cells] H K:=by
 intro n
 induction n with
 |zero=>intro x _ _ h;have:=x.size_pos;omega
 |succ n ih=>
 intro x H K hn hb hK;have aO:=x.size_kids;refine Qc Aa Qbg1 ?_;refine Zu ?_;refine Za ?_;refine Qz (Qa ?_);simp only[go_sem];refine Qf (Qg (Q3 (fun n e1 H1=>∃i:Nat,n=x.kids.length-i∧i≤x.kids.length∧H1=H∧e1=[(1,.c (.pp [.int .i64 x.op,.int .i64 x.n,.str x.name,.sl false 4 (Ql x.kids)])),(3,.c (.int .i64 ((1+Qw (x.kids.take i):Nat):Int))),(4,.c (.int .i64 i))]) x.kids.length ?_ ?_))
 ·exact⟨0,ZT,ZT,rfl,Zcf⟩
 ·rintro n e1 H1 ⟨i,hn,hi,rfl,rfl⟩;refine Qz (Qa ?_);simp only[go_sem,Qh];intro hl;simp only[LIM]at hl;refine Qf (Qb rfl ?_ ?_)
  ·intro hc;have af:i<x.kids.length:=ZU
   have hm:=Bn (Jd af);have aY:=Pc af;have mh:=Vl x.kids (i+1);refine Ze ?_;refine Qf (Qg (Qr ?_));simp only[go_sem,af,Qh,Qs _ _ af,Ex.bA,Ex.aU,Ex.ae];refine ih _ ZT ZT ?_;simp only[go_sem,ON];refine⟨Qv,?_⟩;refine Zo ?_;refine⟨Qv,x.kids.length-(i+1),ZT,i+1,rfl,ZT,?_⟩;rw[aY];simp;omega
  ·intro hc;have aV:x.kids.length≤i:=ZU
   refine Zm ?_;refine Za ?_;refine Zb ?_;rw[Jb aV,←aO];exact hK
theorem Qblw:∀(n:Nat) (x:Ex) {H:Heap} {K:V→Heap→Prop} (deep:Int),x.size≤n→deep≤100→(∀b:Bool,K (.c (.bool b)) H)→Qm prog Hr [.ag x.cells,.c (.int .i64 deep)] H K:=by
 intro n
 induction n with
 |zero=>intro x _ _ _ h;have:=x.size_pos;omega
 |succ n ih=>
 intro x H K deep hn hd hK;have aO:=x.size_kids;refine Qc Aa P7 ?_;refine Zu ?_;refine Za ?_;refine Qblx fun lo hi=>?_;simp only[go_sem,Q4y,Jh,Jj];refine Qz (Qa ?_);simp only[go_sem];have retf:∀(b:Bool) (e:Env),lk 4 e=.c (.bool b)→Qq Ab K .ret e H:=by
  intro b e h1;simp only[go_sem,Qq,Q0,Ja,forall_eq,RS.op,h1];exact hK _
 have rest:∀b:Bool,(b=false→1≤deep)→Q6 prog (s_l2Form_3.seq Q4x) (Qq Ab K)
   [(1,.c (.int .i64 deep)),(2,.c (.pp [.int .i64 x.op,.int .i64 x.n,.str x.name,.sl false 4 (Ql x.kids)])),(31,.c (.bool b))] H:=by
  intro b hb;refine Qf (Qb rfl ?_ ?_)
  ·intro hc;refine Za ?_;refine Zn ?_;exact retf false _ ZX
  intro hc;have fX:=hb hc;refine Ze ?_;refine Za ?_;refine Qz (Qa ?_);simp only[go_sem];refine DX fun b1=>?_;simp only[go_sem,Q4z];have rest2:∀b:Bool,Q6 prog (s_l2Form_6.seq Q4w) (Qq Ab K)
    [(1,.c (.int .i64 deep)),(2,.c (.pp [.int .i64 x.op,.int .i64 x.n,.str x.name,.sl false 4 (Ql x.kids)])),(69,.c (.bool b))] H:=by
   intro b;refine Qf (Qb rfl ?_ ?_)
   ·intro hc;refine Za ?_;refine Zn ?_;exact retf false _ ZX
   intro hc;refine Ze ?_;refine Qz (Qa ?_);simp only[go_sem];refine Qf (Qg (Q3 (fun n e1 H1=>∃i:Nat,n=x.kids.length-i∧i≤x.kids.length∧H1=H∧e1=[(1,.c (.int .i64 deep)),(2,.c (.pp [.int .i64 x.op,.int .i64 x.n,.str x.name,.sl false 4 (Ql x.kids)])),(8,.c (.int .i64 i))]) x.kids.length ?_ ?_))
   ·exact⟨0,ZT,ZT,rfl,rfl⟩
   ·rintro n e1 H1 ⟨i,hn,hi,rfl,rfl⟩;refine Qz (Qa ?_);simp only[go_sem,Qh];intro hl;simp only[LIM]at hl;refine Qf (Qb rfl ?_ ?_)
    ·intro hc;have af:i<x.kids.length:=ZU;have hm:=Bn (Jd af);refine Ze ?_;refine Qf (Qg ?_);refine ZJ af ?_;refine⟨Qv,?_⟩;refine ih _ (deep-1) ZT ZT fun b2=>?_;simp only[go_sem,Q40];refine Qb rfl ?_ ?_
     ·intro au;refine Za ?_;refine ZA ?_;exact retf false _ ZX
     ·intro au;refine Ze ?_;refine Zo ?_;exact⟨Qv,x.kids.length-(i+1),ZT,i+1,rfl,ZT,rfl⟩
    ·intro hc;refine Zm ?_;refine Za ?_;refine Qi ?_;exact retf true _ ZX
  refine⟨fun bh=>?_,fun bh=>?_⟩
  ·refine C6 ?_;simp only[go_sem,HG];exact rest2 _
  ·replace bh:=Be bh;simp only[go_sem,HG,bh];exact rest2 _
 refine⟨fun bh=>?_,fun bh=>?_⟩
 ·replace bh:=BD bh;have fX:1≤deep:=Zbu
  refine C6 ?_;simp only[go_sem,HH,bh,Qh,cond_false];intro hl;refine⟨fun bM=>?_,fun bM=>?_⟩
  ·refine C6 ?_;simp only[go_sem,EO];exact rest _ (fun _=>fX)
  ·replace bM:=Be bM;simp only[go_sem,EO,bM];exact rest _ (fun _=>fX)
 ·replace bh:=Be bh;simp only[go_sem,HH,EO,bh,Qh,cond_true];exact rest _ (fun h=>Zaa)
theorem Qa1x {x:Ex}(hx:x.size≤2^40)(hK:∀b:Bool,K (.c (.bool b)) H):Qm prog SO [.ag x.cells] H K:=by
 refine Qc Aa Q2i ?_;refine Qa ?_;simp only[go_sem,Ex.ne_nil];refine Qa ?_;simp only[go_sem,Ex.bA,Ex.aU,Ex.ae];refine Qblw x.size x 6 (Ji _) ZT fun b=>?_;simp only[go_sem,V1,Ex.bA,Ex.aU,Ex.ae];refine⟨fun hb=>?_,fun hb=>?_⟩
 ·refine K9 x.size x (Ji _) hx ?_;simp only[go_sem,HZ];refine Zb ?_;exact hK _
 ·simp only[go_sem,HZ,hb];refine Zb ?_;exact hK _
theorem Qbgf {op:Int}(hK:K (.tup [.c (.int .i64 (AX op)),.c (.int .i64 (AS op))]) H):Qm prog Tq [.c (.int .i64 op)] H K:=by
 refine Qc Aa P6 ?_;refine Za ?_;refine Qz (Qa ?_);simp only[go_sem];have ret:∀(a b:Int) (e:Env),AX op=a→AS op=b→lk 2 e=.c (.int .i64 a)→lk 3 e=.c (.int .i64 b)→Qq Dt K .ret e H:=by
  intro a b e h1 h2 h3 h4;simp only[go_sem,Qq,Q0,Jv,RS.op,h3,h4];rw[h1,h2]at hK;exact hK
 refine Qf (Qg ?_);refine Qz (Qa ?_);simp only[go_sem];have r5:∀(b:Bool),b=decide (op=1∨op=2)→Q6 prog Gc (X.inBlock 0 (X.sq prog Hs (Qq Dt K))) [(4,.c (.int .i64 op)),(5,.c (.bool b))] H:=by
  intro b hb;refine Qb rfl ?_ ?_
  ·intro hc;rw[hb,decide_eq_true_eq]at hc;refine Za ?_;refine Zn ?_;exact ret 0 0 _ (by rw[AX,if_pos (by omega)]) (by rw[AS,if_pos hc]) ZX ZX
  intro hc;rw[hb,decide_eq_false_iff_not]at hc;refine Qz (Qa ?_);simp only[go_sem];have r8:∀(b:Bool),b=decide (op=11∨op=12)→Q6 prog Gd (X.inBlock 0 (X.sq prog Hs (Qq Dt K))) [(4,.c (.int .i64 op)),(8,.c (.bool b))] H:=by
   intro b bM;refine Qb rfl ?_ ?_
   ·intro au;rw[bM,decide_eq_true_eq]at au;refine Za ?_;refine Zn ?_;exact ret 1 1 _ (by rw[AX,if_neg (by omega),if_pos au]) (by rw[AS,if_neg hc,if_pos au]) ZX ZX
   intro au;rw[bM,decide_eq_false_iff_not]at au;refine Za ?_;refine Qb rfl ?_ ?_
   ·intro bT;have bT:op=13:=Zaq;refine Za ?_;refine Zn ?_;exact ret 0 3 _ (by rw[AX,if_pos (by omega)]) (by rw[AS,if_neg hc,if_neg au,if_pos bT]) ZX ZX
   ·intro bT;have bT:¬op=13:=Zaq;refine Ze ?_;refine Za ?_;refine Qi ?_;exact ret 2 2 _ (by rw[AX,if_neg (by omega),if_neg au]) (by rw[AS,if_neg hc,if_neg au,if_neg bT]) ZX ZX
  refine Qf (Qb rfl ?_ ?_)
  ·intro au;have cM:op=11:=ZZ
   refine Ze ?_;exact r8 _ (by rw[au];symm;rw[decide_eq_true_eq];exact .inl cM)
  ·intro au;have cM:¬op=11:=ZZ
   refine Zp ?_;exact r8 _ Zag
 refine Qf (Qb rfl ?_ ?_)
 ·intro hc;have h1:op=1:=ZU
  refine Ze ?_;exact r5 _ (by rw[hc];symm;rw[decide_eq_true_eq];exact .inl h1)
 ·intro hc;have h1:¬op=1:=ZU
  refine Zp ?_;exact r5 _ Zag
def exA (op:Int)(k:Nat)(d:Int):Bool:=decide (1≤d)&&decide (1≤op∧op≤13)&&decide (AX op≤(k:Int)∧(k:Int)≤AS op)
def exB (op n:Int)(name:List UInt8):Bool:=(decide (op=2∨op=13) == Av name)&&(decide (op=2∨op=13) || decide (name=[]))&&decide (0≤n∧n≤255)&&(decide (op=1) || decide (n=0))
theorem Qbp0 (x:Ex)(d:Int):x.form d=(exA x.op x.kids.length d&&(exB x.op x.n x.name&&x.kids.all fun y=>y.form (d-1))):=by
 rw[x.form_eq,Ez,exA,exB,Sk];simp only[J3]
theorem BH (a b:Bool):(bif a then true else b)=(a || b):=by cases a <;> rfl
theorem BK (a b:Bool):(bif a then b else false)=(a&&b):=by cases a <;> rfl
theorem Qbaa {a b:Int}:decide (a<b) = !decide (b≤a):=by
 rw[Jr];simp only[decide_eq_true_eq,J5,decide_eq_false_iff_not];omega
theorem Qbge:∀(n:Nat) (x:Ex) {H:Heap} {K:V→Heap→Prop} (deep:Int),x.size≤n→deep≤100→K (.c (.bool (x.form deep))) H→Qm prog Hr [.ag x.cells,.c (.int .i64 deep)] H K:=by
 intro n
 induction n with
 |zero=>intro x _ _ _ h;have:=x.size_pos;omega
 |succ n ih=>
 intro x H K deep hn hd hK;rw[Qbp0]at hK;have aO:=x.size_kids;refine Qc Aa P7 ?_;refine Zu ?_;refine Za ?_;refine Qbgf ?_;simp only[go_sem,Q4y,Jh,Jj];refine Qz (Qa ?_);simp only[go_sem];have retf:∀(b:Bool) (e:Env),(exA x.op x.kids.length deep&&(exB x.op x.n x.name&&x.kids.all fun y=>y.form (deep-1)))=b→lk 4 e=.c (.bool b)→Qq Ab K .ret e H:=by
  intro b e h0 h1;simp only[go_sem,Qq,Q0,Ja,forall_eq,RS.op,h1];rw[←h0];exact hK
 have rest:∀b:Bool,b = !exA x.op x.kids.length deep→Q6 prog (s_l2Form_3.seq Q4x) (Qq Ab K)
   [(1,.c (.int .i64 deep)),(2,.c (.pp [.int .i64 x.op,.int .i64 x.n,.str x.name,.sl false 4 (Ql x.kids)])),(31,.c (.bool b))] H:=by
  intro b hb;refine Qf (Qb rfl ?_ ?_)
  ·intro hc;refine Za ?_;refine Zn ?_;have hA:exA x.op x.kids.length deep=false:=Zan
   exact retf false _ (by rw[hA];rfl) ZX
  intro hc;have hA:exA x.op x.kids.length deep=true:=Zan
  have fX:1≤deep:=by
   have:=hA;simp only[exA,Jo,decide_eq_true_eq]at this;exact this.1.1
  rw[hA,Jk]at retf;refine Ze ?_;refine Za ?_;refine Qz (Qa ?_);simp only[go_sem];refine Tp ?_;simp only[go_sem,Q4z];have rest2:∀b:Bool,b = !exB x.op x.n x.name→Q6 prog (s_l2Form_6.seq Q4w) (Qq Ab K)
    [(1,.c (.int .i64 deep)),(2,.c (.pp [.int .i64 x.op,.int .i64 x.n,.str x.name,.sl false 4 (Ql x.kids)])),(69,.c (.bool b))] H:=by
   intro b hb;refine Qf (Qb rfl ?_ ?_)
   ·intro hc;have hB:exB x.op x.n x.name=false:=Zan;refine Za ?_;refine Zn ?_;exact retf false _ (by rw[hB];rfl) ZX
   intro hc;have hB:exB x.op x.n x.name=true:=Zan
   rw[hB,Jk]at retf;refine Ze ?_;refine Qz (Qa ?_);simp only[go_sem];refine Qf (Qg (Q3 (fun n e1 H1=>∃i:Nat,n=x.kids.length-i∧i≤x.kids.length∧H1=H∧((x.kids.take i).all fun y=>y.form (deep-1))=true∧e1=[(1,.c (.int .i64 deep)),(2,.c (.pp [.int .i64 x.op,.int .i64 x.n,.str x.name,.sl false 4 (Ql x.kids)])),(8,.c (.int .i64 i))]) x.kids.length ?_ ?_))
   ·exact⟨0,ZT,ZT,rfl,rfl,rfl⟩
   ·rintro n e1 H1 ⟨i,hn,hi,rfl,aG,rfl⟩;refine Qz (Qa ?_);simp only[go_sem,Qh];intro hl;simp only[LIM]at hl;refine Qf (Qb rfl ?_ ?_)
    ·intro hc;have af:i<x.kids.length:=ZU;have hm:=Bn (Jd af);refine Ze ?_;refine Qf (Qg ?_);refine ZJ af ?_;refine⟨Qv,?_⟩;refine ih _ (deep-1) ZT ZT ?_;simp only[go_sem,Q40];refine Qb rfl ?_ ?_
     ·intro au;refine Za ?_;refine ZA ?_;exact retf false _ (Dr af (BD au)) ZX
     ·intro au;refine Ze ?_;refine Zo ?_;exact⟨Qv,x.kids.length-(i+1),ZT,i+1,rfl,ZT,by rw[Du af,aG,Be au];rfl,rfl⟩
    ·intro hc;have aV:x.kids.length≤i:=ZU;rw[Jb aV]at aG;refine Zm ?_;refine Za ?_;refine Qi ?_;exact retf true _ aG ZX
  refine⟨fun bh=>?_,fun bh=>?_⟩
  ·refine C6 ?_;simp only[go_sem,HG];refine rest2 _ ?_;simp only[BH,BK,exB];by_cases h1:x.op=1 <;> by_cases h2:x.op=2 <;> by_cases h3:x.op=13 <;> cases Av x.name <;> by_cases h4:x.name=[] <;> by_cases h5:(0≤x.n∧x.n≤255) <;> by_cases h6:x.n=0 <;> simp[h1,h2,h3,h4,h5,h6]
  ·replace bh:=Be bh;simp only[go_sem,HG,bh];refine rest2 _ ?_;simp only[BH,BK,exB]at bh⊢;revert bh;by_cases h1:x.op=1 <;> by_cases h2:x.op=2 <;> by_cases h3:x.op=13 <;> cases Av x.name <;> by_cases h4:x.name=[] <;> by_cases h5:(0≤x.n∧x.n≤255) <;> by_cases h6:x.n=0 <;> simp[h1,h2,h3,h4,h5,h6]
 refine⟨fun bh=>?_,fun bh=>?_⟩
 ·replace bh:=BD bh;have fX:1≤deep:=Zbu
  refine C6 ?_;simp only[go_sem,HH,bh,Qh,cond_false];intro hl;refine⟨fun bM=>?_,fun bM=>?_⟩
  ·refine C6 ?_;simp only[go_sem,EO];refine rest _ ?_;simp only[BH,exA];have hd1:decide (1≤deep)=true:=decide_eq_true fX;rw[hd1];cases decide (1≤x.op∧x.op≤13) <;> cases decide (AX x.op≤(x.kids.length:Int)∧(x.kids.length:Int)≤AS x.op) <;> rfl
  ·replace bM:=Be bM;simp only[go_sem,EO,bM];refine rest _ ?_;have b7:decide (1≤x.op∧x.op≤13)=false:=by
    cases h:decide (1≤x.op∧x.op≤13)with
    |false=>rfl
    |true=>rw[h]at bM;simp at bM
   simp only[exA,b7,Jav,Jai,Jad]
 ·replace bh:=Be bh;simp only[go_sem,HH,EO,bh,Qh,cond_true];refine rest _ ?_;have fX:decide (1≤deep)=false:=by
   rw[decide_eq_false_iff_not];simp at bh;omega
  simp only[exA,fX,Jai,Jad]
theorem Qawx {x:Ex}(hx:x.size≤2^40)(hK:K (.c (.bool x.valid)) H):Qm prog SO [.ag x.cells] H K:=by
 refine Qc Aa Q2i ?_;refine Qa ?_;simp only[go_sem,Ex.ne_nil];refine Qa ?_;simp only[go_sem,Ex.bA,Ex.aU,Ex.ae];refine Qbge x.size x 6 (Ji _) ZT ?_;simp only[go_sem,V1,Ex.bA,Ex.aU,Ex.ae];have e:decide ((x.size:Int)≤30)=decide (x.size≤30):=Zag
 refine⟨fun hb=>?_,fun hb=>?_⟩
 ·refine K9 x.size x (Ji _) hx ?_;simp only[go_sem,HZ];refine Zb ?_;rw[Ex.valid,hb]at hK
  first|(rw[e];exact hK)|(rw[hb,e];exact hK)|(simp only[hb,e,cond_true];exact hK)
 ·simp only[go_sem,HZ,hb];refine Zb ?_;rw[Ex.valid,hb]at hK;exact hK
def St.raw (x:St):List C:=[.int .i64 x.op,.str x.name,.sl false 4 (Ql x.args),.sl false 5 (Qk x.body),.sl false 5 (Qk x.els)]
theorem Qbgj:∀(n:Nat) (l:List St) {fl:Bool} {H:Heap} {K:V→Heap→Prop},Qj l≤n→Qj l≤2^40→(∀v:Nat,v≤Qj l→K (.c (.int .i64 v)) H)→Qm prog GM [.c (.sl fl 5 (Qk l))] H K:=by
 intro n
 induction n using Nat.strongRecOn with
 |ind n ih=>
 intro l fl H K hn hb hK;have aM:=BM l;refine Qc Aa KK ?_;refine Za ?_;refine Qa ?_;simp only[go_sem,Qp];intro hl;refine Qz (Qa ?_);simp only[go_sem];refine Qf (Qg (Q3 (fun n e1 H1=>∃(i v:Nat),n=l.length-i∧i≤l.length∧v≤(l.length-i)+Qj (l.take i)∧H1=H∧e1=[(0,.c (.sl fl 5 (Qk l))),(3,.c (.int .i64 v)),(4,.c (.int .i64 i))]) l.length ?_ ?_))
 ·exact⟨0,l.length,ZT,ZT,ZT,rfl,rfl⟩
 ·rintro n e1 H1 ⟨i,v,eM,hi,hv,rfl,rfl⟩;refine Qz (Qa ?_);simp only[go_sem,Qp];simp only[LIM]at hl;refine fun _=>?_;refine Qf (Qb rfl ?_ ?_)
  ·intro hc;have af:i<l.length:=ZU
   have hm:=Bw (Jd af);have aY:=Tt af;have mh:=GV l (i+1);have gW:=(l[i]'af).size_eq;refine Ze ?_;refine Qf (Qg (Bf ?_));simp only[go_sem,af,Qp,Q9 _ _ af,St.aa];refine ih (Qj l[i].body) ZT l[i].body (Ji _) ZT fun a ha=>?_;simp only[go_sem,T4,af,Qp,Q9 _ _ af,St.aa];refine⟨Qv,?_⟩;refine ih (Qj l[i].els) ZT l[i].els (Ji _) ZT fun c hc=>?_;simp only[go_sem,T5];refine⟨Qv,?_⟩;refine Zo ?_;refine⟨Qv,l.length-(i+1),ZT,i+1,v+a+c,rfl,ZT,ZT,rfl⟩
  ·intro hc;have aV:l.length≤i:=ZU
   refine Zm ?_;refine Za ?_;refine Zb ?_;rw[Jb aV]at hv;exact hK v ZT
def Im (n:Nat):Prop:=∀(x:St) (deep:Int) (H:Heap) (K:V→Heap→Prop),x.size≤n→x.size≤2^40→deep≤100→(∀b:Bool,K (.c (.bool b)) H)→Qm prog To [.ag x.cells,.c (.int .i64 deep)] H K
def Fo (n:Nat):Prop:=∀(l:List St) (deep:Int) (fl:Bool) (H:Heap) (K:V→Heap→Prop),Qj l≤n→Qj l≤2^40→deep≤100→(∀b:Bool,K (.c (.bool b)) H)→Qm prog GL [.c (.sl fl 5 (Qk l)),.c (.int .i64 deep)] H K
theorem Qbny {n:Nat}(hS:Im n):Fo n:=by
 intro l deep fl H K hn hb hd hK;refine Qc Aa K0 ?_;have retf:∀(b:Bool) (e:Env),lk 4 e=.c (.bool b)→Qq Ab K .ret e H:=by
  intro b e h1;simp only[go_sem,Qq,Q0,Ja,forall_eq,RS.op,h1];exact hK _
 refine Za ?_;refine Qz (Qa ?_);simp only[go_sem];refine Qf (Qg (Q3 (fun n e1 H1=>∃(i:Nat),n=l.length-i∧i≤l.length∧H1=H∧e1=[(0,.c (.sl fl 5 (Qk l))),(1,.c (.int .i64 deep)),(5,.c (.int .i64 i))]) l.length ?_ ?_))
 ·exact⟨0,ZT,ZT,rfl,rfl⟩
 ·rintro n e1 H1 ⟨i,eM,hi,rfl,rfl⟩;refine Qz (Qa ?_);simp only[go_sem,Qp];intro hl;simp only[LIM]at hl;refine Qf (Qb rfl ?_ ?_)
  ·intro hc;have af:i<l.length:=ZU
   have hm:=Bw (Jd af);refine Ze ?_;refine Qf (Qg ?_);refine Qa ?_;simp only[go_sem,af,Qp,Q9 _ _ af,St.take5,St.aU,St.ae];refine hS _ deep _ _ ZT ZT hd fun b=>?_;simp only[go_sem,T1];refine Qb rfl ?_ ?_
   ·intro au;refine Za ?_;refine ZA ?_;exact retf false _ ZX
   ·intro au;refine Ze ?_;refine Zo ?_;exact⟨Qv,l.length-(i+1),ZT,i+1,rfl,ZT,rfl⟩
  ·intro hc;refine Zm ?_;refine Za ?_;refine Qi ?_;exact retf true _ ZX
theorem Qbq9 {n:Nat}(hS:∀m,m<n→Fo m):Im n:=by
 intro x deep H K hn hb hd hK;have aO:=x.size_eq;refine Qc Aa PZ ?_;have retf:∀(b:Bool) (e:Env),lk 4 e=.c (.bool b)→Qq Ab K .ret e H:=by
  intro b e h1;simp only[go_sem,Qq,Q0,Ja,forall_eq,RS.op,h1];exact hK _
 refine Zu ?_;refine Qz (An ?_);simp only[go_sem];have rest:∀b:Bool,(b=false→1≤deep∧x.args.length=if x.op=4 then 2 else 1)→Q6 prog (s_l3Stmt_2.seq Q43) (Qq Ab K)
   [(1,.c (.int .i64 deep)),(2,.c (.pp [.int .i64 x.op,.str x.name,.sl false 4 (Ql x.args),.sl false 5 (Qk x.body),.sl false 5 (Qk x.els)])),(23,.c (.bool b))] H:=by
  intro b hb;refine Qf (Qb rfl ?_ ?_)
  ·intro hc;refine Za ?_;refine Zn ?_;exact retf false _ ZX
  intro hc;obtain⟨fX,li⟩:=hb hc;have nK:0<x.args.length:=by rw[li];split <;> omega
  refine Ze ?_;refine Za ?_;refine Qz (Qa ?_);simp only[go_sem];refine DX fun b1=>?_;simp only[go_sem,Q44];refine Qf (Qb rfl ?_ ?_)
  ·intro hc;refine Za ?_;refine Zn ?_;exact retf false _ ZX
  intro hc;refine Ze ?_;refine Qz (Qa ?_);simp only[go_sem];refine Qf (Qg (Q3 (fun n e1 H1=>∃(i:Nat),n=x.args.length-i∧i≤x.args.length∧H1=H∧e1=[(1,.c (.int .i64 deep)),(2,.c (.pp [.int .i64 x.op,.str x.name,.sl false 4 (Ql x.args),.sl false 5 (Qk x.body),.sl false 5 (Qk x.els)])),(6,.c (.int .i64 i))]) x.args.length ?_ ?_))
  ·exact⟨0,ZT,ZT,rfl,rfl⟩
  ·rintro n e1 H1 ⟨i,eM,hi,rfl,rfl⟩;refine Qz (Qa ?_);simp only[go_sem,Qh];intro hl;simp only[LIM]at hl;refine Qf (Qb rfl ?_ ?_)
   ·intro hc;have af:i<x.args.length:=ZU;have hm:=Bn (Jd af);refine Ze ?_;refine Qf (Qg ?_);refine ZJ af ?_;refine Qa1x ZT fun b=>?_;simp only[go_sem,Q45];refine Qb rfl ?_ ?_
    ·intro au;refine Za ?_;refine ZA ?_;exact retf false _ ZX
    ·intro au;refine Ze ?_;refine Zo ?_;exact⟨Qv,x.args.length-(i+1),ZT,i+1,rfl,ZT,rfl⟩
   ·intro hc;refine Zm ?_;refine Qz (Qa ?_);simp only[go_sem,nK,Qh,Qs _ _ nK,Ex.aa];refine⟨fun _=>Ja4 _,?_⟩;refine Qf (Qb rfl ?_ ?_)
    ·intro hc;refine Za ?_;refine Zn ?_;exact retf false _ ZX
    intro hc;refine Ze ?_;refine Qz (Qa ?_);simp only[go_sem,Qp]
    intros
    refine Qf (Qb rfl ?_ ?_)
    ·intro hc;refine Za ?_;refine Zn ?_;exact retf false _ ZX
    intro hc;refine Ze ?_;refine Za ?_;refine⟨Qv,?_⟩;refine hS (Qj x.body) ZT _ _ _ _ _ (Ji _) ZT ZT fun b1=>?_;simp only[go_sem,T2];refine⟨fun _=>Qv,?_⟩;refine⟨fun bh=>?_,fun bh=>?_⟩
    ·refine hS (Qj x.els) ZT _ _ _ _ _ (Ji _) ZT ZT fun b2=>?_;simp only[go_sem,HP];refine Qi ?_;exact retf _ _ Zb2
    ·simp only[go_sem,HP,bh];refine Qi ?_;exact retf false _ ZX
 refine⟨fun bh=>?_,fun bh=>?_⟩
 ·replace bh:=BD bh;have fX:1≤deep:=Zbu
  refine C6 ?_;simp only[go_sem,HE,bh,Qh,cond_false];refine⟨fun bM=>?_,fun bM=>?_⟩
  ·refine PG ?_;simp only[go_sem,EN,Qh];refine rest _ (fun h=>⟨fX,?_⟩);have h1:(x.args.length:Int)=if x.op=4 then 2 else 1:=by
    cases h2:decide (1≤x.op∧x.op≤8) <;> rw[h2]at h <;> simp_all
   by_cases h4:x.op=4
   ·rw[if_pos h4]at h1⊢;omega
   ·rw[if_neg h4]at h1⊢;omega
  ·replace bM:=Be bM;simp only[go_sem,EN,bM,Qh];exact rest _ (fun h=>Zaa)
 ·replace bh:=Be bh;simp only[go_sem,HE,EN,bh,Qh,cond_true];exact rest _ (fun h=>Zaa)
theorem YL (n:Nat):Fo n:=by
 induction n using Nat.strongRecOn with
 |ind n ih=>exact Qbny (Qbq9 ih)
theorem Yl {f:Fn}(hf:Qj f.body≤2^40)(hK:∀b:Bool,K (.c (.bool b)) H):Qm prog Gy [.ag f.cells] H K:=by
 refine Qc Aa Iv ?_;have retf:∀(b:Bool) (e:Env),lk 2 e=.c (.bool b)→Qq Ac K .ret e H:=by
  intro b e h1;simp only[go_sem,Qq,Q0,Ja,forall_eq,RS.op,h1];exact hK _
 refine ZP ?_;refine Qz (Qa ?_);simp only[go_sem];refine Qf (Qg (Q3 (fun n e1 H1=>∃(i:Nat),n=f.params.length-i∧i≤f.params.length∧H1=H∧e1=[(1,.c (.pp [.str f.name,.sl false 1 (Q5 f.params),.sl false 5 (Qk f.body)])),(3,.c (.int .i64 i))]) f.params.length ?_ ?_))
 ·exact⟨0,ZT,ZT,rfl,rfl⟩
 ·rintro n e1 H1 ⟨i,eM,hi,rfl,rfl⟩;refine Qz (Qa ?_);simp only[go_sem,Qt];intro hl;simp only[LIM]at hl;refine Qf (Qb rfl ?_ ?_)
  ·intro hc;have af:i<f.params.length:=ZU
   refine Ze ?_;refine Qf (Qg ?_);refine Qa ?_;simp only[go_sem,af,Qt,BT _ _ af];refine DX fun b=>?_;simp only[go_sem,FJ];refine Qb rfl ?_ ?_
   ·intro au;refine Za ?_;refine ZA ?_;exact retf false _ ZX
   ·intro au;refine Ze ?_;refine Zo ?_;exact⟨Qv,f.params.length-(i+1),ZT,i+1,rfl,ZT,rfl⟩
  ·intro hc;refine Zm ?_;refine Za ?_;refine DX fun b=>?_;simp only[go_sem,FI,Qt]
   intros
   refine⟨fun bh=>?_,fun bh=>?_⟩
   ·refine YL _ _ _ _ _ _ (Ji _) hf ZT fun b2=>?_;simp only[go_sem,Hn];refine Qi ?_;exact retf _ _ Zb2
   ·simp only[go_sem,Hn,bh];refine Qi ?_;exact retf false _ ZX
def Qn:List Fn→Nat
 |[]=>0
 |f::r=>Qj f.body+Qn r
theorem Cm {l:List Fn}{f:Fn}(h:f∈l):Qj f.body≤Qn l:=by
 induction l with
 |nil=>simp at h
 |cons g r ih=>
  simp only[Qn];rcases Jg.1 h with rfl|h
  ·omega
  ·have:=ih h;omega
theorem Sw (a b:List Fn):Qn (a++b)=Qn a+Qn b:=by
 induction a with
 |nil=>simp[Qn]
 |cons x r ih=>simp only[J7,Qn,ih];omega
theorem Q7v {l:List Fn}{i:Nat}(h:i<l.length):Qn (l.take (i+1))=Qn (l.take i)+Qj (l[i]'h).body:=by
 rw[Jc h,Sw];simp[Qn]
theorem Vv (l:List Fn)(i:Nat):Qn (l.take i)≤Qn l:=by
 conv=>rhs;rw[←J4 i l,Sw]
 omega
theorem Qbqf {l:List Fn}{fl:Bool}(hf:Qn l≤2^40)(hK:∀n:Int,K (.c (.int .i64 n)) H):Qm prog FA [.ag [.sl fl 3 (Qo l)]] H K:=by
 refine Qc Aa IR ?_;refine Za ?_;refine Za ?_;refine Qz (Qa ?_);simp only[go_sem];refine Qf (Qg (Q3 (fun n e1 H1=>∃(i v:Nat),n=l.length-i∧i≤l.length∧v≤Qn (l.take i)∧H1=H∧e1=[(1,.c (.pp [.sl fl 3 (Qo l)])),(3,.c (.int .i64 v)),(4,.c (.int .i64 i))]) l.length ?_ ?_))
 ·exact⟨0,0,ZT,ZT,ZT,rfl,rfl⟩
 ·rintro n e1 H1 ⟨i,v,eM,hi,hv,rfl,rfl⟩;refine Qz (Qa ?_);simp only[go_sem,Qu];intro hl;simp only[LIM]at hl;refine Qf (Qb rfl ?_ ?_)
  ·intro hc;have af:i<l.length:=ZU
   have hm:=Cm (Jd af);have aY:=Q7v af;have mh:=Vv l (i+1);refine Ze ?_;refine Qf (Qg (Qr ?_));simp only[go_sem,af,Qu,AB _ _ af,Fn.cells];refine Qbgj _ _ (Ji _) ZT fun c hc=>?_;simp only[go_sem,Ga];refine⟨Qv,?_⟩;refine Zo ?_;exact⟨Qv,l.length-(i+1),ZT,i+1,v+c,rfl,ZT,ZT,rfl⟩
  ·intro hc;refine Zm ?_;refine Za ?_;refine Zb ?_;exact hK _
theorem Qapj {l:List Fn}{fl:Bool}(hf:Qn l≤2^40)(hK:∀b:Bool,K (.c (.bool b)) H):Qm prog VB [.ag [.sl fl 3 (Qo l)]] H K:=by
 refine Qc Aa Qpw ?_;have retf:∀(b:Bool) (e:Env),lk 2 e=.c (.bool b)→Qq Ac K .ret e H:=by
  intro b e h1;simp only[go_sem,Qq,Q0,Ja,forall_eq,RS.op,h1];exact hK _
 refine Za ?_;refine Qz (Qa ?_);simp only[go_sem,Qu];intro hl;simp only[LIM]at hl;refine C6 ?_;simp only[go_sem,VI];refine Qf (Qb rfl ?_ ?_)
 ·intro hc;refine Za ?_;refine Zn ?_;exact retf false _ ZX
 intro hc;refine Ze ?_;refine Qz (Qa ?_);simp only[go_sem];refine Qf (Qg (Q3 (fun n e1 H1=>∃(i:Nat),n=l.length-i∧i≤l.length∧H1=H∧e1=[(1,.c (.pp [.sl fl 3 (Qo l)])),(3,.c (.int .i64 i))]) l.length ?_ ?_))
 ·exact⟨0,ZT,ZT,rfl,rfl⟩
 ·rintro n e1 H1 ⟨i,eM,hi,rfl,rfl⟩;refine Qz (Qa ?_);simp only[go_sem,Qu];refine fun _=>?_;refine Qf (Qb rfl ?_ ?_)
  ·intro hc;have af:i<l.length:=ZU
   have hm:=Cm (Jd af);refine Ze ?_;refine Qf (Qg ?_);refine Qa ?_;simp only[go_sem,af,Qu,AB _ _ af,Fn.take3,Fn.aU,Fn.ae];refine Yl ZT fun b=>?_;simp only[go_sem,VH];refine Qb rfl ?_ ?_
   ·intro au;refine Za ?_;refine ZA ?_;exact retf false _ ZX
   ·intro au;refine Ze ?_;refine Zo ?_;exact⟨Qv,l.length-(i+1),ZT,i+1,rfl,ZT,rfl⟩
  ·intro hc;refine Zm ?_;refine Za ?_;refine Qbqf hf fun n=>?_;simp only[go_sem,VG];refine Qi ?_;exact retf _ _ Zb2
mutual
theorem St.cnt_le:∀(x:St),x.cnt≤x.size
 |.mk op name args body els=>by
  have h1:=Hm body;have h2:=Hm els;simp only[St.cnt,St.size];omega
theorem Hm:∀(l:List St),As l≤Qj l
 |[]=>by simp[As]
 |x::r=>by
  have h1:=St.cnt_le x;have h2:=Hm r;simp only[As,Qj];omega
end
theorem Qbee (l:List St):As l=l.length+(l.map fun x=>As x.body+As x.els).sum:=by
 induction l with
 |nil=>simp[As]
 |cons x r ih=>simp only[As,Jn,J2,List.sum_cons,ih,x.cnt_eq];omega
def inC (l:List St):Nat:=(l.map fun x=>As x.body+As x.els).sum
theorem Qbld {l:List St}{i:Nat}(h:i<l.length):inC (l.take (i+1))=inC (l.take i)+(As (l[i]'h).body+As (l[i]'h).els):=by
 rw[inC,inC,Jc h,Ju,Ja0];simp
theorem Yn (l:List St)(i:Nat):inC (l.take i)≤inC l:=by
 have:inC l=inC (l.take i)+inC (l.drop i):=by rw[inC,inC,inC,←Ja0,←Ju,J4]
 omega
theorem Qbas:∀(n:Nat) (l:List St) {fl:Bool} {H:Heap} {K:V→Heap→Prop},Qj l≤n→Qj l≤2^40→K (.c (.int .i64 (As l))) H→Qm prog GM [.c (.sl fl 5 (Qk l))] H K:=by
 intro n
 induction n using Nat.strongRecOn with
 |ind n ih=>
 intro l fl H K hn hb hK;have aM:=BM l;have nR:=Qbee l;have cG:=Hm l;change As l=l.length+inC l at nR;refine Qc Aa KK ?_;refine Za ?_;refine Qa ?_;simp only[go_sem,Qp];intro hl;refine Qz (Qa ?_);simp only[go_sem];refine Qf (Qg (Q3 (fun n e1 H1=>∃(i:Nat),n=l.length-i∧i≤l.length∧H1=H∧e1=[(0,.c (.sl fl 5 (Qk l))),(3,.c (.int .i64 ((l.length+inC (l.take i):Nat):Int))),(4,.c (.int .i64 i))]) l.length ?_ ?_))
 ·exact⟨0,ZT,ZT,rfl,rfl⟩
 ·rintro n e1 H1 ⟨i,eM,hi,rfl,rfl⟩;refine Qz (Qa ?_);simp only[go_sem,Qp];simp only[LIM]at hl;refine fun _=>?_;refine Qf (Qb rfl ?_ ?_)
  ·intro hc;have af:i<l.length:=ZU
   have hm:=Bw (Jd af);have gW:=(l[i]'af).size_eq;have oY:=Qbld af;have oZ:=Yn l (i+1);refine Ze ?_;refine Qf (Qg (Bf ?_));simp only[go_sem,af,Qp,Q9 _ _ af,St.aa];refine ih (Qj l[i].body) ZT l[i].body (Ji _) ZT ?_;simp only[go_sem,T4,af,Qp,Q9 _ _ af,St.aa];refine⟨Qv,?_⟩;refine ih (Qj l[i].els) ZT l[i].els (Ji _) ZT ?_;simp only[go_sem,T5];refine⟨Qv,?_⟩;refine Zo ?_;refine⟨Qv,l.length-(i+1),ZT,i+1,rfl,ZT,?_⟩;rw[oY];simp;omega
  ·intro hc;have aV:l.length≤i:=ZU
   refine Zm ?_;refine Za ?_;refine Zb ?_;rw[Jb aV,←nR];exact hK
def stA (op:Int)(k:Nat)(d:Int):Bool:=decide (1≤d)&&decide (1≤op∧op≤8)&&decide (k=AO op)
def stB (op:Int)(name:List UInt8):Bool:=(decide (op=1∨op=2) == Av name)&&(decide (op=1∨op=2) || decide (name=[]))
def stD (op:Int)(nb ne:Nat):Bool:=(decide (op=5) || decide (ne=0))&&(decide (op=5∨op=6) || decide (nb=0))
theorem Xe (x:St)(d:Int):x.form d=(stA x.op x.args.length d&&(stB x.op x.name&&(x.args.all Ex.valid&&((!decide (x.op=8) || decide ((x.args.map Ex.op).getD 0 0=13))&&(stD x.op x.body.length x.els.length&&(Qx x.body (d-1)&&Qx x.els (d-1))))))):=by
 rw[x.form_eq,BF,stA,stB,stD];simp only[J3]
def Il (n:Nat):Prop:=∀(x:St) (deep:Int) (H:Heap) (K:V→Heap→Prop),x.size≤n→x.size≤2^40→deep≤100→K (.c (.bool (x.form deep))) H→Qm prog To [.ag x.cells,.c (.int .i64 deep)] H K
def Fm (n:Nat):Prop:=∀(l:List St) (deep:Int) (fl:Bool) (H:Heap) (K:V→Heap→Prop),Qj l≤n→Qj l≤2^40→deep≤100→K (.c (.bool (Qx l deep))) H→Qm prog GL [.c (.sl fl 5 (Qk l)),.c (.int .i64 deep)] H K
theorem Qbjh {n:Nat}(hS:Il n):Fm n:=by
 intro l deep fl H K hn hb hd hK;rw[D0]at hK;refine Qc Aa K0 ?_;have retf:∀(b:Bool) (e:Env),(l.all fun x=>x.form deep)=b→lk 4 e=.c (.bool b)→Qq Ab K .ret e H:=by
  intro b e h0 h1;simp only[go_sem,Qq,Q0,Ja,forall_eq,RS.op,h1];rw[←h0];exact hK
 refine Za ?_;refine Qz (Qa ?_);simp only[go_sem];refine Qf (Qg (Q3 (fun n e1 H1=>∃(i:Nat),n=l.length-i∧i≤l.length∧H1=H∧((l.take i).all fun x=>x.form deep)=true∧e1=[(0,.c (.sl fl 5 (Qk l))),(1,.c (.int .i64 deep)),(5,.c (.int .i64 i))]) l.length ?_ ?_))
 ·exact⟨0,ZT,ZT,rfl,rfl,rfl⟩
 ·rintro n e1 H1 ⟨i,eM,hi,rfl,aG,rfl⟩;refine Qz (Qa ?_);simp only[go_sem,Qp];intro hl;simp only[LIM]at hl;refine Qf (Qb rfl ?_ ?_)
  ·intro hc;have af:i<l.length:=ZU
   have hm:=Bw (Jd af);refine Ze ?_;refine Qf (Qg ?_);refine Qa ?_;simp only[go_sem,af,Qp,Q9 _ _ af,St.take5,St.aU,St.ae];refine hS _ deep _ _ ZT ZT hd ?_;simp only[go_sem,T1];refine Qb rfl ?_ ?_
   ·intro au;refine Za ?_;refine ZA ?_;exact retf false _ (Dr af (BD au)) ZX
   ·intro au;refine Ze ?_;refine Zo ?_;exact⟨Qv,l.length-(i+1),ZT,i+1,rfl,ZT,by rw[Du af,aG,Be au];rfl,rfl⟩
  ·intro hc;have aV:l.length≤i:=ZU
   rw[Jb aV]at aG;refine Zm ?_;refine Za ?_;refine Qi ?_;exact retf true _ aG ZX
theorem Qbnw {n:Nat}(hS:∀m,m<n→Fm m):Il n:=by
 intro x deep H K hn hb hd hK;rw[Xe]at hK;have aO:=x.size_eq;refine Qc Aa PZ ?_;have retf:∀(b:Bool) (e:Env),(stA x.op x.args.length deep&&(stB x.op x.name&&(x.args.all Ex.valid&&((!decide (x.op=8) || decide ((x.args.map Ex.op).getD 0 0=13))&&(stD x.op x.body.length x.els.length&&(Qx x.body (deep-1)&&Qx x.els (deep-1)))))))=b→
   lk 4 e=.c (.bool b)→Qq Ab K .ret e H:=by
  intro b e h0 h1;simp only[go_sem,Qq,Q0,Ja,forall_eq,RS.op,h1];rw[←h0];exact hK
 refine Zu ?_;refine Qz (An ?_);simp only[go_sem];have rest:∀b:Bool,b = !stA x.op x.args.length deep→Q6 prog (s_l3Stmt_2.seq Q43) (Qq Ab K)
   [(1,.c (.int .i64 deep)),(2,.c (.pp [.int .i64 x.op,.str x.name,.sl false 4 (Ql x.args),.sl false 5 (Qk x.body),.sl false 5 (Qk x.els)])),(23,.c (.bool b))] H:=by
  intro b hb;refine Qf (Qb rfl ?_ ?_)
  ·intro hc;have hA:stA x.op x.args.length deep=false:=Zan
   refine Za ?_;refine Zn ?_;exact retf false _ (by rw[hA];rfl) ZX
  intro hc;have hA:stA x.op x.args.length deep=true:=Zan
  rw[hA,Jk]at retf;simp only[stA,Jo,decide_eq_true_eq]at hA;obtain⟨⟨fX,_⟩,li⟩:=hA;have nK:0<x.args.length:=by rw[li,AO];split <;> omega
  refine Ze ?_;refine Za ?_;refine Qz (Qa ?_);simp only[go_sem];refine Tp ?_;simp only[go_sem,Q44];refine Qf (Qb rfl ?_ ?_)
  ·intro hc;have hB:stB x.op x.name=false:=by
    simp only[BH,BK]at hc;simp only[stB];revert hc;by_cases h1:x.op=1 <;> by_cases h2:x.op=2 <;> cases Av x.name <;> by_cases h4:x.name=[] <;> simp[h1,h2,h4]
   refine Za ?_;refine Zn ?_;exact retf false _ (by rw[hB];rfl) ZX
  intro hc;have hB:stB x.op x.name=true:=by
   simp only[BH,BK]at hc;simp only[stB];revert hc;by_cases h1:x.op=1 <;> by_cases h2:x.op=2 <;> cases Av x.name <;> by_cases h4:x.name=[] <;> simp[h1,h2,h4]
  rw[hB,Jk]at retf;refine Ze ?_;refine Qz (Qa ?_);simp only[go_sem];refine Qf (Qg (Q3 (fun n e1 H1=>∃(i:Nat),n=x.args.length-i∧i≤x.args.length∧H1=H∧(x.args.take i).all Ex.valid=true∧e1=[(1,.c (.int .i64 deep)),(2,.c (.pp [.int .i64 x.op,.str x.name,.sl false 4 (Ql x.args),.sl false 5 (Qk x.body),.sl false 5 (Qk x.els)])),(6,.c (.int .i64 i))]) x.args.length ?_ ?_))
  ·exact⟨0,ZT,ZT,rfl,rfl,rfl⟩
  ·rintro n e1 H1 ⟨i,eM,hi,rfl,aG,rfl⟩;refine Qz (Qa ?_);simp only[go_sem,Qh];intro hl;simp only[LIM]at hl;refine Qf (Qb rfl ?_ ?_)
   ·intro hc;have af:i<x.args.length:=ZU;have hm:=Bn (Jd af);refine Ze ?_;refine Qf (Qg ?_);refine ZJ af ?_;refine Qawx ZT ?_;simp only[go_sem,Q45];refine Qb rfl ?_ ?_
    ·intro au;refine Za ?_;refine ZA ?_;exact retf false _ ZbC ZX
    ·intro au;refine Ze ?_;refine Zo ?_;exact⟨Qv,x.args.length-(i+1),ZT,i+1,rfl,ZT,by rw[Du af,aG,Be au];rfl,rfl⟩
   ·intro hc;have aV:x.args.length≤i:=ZU;rw[Jb aV]at aG;rw[aG,Jk]at retf;have de:(x.args.map Ex.op).getD 0 0=x.args[0].op:=(by simp[Jf,nK]);refine Zm ?_;refine Qz (Qa ?_);simp only[go_sem,nK,Qh,Qs _ _ nK,Ex.aa];refine⟨fun _=>Ja4 _,?_⟩;refine Qf (Qb rfl ?_ ?_)
    ·intro hc;have hC:(!decide (x.op=8) || decide ((x.args.map Ex.op).getD 0 0=13))=false:=by
      rw[de];simp only[BK]at hc;revert hc;by_cases h1:x.op=8 <;> by_cases h2:x.args[0].op=13 <;> simp[h1,h2]
     refine Za ?_;refine Zn ?_;exact retf false _ (by rw[hC];rfl) ZX
    intro hc;have hC:(!decide (x.op=8) || decide ((x.args.map Ex.op).getD 0 0=13))=true:=by
     rw[de];simp only[BK]at hc;revert hc;by_cases h1:x.op=8 <;> by_cases h2:x.args[0].op=13 <;> simp[h1,h2]
    rw[hC,Jk]at retf;refine Ze ?_;refine Qz (Qa ?_);simp only[go_sem,Qp]
    intros
    have eb:decide ((0:Int)<(x.body.length:Int)) = !decide (x.body.length=0):=by
     rw[Jr];simp only[decide_eq_true_eq,J5,decide_eq_false_iff_not];omega
    have ee:decide ((0:Int)<(x.els.length:Int)) = !decide (x.els.length=0):=by
     rw[Jr];simp only[decide_eq_true_eq,J5,decide_eq_false_iff_not];omega
    refine Qf (Qb rfl ?_ ?_)
    ·intro hc;have hD:stD x.op x.body.length x.els.length=false:=by
      simp only[BK,BH,eb,ee]at hc;simp only[stD];revert hc;by_cases h1:x.op=5 <;> by_cases h2:x.op=6 <;> cases decide (x.body.length=0) <;> cases decide (x.els.length=0) <;> simp[h1,h2]
     refine Za ?_;refine Zn ?_;exact retf false _ (by rw[hD];rfl) ZX
    intro hc;have hD:stD x.op x.body.length x.els.length=true:=by
     simp only[BK,BH,eb,ee]at hc;simp only[stD];revert hc;by_cases h1:x.op=5 <;> by_cases h2:x.op=6 <;> cases decide (x.body.length=0) <;> cases decide (x.els.length=0) <;> simp[h1,h2]
    rw[hD,Jk]at retf;refine Ze ?_;refine Za ?_;refine⟨Qv,?_⟩;refine hS (Qj x.body) ZT _ _ _ _ _ (Ji _) ZT ZT ?_;simp only[go_sem,T2];refine⟨fun _=>Qv,?_⟩;refine⟨fun bh=>?_,fun bh=>?_⟩
    ·refine hS (Qj x.els) ZT _ _ _ _ _ (Ji _) ZT ZT ?_;simp only[go_sem,HP,bh];refine Qi ?_;exact retf _ _ (by rw[bh,Jk]) ZX
    ·simp only[go_sem,HP,bh];refine Qi ?_;exact retf false _ (by rw[bh];rfl) ZX
 refine⟨fun bh=>?_,fun bh=>?_⟩
 ·replace bh:=BD bh;have fX:1≤deep:=Zbu
  have hd1:decide (1≤deep)=true:=decide_eq_true fX;refine C6 ?_;simp only[go_sem,HE,bh,Qh,cond_false];refine⟨fun bM=>?_,fun bM=>?_⟩
  ·refine PG ?_;simp only[go_sem,EN,Qh];refine rest _ ?_;have cO:decide ((x.args.length:Int)=if x.op=4 then 2 else 1)=decide (x.args.length=AO x.op):=by
    rw[decide_eq_decide,AO];split <;> omega
   simp only[stA,hd1,cO,BH];cases decide (1≤x.op∧x.op≤8) <;> cases decide (x.args.length=AO x.op) <;> rfl
  ·replace bM:=Be bM;simp only[go_sem,EN,bM,Qh];refine rest _ ?_;have b7:decide (1≤x.op∧x.op≤8)=false:=by
    cases h:decide (1≤x.op∧x.op≤8)with
    |false=>rfl
    |true=>rw[h]at bM;simp at bM
   simp only[stA,b7,Jav,Jai,Jad]
 ·replace bh:=Be bh;simp only[go_sem,HE,EN,bh,Qh,cond_true];refine rest _ ?_;have fX:decide (1≤deep)=false:=by
   rw[decide_eq_false_iff_not];simp at bh;omega
  simp only[stA,fX,Jai,Jad]
theorem Qbnx (n:Nat):Fm n:=by
 induction n using Nat.strongRecOn with
 |ind n ih=>exact Qbjh (Qbnw ih)
theorem Qbqg {f:Fn}(hf:Qj f.body≤2^40)(hK:K (.c (.bool f.form)) H):Qm prog Gy [.ag f.cells] H K:=by
 refine Qc Aa Iv ?_;have e0:f.form=(f.params.all Av&&(Av f.name&&(decide (f.params.length≤3)&&Qx f.body 4))):=by simp only[Fn.form,J3]
 rw[e0]at hK;have retf:∀(b:Bool) (e:Env),(f.params.all Av&&(Av f.name&&(decide (f.params.length≤3)&&Qx f.body 4)))=b→lk 2 e=.c (.bool b)→Qq Ac K .ret e H:=by
  intro b e h0 h1;simp only[go_sem,Qq,Q0,Ja,forall_eq,RS.op,h1];rw[←h0];exact hK
 refine ZP ?_;refine Qz (Qa ?_);simp only[go_sem];refine Qf (Qg (Q3 (fun n e1 H1=>∃(i:Nat),n=f.params.length-i∧i≤f.params.length∧H1=H∧(f.params.take i).all Av=true∧e1=[(1,.c (.pp [.str f.name,.sl false 1 (Q5 f.params),.sl false 5 (Qk f.body)])),(3,.c (.int .i64 i))]) f.params.length ?_ ?_))
 ·exact⟨0,ZT,ZT,rfl,rfl,rfl⟩
 ·rintro n e1 H1 ⟨i,eM,hi,rfl,aG,rfl⟩;refine Qz (Qa ?_);simp only[go_sem,Qt];intro hl;simp only[LIM]at hl;refine Qf (Qb rfl ?_ ?_)
  ·intro hc;have af:i<f.params.length:=ZU
   have hg:f.params.getD i []=f.params[i]:=Zbo
   refine Ze ?_;refine Qf (Qg ?_);refine ZN af hg ?_;refine Tp ?_;simp only[go_sem,FJ];refine Qb rfl ?_ ?_
   ·intro au;refine Za ?_;refine ZA ?_;exact retf false _ ZbC ZX
   ·intro au;refine Ze ?_;refine Zo ?_;exact⟨Qv,f.params.length-(i+1),ZT,i+1,rfl,ZT,by rw[Du af,aG,Be au];rfl,rfl⟩
  ·intro hc;have aV:f.params.length≤i:=ZU
   rw[Jb aV]at aG;rw[aG,Jk]at retf;refine Zm ?_;refine Za ?_;refine Tp ?_;simp only[go_sem,FI,Qt]
   intros
   have e3:decide ((f.params.length:Int)≤3)=decide (f.params.length≤3):=Zag
   refine⟨fun bh=>?_,fun bh=>?_⟩
   ·refine Qbnx _ _ _ _ _ _ (Ji _) hf ZT ?_;simp only[go_sem,Hn,bh];rw[BK,e3,Jo]at bh;refine Qi ?_;exact retf _ _ (by rw[bh.1,bh.2,Jk,Jk]) ZX
   ·simp only[go_sem,Hn,bh];rw[BK,e3]at bh;refine Qi ?_;exact retf false _ (by rw[←J3,bh];rfl) ZX
theorem Rc (l:List Fn):A7 l≤Qn l:=by
 induction l with
 |nil=>simp[A7]
 |cons f r ih=>have:=Hm f.body;simp only[A7,Qn];omega
theorem Qbly {l:List Fn}{fl:Bool}(hf:Qn l≤2^40)(hK:K (.c (.int .i64 (A7 l))) H):Qm prog FA [.ag [.sl fl 3 (Qo l)]] H K:=by
 refine Qc Aa IR ?_;refine Za ?_;refine Za ?_;refine Qz (Qa ?_);simp only[go_sem];refine Qf (Qg (Q3 (fun n e1 H1=>∃(i:Nat),n=l.length-i∧i≤l.length∧H1=H∧e1=[(1,.c (.pp [.sl fl 3 (Qo l)])),(3,.c (.int .i64 (A7 (l.take i):Nat))),(4,.c (.int .i64 i))]) l.length ?_ ?_))
 ·exact⟨0,ZT,ZT,rfl,rfl⟩
 ·rintro n e1 H1 ⟨i,eM,hi,rfl,rfl⟩;refine Qz (Qa ?_);simp only[go_sem,Qu];intro hl;simp only[LIM]at hl;refine Qf (Qb rfl ?_ ?_)
  ·intro hc;have af:i<l.length:=ZU
   have hm:=Cm (Jd af);have aY:=Q9c af;have mh:=Vv l (i+1);have hct:=Rc (l.take (i+1));refine Ze ?_;refine Qf (Qg (Qr ?_));simp only[go_sem,af,Qu,AB _ _ af,Fn.cells];refine Qbas _ _ (Ji _) ZT ?_;simp only[go_sem,Ga];refine⟨Qv,?_⟩;refine Zo ?_;refine⟨Qv,l.length-(i+1),ZT,i+1,rfl,ZT,?_⟩;rw[aY];simp
  ·intro hc;have aV:l.length≤i:=ZU
   refine Zm ?_;refine Za ?_;refine Zb ?_;rw[Jb aV];exact hK
theorem Qaia {l:List Fn}{fl:Bool}(hf:Qn l≤2^40)(hK:K (.c (.bool (AW l))) H):Qm prog VB [.ag [.sl fl 3 (Qo l)]] H K:=by
 refine Qc Aa Qpw ?_;have e0:AW l=(decide (1≤l.length∧l.length≤4)&&(l.all Fn.form&&decide (A7 l≤40))):=by simp only[AW,J3]
 rw[e0]at hK;have retf:∀(b:Bool) (e:Env),(decide (1≤l.length∧l.length≤4)&&(l.all Fn.form&&decide (A7 l≤40)))=b→lk 2 e=.c (.bool b)→Qq Ac K .ret e H:=by
  intro b e h0 h1;simp only[go_sem,Qq,Q0,Ja,forall_eq,RS.op,h1];rw[←h0];exact hK
 refine Za ?_;refine Qz (Qa ?_);simp only[go_sem,Qu];intro hl;simp only[LIM]at hl;refine C6 ?_;simp only[go_sem,VI];have e1:decide ((1:Int)≤(l.length:Int)∧(l.length:Int)≤4)=decide (1≤l.length∧l.length≤4):=Zag
 refine Qf (Qb rfl ?_ ?_)
 ·intro hc;have hA:=BD hc;rw[e1]at hA;refine Za ?_;refine Zn ?_;exact retf false _ (by rw[hA];rfl) ZX
 intro hc;have hA:=Be hc;rw[e1]at hA;rw[hA,Jk]at retf;refine Ze ?_;refine Qz (Qa ?_);simp only[go_sem];refine Qf (Qg (Q3 (fun n e1 H1=>∃(i:Nat),n=l.length-i∧i≤l.length∧H1=H∧(l.take i).all Fn.form=true∧e1=[(1,.c (.pp [.sl fl 3 (Qo l)])),(3,.c (.int .i64 i))]) l.length ?_ ?_))
 ·exact⟨0,ZT,ZT,rfl,rfl,rfl⟩
 ·rintro n e1 H1 ⟨i,eM,hi,rfl,aG,rfl⟩;refine Qz (Qa ?_);simp only[go_sem,Qu];refine fun _=>?_;refine Qf (Qb rfl ?_ ?_)
  ·intro hc;have af:i<l.length:=ZU
   have hm:=Cm (Jd af);refine Ze ?_;refine Qf (Qg ?_);refine Qa ?_;simp only[go_sem,af,Qu,AB _ _ af,Fn.take3,Fn.aU,Fn.ae];refine Qbqg ZT ?_;simp only[go_sem,VH];refine Qb rfl ?_ ?_
   ·intro au;refine Za ?_;refine ZA ?_;exact retf false _ ZbC ZX
   ·intro au;refine Ze ?_;refine Zo ?_;exact⟨Qv,l.length-(i+1),ZT,i+1,rfl,ZT,by rw[Du af,aG,Be au];rfl,rfl⟩
  ·intro hc;have aV:l.length≤i:=ZU
   rw[Jb aV]at aG;rw[aG,Jk]at retf;refine Zm ?_;refine Za ?_;refine Qbly hf ?_;simp only[go_sem,VG];refine Qi ?_;exact retf (decide ((A7 l:Int)≤40)) _ Zag ZX
end Go.AE.Y
namespace Go.AE.Y
attribute [local go_sem] cond_true cond_false Bool.not_true Bool.not_false
open Go.Proofs.Tryz
variable {H:Heap}{K:V→Heap→Prop}
def levN (op:Int):Int:=if op=10 then 1 else if op=8∨op=9 then 2 else if op=3∨op=4 then 3 else if op=5∨op=6∨op=7 then 4 else 0
structure GK (H:Heap):Prop where
 keys:H B1=.gl B1 (keysL.map C.str)
 sign:∃ks rows,H Bg=.gl Bg [.cm true ks rows]∧∀op:Int,AL 0 (.int .i64 op) ((ks.zip rows).map fun e=>(e.1,V.ag e.2))∧
  ∃sg,(A3 (.int .i64 op) ((ks.zip rows).map fun e=>(e.1,V.ag e.2))).getD (.ag [.str [],.int .i64 0])=.ag [.str sg,.int .i64 (levN op)]
theorem GK.upd {H':Heap}{U:List (Nat×Obj)}(g:GK H)(hu:Upd H H' U)(h1:B1∉U.map Prod.fst)(h2:Bg∉U.map Prod.fst):GK H':=by
 obtain⟨ks,rows,h3,h4⟩:=g.sign;exact⟨(hu.2 _ Zb3 h1).trans g.keys,ks,rows,(hu.2 _ (by rw[h3];nofun) h2).trans h3,h4⟩
theorem GK.upd0 {H':Heap}(g:GK H)(hu:Upd H H' []):GK H':=g.upd hu ZV ZV
theorem GK.kn {H':Heap}{L:List (Nat×Obj)}(g:GK H)(kn:Kn H H' [] L):GK H':=by
 obtain⟨ks,rows,h3,h4⟩:=g.sign;exact⟨(kn.chg _ Zb3 ZV).trans g.keys,ks,rows,(kn.chg _ (by rw[h3];nofun) ZV).trans h3,h4⟩
theorem Qben {r:Int}(hK:K (.c (.bool (decide (r<97) || decide (122<r)))) H):Qm prog GW [.c (.int .i32 r)] H K:=by
 refine Qc Aa Qapn ?_;refine Za ?_;refine Za ?_;refine Zb ?_;have:(bif decide (r<97)then true else decide (122<r))=(decide (r<97) || decide (122<r)):=by cases decide (r<97) <;> rfl
 first|exact hK|(rw[this];exact hK)|(simpa[this]using hK)
theorem Qaxo {s:List UInt8}(hK:∀(r:Int) (H':Heap),Upd H H' []→decide (r<0)=s.all AN→K (.c (.int .i64 r)) H') :
  Qm prog VL [.c (.str s),.c (.fn GW []),.c (.bool true)] H K:=by
 refine Q1 ?_;refine Qc Aa Q3c ?_;have retf:∀(r:Int) (e:Env) (H':Heap) (L:List (Nat×Obj)),decide (r<0)=s.all AN→Kn H H' [] L→lk 6 e=.c (.int .i64 r)→Qq Ad (unK H K) .ret e H':=by
  intro r e H' L hr kn h3;simp only[go_sem,Qq,Q0,Ja,forall_eq,RS.op,h3];exact⟨_,.c _ _ (Qe rfl),hK _ _ kn.fin hr⟩
 refine Za ?_;refine Qz (Qa ?_);simp only[go_sem];intro i hi H1 h1;have kn:=(Kn.ao H).al hi h1;refine Qf (Qg (Q3 (fun m e1 H1=>∃(q:Nat),m=s.length-q∧Kn H H1 [] [(i,.sit s q)]∧(∀x∈s.take q,AN x=true)∧
  lk 1 e1=.c (.fn GW [])∧lk 2 e1=.c (.bool true)∧lk 10 e1=.c (.itr i)) s.length ?_ ?_))
 ·exact⟨0,ZT,kn,ZV,rfl,rfl,rfl⟩
 ·clear kn;rintro m e1 H2 ⟨q,hm,kn,aG,l1,l2,l10⟩;have oY:=kn.l 0 rfl;refine ZG l1 l2 l10 oY ?_;refine⟨fun aE=>?_,fun c wd af hw h1 h2 H3 h3=>?_⟩
  ·simp only[go_sem,VX,l1,l2,l10,Jh];refine Qf (Qb rfl (fun h=>by cases h) (fun _=>?_));refine Zg ?_;refine Za ?_;refine Qi ?_;rw[Jb aE]at aG;exact retf (-1) _ _ _ (by rw[Jaf.2 aG];rfl) kn ZX
  ·have kn:=kn.ax 0 rfl h3;have j4:s.getD q 0=s[q]:=Zbo
   rw[j4]at h1 h2;simp only[go_sem,VX,l1,l2,l10,Jh,Jj];refine Qf (Qb rfl (fun _=>?_) (fun h=>by cases h));refine Zc ?_
   refine Qg (Qa ?_);simp only[go_sem,Jh,Jj];refine Za ?_;refine Qben ?_;have hs:(decide (c<97) || decide (122<c)) = !AN s[q]:=by
    rw[Jr,AN];simp only[Jan,decide_eq_true_eq,J5,decide_eq_false_iff_not];rcases Jat s[q].toNat 128 with h|h
    ·have:=(h1 h).1;omega
    ·have:=h2 h;omega
   rw[hs];simp only[go_sem,Qhr];refine Qb rfl ?_ ?_
   ·intro hc;have hb:AN s[q]=false:=ZU;refine Za ?_;refine Zx ?_;refine retf (q:Int) _ _ _ ?_ kn ZX;rw[decide_eq_false ZT]
    symm
    rw[List.all_eq_false];exact⟨_,Jd af,by rw[hb];simp⟩
   ·intro hc;have hb:AN s[q]=true:=ZU;refine Zc ?_
    have hw1:wd=1:=by
     rcases Jat s[q].toNat 128 with h|h
     ·exact (h1 h).2
     ·exfalso;rw[AN,decide_eq_true_eq]at hb;omega
    subst hw1;show ∃m,_;refine⟨s.length-(q+1),ZT,q+1,rfl,kn,fun x hx=>?_,rfl,rfl,rfl⟩;rw[Jc af]at hx;rcases Jl.1 hx with h|h
    ·exact aG x h
    ·rw[Ja]at h;rw[h];exact hb
theorem Qawy {s:List UInt8}(hK:∀(r:Int) (H':Heap),Upd H H' []→decide (r<0)=s.all AN→K (.c (.int .i64 r)) H') :
  Qm prog VM [.c (.str s),.c (.fn GW [])] H K:=by
 refine Qc Aa Q3b ?_;refine Za ?_;refine Za ?_;refine Qaxo fun r H' hu hr=>?_;simp only[go_sem,Qhq];refine Zb ?_;exact hK _ _ hu hr
theorem Qa9x {f:Bool}{ss:List (List UInt8)}{v:List UInt8}(hK:∀r:Int,decide (0≤r)=ss.contains v→K (.c (.int .i64 r)) H) :
  Qm prog VC [.c (.sl f 1 (Q5 ss)),.c (.str v)] H K:=by
 refine Qc Aa Q93 ?_;refine Za ?_;refine Qz (Qa ?_);simp only[go_sem,Qt];intro hl;simp only[LIM]at hl;refine Qf (Qg (Q3 (fun m e1 H1=>∃(i:Nat),m=ss.length-i∧i≤ss.length∧H1=H∧v∉ss.take i∧e1=[(0,.c (.sl f 1 (Q5 ss))),(1,.c (.str v)),(7,.c (.int .i64 ss.length)),(8,.c (.int .i64 i))]) ss.length ?_ ?_))
 ·exact⟨0,ZT,ZT,rfl,ZV,rfl⟩
 ·rintro m e1 H1 ⟨i,hm,hi,rfl,bO,rfl⟩;refine Za ?_;refine Qf (Qb rfl ?_ ?_)
  ·intro hc;have af:i<ss.length:=ZU
   have kE:ss.getD i []=ss[i]:=Zbo
   refine Ze ?_;refine Qf (Qg ?_);refine Za ?_;refine Qa ?_;simp only[go_sem,af,Qt,BT _ _ af];refine Qb rfl ?_ ?_
   ·intro au;have hv:v=ss[i]:=Za6;refine Za ?_;refine Qi ?_;simp only[go_sem,AE.X.next,Qq,Q0,Ja,forall_eq,RS.op];refine hK _ ?_;have:v∈ss:=(by rw[hv];exact Jd af);rw[Jae.2 this];simp
   ·intro au;have hv:¬v=ss[i]:=Za6;refine Ze ?_;refine Zk ?_;refine⟨Qv,ss.length-(i+1),ZT,i+1,rfl,ZT,?_,rfl⟩;rw[Jc af];simp only[Jl,Ja,not_or];exact⟨bO,hv⟩
  ·intro hc;have aV:ss.length≤i:=ZU
   rw[Jb aV]at bO;refine Zg ?_;refine Za ?_;refine Zb ?_;refine hK _ ?_;have:ss.contains v=false:=by
    cases hc:ss.contains v with
    |false=>rfl
    |true=>exact absurd (Jae.1 hc) bO
   rw[this];rfl
theorem Qatt {f:Bool}{ss:List (List UInt8)}{v:List UInt8}(hK:K (.c (.bool (ss.contains v))) H) :
  Qm prog VU [.c (.sl f 1 (Q5 ss)),.c (.str v)] H K:=by
 refine Qc Aa Qz6 ?_;refine Za ?_;refine Za ?_;refine Qa9x fun r hr=>?_;simp only[go_sem,E8];refine Zb ?_;rw[hr];exact hK
theorem RT {n lo hi:Int}(hK:K (.c (.bool (decide (lo≤n)&&decide (n≤hi)))) H):Qm prog T8 [.c (.int .i64 n),.c (.int .i64 lo),.c (.int .i64 hi)] H K:=by
 refine Qc Aa NO ?_;refine Za ?_;refine Za ?_;refine Zb ?_;have:(bif decide (lo≤n)then decide (n≤hi)else false)=(decide (lo≤n)&&decide (n≤hi)):=by cases decide (lo≤n) <;> rfl
 first|exact hK|(rw[this];exact hK)|(simpa[this]using hK)
theorem Hy {s:List UInt8}(g:GK H)(hK:∀H',Upd H H' []→K (.c (.bool (Av s))) H'):Qm prog Pb [.c (.str s)] H K:=by
 refine Q1 ?_;refine Qc Aa Qa2p ?_;have retf:∀(b:Bool) (e:Env) (H':Heap) (L:List (Nat×Obj)),b=Av s→Kn H H' [] L→lk 2 e=.c (.bool b)→Qq Ac (unK H K) .ret e H':=by
  rintro b e H' L rfl kn h3;simp only[go_sem,Qq,Q0,Ja,forall_eq,RS.op,h3];exact⟨_,.c _ _ (Qe rfl),hK _ kn.fin⟩
 have kn:=Kn.ao H;refine Za ?_;refine Za ?_;try intro _
 refine RT ?_;by_cases hl:1≤s.length∧s.length≤4
 ·have hd:(decide ((1:Int)≤(s.length:Int))&&decide ((s.length:Int)≤4))=true:=Zac
  simp only[go_sem,TY,hd];refine Qawy fun r H1 hu hr=>?_;have kn:=kn.ay hu;have g1:=g.upd0 hu
  cases pP:s.all AN with
  |false=>
   rw[pP]at hr;simp only[go_sem,SA,SB,hr];refine Qi ?_;exact retf false _ _ _ (by rw[Av,pP];simp) kn ZX
  |true=>
   rw[pP]at hr;have hk:=g1.keys;simp only[go_sem,SA,hr,hk];refine⟨⟨Zab,by simp only[LIM];omega⟩,?_⟩;have e:List.map (fun c=>[c]) (List.take 9 (List.map C.str keysL))=Q5 keysL:=rfl;rw[e];refine Qatt ?_;simp only[go_sem,SB];refine Qi ?_;exact retf _ _ _ _ (by rw[Av,pP,decide_eq_true hl];simp) kn rfl
 ·have hd:(decide ((1:Int)≤(s.length:Int))&&decide ((s.length:Int)≤4))=false:=by
   rw[Jam,decide_eq_false_iff_not,decide_eq_false_iff_not];omega
  simp only[go_sem,TY,SA,SB,hd];refine Qi ?_;exact retf false _ _ _ (by rw[Av,decide_eq_false hl];simp) kn ZX
def levO (op:Int):Int:=if 0<levN op then levN op else if op=11∨op=12 then 5 else 6
theorem Qbgs {op:Int}(g:GK H)(hK:K (.c (.int .i64 (levO op))) H):Qm prog TN [.c (.int .i64 op)] H K:=by
 obtain⟨ks,rows,hs,hl⟩:=g.sign;obtain⟨ho,sg,hf⟩:=hl op;have ret:∀(n:Int) (e:Env),n=levO op→lk 2 e=.c (.int .i64 n)→Qq Ac K .ret e H:=by
  rintro n e rfl h3;simp only[go_sem,Qq,Q0,Ja,forall_eq,RS.op,h3];exact hK
 refine Qc Aa Qax3 ?_;refine Za ?_;refine Qf (Qg ?_);refine Qa ?_;simp only[go_sem,hs,A4,Bp,hf,eq_true ho,Jag,Jaj];refine Qb rfl ?_ ?_
 ·intro hc;have h0:0<levN op:=of_decide_eq_true hc;refine Qa ?_;simp only[go_sem,hs,A4,Bp,hf,eq_true ho,Jag,Jaj];refine Zx ?_;exact ret _ _ (by rw[levO,if_pos h0]) ZX
 ·intro hc;have h0:¬0<levN op:=of_decide_eq_false hc;refine Qa ?_;simp only[go_sem,BH];refine Qb rfl ?_ ?_
  ·intro au;have h1:op=11∨op=12:=ZZ
   refine Za ?_;refine Zx ?_;exact ret _ _ (by rw[levO,if_neg h0,if_pos h1]) ZX
  ·intro au;have h1:¬(op=11∨op=12):=ZZ
   refine Zt ?_;refine Za ?_;refine Qi ?_;exact ret _ _ (by rw[levO,if_neg h0,if_neg h1]) ZX
theorem Yi {op:Int}:levO op<6↔3≤op∧op≤12:=by
 by_cases h:3≤op∧op≤12
 ·simp only[h,and_self,iff_true];rw[levO,levN];obtain⟨h1,h2⟩:=h;rcases (by omega:op=3∨op=4∨op=5∨op=6∨op=7∨op=8∨op=9∨op=10∨op=11∨op=12)with rfl|rfl|rfl|rfl|rfl|rfl|rfl|rfl|rfl|rfl <;> decide
 ·simp only[h,iff_false];have h0:levN op=0:=by rw[levN,if_neg ZT,if_neg ZT,if_neg ZT,if_neg ZT]
  rw[levO,h0,if_neg ZT,if_neg ZT];omega
theorem lev_pos {op:Int}:0<levN op↔3≤op∧op≤10:=by
 by_cases h:3≤op∧op≤10
 ·simp only[h,and_self,iff_true];obtain⟨h1,h2⟩:=h;rcases (by omega:op=3∨op=4∨op=5∨op=6∨op=7∨op=8∨op=9∨op=10)with rfl|rfl|rfl|rfl|rfl|rfl|rfl|rfl <;> decide
 ·simp only[h,iff_false];rw[levN,if_neg ZT,if_neg ZT,if_neg ZT,if_neg ZT];omega
def hd1 (op n:Int)(name:List UInt8):Bool:=decide (1≤op∧op≤13)&&(!decide (op=1) || (decide (0≤n∧n≤255)&&decide (name=[])))&&(!decide (op=2∨op=13) || (Av name&&decide (n=0)))
theorem Kz:Av []=false:=Zab
theorem Qbp1 (op n:Int)(name:List UInt8)(k:Nat):Ez op n name k =
  (hd1 op n name&&(!decide (levO op<6) || (decide (n=0)&&decide (name=[])))&&(decide (AX op≤(k:Int))&&decide ((k:Int)≤AS op))):=by
 have hl:decide (levO op<6)=decide (3≤op∧op≤12):=by rw[decide_eq_decide];exact Yi
 rw[Ez,hd1,hl,Jr];simp only[Jo,Jan,decide_eq_true_eq,beq_iff_eq,J5,decide_eq_false_iff_not];by_cases hn:name=[]
 ·subst hn;simp only[Kz,decide_eq_false_iff_not];constructor
  ·rintro⟨⟨⟨⟨⟨h1,h2⟩,h3⟩,h4⟩,h5⟩,h6⟩;refine⟨⟨⟨⟨h1,?_⟩,?_⟩,?_⟩,h2⟩
   ·exact .inr ⟨h5,trivial⟩
   ·exact .inl h3
   ·rcases h6 with h6|h6
    ·exact .inl ZT
    ·exact .inr ⟨h6,trivial⟩
  ·rintro⟨⟨⟨⟨h1,h2⟩,h3⟩,h4⟩,h5⟩;have h3:¬(op=2∨op=13):=by
    rcases h3 with h3|⟨h3,_⟩
    ·exact h3
    ·cases h3
   refine⟨⟨⟨⟨⟨h1,h5⟩,h3⟩,.inr trivial⟩,?_⟩,?_⟩
   ·rcases h2 with h2|⟨h2,_⟩
    ·rcases h4 with h4|⟨h4,_⟩ <;> omega
    ·exact h2
   ·rcases h4 with h4|⟨h4,_⟩
    ·exact .inl ZT
    ·exact .inr h4
 ·simp only[hn,and_false,or_false];constructor
  ·rintro⟨⟨⟨⟨⟨h1,h2⟩,h3⟩,h4⟩,h5⟩,h6⟩;rw[decide_eq_true h4]at h3;refine⟨⟨⟨⟨h1,ZT⟩,?_⟩,ZT⟩,h2⟩;exact .inr ⟨h3.symm,ZT⟩
  ·rintro⟨⟨⟨⟨h1,h2⟩,h3⟩,h4⟩,h5⟩;have h6:op=2∨op=13:=ZT
   rcases h3 with h3|⟨h3,h7⟩
   ·exact absurd h6 h3
   ·exact⟨⟨⟨⟨⟨h1,h5⟩,by rw[h3];simp[h6]⟩,h6⟩,ZT⟩,.inr h7⟩
end Go.AE.Y
namespace Go.AE.Y
attribute [local go_sem] cond_true cond_false Bool.not_true Bool.not_false
open Go.Proofs.Tryz
variable {H H0:Heap}{K:V→Heap→Prop}
theorem Qbk9 {n:Int}(hK:K (.c (.bool (decide (0≤n)&&decide (n≤255)))) H):Qm prog TA [.c (.int .i64 n)] H K:=by
 refine Qc Aa NP ?_;refine Za ?_;refine Za ?_;refine RT ?_;simp only[go_sem,TU];refine Zb ?_;exact hK
def SzOk (x:Ex)(most:Int)(n d:Int)(ok:Bool):Prop:=ok=(x.form most&&decide (x.size≤30))∧(ok=true→n=x.size∧0≤d∧d≤1000+most)
def Y8 (n:Nat):Prop:=∀(x:Ex) {H:Heap} {K:V→Heap→Prop} (most:Int),x.size≤n→x.size≤2^40→most≤100→GK H→
 (∀(n d:Int) (ok:Bool) H',Upd H H' []→SzOk x most n d ok→K (.tup [.c (.int .i64 n),.c (.int .i64 d),.c (.bool ok)]) H')→Qm prog SG [.ag x.cells,.c (.int .i64 most)] H K
theorem Qbn3 {x:Ex}{most:Int}{Q:X→Env→Heap→Prop}(kn:Kn H0 H [] [])(g:GK H)
  (hf:∀e' H',hd1 x.op x.n x.name=false→Kn H0 H' [] []→lk 4 e'=.c (.int .i64 0)→lk 5 e'=.c (.int .i64 0)→lk 6 e'=.c (.bool false)→Q .ret e' H')
  (hn:∀e' H',hd1 x.op x.n x.name=true→Kn H0 H' [] []→lk 1 e'=.c (.int .i64 most)→lk 2 e'=.c (.pp [.int .i64 x.op,.int .i64 x.n,.str x.name,.sl false 4 (Ql x.kids)])→lk 7 e'=.c (.int .i64 (AX x.op))→lk 8 e'=.c (.int .i64 (AS x.op))→Q .nrm e' H') :
  Q6 prog Qtf Q [(1,.c (.int .i64 most)),(2,.c (.pp [.int .i64 x.op,.int .i64 x.n,.str x.name,.sl false 4 (Ql x.kids)])),(7,.c (.int .i64 0)),(8,.c (.int .i64 0)),(16,.c (.bool (decide (x.op=1))))] H:=by
 have ret:∀(e:Env) (H':Heap),hd1 x.op x.n x.name=false→Kn H0 H' [] []→Q6 prog (.seq (.reg (
   .f (some 4) none (.mv (.k (.c (.int .i64 0))))::
   .f (some 5) none (.mv (.k (.c (.int .i64 0))))::
   .f (some 6) none (.mv (.k (.c (.bool false))))::
   []) [4,5,6]) .ret) Q e H':=by
  intro e H' h kn;refine Za ?_;refine Qi ?_;exact hf _ _ h kn ZX ZX ZX
 obtain⟨ks,rows,hs,hl⟩:=g.sign;obtain⟨ho,sg,nI⟩:=hl x.op;refine Qb rfl ?_ ?_
 ·intro hc;have h1:x.op=1:=ZU
  refine Za ?_;refine Qbk9 ?_;simp only[go_sem,Qth,BH];refine Qb rfl ?_ ?_
  ·intro au;refine ret _ _ ?_ kn;rw[hd1,h1];revert au;by_cases ha:0≤x.n <;> by_cases hb:x.n≤255 <;> by_cases hn:x.name=[] <;> simp[ha,hb,hn]
  ·intro au;refine Qd ?_;have eN:AX x.op=0:=Zbt
   have fw:AS x.op=0:=Zbt
   refine hn _ H ?_ kn ZX ZX Zbc Zbd;rw[hd1,h1];revert au;by_cases ha:0≤x.n <;> by_cases hb:x.n≤255 <;> by_cases hn:x.name=[] <;> simp[ha,hb,hn]
 intro hc;have h1:¬x.op=1:=ZU
 refine Za ?_;refine Qb rfl ?_ ?_
 ·intro au;have h2:x.op=2:=ZZ
  refine Za ?_;refine Hy g fun H1 hu=>?_;have kn:=kn.ay hu;simp only[go_sem,Qti,BH];refine Qb rfl ?_ ?_
  ·intro bT;refine ret _ _ ?_ kn;rw[hd1,h2];revert bT;cases Av x.name <;> by_cases hb:x.n=0 <;> simp[hb]
  ·intro bT;refine Qd ?_;have eN:AX x.op=0:=by rw[h2];rfl
   have fw:AS x.op=0:=by rw[h2];rfl
   refine hn _ H1 ?_ kn ZX ZX Zbc Zbd;rw[hd1,h2];revert bT;cases Av x.name <;> by_cases hb:x.n=0 <;> simp[hb]
 intro au;have h2:¬x.op=2:=ZZ
 refine Za ?_;refine Qb rfl ?_ ?_
 ·intro bT;have h3:x.op=13:=Zaq
  refine Za ?_;refine Za ?_;refine Hy g fun H1 hu=>?_;have kn:=kn.ay hu;simp only[go_sem,Qtj,BH];refine Qb rfl ?_ ?_
  ·intro dH;refine ret _ _ ?_ kn;rw[hd1,h3];revert dH;cases Av x.name <;> by_cases hb:x.n=0 <;> simp[hb]
  ·intro dH;refine Qd ?_;have eN:AX x.op=0:=by rw[h3];rfl
   have fw:AS x.op=3:=by rw[h3];rfl
   refine hn _ H1 ?_ kn ZX ZX Zbc Zbd;rw[hd1,h3];revert dH;cases Av x.name <;> by_cases hb:x.n=0 <;> simp[hb]
 intro bT;have h3:¬x.op=13:=Zaq
 refine Qa ?_;simp only[go_sem,hs,A4,Bp,nI,eq_true ho,Jag,Jaj];have hh:∀(h:3≤x.op∧x.op≤12),hd1 x.op x.n x.name=true:=fun h=>by
  rw[hd1,decide_eq_true (by omega:1≤x.op∧x.op≤13),decide_eq_false (by omega:¬x.op=1),decide_eq_false (by omega:¬(x.op=2∨x.op=13))];rfl
 refine Qb rfl ?_ ?_
 ·intro dH;have h4:=lev_pos.1 (of_decide_eq_true dH);refine Zp ?_;have eN:AX x.op=2:=by rw[AX,if_neg ZT,if_neg ZT]
  have fw:AS x.op=2:=by rw[AS,if_neg ZT,if_neg ZT,if_neg ZT]
  exact hn _ H (hh ZT) kn ZX ZX Zbc Zbd
 intro dH;have h4:¬(3≤x.op∧x.op≤10):=fun h=>absurd (lev_pos.2 h) (of_decide_eq_false dH);refine Qa ?_;simp only[go_sem,BH];refine Qb rfl ?_ ?_
 ·intro iP;have h5:x.op=11∨x.op=12:=ZbN
  refine Zp ?_;have eN:AX x.op=1:=by rw[AX,if_neg ZT,if_pos h5]
  have fw:AS x.op=1:=by rw[AS,if_neg ZT,if_pos h5]
  exact hn _ H (hh ZT) kn ZX ZX Zbc Zbd
 ·intro iP;have h5:¬(x.op=11∨x.op=12):=ZbN
  refine ret _ _ ?_ kn;rw[hd1,decide_eq_false (by omega:¬(1≤x.op∧x.op≤13))];rfl
theorem YJ {S:Nat→Bool}(n d:Int)(b:Bool):FrzV H S (.tup [.c (.int .i64 n),.c (.int .i64 d),.c (.bool b)]) (.tup [.c (.int .i64 n),.c (.int .i64 d),.c (.bool b)]):=by
 refine .tup _ _ rfl fun j x x' h1 h2=>?_
 match j with
 |0=>simp at h1 h2;subst h1;subst h2;exact .c _ _ (Qe rfl)
 |1=>simp at h1 h2;subst h1;subst h2;exact .c _ _ (Qe rfl)
 |2=>simp at h1 h2;subst h1;subst h2;exact .c _ _ (Qe rfl)
theorem Qbae:∀n,Y8 n:=by
 intro n
 induction n with
 |zero=>intro x _ _ _ h;have:=x.size_pos;omega
 |succ n ih=>
 intro x H K most hn hs40 tg g hK;have g0:=g;have aO:=x.size_kids;refine Q1 ?_;refine Qc Aa Qaux ?_;have ret:∀(n d:Int) (ok:Bool) (e:Env) (H':Heap) (L:List (Nat×Obj)),SzOk x most n d ok→Kn H H' [] L→lk 4 e=.c (.int .i64 n)→lk 5 e=.c (.int .i64 d)→lk 6 e=.c (.bool ok)→Qq HR (unK H K) .ret e H':=by
  intro n d ok e H' L hf kn h4 h5 h6;simp only[go_sem,Qq,Q0,Jv,Jw,RS.op,h4,h5,h6];exact⟨fun _=>trivial,_,YJ n d ok,hK n d ok _ kn.fin hf⟩
 have retf:∀(e:Env) (H':Heap) (L:List (Nat×Obj)),(x.form most&&decide (x.size≤30))=false→Kn H H' [] L→lk 4 e=.c (.int .i64 0)→lk 5 e=.c (.int .i64 0)→lk 6 e=.c (.bool false)→Qq HR (unK H K) .ret e H':=by
  intro e H' L hf kn h4 h5 h6;exact ret 0 0 false e H' L ⟨hf.symm,nofun⟩ kn h4 h5 h6
 have da:=x.form_eq most;rw[Qbp1,Sk]at da;refine Zu ?_;refine Za ?_;refine Qf (Qg ?_);refine Za ?_;refine Qbn3 (Kn.ao H) g (fun e' H' hh kn h4 h5 h6=>?_) (fun e' H' hh kn l1 l2 l7 l8=>?_)
 ·simp only[go_sem,AE.X.next];exact retf _ _ _ (by rw[da,hh];simp) kn h4 h5 h6
 simp only[go_sem,AE.X.next];rw[hh]at da;have g:=g.kn kn;refine Qz (Qa ?_);simp only[go_sem,l1,l2,l7,l8];obtain⟨P,hP⟩:∃P,(decide (1≤most)&&((!decide (levO x.op<6) || (decide (x.n=0)&&decide (x.name=[])))&&(decide (AX x.op≤(x.kids.length:Int))&&decide ((x.kids.length:Int)≤AS x.op))))=P:=⟨_,rfl⟩;have lf:x.form most=(P&&x.kids.all fun y=>y.form (most-1)):=by rw[da,←hP];simp only[Jk,J3]
 have rest:∀b:Bool,b = !P→Q6 prog (s_im_exprSize_14.seq Qtg) (Qq HR (unK H K))
   [(1,.c (.int .i64 most)),(2,.c (.pp [.int .i64 x.op,.int .i64 x.n,.str x.name,.sl false 4 (Ql x.kids)])),(97,.c (.bool b))] H':=by
  intro b hb;refine Qf (Qb rfl ?_ ?_)
  ·intro hc;have hA:P=false:=Zan
   refine Za ?_;refine Zx ?_;exact retf _ _ _ (by rw[lf,hA];rfl) kn ZX ZX ZX
  intro hc;have hA:P=true:=Zan
  have bp:1≤most:=by
   rw[hA,Jo,decide_eq_true_eq]at hP;exact hP.1
  rw[hA,Jk]at lf;refine Zc ?_
  refine Za ?_;refine Qz (Qa ?_);simp only[go_sem,Qh];intro hl;simp only[LIM]at hl;refine Qf (Qg (Q3 (fun m e1 H1=>∃(i:Nat) (d:Int),m=x.kids.length-i∧i≤x.kids.length∧Kn H H1 [] []∧((x.kids.take i).all fun y=>y.form (most-1))=true∧1≤d∧d≤1000+most∧
   e1=[(1,.c (.int .i64 most)),(9,.c (.int .i64 (1+Qw (x.kids.take i):Nat))),(10,.c (.int .i64 d)),(99,.c (.sl false 4 (Ql x.kids))),(100,.c (.int .i64 x.kids.length)),(101,.c (.int .i64 i))]) x.kids.length ?_ ?_))
  ·exact⟨0,1,ZT,ZT,kn,rfl,ZT,ZT,Zcf⟩
  ·clear kn g;rintro m e1 H2 ⟨i,d,hm,hi,kn,aG,tD,rV,rfl⟩;have g:=(‹GK H› : GK H).kn kn;refine Za ?_;refine Qf (Qb rfl ?_ ?_)
   ·intro hc;have af:i<x.kids.length:=ZU;have hm:=Bn (Jd af);refine Zc ?_
    refine Qf (Qg ?_);refine Qa ?_;simp only[go_sem,af,Qh,Qs _ _ af,x.kids[i].aa];intro x12 gP H3 h3;have kn:=kn.al gP h3;have g12:=kn.l 0 rfl;simp only[go_sem,Qqh,g12];intro H4 h4;have kn:Kn H H4 [] [(x12,.st [.int .i64 x.kids[i].op,.int .i64 x.kids[i].n,.str x.kids[i].name,.sl false 4 (Ql x.kids[i].kids)])]:=kn.ax 0 rfl h4;have g:=g0.kn kn;clear g12;have g12:=kn.l 0 rfl;refine Zd g12 ?_;refine⟨Qv,?_⟩;have iK:=@ih x.kids[i];rw[x.kids[i].aa]at iK;refine iK (most-1) ZT ZT ZT g fun n' d' ok H5 hu mj=>?_;have kn:=Kn.drop (A:=[]) (kn.ay hu);obtain⟨iB,qO⟩:=mj;simp only[go_sem,Qqi,Jh,Jj];refine Qz (Qa ?_);simp only[go_sem];have eu:=Pc af;have aE:=Vl x.kids (i+1);refine Qf (Qb rfl ?_ ?_)
    ·intro au;have bf:ok=false:=ZZ;refine Za ?_;refine Zx ?_;refine retf _ _ _ ?_ kn ZX ZX ZX;rw[bf]at iB;rcases Jam.1 iB.symm with h|h
     ·rw[lf,Dr af h];rfl
     ·rw[decide_eq_false_iff_not]at h;rw[decide_eq_false ZT,Jav]
    ·intro au;have bf:ok=true:=ZZ;obtain⟨hn',eY,tC⟩:=qO bf;rw[bf]at iB;have iB:=iB.symm;rw[Jo,decide_eq_true_eq]at iB;obtain⟨cd,cr⟩:=iB;have gM:Qw (x.kids.take i)≤Qw x.kids:=Vl x.kids i;refine Zc ?_
     refine Za ?_;refine⟨Qv,?_⟩;refine Zk ?_;refine⟨Qv,?_⟩;refine Zk ?_;refine⟨Qv,x.kids.length-(i+1),ZT,i+1,(if d'+1 > d then d'+1 else d),rfl,ZT,kn,by rw[Du af,aG,cd];rfl,by split <;> omega,by split <;> omega,?_⟩;rw[show (((1+Qw (x.kids.take i):Nat):Int)+n')=((1+Qw (x.kids.take (i+1)):Nat):Int)by omega];rfl
   ·intro hc;have aV:x.kids.length≤i:=ZU;rw[Jb aV]at aG;rw[Jb aV];refine Zg ?_;refine Za ?_;refine Qi ?_;refine ret _ d _ _ _ _ ⟨?_,fun _=>⟨by rw[aO],ZT,rV⟩⟩ kn ZX ZX rfl;rw[lf,aG,aO,Jk,decide_eq_decide];omega
 refine Qbgs g ?_;simp only[go_sem,Qqg,l1,l2,l7,l8,BH];intro hl;refine⟨fun hb=>?_,fun hb=>?_⟩
 ·have hb:=BD hb;refine RT ?_;simp only[go_sem,V6,hb,l1,l2,l7,l8,BH,Qh];try intro _
  refine rest _ ?_;rw[←hP,Qbaa (a:=most)];revert hb;simp only[BK];cases decide (levO x.op<6) <;> cases decide (x.n=0) <;> cases decide (x.name=[]) <;> cases decide (AX x.op≤(x.kids.length:Int)) <;> cases decide ((x.kids.length:Int)≤AS x.op) <;> cases decide ((1:Int)≤most) <;> simp
 ·have hb:=Be hb;simp only[go_sem,V6,hb,l1,l2,l7,l8,BH];try intro _
  refine rest _ ?_;rw[←hP];revert hb;simp only[BK];cases decide (levO x.op<6) <;> cases decide (x.n=0) <;> cases decide (x.name=[]) <;> simp
theorem TJ {x:Ex}(hx:x.size≤2^40)(g:GK H)(hK:∀H',Upd H H' []→K (.c (.bool x.valid)) H'):Qm prog SM [.ag x.cells] H K:=by
 refine Qc Aa Qapl ?_;refine Zu ?_;refine Za ?_;have h:=@Qbae x.size x;rw[x.aa]at h;refine h 6 (Ji _) hx ZT g fun n d ok H' hu mj=>?_;simp only[go_sem,Qp7,Jh,Jj];refine Za ?_;refine Zb ?_;rw[mj.1];exact hK _ hu
def acN (op:Int):Int:=if 1≤op∧op≤8 then (AO op:Int)else -1
theorem Qa90 {op:Int}(hK:K (.tup [.c (.int .i64 (acN op)),.c (.bool (decide (op=1∨op=2))),.c (.bool (decide (op=5∨op=6))),.c (.bool (decide (op=5)))]) H):Qm prog Vc [.c (.int .i64 op)] H K:=by
 refine Qc Aa Qauu ?_;have ret:∀(n:Int) (a b c:Bool) (e:Env),n=acN op→a=decide (op=1∨op=2)→b=decide (op=5∨op=6)→c=decide (op=5)→lk 2 e=.c (.int .i64 n)→lk 3 e=.c (.bool a)→lk 4 e=.c (.bool b)→lk 5 e=.c (.bool c)→Qq HS K .ret e H:=by
  intro n a b c e h1 h2 h3 h4 l2 l3 l4 l5;subst h1;subst h2;subst h3;subst h4;simp only[go_sem,Qq,Q0,Jv,Jw,RS.op,l2,l3,l4,l5];exact⟨fun _=>trivial,hK⟩
 have fin:∀(n:Int) (a b c:Bool) (e:Env) (Q:X→Env→Heap→Prop),(∀e,lk 2 e=.c (.int .i64 n)→lk 3 e=.c (.bool a)→lk 4 e=.c (.bool b)→lk 5 e=.c (.bool c)→Q .ret e H)→Q6 prog (.seq (.reg (
  .f (some 2) none (.mv (.k (.c (.int .i64 n))))::
  .f (some 3) none (.mv (.k (.c (.bool a))))::
  .f (some 4) none (.mv (.k (.c (.bool b))))::
  .f (some 5) none (.mv (.k (.c (.bool c))))::
  []) [2,3,4,5]) .ret) Q e H:=by
  intro n a b c e Q hq;refine Za ?_;refine Qi ?_;exact hq _ ZX ZX ZX ZX
 refine Za ?_;refine Qz (Qa ?_);simp only[go_sem];refine Qf (Qg ?_);refine Qz (Qa ?_);simp only[go_sem];have one:∀(e:Env),(op=1∨op=2)→Q6 prog Qwl (X.inBlock 0 (X.sq prog Vk (Qq HS K))) ((6,.c (.int .i64 op))::(7,.c (.bool true))::e) H:=by
  intro e h;refine Qb rfl (fun _=>?_) (fun h=>by cases h);refine fin 1 true false false _ _ fun e l2 l3 l4 l5=>?_;simp only[go_sem,AE.X.next];exact ret _ _ _ _ e Za0 (by rw[decide_eq_true h]) Zah Zah l2 l3 l4 l5
 refine Qf (Qb rfl ?_ ?_)
 ·intro hc;refine Ze ?_;have h1:op=1:=ZU
  rw[hc];exact one [] (.inl h1)
 intro hc;have h1:¬op=1:=ZU
 refine Zp ?_;by_cases h2:op=2
 ·rw[decide_eq_true h2];exact one [] (.inr h2)
 rw[decide_eq_false h2];refine Qb rfl (fun h=>by cases h) (fun _=>?_);refine Qz (Qa ?_);simp only[go_sem];have two:∀(b:Bool),b=decide (op=3∨op=7∨op=8)→Q6 prog Qwk (X.inBlock 0 (X.sq prog Vk (Qq HS K))) [(6,.c (.int .i64 op)),(10,.c (.bool b))] H:=by
  intro b hb;refine Qb rfl (fun hc=>?_) (fun hc=>?_)
  ·rw[hb,decide_eq_true_eq]at hc;refine fin 1 false false false _ _ fun e l2 l3 l4 l5=>?_;simp only[go_sem,AE.X.next];exact ret _ _ _ _ e Za0 Zah Zah Zah l2 l3 l4 l5
  rw[hb,decide_eq_false_iff_not]at hc;refine Za ?_;refine Qb rfl (fun dH=>?_) (fun dH=>?_)
  ·have h4:op=4:=by simpa using dH
   refine fin 2 false false false _ _ fun e l2 l3 l4 l5=>?_;simp only[go_sem,AE.X.next];exact ret _ _ _ _ e Zck Zck Zck Zck l2 l3 l4 l5
  have h4:¬op=4:=by simpa using dH
  refine Za ?_;refine Qb rfl (fun iP=>?_) (fun iP=>?_)
  ·have h5:op=5:=ZbN
   refine fin 1 false true true _ _ fun e l2 l3 l4 l5=>?_;simp only[go_sem,AE.X.next];exact ret _ _ _ _ e Zcl Zcl Zcl Zcl l2 l3 l4 l5
  have h5:¬op=5:=ZbN
  refine Za ?_;refine Qb rfl (fun rY=>?_) (fun rY=>?_)
  ·have h6:op=6:=by simpa using rY
   refine fin 1 false true false _ _ fun e l2 l3 l4 l5=>?_;simp only[go_sem,AE.X.next];exact ret _ _ _ _ e Zcm Zcm Zcm Zcm l2 l3 l4 l5
  have h6:¬op=6:=by simpa using rY
  refine Zt ?_;refine fin (-1) false false false _ _ fun e l2 l3 l4 l5=>?_;exact ret _ _ _ _ e (by rw[acN,if_neg (by omega)]) Zah Zah Zah l2 l3 l4 l5
 refine Qf (Qb rfl ?_ ?_)
 ·intro bT;have h3:op=3:=Zaq
  refine Ze ?_;exact two _ Zag
 intro bT;have h3:¬op=3:=Zaq
 refine Za ?_;refine Qb rfl ?_ ?_
 ·intro rX;have h7:op=7:=by simpa using rX
  refine Ze ?_;exact two _ Zag
 intro rX;have h7:¬op=7:=by simpa using rX
 refine Zp ?_;exact two _ Zag
def badS (op:Int)(name:List UInt8)(args:List Ex)(nb ne:Nat)(nest:Int):Bool:=
 decide (4<nest) || (!decide ((args.length:Int)=acN op) || ((decide (op=1∨op=2)&&!Av name) || ((!decide (op=1∨op=2)&&!decide (name=[])) || ((!decide (op=5∨op=6)&&decide (0<nb)) || ((!decide (op=5)&&decide (0<ne)) ||
  (decide (op=8)&&!decide ((args.map Ex.op).getD 0 0=13)))))))
theorem acN_eq {op:Int}{k:Nat}:(k:Int)=acN op↔(1≤op∧op≤8)∧k=AO op:=by
 rw[acN];split <;> omega
theorem Qbo2 (op:Int)(name:List UInt8)(args:List Ex)(nb ne:Nat)(nest:Int):(decide (1≤5-nest)&&BF op name args nb ne)=(!badS op name args nb ne nest&&args.all Ex.valid):=by
 have e1:decide (1≤5-nest) = !decide (4<nest):=by rw[Jr];simp;omega
 have e2:decide ((args.length:Int)=acN op)=(decide (1≤op∧op≤8)&&decide (args.length=AO op)):=by rw[Jr];simp only[Jo,decide_eq_true_eq];exact acN_eq
 have e3:decide (ne=0) = !decide (0<ne):=by rw[Jr];simp
 have e4:decide (nb=0) = !decide (0<nb):=by rw[Jr];simp
 have e5:(decide (op=1∨op=2) == Av name)=true→decide (op=1∨op=2)=false→name=[]→True:=fun _ _ _=>trivial;rw[BF,badS,e1,e2,e3,e4];by_cases hn:name=[]
 ·subst hn;rw[Kz];cases decide (4<nest) <;> cases decide (1≤op∧op≤8) <;> cases decide (args.length=AO op) <;> cases decide (op=1∨op=2) <;> cases decide (0<ne) <;> cases decide (0<nb) <;> cases decide (op=5) <;> cases decide (op=5∨op=6) <;> cases decide (op=8) <;> cases decide ((args.map Ex.op).getD 0 0=13) <;> cases args.all Ex.valid <;> rfl
 ·rw[decide_eq_false hn];cases decide (4<nest) <;> cases decide (1≤op∧op≤8) <;> cases decide (args.length=AO op) <;> cases decide (op=1∨op=2) <;> cases Av name <;> cases decide (0<ne) <;> cases decide (0<nb) <;> cases decide (op=5) <;> cases decide (op=5∨op=6) <;> cases decide (op=8) <;> cases decide ((args.map Ex.op).getD 0 0=13) <;> cases args.all Ex.valid <;> rfl
theorem dpos (n:Nat):decide ((0:Int)<(n:Int))=decide (0<n):=Zag
theorem Qbq8 {x:St}{nest:Int}{Q:X→Env→Heap→Prop}(kn:Kn H0 H [] [])(g:GK H)
  (hn:∀e' H' b,b=badS x.op x.name x.args x.body.length x.els.length nest→Kn H0 H' [] []→lk 1 e'=.c (.int .i64 nest)→lk 2 e'=.c (.pp [.int .i64 x.op,.str x.name,.sl false 4 (Ql x.args),.sl false 5 (Qk x.body),.sl false 5 (Qk x.els)])→lk 19 e'=.c (.bool b)→Q .nrm e' H') :
  Q6 prog Q8m Q [(1,.c (.int .i64 nest)),(2,.c (.pp [.int .i64 x.op,.str x.name,.sl false 4 (Ql x.args),.sl false 5 (Qk x.body),.sl false 5 (Qk x.els)])),(5,.c (.int .i64 (acN x.op))),(6,.c (.bool (decide (x.op=1∨x.op=2)))),(7,.c (.bool (decide (x.op=5∨x.op=6)))),(8,.c (.bool (decide (x.op=5)))),(19,.c (.bool (decide (4<nest))))] H:=by
 refine Qb rfl (fun hc=>?_) (fun hc=>?_)
 ·rw[hc];refine Qd ?_;exact hn _ _ true (by simp only[badS,hc,J8]) kn ZX ZX ZX
 refine Qa ?_;simp only[go_sem,Qh];intro _;refine Qb rfl (fun fA=>?_) (fun fA=>?_)
 ·rw[fA];refine Qd ?_;exact hn _ _ true (by simp only[badS,hc,fA,J8,J9]) kn ZX ZX ZX
 have hl:=acN_eq.1 (show (x.args.length:Int)=acN x.op by simpa using fA);have rest:∀(b:Bool) (H1:Heap),b=(decide (x.op=1∨x.op=2)&&!Av x.name)→Kn H0 H1 [] []→Q6 prog Q8l Q [(1,.c (.int .i64 nest)),(2,.c (.pp [.int .i64 x.op,.str x.name,.sl false 4 (Ql x.args),.sl false 5 (Qk x.body),.sl false 5 (Qk x.els)])),(6,.c (.bool (decide (x.op=1∨x.op=2)))),(7,.c (.bool (decide (x.op=5∨x.op=6)))),(8,.c (.bool (decide (x.op=5)))),(19,.c (.bool b))] H1:=by
  intro b H1 hb kn;refine Qb rfl (fun au=>?_) (fun au=>?_)
  ·rw[au]at hb;rw[au];refine Qd ?_;exact hn _ _ true (by simp only[badS,hc,fA,←hb,J8,J9]) kn ZX ZX ZX
  rw[au]at hb;refine Qa ?_;simp only[go_sem,BK];refine Qb rfl (fun bT=>?_) (fun bT=>?_)
  ·rw[bT];refine Qd ?_;exact hn _ _ true (by simp only[badS,hc,fA,←hb,bT,J8,J9]) kn ZX ZX ZX
  refine Qa ?_;simp only[go_sem,BK,Qp];try intro _
  refine Qb rfl (fun dH=>?_) (fun dH=>?_)
  ·rw[dH];rw[dpos]at dH;refine Qd ?_;exact hn _ _ true (by simp only[badS,hc,fA,←hb,bT,dH,J8,J9]) kn ZX ZX ZX
  rw[dpos]at dH;refine Qa ?_;simp only[go_sem,BK,Qp];try intro _
  refine Qb rfl (fun iP=>?_) (fun iP=>?_)
  ·rw[iP];rw[dpos]at iP;refine Qd ?_;exact hn _ _ true (by simp only[badS,hc,fA,←hb,bT,dH,iP,J8,J9]) kn ZX ZX ZX
  rw[dpos]at iP;refine Qr ?_;have h1:0<x.args.length:=by rw[hl.2,AO];split <;> omega
  have de:=Qs x.args 0 h1;obtain⟨a,ea⟩:∃a,x.args[0]=a:=⟨_,rfl⟩;rw[ea]at de;have eo:(x.args.map Ex.op).getD 0 0=a.op:=by rw[←ea];simp[Jf,h1]
  simp only[go_sem,BK,Qh,h1,de,a.aa]
  first
   |refine⟨fun _=>ZT,?_⟩
   |skip
  refine hn _ _ (decide (x.op=8)&&!decide (a.op=13)) ?_ kn ZX ZX ZX;simp only[badS,hc,fA,←hb,bT,dH,iP,eo,J8,J9,Jk]
 by_cases dy:x.op=1∨x.op=2
 ·have hd:decide (x.op=1∨x.op=2)=true:=decide_eq_true dy;rw[hd]at rest;refine Zd hd ?_;refine Hy g fun H1 hu=>?_;simp only[go_sem,TT];exact rest _ _ rfl (kn.ay hu)
 ·have hd:decide (x.op=1∨x.op=2)=false:=decide_eq_false dy;rw[hd]at rest;refine Qa ?_;simp only[go_sem,hd,TT];exact rest _ _ rfl kn
theorem Qatv {fl:Bool}{l:List St}{f:Nat}{caps:List C}{p:St→Bool}
  (hf:∀(x:St) (H1:Heap) (K':V→Heap→Prop),x∈l→Kn H H1 [] []→(∀H2,Upd H1 H2 []→K' (.c (.bool (p x))) H2)→Qm prog f ([.ag x.cells]++caps.map .c) H1 K')
  (hK:∀(r:Int) (H':Heap),Upd H H' []→decide (0≤r)=l.any p→K (.c (.int .i64 r)) H') :
  Qm prog VN [.c (.sl fl 5 (Qk l)),.c (.fn f caps)] H K:=by
 refine Q1 ?_;refine Qc Aa Q29 ?_;refine Za ?_;refine Qz (Qa ?_);simp only[go_sem,Qp];intro hl;simp only[LIM]at hl;refine Qf (Qg (Q3 (fun m e1 H1=>∃(i:Nat),m=l.length-i∧i≤l.length∧Kn H H1 [] []∧(∀x∈l.take i,p x=false)∧e1=[(0,.c (.sl fl 5 (Qk l))),(1,.c (.fn f caps)),(7,.c (.int .i64 l.length)),(8,.c (.int .i64 i))]) l.length ?_ ?_))
 ·exact⟨0,ZT,ZT,Kn.ao H,ZV,rfl⟩
 ·rintro m e1 H1 ⟨i,hm,hi,kn,aG,rfl⟩;refine Za ?_;refine Qf (Qb rfl ?_ ?_)
  ·intro hc;have af:i<l.length:=ZU
   refine Ze ?_;refine Qf (Qg ?_);refine Za ?_;refine Qa ?_;simp only[go_sem,af,Qp,Q9 _ _ af,St.take5,St.aU,St.ae];refine hf _ _ _ (Jd af) kn fun H2 hu=>?_;have kn:=kn.ay hu;refine Qb rfl ?_ ?_
   ·intro au;refine Za ?_;refine Zh ?_;refine⟨_,.c _ _ (Qe rfl),hK _ _ kn.fin ?_⟩;have:l.any p=true:=Jy.2 ⟨_,Jd af,au⟩;rw[this];simp
   ·intro au;refine Ze ?_;refine Zo ?_;refine⟨Qv,l.length-(i+1),ZT,i+1,rfl,ZT,kn,?_,rfl⟩;rw[Jc af];intro x hx;rcases Jl.1 hx with hx|hx
    ·exact aG x hx
    ·simp only[Ja]at hx;subst hx;exact au
  ·intro hc;have aV:l.length≤i:=ZU
   rw[Jb aV]at aG;refine Zm ?_;refine Za ?_;refine Zb ?_;refine⟨_,.c _ _ (Qe rfl),hK _ _ kn.fin ?_⟩;have:l.any p=false:=by
    cases hc:l.any p with
    |false=>rfl
    |true=>obtain⟨x,hx,hp⟩:=Jy.1 hc;rw[aG x hx]at hp;exact absurd hp ZV
   rw[this];rfl
theorem Qafb {fl:Bool}{l:List St}{f:Nat}{caps:List C}{p:St→Bool}
  (hf:∀(x:St) (H1:Heap) (K':V→Heap→Prop),x∈l→Kn H H1 [] []→(∀H2,Upd H1 H2 []→K' (.c (.bool (p x))) H2)→Qm prog f ([.ag x.cells]++caps.map .c) H1 K')
  (hK:∀(H':Heap),Upd H H' []→K (.c (.bool (l.any p))) H') :
  Qm prog VZ [.c (.sl fl 5 (Qk l)),.c (.fn f caps)] H K:=by
 refine Qc Aa Qt8 ?_;refine Za ?_;refine Za ?_;refine Qatv hf fun r H' hu hr=>?_;simp only[go_sem,E8];refine Zb ?_;rw[hr];exact hK _ hu
def StOk (n:Nat):Prop:=∀(x:St) (nest:Int) (H:Heap) (K:V→Heap→Prop),x.size≤n→x.size≤2^40→0≤nest→nest≤100→GK H→(∀H',Upd H H' []→K (.c (.bool (x.form (5-nest)))) H')→Qm prog T9 [.ag x.cells,.c (.int .i64 nest)] H K
def BlOk (n:Nat):Prop:=∀(l:List St) (nest:Int) (fl:Bool) (H:Heap) (K:V→Heap→Prop),Qj l≤n→Qj l≤2^40→0≤nest→nest≤100→GK H→(∀H',Upd H H' []→K (.c (.bool (Qx l (5-nest)))) H')→
 Qm prog Q63 [.c (.sl fl 5 (Qk l)),.c (.int .i64 nest)] H K
theorem Kg {n:Nat}(hS:StOk n):BlOk n:=by
 intro l nest fl H K hn hb h0 hm g hK;refine Q1 ?_;refine Qc Aa Qaxz ?_;refine Za ?_;refine Za ?_;have kn:=Kn.ao H;refine Qafb (p:=fun s=>!s.form (5-nest)) (fun x H1 K' hx kn cP=>?_) fun H1 hu=>?_
 ·have aZ:=Bw hx;refine Qc Aa Qai8 ?_;refine Zu ?_;refine Za ?_;have h:=hS x nest;rw[x.aa]at h;refine h _ _ ZT ZT h0 hm (g.kn kn) fun H2 hu=>?_;simp only[go_sem,Qn2];refine Zb ?_;exact cP _ hu
 have kn:=kn.ay hu;simp only[go_sem,Qwm];refine Zb ?_;refine⟨_,.c _ _ (Qe rfl),?_⟩;have e:(!l.any fun s=>!s.form (5-nest))=Qx l (5-nest):=by rw[D0,List.all_eq_not_any_not]
 rw[e];exact hK _ kn.fin
theorem X9:∀n,StOk n:=by
 intro n
 induction n with
 |zero=>intro x nest H K hx;have:=x.size_eq;omega
 |succ n ih=>
 have hB:=Kg ih;intro x nest H K hn hb h0 hm g hK;have gW:=x.size_eq;have g0:=g;refine Q1 ?_;refine Qc Aa Qa2r ?_;have da:x.form (5-nest)=(!badS x.op x.name x.args x.body.length x.els.length nest&&x.args.all Ex.valid&&(Qx x.body (5-(nest+1))&&Qx x.els (5-(nest+1)))):=by
  rw[x.form_eq,Qbo2,show 5-nest-1=5-(nest+1)by omega,J3]
 have retf:∀(b:Bool) (e:Env) (H':Heap) (L:List (Nat×Obj)),x.form (5-nest)=b→Kn H H' [] L→lk 4 e=.c (.bool b)→Qq Ab (unK H K) .ret e H':=by
  intro b e H' L hf kn h4;simp only[go_sem,Qq,Q0,Ja,forall_eq,RS.op,h4];refine⟨_,.c _ _ (Qe rfl),?_⟩;rw[←hf];exact hK _ kn.fin
 have kn:=Kn.ao H;refine Zu ?_;refine Za ?_;refine Qa90 ?_;simp only[go_sem,Q2o,Jh,Jj];refine Qf (Qg ?_);refine Qz (Qa ?_);simp only[go_sem];refine Qf (Qbq8 kn g fun e' H1 b nr kn l1 l2 l19=>?_);clear g;have g:=g0.kn kn;simp only[go_sem];rw[←nr]at da;refine Qb (by simp only[go_sem,l19];rfl) (fun hc=>?_) (fun hc=>?_)
 ·refine Za ?_;refine Zx ?_;exact retf false _ _ _ (by rw[da,hc];rfl) kn ZX
 have hn4:nest≤4:=by
  rw[hc,badS]at nr;have:=(Bool.or_eq_false_iff.1 nr.symm).1;simpa using this
 rw[hc,Jad,Jk]at da;refine Zt ?_;refine Qz (Qa ?_);simp only[go_sem,l1,l2,Qh];intro hl;simp only[LIM]at hl;refine Qf (Qg (Q3 (fun m e1 H1=>∃(i:Nat),m=x.args.length-i∧i≤x.args.length∧Kn H H1 [] []∧((x.args.take i).all Ex.valid)=true∧
  e1=[(1,.c (.int .i64 nest)),(2,.c (.pp [.int .i64 x.op,.str x.name,.sl false 4 (Ql x.args),.sl false 5 (Qk x.body),.sl false 5 (Qk x.els)])),(69,.c (.sl false 4 (Ql x.args))),(70,.c (.int .i64 x.args.length)),(71,.c (.int .i64 i))]) x.args.length ?_ ?_))
 ·exact⟨0,ZT,ZT,kn,rfl,rfl⟩
 ·clear kn g;rintro m e1 H2 ⟨i,hm,hi,kn,aG,rfl⟩;have g:=g0.kn kn;refine Za ?_;refine Qf (Qb rfl ?_ ?_)
  ·intro hc;have af:i<x.args.length:=ZU
   have hm:=Bn (Jd af);refine Zc ?_
   refine Qf (Qg ?_);refine Qa ?_;simp only[go_sem,af,Qh,Qs _ _ af,x.args[i].aa];intro x10 mf H3 h3;have kn:=kn.al mf h3;have g12:=kn.l 0 rfl;simp only[go_sem,Q2p,g12];intro H4 h4;have kn:Kn H H4 [] [(x10,.st [.int .i64 x.args[i].op,.int .i64 x.args[i].n,.str x.args[i].name,.sl false 4 (Ql x.args[i].kids)])]:=kn.ax 0 rfl h4;clear g12;have g:=g0.kn kn;have g12:=kn.l 0 rfl;refine Zd g12 ?_;have bg:=@TJ H4;have pq:=fun K=>@TJ H4 K x.args[i];simp only[x.args[i].aa]at pq;refine pq _ ZT g fun H5 hu=>?_;have kn:=Kn.drop (A:=[]) (kn.ay hu);simp only[go_sem,Qw9];refine Qb rfl ?_ ?_
   ·intro au;refine Za ?_;refine Zx ?_;exact retf false _ _ _ (by rw[da,Dr af (BD au)];rfl) kn ZX
   ·intro au;refine Zc ?_
    refine Zk ?_;exact⟨Qv,x.args.length-(i+1),ZT,i+1,rfl,ZT,kn,by rw[Du af,aG,Be au];rfl,rfl⟩
  ·intro hc;have aV:x.args.length≤i:=ZU
   rw[Jb aV]at aG;rw[aG,Jk]at da;refine Zg ?_;refine Za ?_;refine⟨Qv,?_⟩;refine hB x.body (nest+1) _ _ _ ZT ZT ZT ZT g fun H3 hu=>?_;have kn:=kn.ay hu;have g:=g0.kn kn
   cases bh:Qx x.body (5-(nest+1))with
   |false=>
    simp only[go_sem,Vh,Vi];refine Qi ?_;exact retf false _ _ _ (by rw[da,bh];rfl) kn ZX
   |true=>
    simp only[go_sem,Vh];refine⟨Qv,?_⟩;refine hB x.els (nest+1) _ _ _ ZT ZT ZT ZT g fun H4 hu=>?_;have kn:=kn.ay hu;simp only[go_sem,Vi];refine Qi ?_;exact retf _ _ _ _ (by rw[da,bh];rfl) kn rfl
theorem Y6 (n:Nat):BlOk n:=Kg (X9 n)
end Go.AE.Y
namespace Go.AE
open Go.AE.Y
open Go.Proofs.Tryz
variable {H H0:Heap}{K:V→Heap→Prop}{E E' L:List (Nat×Obj)}
theorem Kn.callAll {H':Heap}(kn:Kn H0 H E L)(hu:Upd H H' E')(hn:E'.map Prod.fst=E.map Prod.fst)(aP:∀p∈E',p.2≠.none):Kn H0 H' E' L:=by
 refine kn.callg hu hn rfl (fun p hp=>?_) (fun m hm=>?_)
 ·rcases Jl.1 hp with h|h
  ·exact⟨aP p h,.inl h⟩
  ·refine⟨(kn.get p (Jp _ h)).2,.inr ⟨Jp _ h,fun hm=>?_⟩⟩;rw[hn]at hm;obtain⟨q,hq,hqp⟩:=Jq.1 hm;exact kn.ext q hq (by rw[hqp];exact kn.loc p h)
 ·exact .inl (by rw[←hn];exact Jq.2 ⟨m,hm,rfl⟩)
end Go.AE
namespace Go.AE.Y
open Go.Proofs.Tryz
variable {H H0:Heap}{K:V→Heap→Prop}{E E' L:List (Nat×Obj)}
mutual
def St.vis {α:Type}(step:α→St→Int→α):St→Int→α→α
 |.mk op name args body els,n,a=>AF step els (n+1) (AF step body (n+1) (step a (.mk op name args body els) n))
def AF {α:Type}(step:α→St→Int→α):List St→Int→α→α
 |[],_,a=>a
 |x::r,n,a=>AF step r n (x.vis step n a)
end
theorem St.vis_eq {α:Type}(step:α→St→Int→α)(x:St)(n:Int)(a:α):x.vis step n a=AF step x.els (n+1) (AF step x.body (n+1) (step a x n)):=by
 cases x;simp only[St.vis,St.body,St.els]
theorem Qbeg {α:Type}(step:α→St→Int→α)(l r:List St)(n:Int)(a:α):AF step (l++r) n a=AF step r n (AF step l n a):=by
 induction l generalizing a with
 |nil=>simp[AF]
 |cons x l ih=>simp only[J7,AF,ih]
theorem Qa7w {α:Type}(step:α→St→Int→α){l:List St}{i:Nat}(h:i<l.length)(n:Int)(a:α):AF step (l.take (i+1)) n a=(l[i]).vis step n (AF step (l.take i) n a):=by
 rw[Jc h,Qbeg];simp[AF]
structure VisOk {α:Type}(ob:α→List (Nat×Obj))(step:α→St→Int→α)(ok:α→Prop)(mu:α→Nat)(f:Nat)(caps:List C):Prop where
 nm:∀a b,(ob a).map Prod.fst=(ob b).map Prod.fst
 nd:∀a,((ob a).map Prod.fst).Nodup
 ne:∀a,∀p∈ob a,p.2≠.none
 st:∀a s n,ok a→ok (step a s n)
 ms:∀a s n,mu (step a s n)≤mu a+s.size-(Qj s.body+Qj s.els)
 c:∀(a:α) (s:St) (n:Int) (H:Heap) (K:V→Heap→Prop),ok a→mu a≤2^41→0≤n→(n≤2^41)→s.size≤2^40→(∀p∈ob a,H p.1=p.2)→(∀H',Upd H H' (ob (step a s n))→K (.tup []) H')→Qm prog f ([.ag s.cells,.c (.int .i64 n)]++caps.map .c) H K
mutual
theorem St.vis_ok {α:Type}{step:α→St→Int→α}{ok:α→Prop}(hs:∀a s n,ok a→ok (step a s n)):∀(x:St) (n:Int) (a:α),ok a→ok (x.vis step n a)
 |.mk op name args body els,n,a,h=>by
  simp only[St.vis];exact Hj hs els _ _ (Hj hs body _ _ (hs _ _ _ h))
theorem Hj {α:Type}{step:α→St→Int→α}{ok:α→Prop}(hs:∀a s n,ok a→ok (step a s n)):∀(l:List St) (n:Int) (a:α),ok a→ok (AF step l n a)
 |[],_,a,h=>by simpa[AF]using h
 |x::r,n,a,h=>by
  simp only[AF];exact Hj hs r _ _ (St.vis_ok hs x _ _ h)
end
mutual
theorem St.vis_mu {α:Type}{step:α→St→Int→α}{mu:α→Nat}(hs:∀a s n,mu (step a s n)≤mu a+s.size-(Qj s.body+Qj s.els)):∀(x:St) (n:Int) (a:α),mu (x.vis step n a)≤mu a+x.size
 |.mk op name args body els,n,a=>by
  simp only[St.vis];have h1:=hs a (.mk op name args body els) n;have h2:=Hk hs body (n+1) (step a (.mk op name args body els) n);have h3:=Hk hs els (n+1) (AF step body (n+1) (step a (.mk op name args body els) n));have h4:=St.size_eq (.mk op name args body els);simp only[St.body,St.els,St.args]at h1 h4;omega
theorem Hk {α:Type}{step:α→St→Int→α}{mu:α→Nat}(hs:∀a s n,mu (step a s n)≤mu a+s.size-(Qj s.body+Qj s.els)):∀(l:List St) (n:Int) (a:α),mu (AF step l n a)≤mu a+Qj l
 |[],_,a=>by simp[AF,Qj]
 |x::r,n,a=>by
  simp only[AF,Qj];have h1:=St.vis_mu hs x n a;have h2:=Hk hs r n (x.vis step n a);omega
end
theorem Qbf4 {α:Type}{ob:α→List (Nat×Obj)}{step:α→St→Int→α}{ok:α→Prop}{mu:α→Nat}{f:Nat}{caps:List C}(hv:VisOk ob step ok mu f caps) :
  ∀(n:Nat) (l:List St) (nest:Int) (fl:Bool) (a:α) (H:Heap) (K:V→Heap→Prop),Qj l≤n→Qj l≤2^40→0≤nest→nest+n≤2^41→ok a→mu a+n≤2^41→(∀p∈ob a,H p.1=p.2)→(∀H',Upd H H' (ob (AF step l nest a))→K (.tup []) H')→
   Qm prog NV [.c (.sl fl 5 (Qk l)),.c (.int .i64 nest),.c (.fn f caps)] H K:=by
 intro n
 induction n using Nat.strongRecOn with
 |_ n ih=>
 intro l nest fl a H K hn hb h0 hm ha hmu hh hK;refine Q1 ?_;refine Qc Aa Qbay ?_;refine Qa ?_;simp only[go_sem,Qp];intro hl;simp only[LIM]at hl;have aP:=hv.ne a;have kn:Kn H H (ob a) []:=.startE (fun p hp=>⟨hh p hp,aP p hp⟩) (hv.nd a);refine Qg (Q3 (fun m e1 H1=>∃(i:Nat),m=l.length-i∧i≤l.length∧Kn H H1 (ob (AF step (l.take i) nest a)) []∧
  e1=[(1,.c (.int .i64 nest)),(2,.c (.fn f caps)),(8,.c (.sl fl 5 (Qk l))),(9,.c (.int .i64 l.length)),(10,.c (.int .i64 i))]) l.length ?_ ?_)
 ·exact⟨0,ZT,ZT,by simpa[AF]using kn,rfl⟩
 ·clear kn;rintro m e1 H1 ⟨i,bp,hi,kn,rfl⟩;obtain⟨a1,aX⟩:∃a1,AF step (l.take i) nest a=a1:=⟨_,rfl⟩;have fp:ok a1:=by rw[←aX];exact Hj hv.st _ _ _ ha
  have ry:=Hk hv.ms (l.take i) nest a;have cE:=GV l i;rw[aX]at kn ry;refine Za ?_;refine Qf (Qb rfl ?_ ?_)
  ·intro hc;have af:i<l.length:=ZU
   have dc:=Bw (Jd af);have aC:=Tt af;have iC:=GV l (i+1);obtain⟨x,hx⟩:∃x,l[i]=x:=⟨_,rfl⟩;rw[hx]at dc aC;have gW:=x.size_eq;have aY:=Qa7w step af nest a;rw[aX,hx]at aY;refine Zc ?_
   refine Qf (Qg ?_);refine Qa ?_;simp only[go_sem,af,Qp,Q9 _ _ af,hx,x.aa];intro x7 i8 H3 h3;have kn:=kn.al i8 h3;have g7:=kn.l 0 rfl;simp only[go_sem,SN,g7];intro H4 h4;have kn:Kn H H4 (ob a1) [(x7,.st [.int .i64 x.op,.str x.name,.sl false 4 (Ql x.args),.sl false 5 (Qk x.body),.sl false 5 (Qk x.els)])]:=kn.ax 0 rfl h4;clear g7;have g7:=kn.l 0 rfl;refine Zd g7 ?_;have lr:=hv.c a1 x nest;rw[x.aa]at lr;refine lr _ _ fp ZT h0 ZT ZT (fun p hp=>(kn.get p (Je _ hp)).1) fun H5 hu=>?_;have kn:=kn.callAll hu (hv.nm _ _) (hv.ne _);have g7:=kn.l 0 rfl;have ej:=hv.st a1 x nest fp;have hmu2:=hv.ms a1 x nest;have hmu3:=Hk hv.ms x.body (nest+1) (step a1 x nest);simp only[go_sem];refine Zd g7 ?_;refine⟨Qv,?_⟩;refine ih (Qj x.body) ZT x.body (nest+1) _ _ _ _ (Ji _) ZT ZT ZT ej ZT (fun p hp=>(kn.get p (Je _ hp)).1) fun H6 hu=>?_;have kn:=kn.callAll hu (hv.nm _ _) (hv.ne _);have g7:=kn.l 0 rfl;have rf:=Hj hv.st x.body (nest+1) _ ej;simp only[go_sem];refine ZB g7 ?_;refine⟨Qv,?_⟩;refine ih (Qj x.els) ZT x.els (nest+1) _ _ _ _ (Ji _) ZT ZT ZT rf ZT (fun p hp=>(kn.get p (Je _ hp)).1) fun H7 hu=>?_;have kn:=Kn.drop (A:=[]) (kn.callAll hu (hv.nm _ _) (hv.ne _));simp only[go_sem];refine Zo ?_;refine⟨Qv,l.length-(i+1),ZT,i+1,rfl,ZT,?_,rfl⟩;rw[aY,x.vis_eq];exact kn
  ·intro hc;have aV:l.length≤i:=ZU
   rw[Jb aV]at aX;refine Qy ?_;simp only[go_sem,X.next,Qq,Q0,AJ];refine⟨.tup [],.tup _ _ rfl fun j x x' h=>Zaa,hK _ ?_⟩;rw[aX];exact kn.fin
end Go.AE.Y
namespace Go.AE.Y
attribute [local go_sem] cond_true cond_false Bool.not_true Bool.not_false
open Go.Proofs.Tryz
variable {H H0:Heap}{K:V→Heap→Prop}{E E' L:List (Nat×Obj)}
def BW (p:Int×Int)(s:St)(n:Int):Int×Int:=(p.1+1,if n > p.2 then n else p.2)
mutual
theorem St.ms_fst:∀(x:St) (n:Int) (p:Int×Int),(x.vis BW n p).1=p.1+x.cnt
 |.mk op name args body els,n,p=>by
  simp only[St.vis,St.cnt];rw[Tg els,Tg body,BW];simp only[];omega
theorem Tg:∀(l:List St) (n:Int) (p:Int×Int),(AF BW l n p).1=p.1+As l
 |[],_,p=>by simp[AF,As]
 |x::r,n,p=>by
  simp only[AF,As];rw[Tg r,St.ms_fst x];omega
end
def msOb (x2 x3:Nat)(p:Int×Int):List (Nat×Obj):=[(x2,.st [.int .i64 p.1]),(x3,.st [.int .i64 p.2])]
theorem Ih {x2 x3:Nat}(aP:x2≠x3):VisOk (msOb x2 x3) BW (fun p=>0≤p.1) (fun p=>p.1.toNat) Vw [.ptr x2 0,.ptr x3 0]:=by
 refine⟨fun _ _=>rfl,fun _=>by simp[msOb,aP],fun a p hp=>?_,fun a s n h=>?_,fun a s n=>?_,fun a s n H K ha hmu h0 hn hs hh hK=>?_⟩
 ·simp only[msOb,Jg,Jw,or_false]at hp;rcases hp with rfl|rfl <;> nofun
 ·show 0≤a.1+1;omega
 ·show (a.1+1).toNat≤_;have:=s.size_eq;omega
 ·have h2:H x2=.st [.int .i64 a.1]:=hh (x2,_) (by simp[msOb]);have h3:H x3=.st [.int .i64 a.2]:=hh (x3,_) (by simp[msOb]);refine Qc Aa Qajd ?_;have kn:=Kn.start2 h2 ZaO h3 ZaO aP;refine Qa ?_;simp only[go_sem,s.aa];refine Zd h2 ?_;refine⟨Qv,fun H1 h1=>?_⟩;have kn:=kn.stE 0 rfl h1;have g3:=kn.e 1 rfl;refine ZB g3 ?_;intro H2 iZ;have kn:=kn.stE 1 rfl iZ;simp only[Qq,Q0,AJ,go_sem];exact hK _ ⟨fun p hp=>(kn.get p (Je _ hp)).1,fun m h1 h2=>kn.chg m h1 h2⟩
end Go.AE.Y
namespace Go.AE
open Go.AE.Y
open Go.Proofs.Tryz
variable {H H0:Heap}{K:V→Heap→Prop}{E E' L:List (Nat×Obj)}
theorem Kn.callLs {H':Heap}{L' M:List (Nat×Obj)}(kn:Kn H0 H E (L++M))(hu:Upd H H' L')(hn:L'.map Prod.fst=L.map Prod.fst)(aP:∀p∈L',p.2≠.none):Kn H0 H' E (L'++M):=by
 have rA:∀m,m∈L'.map Prod.fst→H0 m=.none:=fun m h=>by
  rw[hn]at h;obtain⟨q,hq,rfl⟩:=Jq.1 h;exact kn.loc q (Je _ hq)
 refine kn.callg hu rfl (by rw[Ju,Ju,hn]) (fun p hp=>?_) (fun m hm=>.inr (by rw[Ju,←hn];exact Je _ (Jq.2 ⟨m,hm,rfl⟩)));rcases Jl.1 hp with h|h
 ·exact⟨(kn.get p (Je _ h)).2,.inr ⟨Je _ h,fun hm=>kn.ext p h (rA _ hm)⟩⟩
 rcases Jl.1 h with h|h
 ·exact⟨aP p h,.inl h⟩
 ·refine⟨(kn.get p (Jp _ (Jp _ h))).2,.inr ⟨Jp _ (Jp _ h),fun hm=>?_⟩⟩;rw[hn]at hm;have hd:=kn.dL;rw[Ju,J1]at hd;exact hd.2.2 _ hm _ (Jq.2 ⟨p,h,rfl⟩) rfl
end Go.AE
namespace Go.AE.Y
open Go.Proofs.Tryz
variable {H H0:Heap}{K:V→Heap→Prop}{E E' L:List (Nat×Obj)}
theorem Qbn4 {S:Nat→Bool}(n d:Int):FrzV H S (.tup [.c (.int .i64 n),.c (.int .i64 d)]) (.tup [.c (.int .i64 n),.c (.int .i64 d)]):=by
 refine .tup _ _ rfl fun j x x' h1 h2=>?_
 match j with
 |0=>simp at h1 h2;subst h1;subst h2;exact .c _ _ (Qe rfl)
 |1=>simp at h1 h2;subst h1;subst h2;exact .c _ _ (Qe rfl)
end Go.AE.Y
namespace Go.AE
open Go.AE.Y
open Go.Proofs.Tryz
variable {H H0:Heap}{K:V→Heap→Prop}{E E' L:List (Nat×Obj)}
theorem Kn.lm2 {x:Nat×Obj}(kn:Kn H0 H E L)(h:x∈L):H x.1=x.2:=(kn.get x (Jp _ h)).1
end Go.AE
namespace Go.AE.Y
open Go.Proofs.Tryz
variable {H H0:Heap}{K:V→Heap→Prop}{E E' L:List (Nat×Obj)}
theorem Qbha {l:List Fn}{fl:Bool}(hf:Qn l≤2^40)(hK:∀(d:Int) H',Upd H H' []→K (.tup [.c (.int .i64 (A7 l)),.c (.int .i64 d)]) H'):Qm prog Q65 [.ag [.sl fl 3 (Qo l)]] H K:=by
 refine Q1 ?_;refine Qc Aa Qax4 ?_;refine Za ?_;intro x2 bB H1 h1;have kn:=(Kn.ao H).al bB h1;simp only[go_sem,Qw6];intro x3 bQ H2 h2;have kn:=kn.al bQ h2;have aP:x2≠x3:=kn.neL 0 1 rfl rfl ZT;have kn:Kn H H2 [] (msOb x2 x3 (0,0)):=kn;refine Qz (Qa ?_);simp only[go_sem,Qu];intro hl;simp only[LIM]at hl;refine Qf (Qg (Q3 (fun m e1 H1=>∃(i:Nat) (d:Int),m=l.length-i∧i≤l.length∧Kn H H1 [] (msOb x2 x3 ((A7 (l.take i):Int),d))∧
  e1=[(2,.c (.ptr x2 0)),(3,.c (.ptr x3 0)),(7,.c (.sl fl 3 (Qo l))),(8,.c (.int .i64 l.length)),(9,.c (.int .i64 i))]) l.length ?_ ?_))
 ·exact⟨0,0,ZT,ZT,kn,rfl⟩
 ·clear kn;rintro m e1 H3 ⟨i,d,hm,hi,kn,rfl⟩;refine Za ?_;refine Qf (Qb rfl ?_ ?_)
  ·intro hc;have af:i<l.length:=ZU
   have hm:=Cm (Jd af);have aY:=Q9c af;have n7:=Q7v af;have mh:=Vv l (i+1);have hct:=Rc (l.take i);refine Zc ?_
   refine Qf (Qg ?_);refine Qa ?_;simp only[go_sem,af,Qu,AB _ _ af,Fn.cells];intro x5 cp H4 h4;have kn:=kn.al cp h4;have g5:=kn.l 2 rfl;simp only[go_sem,Qw7,g5];intro H5 h5;have kn:Kn H H5 [] (msOb x2 x3 ((A7 (l.take i):Int),d)++[(x5,_)]):=kn.ax 2 rfl h5;have g5:=kn.l 2 rfl;refine ZB g5 ?_;refine Qbf4 (Ih aP) (Qj l[i].body) l[i].body 1 _ ((A7 (l.take i):Int),d) _ _ (Ji _) ZT ZT ZT (by show (0:Int)≤_;omega) (by show (A7 (l.take i):Int).toNat+_≤_;omega) (fun p hp=>kn.lm2 (Je _ hp)) fun H6 hu=>?_;have kn:=Kn.drop (A:=msOb x2 x3 (AF BW l[i].body 1 ((A7 (l.take i):Int),d))) (kn.callLs hu rfl ((Ih aP).ne _));have gu:=Tg l[i].body 1 ((A7 (l.take i):Int),d);simp only[go_sem];refine Zk ?_;refine⟨Qv,l.length-(i+1),ZT,i+1,(AF BW l[i].body 1 ((A7 (l.take i):Int),d)).2,rfl,ZT,?_,rfl⟩;have e:((A7 (l.take (i+1)):Int))=(AF BW l[i].body 1 ((A7 (l.take i):Int),d)).1:=by rw[gu,aY];simp
   rw[e];exact kn
  ·intro hc;have aV:l.length≤i:=ZU
   rw[Jb aV]at kn;have g2:=kn.l 0 rfl;have g3:=kn.l 1 rfl;refine Zg ?_;refine An ?_;simp only[go_sem,g2,g3];intro H4 h4;have kn:=kn.ax 0 rfl h4;have g3:=kn.l 1 rfl;simp only[go_sem,Qw8,g3];intro H5 h5;have kn:=kn.ax 1 rfl h5;have g2:=kn.l 0 rfl;have g3:=kn.l 1 rfl;refine Qi ?_;simp only[go_sem,Qq,Q0,Jv,Jw,RS.op,g2,g3];exact⟨fun _=>trivial,_,Qbn4 _ _,hK d _ kn.fin⟩
end Go.AE.Y
namespace Go.AE.Y
attribute [local go_sem] cond_true cond_false Bool.not_true Bool.not_false
open Go.Proofs.Tryz
variable {H H0:Heap}{K:V→Heap→Prop}{E E' L:List (Nat×Obj)}
theorem Qapi {fl:Bool}{l:List (List UInt8)}{f:Nat}{caps:List C}{p:List UInt8→Bool}
  (hf:∀(x:List UInt8) (H1:Heap) (K':V→Heap→Prop),x∈l→Kn H H1 [] []→(∀H2,Upd H1 H2 []→K' (.c (.bool (p x))) H2)→Qm prog f ([.c (.str x)]++caps.map .c) H1 K')
  (hK:∀(r:Int) (H':Heap),Upd H H' []→decide (0≤r)=l.any p→K (.c (.int .i64 r)) H') :
  Qm prog VY [.c (.sl fl 1 (Q5 l)),.c (.fn f caps)] H K:=by
 refine Q1 ?_;refine Qc Aa Qvv ?_;refine Za ?_;refine Qz (Qa ?_);simp only[go_sem,Qt];intro hl;simp only[LIM]at hl;refine Qf (Qg (Q3 (fun m e1 H1=>∃(i:Nat),m=l.length-i∧i≤l.length∧Kn H H1 [] []∧(∀x∈l.take i,p x=false)∧e1=[(0,.c (.sl fl 1 (Q5 l))),(1,.c (.fn f caps)),(7,.c (.int .i64 l.length)),(8,.c (.int .i64 i))]) l.length ?_ ?_))
 ·exact⟨0,ZT,ZT,Kn.ao H,ZV,rfl⟩
 ·rintro m e1 H1 ⟨i,hm,hi,kn,aG,rfl⟩;refine Za ?_;refine Qf (Qb rfl ?_ ?_)
  ·intro hc;have af:i<l.length:=ZU
   have kE:l.getD i []=l[i]:=Zbo
   refine Ze ?_;refine Qf (Qg ?_);refine Za ?_;refine ZN af kE ?_;refine hf _ _ _ (Jd af) kn fun H2 hu=>?_;have kn:=kn.ay hu;refine Qb rfl ?_ ?_
   ·intro au;refine Za ?_;refine Zh ?_;refine⟨_,.c _ _ (Qe rfl),hK _ _ kn.fin ?_⟩;have:l.any p=true:=Jy.2 ⟨_,Jd af,au⟩;rw[this];simp
   ·intro au;refine Ze ?_;refine Zo ?_;refine⟨Qv,l.length-(i+1),ZT,i+1,rfl,ZT,kn,?_,rfl⟩;rw[Jc af];intro x hx;rcases Jl.1 hx with hx|hx
    ·exact aG x hx
    ·simp only[Ja]at hx;subst hx;exact au
  ·intro hc;have aV:l.length≤i:=ZU
   rw[Jb aV]at aG;refine Zm ?_;refine Za ?_;refine Zb ?_;refine⟨_,.c _ _ (Qe rfl),hK _ _ kn.fin ?_⟩;have:l.any p=false:=by
    cases hc:l.any p with
    |false=>rfl
    |true=>obtain⟨x,hx,hp⟩:=Jy.1 hc;rw[aG x hx]at hp;exact absurd hp ZV
   rw[this];rfl
theorem Q84 {fl:Bool}{l:List (List UInt8)}{f:Nat}{caps:List C}{p:List UInt8→Bool}
  (hf:∀(x:List UInt8) (H1:Heap) (K':V→Heap→Prop),x∈l→Kn H H1 [] []→(∀H2,Upd H1 H2 []→K' (.c (.bool (p x))) H2)→Qm prog f ([.c (.str x)]++caps.map .c) H1 K')
  (hK:∀(H':Heap),Upd H H' []→K (.c (.bool (l.any p))) H') :
  Qm prog Xa [.c (.sl fl 1 (Q5 l)),.c (.fn f caps)] H K:=by
 refine Qc Aa Qpv ?_;refine Za ?_;refine Za ?_;refine Qapi hf fun r H' hu hr=>?_;simp only[go_sem,E8];refine Zb ?_;rw[hr];exact hK _ hu
theorem X2 {s:List UInt8}(g:GK H)(hK:∀H',Upd H H' []→K (.c (.bool (!Av s))) H'):Qm prog VW [.c (.str s)] H K:=by
 refine Qc Aa Qz3 ?_;refine Za ?_;refine Za ?_;refine Hy g fun H1 hu=>?_;simp only[go_sem,SK];refine Zb ?_;exact hK _ hu
theorem Qafc {l:List Fn}{fl:Bool}(hf:Qn l≤2^40)(g:GK H)(hK:∀H',Upd H H' []→K (.c (.bool (AW l))) H'):Qm prog Qm6 [.ag [.sl fl 3 (Qo l)]] H K:=by
 refine Q1 ?_;have g0:=g;refine Qc Aa Q9n ?_;have retf:∀(b:Bool) (e:Env) (H':Heap) (L:List (Nat×Obj)),AW l=b→Kn H H' [] L→lk 2 e=.c (.bool b)→Qq Ac (unK H K) .ret e H':=by
  intro b e H' L hf kn h4;simp only[go_sem,Qq,Q0,Ja,forall_eq,RS.op,h4];refine⟨_,.c _ _ (Qe rfl),?_⟩;rw[←hf];exact hK _ kn.fin
 have kn:=Kn.ao H;refine Za ?_;refine Qz (Qa ?_);simp only[go_sem,Qu];intro hl;simp only[LIM]at hl;refine RT ?_;simp only[go_sem,Qkd];have hw:(decide ((1:Int)≤(l.length:Int))&&decide ((l.length:Int)≤4))=decide (1≤l.length∧l.length≤4):=by rw[Jr];simp;omega
 rw[hw];refine Qf (Qb rfl ?_ ?_)
 ·intro hc;have hc:=BD hc;refine Za ?_;refine Zx ?_;exact retf false _ _ _ (by rw[AW,hc];rfl) kn ZX
 intro hc;have aM:=Be hc;refine Zc ?_
 refine Qz (Qa ?_);simp only[go_sem,Qu];intro _;refine Qf (Qg (Q3 (fun m e1 H1=>∃(i:Nat),m=l.length-i∧i≤l.length∧Kn H H1 [] []∧((l.take i).all Fn.form)=true∧
  e1=[(1,.c (.pp [.sl fl 3 (Qo l)])),(13,.c (.sl fl 3 (Qo l))),(14,.c (.int .i64 l.length)),(15,.c (.int .i64 i))]) l.length ?_ ?_))
 ·exact⟨0,ZT,ZT,kn,rfl,rfl⟩
 ·clear kn g;rintro m e1 H2 ⟨i,hm,hi,kn,aG,rfl⟩;have g:=g0.kn kn;refine Za ?_;refine Qf (Qb rfl ?_ ?_)
  ·intro hc;have af:i<l.length:=ZU
   have dc:=Cm (Jd af);obtain⟨f,da⟩:∃f,l[i]=f:=⟨_,rfl⟩;rw[da]at dc;refine Zc ?_
   refine Qf (Qg ?_);refine Qa ?_;simp only[go_sem,af,Qu,AB _ _ af,da,Fn.cells];intro x4 bW H4 h4;have kn:=kn.al bW h4;have g4:=kn.l 0 rfl;simp only[go_sem,S6,g4];intro H5 h5;have kn:=kn.ax 0 rfl h5;have g:=g0.kn kn;have g4:=kn.l 0 rfl;have nx:∀(b:Bool) (H6:Heap) (L:List (Nat×Obj)),b = !f.form→Kn H H6 [] L→Q6 prog Qmg (X.inBlock 1 (X.sq prog Qmh (X.next (fun e2 H2=>∃m_1,m_1<m∧∃i,m_1=l.length-i∧i≤l.length∧Kn H H2 [] []∧((l.take i).all Fn.form)=true∧
     e2=[(1,.c (.pp [.sl fl 3 (Qo l)])),(13,.c (.sl fl 3 (Qo l))),(14,.c (.int .i64 l.length)),(15,.c (.int .i64 i))]) (X.inBlock 0 (X.sq prog Qkc (Qq Ac (unK H K)))))))
     [(1,.c (.pp [.sl fl 3 (Qo l)])),(13,.c (.sl fl 3 (Qo l))),(14,.c (.int .i64 l.length)),(15,.c (.int .i64 i)),(39,.c (.bool b))] H6:=by
    intro b H6 L hb kn;refine Qb rfl (fun au=>?_) (fun au=>?_)
    ·rw[au]at hb;refine Za ?_;refine Zx ?_;refine retf false _ _ _ ?_ kn ZX;rw[AW,Dr af (by rw[da];exact BD hb.symm)];simp
    ·rw[au]at hb;refine Zc ?_
     refine Zk ?_;exact⟨Qv,l.length-(i+1),ZT,i+1,rfl,ZT,Kn.drop (A:=[]) kn,by rw[Du af,aG,da,Be hb.symm];rfl,rfl⟩
   refine Zd g4 ?_;refine Hy g fun H6 hu=>?_;have kn:=kn.ay hu;have g:=g0.kn kn;have g4:=kn.l 0 rfl
   cases h1:Av f.name with
   |false=>
    simp only[go_sem,SZ,IA,ID,g4,Qt];exact nx true _ _ (by rw[Fn.form,h1];simp) kn
   |true=>
    by_cases h2:3<f.params.length
    ·have eY:decide ((3:Int)<(f.params.length:Int))=true:=decide_eq_true ZT;simp only[go_sem,SZ,IA,ID,g4,eY,Qt];try intro _
     exact nx true _ _ (by rw[Fn.form,decide_eq_false (by omega:¬f.params.length≤3)];simp) kn
    ·have eY:decide ((3:Int)<(f.params.length:Int))=false:=decide_eq_false ZT;simp only[go_sem,SZ,g4,eY,Qt];try intro _
     refine Q84 (p:=fun s=>!Av s) (fun s H7 K' hs kn2 cP=>X2 (g.kn kn2) cP) fun H7 hu=>?_;have kn:=kn.ay hu;have g:=g0.kn kn;have g4:=kn.l 0 rfl;have ea:(f.params.any fun s=>!Av s) = !f.params.all Av:=(by rw[List.all_eq_not_any_not];simp);rw[ea]
     cases h3:f.params.all Av with
     |false=>
      simp only[go_sem,IA,ID,g4];exact nx true _ _ (by rw[Fn.form,h3];rfl) kn
     |true=>
      simp only[go_sem,IA,g4];refine Y6 (Qj f.body) f.body 1 _ _ _ (Ji _) ZT ZT ZT g fun H8 hu=>?_;have kn:=kn.ay hu;simp only[go_sem,ID];refine nx _ _ _ ?_ kn;rw[Fn.form,h1,h3,decide_eq_true (by omega:f.params.length≤3)];rfl
  ·intro hc;have aV:l.length≤i:=ZU
   rw[Jb aV]at aG;refine Zg ?_;refine Za ?_;refine Qbha hf fun d H3 hu=>?_;have kn:=kn.ay hu;simp only[go_sem,Qiq,Jh,Jj];refine Za ?_;refine Qi ?_;refine retf _ _ _ _ ?_ kn rfl;rw[AW,aM,aG,Jk,Jk,decide_eq_decide];omega
structure ExVis {α:Type}(ob:α→List (Nat×Obj))(step:α→Ex→α)(ok:α→Prop)(f:Nat)(caps:List C):Prop where
 nm:∀a b,(ob a).map Prod.fst=(ob b).map Prod.fst
 nd:∀a,((ob a).map Prod.fst).Nodup
 ne:∀a,∀p∈ob a,p.2≠.none
 st:∀a s,ok a→ok (step a s)
 c:∀(a:α) (s:Ex) (H:Heap) (K:V→Heap→Prop),ok a→s.size≤2^40→(∀p∈ob a,H p.1=p.2)→(∀H',Upd H H' (ob (step a s))→K (.tup []) H')→Qm prog f ([.ag s.cells]++caps.map .c) H K
theorem F8 {α:Type}{step:α→Ex→α}{ok:α→Prop}(hs:∀a s,ok a→ok (step a s)):∀(l:List Ex) (a:α),ok a→ok (l.foldl step a)
 |[],_,h=>h
 |x::r,a,h=>F8 hs r _ (hs _ _ h)
theorem HK {l:List Ex}{i:Nat}(h:i<l.length):Q7 (l.take (i+1))=Q7 (l.take i)++(l[i]).pre:=by
 rw[Jc h,Qbaf];simp[Q7]
theorem Qbf1 {α:Type}{ob:α→List (Nat×Obj)}{step:α→Ex→α}{ok:α→Prop}{f:Nat}{caps:List C}(hv:ExVis ob step ok f caps) :
  ∀(n:Nat) (x:Ex) (a:α) (H:Heap) (K:V→Heap→Prop),x.size≤n→x.size≤2^40→ok a→(∀p∈ob a,H p.1=p.2)→(∀H',Upd H H' (ob (x.pre.foldl step a))→K (.tup []) H')→
   Qm prog Q22 [.ag x.cells,.c (.fn f caps)] H K:=by
 intro n
 induction n with
 |zero=>intro x a H K h;have:=x.size_pos;omega
 |succ n ih=>
 intro x a H K hn hb ha hh hK;have aO:=x.size_kids;refine Q1 ?_;refine Qc Aa LF ?_;refine Zu ?_;refine Za ?_;have kn:Kn H H (ob a) []:=.startE (fun p hp=>⟨hh p hp,hv.ne a p hp⟩) (hv.nd a);have lr:=hv.c a x;rw[x.aa]at lr;refine lr _ _ ha hb hh fun H1 hu=>?_;have kn:=kn.callAll hu (hv.nm _ _) (hv.ne _);have fp:=hv.st a x ha;simp only[go_sem];refine Qa ?_;simp only[go_sem,Qh];intro hl;simp only[LIM]at hl;refine Qg (Q3 (fun m e1 H1=>∃(i:Nat),m=x.kids.length-i∧i≤x.kids.length∧Kn H H1 (ob ((Q7 (x.kids.take i)).foldl step (step a x))) []∧
  e1=[(1,.c (.fn f caps)),(10,.c (.sl false 4 (Ql x.kids))),(11,.c (.int .i64 x.kids.length)),(12,.c (.int .i64 i))]) x.kids.length ?_ ?_)
 ·exact⟨0,ZT,ZT,by simpa[Q7]using kn,rfl⟩
 ·clear kn;rintro m e1 H2 ⟨i,bp,hi,kn,rfl⟩;obtain⟨a1,aX⟩:∃a1,(Q7 (x.kids.take i)).foldl step (step a x)=a1:=⟨_,rfl⟩;have ej:ok a1:=by rw[←aX];exact F8 hv.st _ _ fp
  rw[aX]at kn;refine Za ?_;refine Qf (Qb rfl ?_ ?_)
  ·intro hc;have af:i<x.kids.length:=ZU
   have dc:=Bn (Jd af);obtain⟨y,hy⟩:∃y,x.kids[i]=y:=⟨_,rfl⟩;have aY:=HK af;rw[hy]at dc aY;refine Zc ?_
   refine Qf (Qg ?_);refine Qa ?_;simp only[go_sem,af,Qh,Qs _ _ af,hy,y.aa];intro x5 cp H3 h3;have kn:=kn.al cp h3;have g5:=kn.l 0 rfl;simp only[go_sem,TF,g5];intro H4 h4;have kn:=kn.ax 0 rfl h4;have g5:=kn.l 0 rfl;refine ZB g5 ?_;have iK:=fun K=>ih y a1 H4 K;rw[y.aa]at iK;refine iK _ ZT ZT ej (fun p hp=>(kn.get p (Je _ hp)).1) fun H5 hu=>?_;have kn:=Kn.drop (A:=[]) (kn.callAll hu (hv.nm _ _) (hv.ne _));simp only[go_sem];refine Zk ?_;refine⟨Qv,x.kids.length-(i+1),ZT,i+1,rfl,ZT,?_,rfl⟩;rw[aY,List.foldl_append,aX];exact kn
  ·intro hc;have aV:x.kids.length≤i:=ZU
   rw[Jb aV]at aX;refine Qy ?_;simp only[go_sem,AE.X.next,Qq,Q0,AJ];refine⟨.tup [],.tup _ _ rfl fun j x x' h=>Zaa,hK _ ?_⟩;rw[x.pre_eq,Jap,aX];exact kn.fin
end Go.AE.Y
namespace Go.AE.Y
theorem Qbnt (fns:List Fn)(k:Nat)(op:Int)(name:List UInt8)(args:List Ex)(s:Ck){b:List (List UInt8×Nat)}{r:Vars}(h:s.v=b::r):∃b',(stC fns k op name args s).v=b'::r:=by
 simp only[stC];split
 ·exact⟨(name,s.n)::b,by simp[A8,h]⟩
 ·split
  ·exact⟨b,h⟩
  ·exact⟨b,h⟩
theorem KW {l:List St}{i:Nat}(fns:List Fn)(k:Nat)(h:i<l.length)(s:Ck):Ae fns k (l.take (i+1)) s=(l[i]).ck fns k (Ae fns k (l.take i) s):=by
 rw[Jc h,Qbjo];simp[Ae]
variable {g:Nat→List Nat}{xs:List Nat}{S S' S1:List Bool}{o o' o1:List Nat}
def cnt (S:List Bool):Nat:=S.count true
end Go.AE.Y
namespace Go.AE.Y
attribute [local instance] Classical.propDecidable
structure Flo where
 n:Nat
 nx:Nat→List Nat
 on:Nat→List Nat
 ins:Nat→List (Option Nat×List Nat)
 ph:Nat→List Nat
 ea:Nat→Nat→List Nat
abbrev RS':=Nat→Prop
variable {F:Flo}
def Flo.fits (F:Flo):Prop:=∀b,b<F.n→∀m∈F.nx b,m<F.n
variable {I J:Nat→RS'}
def tot (n:Nat)(S:Nat→List Nat):Nat:=((List.range n).map fun b=>(S b).length).sum
end Go.AE.Y
namespace Go.AE.Y
attribute [local instance] Classical.propDecidable
mutual
def St.pre:St→List Ex
 |.mk _ _ args body els=>Q7 args++Bc body++Bc els
def Bc:List St→List Ex
 |[]=>[]
 |x::r=>x.pre++Bc r
end
theorem St.pre_eq (x:St):x.pre=Q7 x.args++Bc x.body++Bc x.els:=by cases x;simp only[St.pre,St.args,St.body,St.els]
theorem fst0_zero {a b:Int}:Af a b=0↔a=0∧b=0:=by
 unfold Af;split <;> omega
theorem Ep (a b c:Int):Af (Af a b) c=Af a (Af b c):=by
 unfold Af;by_cases h:a=0 <;> simp[h]
theorem Cz (a:Int):Af a 0=a:=by unfold Af;split <;> omega
theorem partsC_zero {fns:List Fn}{k:Nat}{v:Vars}{l:List Ex}{c:Int}:Ax fns k v l c=0↔c=0∧∀e∈l,AA fns k v e=0:=by
 induction l generalizing c with
 |nil=>simp[Ax]
 |cons x r ih=>
  have:Ax fns k v (x::r) c=Ax fns k v r (Af c (AA fns k v x)):=rfl;rw[this,ih,fst0_zero];simp only[Jg,forall_eq_or_imp,and_assoc]
def calC (fns:List Fn)(k:Nat)(p:Ex):Int:=match Ai (fns.take k) p.name with
 |none=>4
 |some j=>if ((fns[j]?.map fun f=>f.params.length).getD 0)=p.kids.length then 0 else 5
theorem Qba4 {fns:List Fn}{k:Nat}{v:Vars}{p:Ex}(h:p.op=13):AA fns k v p=calC fns k p:=by
 rw[AA,if_neg ZT,if_pos h];rfl
theorem Qbnu {fns:List Fn}{k:Nat}{op:Int}{name:List UInt8}{args:List Ex}{s:Ck}(h:(stC fns k op name args s).c=0):s.c=0∧∀e∈Q7 args,e.op=13→calC fns k e=0:=by
 have h2:Ax fns k s.v (Q7 args) s.c=0:=by
  unfold stC at h;simp only at h;split at h
  ·exact (fst0_zero.1 h).1
  ·split at h
   ·exact (fst0_zero.1 h).1
   ·exact h
 obtain⟨h3,h4⟩:=partsC_zero.1 h2;exact⟨h3,fun e he ho=>by rw[←Qba4 (v:=s.v) ho];exact h4 e he⟩
mutual
theorem St.ck_zero {fns:List Fn}{k:Nat}:∀(x:St) {s:Ck},(x.ck fns k s).c=0→s.c=0∧∀e∈x.pre,e.op=13→calC fns k e=0
 |.mk op name args body els,s,h=>by
  simp only[St.ck]at h;obtain⟨h1,h2⟩:=BN els h;obtain⟨h3,h4⟩:=BN body h1;obtain⟨h5,h6⟩:=Qbnu h3;refine⟨h5,fun e he ho=>?_⟩;simp only[St.pre,Jl]at he;rcases he with (he|he)|he
  ·exact h6 e he ho
  ·exact h4 e he ho
  ·exact h2 e he ho
theorem BN {fns:List Fn}{k:Nat}:∀(l:List St) {s:Ck},(Ae fns k l s).c=0→s.c=0∧∀e∈Bc l,e.op=13→calC fns k e=0
 |[],s,h=>⟨h,by simp[Bc]⟩
 |x::r,s,h=>by
  simp only[Ae]at h;obtain⟨h1,h2⟩:=BN r h;obtain⟨h3,h4⟩:=St.ck_zero x h1;refine⟨h3,fun e he ho=>?_⟩;simp only[Bc,Jl]at he;rcases he with he|he
  ·exact h4 e he ho
  ·exact h2 e he ho
end
theorem Kx {ps:List (List UInt8)}{s:Ck}(h:(A1 ps s).c=0):s.c=0:=by
 induction ps generalizing s with
 |nil=>exact h
 |cons p r ih=>
  have:A1 (p::r) s=A1 r ⟨A8 s.v p s.n,Af s.c (if A6 s.v p then 2 else 0),s.n+1⟩:=rfl;rw[this]at h;exact (fst0_zero.1 (ih h)).1
theorem LM {fns:List Fn}:∀(l:List Nat) (c:Int),l.foldl (fun c i=>Af c (fnCk fns i).c) c=0↔c=0∧∀i∈l,(fnCk fns i).c=0
 |[],c=>ZV
 |x::r,c=>by
  rw[Jap,LM r,fst0_zero];simp only[Jg,forall_eq_or_imp,and_assoc]
theorem Re {fns:List Fn}{k:Nat}:ckK fns k=0↔∀i,i<k→(fnCk fns i).c=0:=by
 rw[ckK,LM];simp
structure FineP (fns:List Fn):Prop where
 v:AW fns=true
 c:∀k (h:k<fns.length),(Ae fns k fns[k].body (A1 fns[k].params ⟨[[]],0,0⟩)).c=0
 ix:∀k (h:k<fns.length),Ai fns fns[k].name=some k
theorem fine_iff {fns:List Fn}:Bl fns=true↔FineP fns:=by
 rw[Bl,decide_eq_true_eq,AV];constructor
 ·intro h;split at h
  ·rename_i hv
   rw[Re]at h;have h1:∀k (hk:k<fns.length),(if Ai fns fns[k].name=some k then (0:Int)else 2)=0∧(Ae fns k fns[k].body (A1 fns[k].params ⟨[[]],if Ai fns fns[k].name=some k then 0 else 2,0⟩)).c=0:=fun k hk=>by
    have:=h k hk;rw[fnCk,Jt hk]at this;exact⟨Kx (BN _ this).1,this⟩
   have h2:∀k (hk:k<fns.length),Ai fns fns[k].name=some k:=fun k hk=>by
    have:=(h1 k hk).1;split at this
    ·assumption
    ·simp at this
   refine⟨hv,fun k hk=>?_,h2⟩;have:=(h1 k hk).2;rw[if_pos (h2 k hk)]at this;exact this
  ·simp at h
 ·intro h;rw[if_pos h.v,Re];intro k hk;rw[fnCk,Jt hk];simp only[];rw[if_pos (h.ix k hk)];exact h.c k hk
theorem FineP.len {fns:List Fn}(h:FineP fns):0<fns.length∧fns.length≤4:=by
 have:=h.v;simp only[AW,Jo,decide_eq_true_eq]at this;omega
theorem Tr {l:List Fn}{s:List UInt8}{j:Nat}(h:Ai l s=some j):∃hj:j<l.length,l[j].name=s∧∀i (hi:i<j),l[i].name≠s:=by
 rw[Ai,List.findIdx?_eq_some_iff_getElem]at h;obtain⟨hj,h1,h2⟩:=h;exact⟨hj,Za4,fun i hi=>by simpa using h2 i hi⟩
theorem Qbpx {l:List Fn}{s:List UInt8}{j:Nat}(hj:j<l.length)(h1:l[j].name=s)(h2:∀i (hi:i<j),l[i].name≠s):Ai l s=some j:=by
 rw[Ai,List.findIdx?_eq_some_iff_getElem];exact⟨hj,Za4,fun i hi=>by simpa using h2 i hi⟩
theorem FineP.inj {fns:List Fn}(h:FineP fns){i j:Nat}(hi:i<fns.length)(hj:j<fns.length)(he:fns[i].name=fns[j].name):i=j:=by
 have h1:=h.ix i hi;rw[he,h.ix j hj]at h1;exact (Ja5 h1).symm
theorem FineP.call {fns:List Fn}(h:FineP fns){k:Nat}(hk:k<fns.length){e:Ex}(he:e∈Bc fns[k].body)(ho:e.op=13) :
  ∃j,∃hj:j<k,∃hl:j<fns.length,fns[j].name=e.name∧fns[j].params.length=e.kids.length:=by
 have:=(BN _ (h.c k hk)).2 e he ho;unfold calC at this
 cases hx:Ai (fns.take k) e.name with
 |none=>rw[hx]at this;simp at this
 |some j=>
  rw[hx]at this;obtain⟨hj,h1,_⟩:=Tr hx;rw[Jz]at hj;have hl:j<fns.length:=ZT
  refine⟨j,ZT,hl,Za4,?_⟩;simp only[Jt hl,Jac,J0]at this;split at this
  ·assumption
  ·simp at this
def fnAt (fns:List Fn)(k:Nat):Fn:=(fns[k]?).getD ⟨[],[],[]⟩
theorem Dq {fns:List Fn}{k:Nat}(h:k<fns.length):fnAt fns k=fns[k]:=by simp[fnAt,h]
end Go.AE.Y
namespace Go.AE.Y
theorem Kw (fns:List Fn)(k:Nat)(v:Vars)(a:Int):∀(l:List Ex) (c:Int),Ax fns k v l (Af a c)=Af a (Ax fns k v l c)
 |[],c=>rfl
 |x::r,c=>by
  show Ax fns k v r (Af (Af a c) (AA fns k v x))=Af a (Ax fns k v r (Af c (AA fns k v x)));rw[Ep,Kw fns k v a r]
theorem XB (fns:List Fn)(k:Nat)(op:Int)(name:List UInt8)(args:List Ex)(a:Int)(s:Ck) :
  stC fns k op name args ⟨s.v,Af a s.c,s.n⟩=⟨(stC fns k op name args s).v,Af a (stC fns k op name args s).c,(stC fns k op name args s).n⟩:=by
 simp only[stC,Kw];split
 ·simp only[Ep]
 ·split
  ·simp only[Ep]
  ·rfl
mutual
theorem St.ck_sh (fns:List Fn)(k:Nat)(a:Int):∀(x:St) (s:Ck),x.ck fns k ⟨s.v,Af a s.c,s.n⟩=⟨(x.ck fns k s).v,Af a (x.ck fns k s).c,(x.ck fns k s).n⟩
 |.mk op name args body els,s=>by
  simp only[St.ck,XB];have h1:=Ea fns k a body ⟨[]::(stC fns k op name args s).v,(stC fns k op name args s).c,(stC fns k op name args s).n⟩;simp only at h1;rw[h1];have h2:=Ea fns k a els ⟨[]::(stC fns k op name args s).v,(Ae fns k body ⟨[]::(stC fns k op name args s).v,(stC fns k op name args s).c,(stC fns k op name args s).n⟩).c,(Ae fns k body ⟨[]::(stC fns k op name args s).v,(stC fns k op name args s).c,(stC fns k op name args s).n⟩).n⟩;simp only at h2;rw[h2]
theorem Ea (fns:List Fn)(k:Nat)(a:Int):∀(l:List St) (s:Ck),Ae fns k l ⟨s.v,Af a s.c,s.n⟩=⟨(Ae fns k l s).v,Af a (Ae fns k l s).c,(Ae fns k l s).n⟩
 |[],s=>by simp only[Ae]
 |x::r,s=>by
  simp only[Ae];rw[St.ck_sh fns k a x s];exact Ea fns k a r (x.ck fns k s)
end
theorem IF (a:Int):∀(ps:List (List UInt8)) (s:Ck),A1 ps ⟨s.v,Af a s.c,s.n⟩=⟨(A1 ps s).v,Af a (A1 ps s).c,(A1 ps s).n⟩
 |[],s=>rfl
 |p::r,s=>by
  show A1 r ⟨A8 s.v p s.n,Af (Af a s.c) (if A6 s.v p then 2 else 0),s.n+1⟩=_;rw[Ep];exact IF a r ⟨A8 s.v p s.n,Af s.c (if A6 s.v p then 2 else 0),s.n+1⟩
theorem Ky {ps:List (List UInt8)}{j:Nat}(h:j<ps.length)(s:Ck):A1 (ps.take (j+1)) s =
  ⟨A8 (A1 (ps.take j) s).v ps[j] (A1 (ps.take j) s).n,Af (A1 (ps.take j) s).c (if A6 (A1 (ps.take j) s).v ps[j]then 2 else 0),(A1 (ps.take j) s).n+1⟩:=by
 rw[Jc h];simp only[A1,List.foldl_append,Jap,List.foldl_nil];rfl
def ixC (fns:List Fn)(k:Nat)(name:List UInt8):Int:=if Ai fns name=some k then 0 else 2
theorem Qbpv {fns:List Fn}{k:Nat}(h:k<fns.length)(a:Int) :
  (Ae fns k fns[k].body (A1 fns[k].params ⟨[[]],Af a (ixC fns k fns[k].name),0⟩)).c=Af a (fnCk fns k).c:=by
 have h1:=IF a fns[k].params ⟨[[]],ixC fns k fns[k].name,0⟩;simp only at h1;rw[h1];have h2:=Ea fns k a fns[k].body (A1 fns[k].params ⟨[[]],ixC fns k fns[k].name,0⟩);rw[h2,fnCk,Jt h];rfl
theorem F6 (fns:List Fn)(k:Nat):ckK fns (k+1)=Af (ckK fns k) (fnCk fns k).c:=by
 rw[ckK,ckK,List.range_succ,List.foldl_append];rfl
theorem Qbpw {l:List Fn}{i:Nat}(h:i<l.length):∃j,Ai l l[i].name=some j∧j≤i:=by
 cases hx:Ai l l[i].name with
 |none=>
  rw[Ai,List.findIdx?_eq_none_iff]at hx;have:=hx l[i] (Jd h);simp at this
 |some j=>
  refine⟨j,rfl,?_⟩;obtain⟨hj,h1,h2⟩:=Tr hx;rcases Jat i j with af|aV
  ·exact absurd rfl (h2 i af)
  ·exact aV
def vT:Vars→List (List UInt8×Nat×Nat)
 |[]=>[]
 |b::r=>b.map (fun p=>(p.1,p.2,r.length))++vT r
def row3 (x:List UInt8×Nat×Nat):List C:=[.str x.1,.int .i64 x.2.1,.int .i64 x.2.2]
def Am (v:Vars):List (List C):=((vT v).map row3).reverse
theorem Hi (v:Vars):(Am v).length=(vT v).length:=by simp[Am]
theorem Ht (v:Vars):Am ([]::v)=Am v:=Zb7
theorem FD (s:List UInt8)(n:Nat)(b:List (List UInt8×Nat))(r:Vars):Am (((s,n)::b)::r)=Am (b::r)++[row3 (s,n,r.length)]:=Zb7
theorem Qbei (b:List (List UInt8×Nat))(r:Vars):(Am (b::r)).take (Am r).length=Am r:=by
 simp[Am,vT]
theorem Qbn9 (b:List (List UInt8×Nat))(r:Vars):(Am r).length≤(Am (b::r)).length:=Zb7
theorem KU (v:Vars){i:Nat}(h:i<(vT v).length):(Am v).getD i []=row3 ((vT v)[(vT v).length-1-i]'ZT):=by
 have hi:i<(Am v).length:=by rw[Hi];exact h
 rw[Jf,Jt hi,J0];simp[Am]
theorem Ic:∀(v:Vars),∀x∈vT v,x.2.2<v.length
 |[],x,h=>by simp[vT]at h
 |b::r,x,h=>by
  simp only[vT,Jl,Jq]at h;rcases h with ⟨p,_,rfl⟩|h
  ·simp
  ·have:=Ic r x h;simp only[Jn];omega
theorem YD (v:Vars)(s:List UInt8):v.find s=((vT v).find? fun x=>decide (x.1=s)).map fun x=>x.2.1:=by
 induction v with
 |nil=>rfl
 |cons b r ih=>
  have h1:Vars.find (b::r) s=((b.find? fun p=>decide (p.1=s)).map Prod.snd).or (Vars.find r s):=by
   rw[Vars.find,Vars.find,List.flatten_cons,List.find?_append];cases b.find? fun p=>decide (p.1=s) <;> rfl
  rw[h1,ih,vT,List.find?_append,List.find?_map];have h2:((fun x:List UInt8×Nat×Nat=>decide (x.1=s)) ∘ fun p:List UInt8×Nat=>(p.1,p.2,r.length))=fun p=>decide (p.1=s):=rfl;rw[h2];cases b.find? fun p=>decide (p.1=s) <;> rfl
theorem X3 (b:List (List UInt8×Nat))(r:Vars)(s:List UInt8):A6 (b::r) s=(((vT (b::r)).find? fun x=>decide (x.1=s)).map fun x=>decide (x.2.2=r.length)).getD false:=by
 rw[vT,List.find?_append,List.find?_map];have h2:((fun x:List UInt8×Nat×Nat=>decide (x.1=s)) ∘ fun p:List UInt8×Nat=>(p.1,p.2,r.length))=fun p=>decide (p.1=s):=rfl;rw[h2,A6,Jaq]
 cases hb:b.find? fun p=>decide (p.1=s)with
 |some p=>
  have h1:=List.find?_some hb;have h3:=List.mem_of_find?_eq_some hb;have:(b.any fun p=>decide (p.1=s))=true:=Jy.2 ⟨p,h3,h1⟩;rw[this];simp
 |none=>
  have:(b.any fun p=>decide (p.1=s))=false:=by
   rw[List.find?_eq_none]at hb;rw[List.any_eq_false];exact hb
  rw[this]
  cases hr:(vT r).find? fun x=>decide (x.1=s)with
  |none=>rfl
  |some x=>
   have:=Ic r x (List.mem_of_find?_eq_some hr);have aP:¬x.2.2=r.length:=ZT
   simp[aP]
theorem Qbpt {α:Type}{l:List α}{p:α→Bool}{k:Nat}(hk:k<l.length)(h:p l[k]=true)(hn:∀x∈l.take k,¬p x=true):l.find? p=some l[k]:=by
 rw[List.find?_eq_some_iff_getElem];refine⟨h,k,hk,rfl,fun j hj=>?_⟩;have:=hn l[j] (by rw[List.mem_take_iff_getElem];exact⟨j,ZT,rfl⟩);simpa using this
theorem Qbfj (l:List Fn)(k:Nat)(s:List UInt8):Ai (l.take k) s=match Ai l s with
  |some j=>if j<k then some j else none
  |none=>none:=by
 cases h:Ai l s with
 |none=>
  rw[Ai,List.findIdx?_eq_none_iff]at h⊢;exact fun f hf=>h f (List.mem_of_mem_take hf)
 |some j=>
  obtain⟨hj,h1,h2⟩:=Tr h;by_cases hk:j<k
  ·simp only[hk,if_true];exact Qbpx (by rw[Jz];omega) (by rw[Jax];exact h1) fun i hi=>by rw[Jax];exact h2 i hi
  ·simp only[hk,if_false];rw[Ai,List.findIdx?_eq_none_iff];intro f hf;obtain⟨i,hi,rfl⟩:=List.mem_take_iff_getElem.1 hf;have:=h2 i ZT;simpa using this
theorem PU (fns:List Fn)(k:Nat)(v:Vars)(p:Ex):AA fns k v p =
  if p.op=2 then (if (v.find p.name).isSome then 0 else 3)
  else if p.op=13 then (match Ai fns p.name with
   |none=>4
   |some j=>if k≤j then 4 else if ((fns[j]?.map fun f=>f.params.length).getD 0)=p.kids.length then 0 else 5)
  else 0:=by
 rw[AA];split
 ·rfl
 ·split
  ·rw[Qbfj]
   cases h:Ai fns p.name with
   |none=>rfl
   |some j=>
    simp only[];by_cases hk:j<k
    ·have:¬k≤j:=ZT;simp only[hk,if_true,this,if_false]
    ·have:k≤j:=ZT;simp only[hk,if_false,this,if_true]
  ·rfl
theorem If (fns:List Fn)(k:Nat)(op:Int)(name:List UInt8)(args:List Ex)(s:Ck):s.n≤(stC fns k op name args s).n∧(stC fns k op name args s).n≤s.n+1:=by
 simp only[stC];split
 ·exact⟨ZV,ZV⟩
 ·split <;> exact⟨ZV,ZV⟩
mutual
theorem St.ck_n (fns:List Fn)(k:Nat):∀(x:St) (s:Ck),s.n≤(x.ck fns k s).n∧(x.ck fns k s).n≤s.n+x.size
 |.mk op name args body els,s=>by
  simp only[St.ck,St.size];have h1:=If fns k op name args s;have h2:=G3 fns k body ⟨[]::(stC fns k op name args s).v,(stC fns k op name args s).c,(stC fns k op name args s).n⟩;have h3:=G3 fns k els ⟨[]::(stC fns k op name args s).v,(Ae fns k body ⟨[]::(stC fns k op name args s).v,(stC fns k op name args s).c,(stC fns k op name args s).n⟩).c,(Ae fns k body ⟨[]::(stC fns k op name args s).v,(stC fns k op name args s).c,(stC fns k op name args s).n⟩).n⟩;simp only at h2 h3;omega
theorem G3 (fns:List Fn)(k:Nat):∀(l:List St) (s:Ck),s.n≤(Ae fns k l s).n∧(Ae fns k l s).n≤s.n+Qj l
 |[],s=>by simp[Ae]
 |x::r,s=>by
  simp only[Ae,Qj];have h1:=St.ck_n fns k x s;have h2:=G3 fns k r (x.ck fns k s);omega
end
theorem Qbns (fns:List Fn)(k:Nat)(op:Int)(name:List UInt8)(args:List Ex)(s:Ck){b:List (List UInt8×Nat)}{r:Vars}(hv:s.v=b::r)(h:(Am (b::r)).length≤s.n):(Am (stC fns k op name args s).v).length≤(stC fns k op name args s).n:=by
 simp only[stC];split
 ·simp only[A8,hv,Jaq,List.tail_cons,FD,Jaw,Jar];omega
 ·split
  ·simp only[hv];exact h
  ·simp only[hv];exact h
theorem Qbkh (fns:List Fn){i:Nat}{c:Int}(h:ckK fns i=c)(hc:c≠0):∀n,i≤n→ckK fns n=c:=by
 intro n hn
 induction n with
 |zero=>have:i=0:=by omega
        subst this;exact h
 |succ n ih=>
  rcases Jat i (n+1)with af|aV
  ·rw[F6,ih ZT,Af,if_neg hc]
  ·have:i=n+1:=ZT
   subst this;exact h
attribute [local instance] Classical.propDecidable
def ixI:Option Nat→Int
 |none=>-1
 |some j=>j
end Go.AE.Y
namespace Go.AE.Y
attribute [local go_sem] cond_true cond_false Bool.not_true Bool.not_false
open Go.Proofs.Tryz
variable {H H0:Heap}{K:V→Heap→Prop}{E E' L:List (Nat×Obj)}
theorem Ka {l:List Fn}{s:List UInt8}(h:∀f∈l,¬f.name=s):Ai l s=none:=by
 rw[Ai,List.findIdx?_eq_none_iff];exact fun f hf=>by simpa using h f hf
theorem Kb {l:List Fn}{s:List UInt8}{i:Nat}(hi:i<l.length)(h:l[i].name=s)(hn:∀f∈l.take i,¬f.name=s):Ai l s=some i:=by
 rw[Ai,List.findIdx?_eq_some_iff_getElem];refine⟨hi,Zaz,fun j hj=>?_⟩;have:=hn l[j] (by rw[List.mem_take_iff_getElem];exact⟨j,ZT,rfl⟩);simpa using this
theorem Qbos {f:Fn}{s:List UInt8}(hK:K (.c (.bool (decide (f.name=s)))) H):Qm prog S5 [.ag f.cells,.c (.pp [.str s])] H K:=by
 refine Qc Aa Qaxy ?_;refine ZP ?_;refine Za ?_;refine Zb ?_;exact hK
theorem Qatu {fl:Bool}{l:List Fn}{s:List UInt8}(hK:K (.c (.int .i64 (ixI (Ai l s)))) H) :
  Qm prog Qng [.c (.sl fl 3 (Qo l)),.c (.fn S5 [.pp [.str s]])] H K:=by
 refine Qc Aa Q92 ?_;refine Za ?_;refine Qz (Qa ?_);simp only[go_sem,Qu];intro hl;simp only[LIM]at hl;refine Qf (Qg (Q3 (fun m e1 H1=>∃(i:Nat),m=l.length-i∧i≤l.length∧H1=H∧(∀f∈l.take i,¬f.name=s)∧e1=[(0,.c (.sl fl 3 (Qo l))),(1,.c (.fn S5 [.pp [.str s]])),(7,.c (.int .i64 l.length)),(8,.c (.int .i64 i))]) l.length ?_ ?_))
 ·exact⟨0,ZT,ZT,rfl,ZV,rfl⟩
 ·rintro m e1 H1 ⟨i,hm,hi,rfl,aG,rfl⟩;refine Za ?_;refine Qf (Qb rfl ?_ ?_)
  ·intro hc;have af:i<l.length:=ZU
   refine Ze ?_;refine Qf (Qg ?_);refine Za ?_;refine Qa ?_;simp only[go_sem,af,Qu,AB _ _ af,Fn.take3,Fn.aU,Fn.ae];refine Qbos ?_;refine Qb rfl ?_ ?_
   ·intro au;have hn:l[i].name=s:=ZZ;refine Za ?_;refine Zh ?_;rw[Kb af hn aG]at hK;exact hK
   ·intro au;have hn:¬l[i].name=s:=ZZ;refine Ze ?_;refine Zo ?_;refine⟨Qv,l.length-(i+1),ZT,i+1,rfl,ZT,?_,rfl⟩;rw[Jc af];intro x hx;rcases Jl.1 hx with hx|hx
    ·exact aG x hx
    ·simp only[Ja]at hx;subst hx;exact hn
  ·intro hc;have aV:l.length≤i:=ZU
   rw[Jb aV]at aG;refine Zm ?_;refine Za ?_;refine Zb ?_;rw[Ka aG]at hK;exact hK
theorem F2 {fl:Bool}{l:List Fn}{s:List UInt8}(hK:K (.c (.int .i64 (ixI (Ai l s)))) H):Qm prog Mq [.ag [.sl fl 3 (Qo l)],.c (.str s)] H K:=by
 refine Qc Aa Qbgw ?_;refine Za ?_;refine Za ?_;refine Qatu ?_;simp only[go_sem,OP];refine Zb ?_;exact hK
def scC:List Nat→C
 |[]=>.pnil
 |l::r=>.pp [.mp l,scC r]
structure MapOk (val:Nat→Int)(es:List (C×V))(b:List (List UInt8×Nat)):Prop where
 ky:∀e∈es,∃s,e.1=.str s
 fd:∀s,A3 (.str s) es=(b.find? fun p=>decide (p.1=s)).map fun p=>V.c (.int .i64 (val p.2))
def ScOk (val:Nat→Int)(H:Heap):List Nat→Vars→Prop
 |[],[]=>True
 |l::ls,b::v=>(∃n es,H l=.map n es∧MapOk val es b)∧ScOk val H ls v
 |_,_=>False
theorem KT (b:List (List UInt8×Nat))(v:Vars)(s:List UInt8):Vars.find (b::v) s=((b.find? fun p=>decide (p.1=s)).map Prod.snd).or (Vars.find v s):=by
 rw[Vars.find,Vars.find,List.flatten_cons,List.find?_append];cases b.find? fun p=>decide (p.1=s) <;> rfl
def valO (val:Nat→Int):Option Nat→Int
 |none=>0
 |some n=>val n
theorem P3 {val:Nat→Int}{ls:List Nat}{v:Vars}{s:List UInt8}(h:ScOk val H ls v)(hK:K (.tup [.c (.int .i64 (valO val (v.find s))),.c (.bool (v.find s).isSome)]) H) :
  Qm prog Qs2 [.c (scC ls),.c (.str s)] H K:=by
 refine Qc Aa Qajf ?_;have ret:∀(n:Int) (b:Bool) (e:Env),n=valO val (v.find s)→b=(v.find s).isSome→lk 4 e=.c (.int .i64 n)→lk 5 e=.c (.bool b)→Qq Vm K .ret e H:=by
  rintro n b e rfl rfl h4 h5;simp only[go_sem,Qq,Q0,Jv,Jw,RS.op,h4,h5];exact⟨fun _=>trivial,hK⟩
 refine Za ?_;refine Qf (Qg (Q3 (fun m e1 H1=>∃(ls':List Nat) (v':Vars),m=ls'.length∧H1=H∧ScOk val H ls' v'∧v.find s=v'.find s∧e1=[(0,.c (scC ls')),(1,.c (.str s))]) ls.length ?_ ?_))
 ·exact⟨ls,v,rfl,rfl,h,rfl,rfl⟩
 ·rintro m e1 H1 ⟨ls',v',hm,rfl,hs,hf,rfl⟩;refine Qz (Qa ?_)
  cases ls' with
  |nil=>
   cases v' with
   |cons b v'=>exact hs.elim
   |nil=>
    simp only[go_sem,scC,C.isPtr,or_true,true_or,true_and];refine Qf (Qb rfl (fun h=>by cases h) (fun _=>?_));refine Zm ?_;refine Za ?_;refine Qi ?_;exact ret 0 false _ ZbT ZbT ZX ZX
  |cons l r=>
   cases v' with
   |nil=>exact hs.elim
   |cons b v'=>
    obtain⟨⟨n,es,hl,aZ⟩,hs⟩:=hs;have nI:=aZ.fd s;have gL:=eq_true aZ.ky;rw[KT]at hf;simp only[go_sem,scC,C.isPtr,or_true,true_or,true_and];refine Qf (Qb rfl (fun _=>?_) (fun h=>by cases h));refine Ze ?_;refine Qf (Qg ?_);refine Qa ?_;simp only[go_sem,C.isPtr,Bp,AL,A4,hl,nI,gL,Jh,Jj]
    cases hb:b.find? fun p=>decide (p.1=s)with
    |none=>
     rw[hb]at hf;simp only[Ja1,Jal,Option.isSome_none,go_sem];refine Za ?_;refine Qb rfl (fun h=>by cases h) (fun _=>?_);refine Zc ?_
     refine Zo ?_;have an:(scC r).ah=false:=(by cases r <;> rfl);refine⟨by rw[an];rfl,r.length,by rw[Jn]at hm;omega,r,v',rfl,hs,?_,rfl⟩;rw[hf];rfl
    |some x=>
     rw[hb]at hf;simp only[Jac,J0,Option.isSome_some,go_sem];refine Za ?_;refine Qb rfl (fun _=>?_) (fun h=>by cases h);refine Za ?_;refine ZA ?_;exact ret (val x.2) true _ ZbT ZbT ZX ZX
theorem BX {c:Nat}{l at':C}{code n:Int}(hH:H c=.st [l,at',.int .i64 code])(hK:∀H',Upd H H' [(c,.st [l,at',.int .i64 (Af code n)])]→K (.tup []) H') :
  Qm prog Qm9 [.c (.ptr c 0),.c (.int .i64 n)] H K:=by
 refine Qc Aa Q9q ?_;have kn:=Kn.start1 hH ZaO;refine Zd hH ?_;refine Qb rfl (fun hc=>?_) (fun hc=>?_)
 ·have h0:code=0:=ZU
  refine ZB hH ?_;intro H1 h1;have kn:=kn.stE 0 rfl h1;simp only[Qq,Q0,AJ,go_sem];refine hK _ ⟨fun p hp=>?_,fun m h1 h2=>kn.chg m h1 h2⟩;rw[Af,if_pos h0]at hp;exact (kn.get p (Je _ hp)).1
 ·have h0:¬code=0:=ZU
  refine Qd ?_;simp only[Qq,Q0,AJ,go_sem];refine hK _ ⟨fun p hp=>?_,fun m h1 h2=>rfl⟩;rw[Af,if_neg h0]at hp;simp only[Ja]at hp;rw[hp];exact hH
abbrev ScD:=List (Nat×Nat×List (C×V))
def ScD.ob (sc:ScD):List (Nat×Obj):=sc.map fun x=>(x.1,.map x.2.1 x.2.2)
def ScD.ls (sc:ScD):List Nat:=sc.map Prod.fst
def ScD.ok (val:Nat→Int):ScD→Vars→Prop
 |[],[]=>True
 |x::r,b::v=>MapOk val x.2.2 b∧ScD.ok val r v
 |_,_=>False
theorem ScD.scOk {val:Nat→Int}:∀{sc:ScD} {v:Vars},ScD.ok val sc v→(∀p∈sc.ob,H p.1=p.2)→ScOk val H sc.ls v
 |[],[],_,_=>trivial
 |[],_::_,h,_=>h.elim
 |_::_,[],h,_=>h.elim
 |x::r,b::v,h,hh=>⟨⟨x.2.1,x.2.2,hh (x.1,.map x.2.1 x.2.2) (by simp[ScD.ob]),h.1⟩,ScD.scOk h.2 fun p hp=>hh p (by simp only[ScD.ob,J2,Jg]at hp⊢;exact .inr hp)⟩
def Ay (c:Nat)(fl:Bool)(l:List Fn)(k:Nat)(sc:ScD)(code:Int):List (Nat×Obj):=(c,.st [.sl fl 3 (Qo l),.int .i64 k,.int .i64 code])::sc.ob
theorem Qbkr {c:Nat}{fl:Bool}{l:List Fn}{k:Nat}{sc:ScD}{v:Vars}{val:Nat→Int}{code:Int}{p:Ex}(hk:k≤l.length)(hn:((c::sc.ls)).Nodup)(hs:ScD.ok val sc v)
  (hh:∀q∈Ay c fl l k sc code,H q.1=q.2) (hK:∀H',Upd H H' (Ay c fl l k sc (Af code (AA l k v p)))→K (.tup []) H') :
  Qm prog Te [.ag p.cells,.c (.pp [scC sc.ls]),.c (.pp [.ptr c 0])] H K:=by
 have oi:=ScD.scOk hs fun q hq=>hh q (Jm _ hq);have hc:H c=.st [.sl fl 3 (Qo l),.int .i64 k,.int .i64 code]:=hh (c,_) (by simp[Ay]);have an:(scC sc.ls).ah=false:=by cases sc.ls <;> rfl
 have keep:∀H',Upd H H' [(c,.st [.sl fl 3 (Qo l),.int .i64 k,.int .i64 (Af code (AA l k v p))])]→K (.tup []) H':=by
  intro H' hu;refine hK _ ⟨fun q hq=>?_,fun m h1 h2=>?_⟩
  ·rcases Jg.1 hq with rfl|hq
   ·exact hu.1 _ ZV
   ·have h1:=hh q (Jm _ hq);rw[hu.2 q.1 (by rw[h1];obtain⟨x,_,rfl⟩:=Jq.1 hq;nofun) ?_,h1];simp only[J2,Jay,Ja];intro e;have hm:q.1∈sc.ls:=by
     obtain⟨x,hx,rfl⟩:=Jq.1 hq;exact Jq.2 ⟨x,hx,rfl⟩
    rw[e]at hm;exact (Jas.1 hn).1 hm
  ·refine hu.2 m h1 ?_;simp only[J2,Jay,Ja];intro e;exact h2 (by rw[e];simp[Ay])
 have same:AA l k v p=0→K (.tup []) H:=by
  intro h0;refine keep H ⟨fun q hq=>?_,fun m h1 h2=>rfl⟩;simp only[Ja]at hq;rw[hq,h0,hc,Af];by_cases hz:code=0
  ·rw[if_pos hz,hz]
  ·rw[if_neg hz]
 refine Qc Aa Qz5 ?_;refine Qa ?_;simp only[go_sem,p.aa];refine Zd an ?_;refine Qg (Qa ?_);simp only[go_sem,an];have done:∀(H':Heap) (e:Env),K (.tup []) H'→Qq AJ K .nrm e H':=by
  intro H' e h;simp only[Qq,Q0,AJ,go_sem];exact h
 refine Qb rfl ?_ ?_
 ·intro au;have h2:p.op=2:=ZZ
  have cS:AA l k v p=if (v.find p.name).isSome then 0 else 3:=by rw[AA,if_pos h2]
  refine Zd an ?_;refine P3 oi ?_;simp only[go_sem,Qgq,Jh,Jj];refine Za ?_;refine Qb rfl ?_ ?_
  ·intro bT;have hf:(v.find p.name).isSome=false:=Zaq
   rw[hf]at cS;refine Zp ?_;refine BX hc fun H' hu=>?_;simp only[go_sem,X.next];rw[cS]at keep;exact done _ _ (keep _ hu)
  ·intro bT;have hf:(v.find p.name).isSome=true:=Zaq
   rw[hf]at cS;refine Qd ?_;simp only[go_sem,X.next];exact done _ _ (same (by rw[cS];rfl))
 intro au;have h2:¬p.op=2:=ZZ
 refine Zd an ?_;refine Qb rfl ?_ ?_
 ·intro bT;have h3:p.op=13:=Zaq
  refine An ?_;simp only[go_sem,hc,Qu];refine⟨⟨ZT,ZT⟩,?_⟩;have etk:List.take k (Qo l)=Qo (l.take k):=by simp only[Qo,List.map_take]
  rw[etk];refine F2 ?_;simp only[go_sem,S7];refine Za ?_
  cases hx:Ai (l.take k) p.name with
  |none=>
   have cS:AA l k v p=4:=by rw[AA,if_neg h2,if_pos h3,hx]
   rw[cS]at keep;refine Qb rfl (fun _=>?_) (fun h=>by simp[ixI]at h);refine Zp ?_;refine BX hc fun H' hu=>?_;simp only[go_sem,X.next];exact done _ _ (keep _ hu)
  |some j=>
   have hj:j<l.length:=by
    rw[Ai,List.findIdx?_eq_some_iff_getElem]at hx;obtain⟨h,_⟩:=hx;rw[Jz]at h;omega
   have cS:AA l k v p=if (l[j]).params.length=p.kids.length then 0 else 5:=by rw[AA,if_neg h2,if_pos h3,hx];simp[hj]
   refine Qb rfl (fun h=>by have:=of_decide_eq_true h;simp only[ixI]at this;omega) (fun _=>?_);refine An ?_;simp only[go_sem,hc,ixI,hj,Qu,AB _ _ hj,Fn.cells,Qt,Qh];refine Qb rfl ?_ ?_
   ·intro dH;have aP:¬l[j].params.length=p.kids.length:=by
     have h:=BD dH;rw[decide_eq_false_iff_not]at h;omega
    rw[if_neg aP]at cS;rw[cS]at keep;refine Zp ?_;refine BX hc fun H' hu=>?_;simp only[go_sem,X.next];exact done _ _ (keep _ hu)
   ·intro dH;have he:l[j].params.length=p.kids.length:=by
     have h:=Be dH;rw[decide_eq_true_eq]at h;omega
    rw[if_pos he]at cS;refine Qd ?_;simp only[go_sem,X.next];exact done _ _ (same cS)
 ·intro bT;have h3:¬p.op=13:=Zaq
  refine Qd ?_;simp only[go_sem,X.next];exact done _ _ (same (by rw[AA,if_neg h2,if_neg h3]))
theorem XU {c:Nat}{fl:Bool}{l:List Fn}{k:Nat}{sc:ScD}{v:Vars}{val:Nat→Int}(hk:k≤l.length)(hn:((c::sc.ls)).Nodup)(hs:ScD.ok val sc v) :
  ExVis (Ay c fl l k sc) (fun code p=>Af code (AA l k v p)) (fun _=>True) Te [.pp [scC sc.ls],.pp [.ptr c 0]]:=by
 refine⟨fun _ _=>rfl,fun a=>?_,fun a p hp=>?_,fun _ _ h=>h,fun a s H K _ _ hh hK=>Qbkr hk hn hs hh hK⟩
 ·have e:(Ay c fl l k sc a).map Prod.fst=c::sc.ls:=Zbj
  rw[e];exact hn
 ·rcases Jg.1 hp with rfl|hp
  ·nofun
  ·obtain⟨x,_,rfl⟩:=Jq.1 hp;nofun
theorem Qbkg {c:Nat}{fl:Bool}{l:List Fn}{k:Nat}{sc:ScD}{v:Vars}{val:Nat→Int}{code:Int}{x:Ex}(hk:k≤l.length)(hn:((c::sc.ls)).Nodup)(hs:ScD.ok val sc v)(hx:x.size≤2^40)
  (hh:∀q∈Ay c fl l k sc code,H q.1=q.2) (hK:∀H',Upd H H' (Ay c fl l k sc (Ax l k v x.pre code))→K (.tup []) H') :
  Qm prog Qm8 [.c (.ptr c 0),.ag x.cells,.c (scC sc.ls)] H K:=by
 have an:(scC sc.ls).ah=false:=by cases sc.ls <;> rfl
 refine Qc Aa Q9p ?_;refine Qa ?_;simp only[go_sem,x.aa,an];refine ZB an ?_;have h:=fun K=>Qbf1 (XU (fl:=fl) hk hn hs) x.size x code H K;rw[x.aa]at h;refine h _ (Ji _) hx trivial hh fun H' hu=>?_;simp only[Qq,Q0,AJ,go_sem];exact hK _ hu
end Go.AE.Y
namespace Go.AE.Y
theorem FO (s t:List UInt8)(v:V):∀(es:List (C×V)),(∀e∈es,∃s,e.1=.str s)→A3 (.str t) (AH (.str s) v es)=if s=t then some v else A3 (.str t) es
 |[],_=>by
  simp only[AH,A3,AM];by_cases h:s=t
  ·subst h;simp
  ·have h':¬t=s:=fun e=>h e.symm;simp[h,h']
 |e::es,hk=>by
  obtain⟨k,eN⟩:=hk e ZV;obtain⟨e1,e2⟩:=e;simp only at eN;subst eN;have ih:=FO s t v es fun x hx=>hk x (Jm _ hx);simp only[AH,AM];by_cases h:s=k
  ·subst h;simp only[decide_true,if_true,A3,AM];by_cases h2:s=t
   ·subst h2;simp
   ·have h':¬t=s:=fun e=>h2 e.symm;simp[h2,h']
  ·simp only[h,decide_false,Bool.false_eq_true,if_false,A3,AM];rw[ih];by_cases h2:t=k
   ·subst h2;simp[h]
   ·simp[h2]
theorem FE (s:List UInt8)(v:V):∀(es:List (C×V)),(∀e∈es,∃s,e.1=.str s)→∀e∈AH (.str s) v es,∃s,e.1=.str s
 |[],_,e,he=>by simp only[AH,Ja]at he;subst he;exact⟨s,rfl⟩
 |x::es,hk,e,he=>by
  simp only[AH]at he;split at he
  ·rcases Jg.1 he with rfl|he
   ·exact⟨s,rfl⟩
   ·exact hk e (Jm _ he)
  ·rcases Jg.1 he with rfl|he
   ·exact hk _ ZV
   ·exact FE s v es (fun y hy=>hk y (Jm _ hy)) e he
theorem MapOk.put {val:Nat→Int}{es:List (C×V)}{b:List (List UInt8×Nat)}(h:MapOk val es b)(s:List UInt8)(n:Nat):MapOk val (AH (.str s) (.c (.int .i64 (val n))) es) ((s,n)::b):=by
 refine⟨FE s _ es h.ky,fun t=>?_⟩;rw[FO s t _ es h.ky,List.find?_cons];by_cases e:s=t
 ·subst e;simp
 ·simp[e,h.fd t]
theorem MapOk.nil (val:Nat→Int):MapOk val [] []:=⟨ZV,fun s=>rfl⟩
attribute [local go_sem] cond_true cond_false Bool.not_true Bool.not_false
open Go.Proofs.Tryz
variable {H H0:Heap}{K:V→Heap→Prop}{E E' L:List (Nat×Obj)}
theorem Fu {sc:C}(an:sc.ah=false)(hK:∀lm n H',H lm=.none→H'=H.set lm (.map n [])→K (.c (.pp [.mp lm,sc])) H'):Qm prog Qs3 [.c sc] H K:=by
 refine Qc Aa Qajg ?_;refine Za ?_;refine Za ?_;intro lm eq H1 h1;simp only[go_sem,TZ,an];refine Zq an ?_;exact hK lm _ H1 eq h1
theorem Q98 (fns:List Fn)(k:Nat)(v:Vars)(a b:List Ex)(c:Int):Ax fns k v (a++b) c=Ax fns k v b (Ax fns k v a c):=by rw[Ax,List.foldl_append];rfl
theorem Ko (c:Nat)(fl:Bool)(l:List Fn)(k:Nat)(sc:ScD)(x y:Int):(Ay c fl l k sc x).map Prod.fst=(Ay c fl l k sc y).map Prod.fst:=rfl
theorem Gz (c:Nat)(fl:Bool)(l:List Fn)(k:Nat)(sc:ScD)(x:Int):∀p∈Ay c fl l k sc x,p.2≠.none:=by
 intro p hp;rcases Jg.1 hp with rfl|hp
 ·nofun
 ·obtain⟨x,_,rfl⟩:=Jq.1 hp;nofun
theorem Qbkf {c x7 N i:Nat}{fl f5:Bool}{l:List Fn}{k:Nat}{sc:ScD}{v:Vars}{val:Nat→Int}{code:Int}{x:St}{sts:List St}{L:List (Nat×Obj)}{Q:X→Env→Heap→Prop}
  (hk:k≤l.length) (hn:((c::sc.ls)).Nodup) (hs:ScD.ok val sc v) (hx:x.size≤2^40)
  (kn:Kn H0 H (Ay c fl l k sc code) [(x7,.st [.int .i64 x.op,.str x.name,.sl false 4 (Ql x.args),.sl false 5 (Qk x.body),.sl false 5 (Qk x.els)])])
  (hQ:∀H',Kn H0 H' (Ay c fl l k sc (Ax l k v (Q7 x.args) code)) [(x7,.st [.int .i64 x.op,.str x.name,.sl false 4 (Ql x.args),.sl false 5 (Qk x.body),.sl false 5 (Qk x.els)])]→
   ∀e',lk 0 e'=.c (.ptr c 0)→lk 2 e'=.c (scC sc.ls)→lk 7 e'=.c (.ptr x7 0)→lk 14 e'=.c (.sl f5 5 (Qk sts))→lk 15 e'=.c (.int .i64 N)→lk 16 e'=.c (.int .i64 i)→Q6 prog VS Q e' H') :
  Q6 prog Qiv Q [(0,.c (.ptr c 0)),(2,.c (scC sc.ls)),(7,.c (.ptr x7 0)),(14,.c (.sl f5 5 (Qk sts))),(15,.c (.int .i64 N)),(16,.c (.int .i64 i))] H:=by
 have an:(scC sc.ls).ah=false:=by cases sc.ls <;> rfl
 have gW:=x.size_eq;have g7:=kn.l 0 rfl;refine Qz (Qa ?_);simp only[go_sem,g7,an,Qh];intro hl;simp only[LIM]at hl;refine Qf (Qg (Q3 (fun m e1 H1=>∃(j:Nat),m=x.args.length-j∧j≤x.args.length∧Kn H0 H1 (Ay c fl l k sc (Ax l k v (Q7 (x.args.take j)) code)) [(x7,.st [.int .i64 x.op,.str x.name,.sl false 4 (Ql x.args),.sl false 5 (Qk x.body),.sl false 5 (Qk x.els)])]∧
  e1=[(0,.c (.ptr c 0)),(2,.c (scC sc.ls)),(7,.c (.ptr x7 0)),(14,.c (.sl f5 5 (Qk sts))),(15,.c (.int .i64 N)),(16,.c (.int .i64 i)),(21,.c (.sl false 4 (Ql x.args))),(22,.c (.int .i64 x.args.length)),(23,.c (.int .i64 j))]) x.args.length ?_ ?_))
 ·exact⟨0,ZT,ZT,by simpa[Q7,Ax]using kn,rfl⟩
 ·clear kn;rintro m e1 H1 ⟨j,hm,hj,kn,rfl⟩;refine Zd an ?_;refine Qf (Qb rfl ?_ ?_)
  ·intro hc;have af:j<x.args.length:=ZU
   have dc:=Bn (Jd af);obtain⟨y,hy⟩:∃y,x.args[j]=y:=⟨_,rfl⟩;have aY:=HK af;rw[hy]at dc aY;refine Zc ?_
   refine Qf (Qg ?_);refine Qa ?_;simp only[go_sem,an,af,Qh,Qs _ _ af,hy,y.aa];intro x9 eR H3 h3;have kn:=kn.al eR h3;have g9:=kn.l 1 rfl;simp only[go_sem,Qiy,g9,an];intro H4 h4;have kn:=kn.ax 1 rfl h4;have g9:=kn.l 1 rfl;refine ZE g9 an ?_;have h:=fun K=>Qbkg (H:=H4) (K:=K) (fl:=fl) (x:=y) (code:=Ax l k v (Q7 (x.args.take j)) code) hk hn hs ZT (fun p hp=>(kn.get p (Je _ hp)).1);rw[y.aa]at h;refine h _ fun H5 hu=>?_;have kn:=Kn.drop (A:=[(x7,_)]) (kn.callAll hu (Ko _ _ _ _ _ _ _) (Gz _ _ _ _ _ _));simp only[go_sem,an];refine Zl an ?_;refine⟨Qv,x.args.length-(j+1),ZT,j+1,rfl,ZT,?_,rfl⟩;rw[aY,Q98];exact kn
  ·intro hc;have aV:x.args.length≤j:=ZU
   rw[Jb aV]at kn;refine Zg ?_;exact hQ _ kn _ rfl rfl rfl rfl rfl rfl
def Bd (op:Int)(name:List UInt8)(x:Nat×Nat×List (C×V)):Nat×Nat×List (C×V):=if op=1 then (x.1,x.2.1+1,AH (.str name) (.c (.int .i64 0)) x.2.2)else x
def opC (v:Vars)(op:Int)(name:List UInt8)(c:Int):Int:=if op=1 then Af c (if A6 v name then 2 else 0)else if op=2 then Af c (if (v.find name).isSome then 0 else 3)else c
theorem DQ (c:Int):Af c 0=c:=by rw[Af];split <;> simp_all
theorem PI {val:Nat→Int}{es:List (C×V)}{b:List (List UInt8×Nat)}(h:MapOk val es b)(r:Vars)(s:List UInt8):(A3 (.str s) es).isSome=A6 (b::r) s:=by
 rw[h.fd s,A6,Option.isSome_map,Jaq,Jr,List.find?_isSome,Jy]
theorem F5 (c:Nat)(fl:Bool)(l:List Fn)(k:Nat)(sc:ScD)(x:Int):(Ay c fl l k sc x).map Prod.fst=c::sc.ls:=Zbj
theorem It (l:List Fn)(k:Nat)(op:Int)(name:List UInt8)(args:List Ex)(s:Ck):(stC l k op name args s).c=opC s.v op name (Ax l k s.v (Q7 args) s.c):=by
 simp only[stC,opC];split
 ·rfl
 ·split <;> rfl
theorem Qbn5 {es:List (C×V)}{b:List (List UInt8×Nat)}{r:Vars}(h:MapOk (fun _=>0) es b)(l:List Fn)(k:Nat)(op:Int)(name:List UInt8)(args:List Ex)(s:Ck)(hv:s.v=b::r)(l0 n0:Nat) :
  ∃b',(stC l k op name args s).v=b'::r∧MapOk (fun _=>0) (Bd op name (l0,n0,es)).2.2 b':=by
 simp only[stC,Bd];split
 ·exact⟨(name,s.n)::b,by simp[A8,hv],h.put name s.n⟩
 ·split
  ·exact⟨b,hv,h⟩
  ·exact⟨b,hv,h⟩
theorem Qbjp (op:Int)(name:List UInt8)(l0 n0:Nat)(es:List (C×V)):(Bd op name (l0,n0,es)).2.2.length≤es.length+1:=by
 have hu:∀(es:List (C×V)),(AH (.str name) (.c (.int .i64 0)) es).length≤es.length+1:=by
  intro es
  induction es with
  |nil=>simp[AH]
  |cons e es ih=>
   simp only[AH];split
   ·simp
   ·simp only[Jn];omega
 simp only[Bd];split
 ·exact hu es
 ·exact Nat.le_succ _
abbrev stO (x:St):Obj:=.st [.int .i64 x.op,.str x.name,.sl false 4 (Ql x.args),.sl false 5 (Qk x.body),.sl false 5 (Qk x.els)]
theorem Qbo8 {c x7 N i l0 n0:Nat}{fl f5:Bool}{l:List Fn}{k:Nat}{es0:List (C×V)}{rest:ScD}{b:List (List UInt8×Nat)}{r:Vars}{code:Int}{x:St}{sts:List St}{Q:X→Env→Heap→Prop}{e:Env}
  (hn:(c::l0::rest.ls).Nodup) (hs:ScD.ok (fun _=>0) ((l0,n0,es0)::rest) (b::r)) (aM:es0.length+1≤LIM)
  (kn:Kn H0 H (Ay c fl l k ((l0,n0,es0)::rest) code) [(x7,stO x)])
  (f0:lk 0 e=.c (.ptr c 0)) (f2:lk 2 e=.c (scC (l0::rest.ls))) (f7:lk 7 e=.c (.ptr x7 0)) (f14:lk 14 e=.c (.sl f5 5 (Qk sts))) (f15:lk 15 e=.c (.int .i64 N)) (f16:lk 16 e=.c (.int .i64 i))
  (hQ:∀H',Kn H0 H' (Ay c fl l k (Bd x.op x.name (l0,n0,es0)::rest) (opC (b::r) x.op x.name code)) [(x7,stO x)]→
   ∀e',lk 0 e'=.c (.ptr c 0)→lk 2 e'=.c (scC (l0::rest.ls))→lk 7 e'=.c (.ptr x7 0)→lk 14 e'=.c (.sl f5 5 (Qk sts))→lk 15 e'=.c (.int .i64 N)→lk 16 e'=.c (.int .i64 i)→Q6 prog VT Q e' H') :
  Q6 prog VS Q e H:=by
 have an:(scC (l0::rest.ls)).ah=false:=rfl;have eJ:(scC rest.ls).ah=false:=by cases rest.ls <;> rfl
 have hm:=hs.1;have gL:=eq_true hm.ky;have hv:(A3 (.str x.name) es0).getD (.c (.int .i64 0))=.c (.int .i64 0):=by
  rw[hm.fd];cases b.find? fun p=>decide (p.1=x.name) <;> rfl
 have gM:=PI hm r x.name;have g7:=kn.l 0 rfl;have gc:=kn.e 0 rfl;have g1:=kn.e 1 rfl;refine Qz (Qa ?_);simp only[go_sem,f0,f2,f7,f14,f15,f16,g7,an];refine Qf (Qg ?_);refine Zd an ?_;refine Qb rfl ?_ ?_
 ·intro hc;have h1:x.op=1:=ZU
  have eT:Bd x.op x.name (l0,n0,es0)=(l0,n0+1,AH (.str x.name) (.c (.int .i64 0)) es0):=by simp only[Bd,if_pos h1]
  have eC:opC (b::r) x.op x.name code=Af code (if A6 (b::r) x.name then 2 else 0):=by simp only[opC,if_pos h1]
  rw[eT,eC]at hQ;have tail:∀(H1:Heap) (e1:Env),Kn H0 H1 (Ay c fl l k ((l0,n0,es0)::rest) (Af code (if A6 (b::r) x.name then 2 else 0))) [(x7,stO x)]→
    lk 0 e1=.c (.ptr c 0)→lk 2 e1=.c (.pp [.mp l0,scC rest.ls])→lk 7 e1=.c (.ptr x7 0)→lk 14 e1=.c (.sl f5 5 (Qk sts))→lk 15 e1=.c (.int .i64 N)→lk 16 e1=.c (.int .i64 i)→
    Q6 prog Qkg (X.inBlock 4 (X.sq prog VT Q)) e1 H1:=by
   intro H1 e1 kn a0 a2 a7 a14 a15 a16;have g7:=kn.l 0 rfl;have g1:=kn.e 1 rfl;refine Bf ?_;simp only[go_sem,a0,a2,a7,a14,a15,a16,g7,g1,AL,gL,eJ];refine⟨ZT,?_⟩;intro H2 h2;have kn:Kn H0 H2 (Ay c fl l k ((l0,n0+1,AH (.str x.name) (.c (.int .i64 0)) es0)::rest) (Af code (if A6 (b::r) x.name then 2 else 0))) [(x7,stO x)]:=kn.stE 1 rfl h2;try simp only[go_sem,X.next,eJ]
   exact hQ _ kn _ rfl rfl rfl rfl rfl rfl
  refine Qz (An ?_);simp only[go_sem,scC,g7,g1,Bp,AL,A4,gL,hv,gM,eJ,Jh,Jj];refine Qf (Qa ?_);simp only[go_sem,eJ];refine Qb rfl ?_ ?_
  ·intro au;have hi:A6 (b::r) x.name=true:=ZZ
   rw[hi]at tail;refine ZB eJ ?_;refine BX gc fun H2 hu=>?_;have kn:=kn.ak 0 rfl hu ZaO;simp only[go_sem,X.next,eJ];exact tail _ _ kn rfl rfl rfl rfl rfl rfl
  ·intro au;have hi:A6 (b::r) x.name=false:=ZZ
   rw[hi]at tail;refine Qd ?_;simp only[go_sem,X.next,eJ];refine tail _ _ ?_ rfl rfl rfl rfl rfl rfl;have:Af code (if false=true then 2 else 0)=code:=DQ code;rw[this];exact kn
 intro hc;have h1:¬x.op=1:=ZU
 have eT:Bd x.op x.name (l0,n0,es0)=(l0,n0,es0):=by simp only[Bd,if_neg h1]
 rw[eT]at hQ;refine Zd an ?_;refine Qb rfl ?_ ?_
 ·intro au;have h2:x.op=2:=ZZ
  have eC:opC (b::r) x.op x.name code=Af code (if (Vars.find (b::r) x.name).isSome then 0 else 3):=by simp only[opC,if_neg h1,if_pos h2]
  rw[eC]at hQ;refine Zi g7 an ?_;refine P3 (ScD.scOk hs fun q hq=>(kn.get q (Je _ (Jm _ hq))).1) ?_;simp only[go_sem,Qiz,Jh,Jj,an];refine Zd an ?_;refine Qb rfl ?_ ?_
  ·intro bT;have hf:(Vars.find (b::r) x.name).isSome=false:=Zaq
   rw[hf]at hQ;refine ZB an ?_;refine BX gc fun H2 hu=>?_;have kn:=kn.ak 0 rfl hu ZaO;simp only[go_sem,X.next,an];exact hQ _ kn _ rfl rfl rfl rfl rfl rfl
  ·intro bT;have hf:(Vars.find (b::r) x.name).isSome=true:=Zaq
   rw[hf]at hQ;refine Qd ?_;simp only[go_sem,X.next,an];refine hQ _ ?_ _ rfl rfl rfl rfl rfl rfl;have:Af code (if true=true then 0 else 3)=code:=DQ code;rw[this];exact kn
 ·intro au;have h2:¬x.op=2:=ZZ
  have eC:opC (b::r) x.op x.name code=code:=by simp only[opC,if_neg h1,if_neg h2]
  rw[eC]at hQ;refine Qd ?_;simp only[go_sem,X.next,an];exact hQ _ kn _ rfl rfl rfl rfl rfl rfl
theorem Ix {c lm n1 n2:Nat}{es1 es2:List (C×V)}{fl:Bool}{l:List Fn}{k:Nat}{sc:ScD}{x y:Int}{p:Nat×Obj}{H':Heap}
  (kn:Kn H0 H (Ay c fl l k sc x) [p,(lm,.map n1 es1)]) (hu:Upd H H' (Ay c fl l k ((lm,n2,es2)::sc) y)):Kn H0 H' (Ay c fl l k sc y) [p]:=by
 refine Kn.drop (A:=[p]) (B:=[(lm,.map n2 es2)]) ?_;have eq:lm∉(Ay c fl l k sc x).map Prod.fst:=fun h=>by
  obtain⟨q,hq,e⟩:=Jq.1 h;exact kn.ext q hq (by rw[e];exact kn.free 1 rfl)
 have hp:p.1≠lm:=kn.neL 0 1 (l:=p.1) (o:=p.2) rfl rfl ZT;have pS:p.1∉(Ay c fl l k sc x).map Prod.fst:=fun h=>by
  obtain⟨q,hq,e⟩:=Jq.1 h;exact kn.ext q hq (by rw[e];exact kn.loc p (by simp))
 refine kn.callg (E2:=Ay c fl l k sc y) (L2:=[p,(lm,.map n2 es2)]) hu (Ko _ _ _ _ _ _ _) rfl (fun q hq=>?_) (fun u hu=>?_)
 ·rcases Jl.1 hq with hq|hq
  ·refine⟨Gz _ _ _ _ _ _ q hq,.inl ?_⟩;rcases Jg.1 hq with rfl|hq
   ·exact Jab
   ·exact Jm _ (Jm _ hq)
  ·rcases Jg.1 hq with rfl|hq
   ·refine⟨(kn.get q ZV).2,.inr ⟨ZV,?_⟩⟩;rw[F5]at pS⊢;simp only[ScD.ls,J2,Jg,not_or]at pS⊢;exact⟨pS.1,hp,pS.2⟩
   ·simp only[Ja]at hq;subst hq;exact⟨ZaO,.inl (Jm _ Jab)⟩
 ·rcases Jg.1 hu with rfl|hu
  ·exact .inl Jab
  ·rcases Jg.1 hu with rfl|hu
   ·exact .inr ZV
   ·exact .inl (Jm _ (List.mem_map_of_mem (f:=Prod.fst) hu))
theorem I2 {c lm n1:Nat}{fl:Bool}{l:List Fn}{k:Nat}{sc:ScD}{x:Int}{p:Nat×Obj}
  (kn:Kn H0 H (Ay c fl l k sc x) [p,(lm,.map n1 [])]):∀q∈Ay c fl l k ((lm,n1,[])::sc) x,H q.1=q.2:=by
 intro q hq;rcases Jg.1 hq with rfl|hq
 ·exact kn.e 0 rfl
 ·rcases Jg.1 hq with rfl|hq
  ·exact kn.l 1 rfl
  ·exact (kn.get q (Je _ (Jm _ hq))).1
theorem I1 {c lm n1:Nat}{fl:Bool}{l:List Fn}{k:Nat}{sc:ScD}{x:Int}{p:Nat×Obj}
  (kn:Kn H0 H (Ay c fl l k sc x) [p,(lm,.map n1 [])]):(c::lm::sc.ls).Nodup:=by
 have eq:lm∉(Ay c fl l k sc x).map Prod.fst:=fun h=>by
  obtain⟨q,hq,e⟩:=Jq.1 h;exact kn.ext q hq (by rw[e];exact kn.free 1 rfl)
 have hd:=kn.dE;rw[F5]at hd eq;simp only[Jas,Jg,not_or]at hd eq⊢;exact⟨⟨fun e=>eq.1 e.symm,hd.1⟩,eq.2,hd.2⟩
theorem Qbnv {x:St}{d:Int}(h:x.form d=true):Qx x.body (d-1)=true∧Qx x.els (d-1)=true∧(¬(x.op=5∨x.op=6)→x.body=[]∧x.els=[]):=by
 rw[x.form_eq,BF]at h;simp only[Jo,Jan,decide_eq_true_eq]at h;obtain⟨⟨⟨_,⟨⟨_,h5⟩,h6⟩⟩,hb⟩,he⟩:=h;refine⟨hb,he,fun hn=>⟨List.eq_nil_of_length_eq_zero ?_,List.eq_nil_of_length_eq_zero ?_⟩⟩
 ·rcases h6 with h6|h6
  ·exact (hn h6).elim
  ·exact h6
 ·rcases h5 with h5|h5
  ·exact (hn (.inl h5)).elim
  ·exact h5
theorem Qbe1 {c:Nat}{fl:Bool}{l:List Fn}{k:Nat}(hk:k≤l.length):∀(n:Nat) (sts:List St) (d:Int) (f5:Bool) (l0 n0:Nat) (es0:List (C×V)) (rest:ScD) (b:List (List UInt8×Nat)) (r:Vars) (s:Ck) (H:Heap) (K:V→Heap→Prop),
  Qj sts≤n→Qj sts≤2^38→Qx sts d=true→(c::l0::rest.ls).Nodup→s.v=b::r→ScD.ok (fun _=>0) ((l0,n0,es0)::rest) (b::r)→es0.length+sts.length≤LIM→
  (∀q∈Ay c fl l k ((l0,n0,es0)::rest) s.c,H q.1=q.2)→
  (∀H' n' es' b',(Ae l k sts s).v=b'::r→MapOk (fun _=>0) es' b'→Upd H H' (Ay c fl l k ((l0,n',es')::rest) (Ae l k sts s).c)→K (.tup []) H')→
  Qm prog Ql1 [.c (.ptr c 0),.c (.sl f5 5 (Qk sts)),.c (scC (l0::rest.ls))] H K:=by
 intro n
 induction n using Nat.strongRecOn with
 |_ n ih=>
 intro sts d f5 l0 n0 es0 rest b r s H K hn hb hf du qN oi aE hh hK;have an:(scC (l0::rest.ls)).ah=false:=rfl;rw[D0,Jaf]at hf;refine Q1 ?_;refine Qc Aa Q7o ?_;refine Qa ?_;simp only[go_sem,an,Qp];intro hl;simp only[LIM]at hl aE;have kn:Kn H H (Ay c fl l k ((l0,n0,es0)::rest) s.c) []:=.startE (fun p hp=>⟨hh p hp,Gz _ _ _ _ _ _ p hp⟩) (by rw[F5];exact du);refine Qg (Q3 (fun m e1 H1=>∃(i n':Nat) (es':List (C×V)) (bi:List (List UInt8×Nat)),m=sts.length-i∧i≤sts.length∧(Ae l k (sts.take i) s).v=bi::r∧MapOk (fun _=>0) es' bi∧es'.length≤es0.length+i∧
  Kn H H1 (Ay c fl l k ((l0,n',es')::rest) (Ae l k (sts.take i) s).c) []∧
  e1=[(0,.c (.ptr c 0)),(2,.c (scC (l0::rest.ls))),(14,.c (.sl f5 5 (Qk sts))),(15,.c (.int .i64 sts.length)),(16,.c (.int .i64 i))]) sts.length ?_ ?_)
 ·exact⟨0,n0,es0,b,ZT,ZT,by simpa[Ae]using qN,oi.1,ZT,by simpa[Ae]using kn,rfl⟩
 ·clear kn;rintro m e1 H1 ⟨i,n',es',bi,hm,hi,lq,mS,hei,kn,rfl⟩;obtain⟨si,ki⟩:∃si,Ae l k (sts.take i) s=si:=⟨_,rfl⟩;rw[ki]at lq kn;refine Zd an ?_;refine Qf (Qb rfl ?_ ?_)
  ·intro hc;have af:i<sts.length:=ZU
   have dc:=Bw (Jd af);obtain⟨x,hx⟩:∃x,sts[i]=x:=⟨_,rfl⟩;have aY:=KW l k af s;have cZ:=hf sts[i] (Jd af);rw[hx]at dc cZ;rw[ki,hx]at aY;have gW:=x.size_eq;have fD:=BM x.body;have eu:=BM x.els;obtain⟨fb,fe,fn⟩:=Qbnv cZ;have oe:ScD.ok (fun _=>0) ((l0,n',es')::rest) (bi::r):=⟨mS,oi.2⟩;refine Zc ?_
   refine Qf (Qg ?_);refine ZF an af hx ?_;intro x7 i8 H3 h3;have kn:=kn.al i8 h3;have g7:=kn.l 0 rfl;simp only[go_sem,Qix,g7,an];intro H4 h4;have kn:Kn H H4 (Ay c fl l k ((l0,n',es')::rest) si.c) [(x7,stO x)]:=kn.ax 0 rfl h4;clear g7;refine Qbkf (L:=[]) (sc:=(l0,n',es')::rest) (v:=bi::r) hk du oe ZT kn (fun H5 kn e5 f0 f2 f7 f14 f15 f16=>?_);clear h4 h3;refine Qbo8 du oe Zav kn f0 f2 f7 f14 f15 f16 (fun H6 kn e6 f0 f2 f7 f14 f15 f16=>?_);obtain⟨b1,dU,bp⟩:=Qbn5 mS l k x.op x.name x.args si lq l0 n';have iX:=Qbjp x.op x.name l0 n' es';have fA:=It l k x.op x.name x.args si;rw[lq]at fA;rw[←fA]at kn;obtain⟨es1,n1,ht⟩:∃es1 n1,Bd x.op x.name (l0,n',es')=(l0,n1,es1):=by
    simp only[Bd];split <;> exact⟨_,_,rfl⟩
   rw[ht]at kn bp iX;simp only at iX;have cH:=x.ck_eq l k si;obtain⟨s1,cd⟩:∃s1,stC l k x.op x.name x.args si=s1:=⟨_,rfl⟩;rw[cd]at kn dU cH;rw[dU]at cH;have oh:ScD.ok (fun _=>0) ((l0,n1,es1)::rest) (b1::r):=⟨bp,oi.2⟩;have g7:=kn.l 0 rfl;have fin:∀(H':Heap) (e':Env),Kn H H' (Ay c fl l k ((l0,n1,es1)::rest) (x.ck l k si).c) []→lk 0 e'=.c (.ptr c 0)→lk 2 e'=.c (scC (l0::rest.ls))→lk 14 e'=.c (.sl f5 5 (Qk sts))→lk 15 e'=.c (.int .i64 sts.length)→lk 16 e'=.c (.int .i64 i)→
     Q6 prog Qiw (X.next (fun e2 H2=>∃m',m'<m∧∃(i n':Nat) (es':List (C×V)) (bi:List (List UInt8×Nat)),m'=sts.length-i∧i≤sts.length∧(Ae l k (sts.take i) s).v=bi::r∧MapOk (fun _=>0) es' bi∧es'.length≤es0.length+i∧
      Kn H H2 (Ay c fl l k ((l0,n',es')::rest) (Ae l k (sts.take i) s).c) []∧
      e2=[(0,.c (.ptr c 0)),(2,.c (scC (l0::rest.ls))),(14,.c (.sl f5 5 (Qk sts))),(15,.c (.int .i64 sts.length)),(16,.c (.int .i64 i))]) (X.inBlock 0 (Qq AJ (unK H K)))) e' H':=by
    intro H' e' kn f0 f2 f14 f15 f16;refine Qr ?_;simp only[go_sem,f0,f2,f14,f15,f16,an,AE.X.next];refine⟨Qv,sts.length-(i+1),ZT,i+1,n1,es1,b1,rfl,ZT,?_,bp,ZT,?_,rfl⟩
    ·rw[aY,cH]
    ·rw[aY];exact kn
   refine Qa ?_;simp only[go_sem,f0,f2,f7,f14,f15,f16,g7,an];refine Qb rfl ?_ ?_
   ·intro au;refine An ?_;simp only[go_sem,f0,f2,f7,f14,f15,f16,g7,an];refine Fu an (fun lm nn H7 eq h7=>?_);have kn:=kn.al eq h7;have g7:=kn.l 0 rfl;simp only[go_sem,Qg9,g7,an];have iK:=ih (Qj x.body) ZT x.body (d-1) false lm nn [] ((l0,n1,es1)::rest) [] (b1::r) ⟨[]::b1::r,s1.c,s1.n⟩ H7;refine iK _ (Ji _) ZT fb (I1 kn) rfl ⟨.nil _,oh⟩ (by simp only[Jx,LIM];omega) (I2 kn) (fun H8 n8 es8 b8 _ _ hu=>?_);have kn:=Ix kn hu;have g7:=kn.l 0 rfl;simp only[go_sem,an];refine Bf ?_;simp only[go_sem,g7,an];refine Fu an (fun lm nn H9 eq h9=>?_);have kn:=kn.al eq h9;have g7:=kn.l 0 rfl;simp only[go_sem,Qha,g7,an];obtain⟨s2,cr⟩:∃s2,Ae l k x.body ⟨[]::b1::r,s1.c,s1.n⟩=s2:=⟨_,rfl⟩;rw[cr]at kn cH;have iK:=ih (Qj x.els) ZT x.els (d-1) false lm nn [] ((l0,n1,es1)::rest) [] (b1::r) ⟨[]::b1::r,s2.c,s2.n⟩ H9;refine iK _ (Ji _) ZT fe (I1 kn) rfl ⟨.nil _,oh⟩ (by simp only[Jx,LIM];omega) (I2 kn) (fun H10 n10 es10 b10 _ _ hu=>?_);have kn:=Kn.drop (A:=[]) (Ix kn hu);simp only[go_sem,AE.X.next,an];refine fin _ _ ?_ rfl rfl rfl rfl rfl;rw[cH];exact kn
   ·intro au;have bO:¬(x.op=5∨x.op=6):=by
     intro h;rcases h with h|h <;> simp[h]at au
    obtain⟨eb,ee⟩:=fn bO;rw[eb,ee]at cH;simp only[Ae]at cH;refine Qd ?_;simp only[go_sem,AE.X.next,an];refine fin _ _ ?_ rfl rfl rfl rfl rfl;rw[cH];exact Kn.drop (A:=[]) kn
  ·intro hc;have aV:sts.length≤i:=ZU
   rw[Jb aV]at ki;refine Qy ?_;simp only[go_sem,AE.X.next,Qq,Q0,AJ];refine⟨.tup [],.tup _ _ rfl fun j x x' h=>Zaa,hK _ n' es' bi (by rw[ki];exact lq) mS ?_⟩;rw[ki];exact kn.fin
abbrev fnO (f:Fn):Obj:=.st [.str f.name,.sl false 1 (Q5 f.params),.sl false 5 (Qk f.body)]
abbrev ckO (fl:Bool)(l:List Fn)(k:Int)(code:Int):Obj:=.st [.sl fl 3 (Qo l),.int .i64 k,.int .i64 code]
theorem DZ (s:List UInt8)(v:V):∀(es:List (C×V)),(AH (.str s) v es).length≤es.length+1
 |[]=>by simp[AH]
 |e::es=>by
  have:=DZ s v es;simp only[AH];split
  ·simp
  ·simp only[Jn];omega
theorem Y3 {c x5 N i:Nat}{fl:Bool}{l:List Fn}{a:Int}{e:Env}{Q:X→Env→Heap→Prop}(hi:i<l.length)(hf:l[i].form=true)(hs:Qj l[i].body≤2^38)
  (kn:Kn H0 H [] [(c,ckO fl l i a),(x5,fnO l[i])])
  (f1:lk 1 e=.c (.pp [.sl fl 3 (Qo l)])) (f3:lk 3 e=.c (.ptr c 0)) (f4:lk 4 e=.c (.int .i64 i)) (f5:lk 5 e=.c (.ptr x5 0)) (f18:lk 18 e=.c (.sl fl 3 (Qo l))) (f19:lk 19 e=.c (.int .i64 N)) (f20:lk 20 e=.c (.int .i64 i))
  (hQ:∀H',Kn H0 H' [] [(c,ckO fl l i (Af a (fnCk l i).c))]→∀e',lk 1 e'=.c (.pp [.sl fl 3 (Qo l)])→lk 3 e'=.c (.ptr c 0)→lk 18 e'=.c (.sl fl 3 (Qo l))→lk 19 e'=.c (.int .i64 N)→lk 20 e'=.c (.int .i64 i)→Q .nrm e' H') :
  Q6 prog Qj6 Q e H:=by
 rw[←Qbpv hi a]at hQ;obtain⟨f,da⟩:∃f,l[i]=f:=⟨_,rfl⟩;obtain⟨j0,jT,tz⟩:=Qbpw hi;rw[da]at hf hs hQ kn jT;have g5:=kn.l 1 rfl;have tA:f.params.length≤3∧Qx f.body 4=true:=by
  rw[Fn.form]at hf;simp only[Jo,decide_eq_true_eq]at hf;exact⟨hf.1.2,hf.2⟩
 have two:∀(H1:Heap) (e1:Env),Kn H0 H1 [] [(c,ckO fl l i (Af a (ixC l i f.name))),(x5,fnO f)]→lk 1 e1=.c (.pp [.sl fl 3 (Qo l)])→lk 3 e1=.c (.ptr c 0)→lk 5 e1=.c (.ptr x5 0)→lk 18 e1=.c (.sl fl 3 (Qo l))→lk 19 e1=.c (.int .i64 N)→lk 20 e1=.c (.int .i64 i)→
   Q6 prog Qj5 Q e1 H1:=by
  intro H1 e1 kn f1 f3 f5 f18 f19 f20;refine Qa ?_;simp only[go_sem,f1,f3,f5,f18,f19,f20];refine Fu (sc:=.pnil) rfl (fun lm nn H2 eq h2=>?_);have kn:=kn.al eq h2;have g5:=kn.l 1 rfl;simp only[go_sem,S7,f1,f3,f5,f18,f19,f20];refine Qz (Qa ?_);simp only[go_sem,g5,Qt];intro hl;simp only[LIM]at hl;obtain⟨s0,iU⟩:∃s0:Ck,(⟨[[]],Af a (ixC l i f.name),0⟩:Ck)=s0:=⟨_,rfl⟩;have mt:s0.v=[[]]:=Zco
  have mw:Af a (ixC l i f.name)=s0.c:=Zco
  rw[iU]at hQ;rw[mw]at kn;refine Qf (Qg (Q3 (fun m e2 H3=>∃(j n':Nat) (es':List (C×V)) (bj:List (List UInt8×Nat)),m=f.params.length-j∧j≤f.params.length∧(A1 (f.params.take j) s0).v=[bj]∧MapOk (fun _=>0) es' bj∧es'.length≤j∧
   Kn H0 H3 [] [(c,ckO fl l i (A1 (f.params.take j) s0).c),(x5,fnO f),(lm,.map n' es')]∧
   e2=[(1,.c (.pp [.sl fl 3 (Qo l)])),(3,.c (.ptr c 0)),(5,.c (.ptr x5 0)),(6,.c (.pp [.mp lm,.pnil])),(18,.c (.sl fl 3 (Qo l))),(19,.c (.int .i64 N)),(20,.c (.int .i64 i)),(39,.c (.sl false 1 (Q5 f.params))),(40,.c (.int .i64 f.params.length)),(41,.c (.int .i64 j))]) f.params.length ?_ ?_))
  ·exact⟨0,nn,[],[],ZT,ZT,mt,.nil _,ZV,kn,rfl⟩
  ·clear kn;rintro m e2 H3 ⟨j,n',es',bj,hm,hj,ll,oI,hej,kn,rfl⟩;obtain⟨sj,kP⟩:∃sj,A1 (f.params.take j) s0=sj:=⟨_,rfl⟩;rw[kP]at ll kn;refine Za ?_;refine Qf (Qb rfl ?_ ?_)
   ·intro hc;have af:j<f.params.length:=ZU;obtain⟨p,hp⟩:∃p,f.params[j]=p:=⟨_,rfl⟩;have qX:f.params.getD j []=p:=(by simp[Jf,af,hp]);have aY:=Ky af s0;rw[kP,hp]at aY;have gL:=eq_true oI.ky;have hv:(A3 (.str p) es').getD (.c (.int .i64 0))=.c (.int .i64 0):=by
     rw[oI.fd];cases bj.find? fun q=>decide (q.1=p) <;> rfl
    have gM:=PI oI [] p;have gl:=kn.l 2 rfl;have gc:=kn.l 0 rfl;refine Zc ?_
    refine Qf (Qg ?_);refine ZN af qX ?_;have tail:∀(H4:Heap) (e3:Env),Kn H0 H4 [] [(c,ckO fl l i (Af sj.c (if A6 [bj] p then 2 else 0))),(x5,fnO f),(lm,.map n' es')]→
      lk 1 e3=.c (.pp [.sl fl 3 (Qo l)])→lk 3 e3=.c (.ptr c 0)→lk 5 e3=.c (.ptr x5 0)→lk 6 e3=.c (.pp [.mp lm,.pnil])→lk 8 e3=.c (.str p)→lk 18 e3=.c (.sl fl 3 (Qo l))→lk 19 e3=.c (.int .i64 N)→lk 20 e3=.c (.int .i64 i)→
      lk 39 e3=.c (.sl false 1 (Q5 f.params))→lk 40 e3=.c (.int .i64 f.params.length)→lk 41 e3=.c (.int .i64 j)→
      Q6 prog Qmc (X.inBlock 3 (X.sq prog Qj3 (X.next (fun e2 H3=>∃m',m'<m∧∃(j n':Nat) (es':List (C×V)) (bj:List (List UInt8×Nat)),m'=f.params.length-j∧j≤f.params.length∧(A1 (f.params.take j) s0).v=[bj]∧MapOk (fun _=>0) es' bj∧es'.length≤j∧
       Kn H0 H3 [] [(c,ckO fl l i (A1 (f.params.take j) s0).c),(x5,fnO f),(lm,.map n' es')]∧
       e2=[(1,.c (.pp [.sl fl 3 (Qo l)])),(3,.c (.ptr c 0)),(5,.c (.ptr x5 0)),(6,.c (.pp [.mp lm,.pnil])),(18,.c (.sl fl 3 (Qo l))),(19,.c (.int .i64 N)),(20,.c (.int .i64 i)),(39,.c (.sl false 1 (Q5 f.params))),(40,.c (.int .i64 f.params.length)),(41,.c (.int .i64 j))]) (X.inBlock 2 (X.sq prog Qj4 Q))))) e3 H4:=by
     intro H4 e3 kn f1 f3 f5 f6 f8 f18 f19 f20 f39 f40 f41;have gl:=kn.l 2 rfl;refine Qr ?_;simp only[go_sem,f1,f3,f5,f6,f8,f18,f19,f20,f39,f40,f41,gl,AL,gL];refine⟨by simp only[LIM];omega,?_⟩;intro H5 h5;have kn:=kn.ax 2 rfl h5;try simp only[go_sem,AE.X.next]
     refine Zk ?_;have eW:=DZ p (.c (.int .i64 0)) es';refine⟨Qv,f.params.length-(j+1),ZT,j+1,n'+1,AH (.str p) (.c (.int .i64 0)) es',(p,sj.n)::bj,rfl,ZT,?_,oI.put p sj.n,ZT,?_,rfl⟩
     ·rw[aY];simp[A8,ll]
     ·rw[aY,ll];exact kn
    refine Qz (Qa ?_);simp only[go_sem,gl,Bp,AL,A4,gL,hv,gM,Jh,Jj];refine Qf (Qa ?_);simp only[go_sem];refine Qb rfl ?_ ?_
    ·intro au;have lc:A6 [bj] p=true:=ZZ;rw[lc]at tail;refine Zp ?_;refine BX gc fun H6 hu=>?_;have kn:=kn.callL 0 rfl hu ZaO;simp only[go_sem,AE.X.next];exact tail _ _ kn rfl rfl rfl rfl rfl rfl rfl rfl rfl rfl rfl
    ·intro au;have lc:A6 [bj] p=false:=ZZ;rw[lc]at tail;refine Zt ?_;refine tail _ _ ?_ rfl rfl rfl rfl rfl rfl rfl rfl rfl rfl rfl;have:Af sj.c (if false=true then 2 else 0)=sj.c:=DQ sj.c;rw[this];exact kn
   ·intro hc;have aV:f.params.length≤j:=ZU;rw[Jb aV]at kP;rw[kP]at hQ;have g5:=kn.l 1 rfl;refine Zg ?_;refine ZB g5 ?_;have knp:Kn H0 H3 [] [(c,ckO fl l i sj.c),(lm,.map n' es'),(x5,fnO f)]:=kn.perm (.cons _ (.swap _ _ _));have hb:=Qbe1 (c:=c) (fl:=fl) (l:=l) (k:=i) ZT (Qj f.body) f.body 4 false lm n' es' [] bj [] sj H3;refine hb _ (Ji _) hs tA.2 ?_ ll ⟨oI,trivial⟩ ?_ ?_ (fun H6 n6 es6 b6 hv6 hm6 hu=>?_)
    ·have:=knp.dL;simp only[J2,Jay,Jas,Jg,Jw,or_false,not_or]at this⊢;exact⟨⟨this.1.1,by simp[ScD.ls]⟩,by simp[ScD.ls],by simp[ScD.ls]⟩
    ·have:=BM f.body;simp only[LIM];omega
    ·intro q hq;rcases Jg.1 hq with rfl|hq
     ·exact knp.l 0 rfl
     ·rcases Jg.1 hq with rfl|hq
      ·exact knp.l 1 rfl
      ·exact absurd hq (by simp[ScD.ob])
    ·have kn:=Kn.drop (A:=[(c,ckO fl l i (Ae l i f.body sj).c)]) (Kn.callLs (L:=[(c,ckO fl l i sj.c),(lm,.map n' es')]) (L':=[(c,ckO fl l i (Ae l i f.body sj).c),(lm,.map n6 es6)]) (M:=[(x5,fnO f)]) knp hu rfl (by
      intro p hp;simp only[Jg,Jw,or_false]at hp;rcases hp with rfl|rfl <;> nofun))
     simp only[go_sem];exact hQ _ kn _ rfl rfl rfl rfl rfl
 have af:decide (ixI (Ai l f.name)<(i:Int)) = !decide (Ai l f.name=some i):=by
  rw[jT];simp only[ixI,J6];by_cases h:j0=i
  ·simp[h]
  ·have:(j0:Int)<i:=ZT
   simp[h,this]
 refine Qz (Qa ?_);simp only[go_sem,f1,f3,f4,f5,f18,f19,f20,g5];refine F2 ?_;simp only[go_sem,Qka,f1,f3,f4,f5,f18,f19,f20,af];refine Qf (Qb rfl ?_ ?_)
 ·intro hc;have aP:¬Ai l f.name=some i:=ZU
  rw[ixC,if_neg aP]at two;refine Zp ?_;refine BX (kn.l 0 rfl) fun H6 hu=>?_;have kn:=kn.callL 0 rfl hu ZaO;simp only[go_sem,AE.X.next];exact two _ _ kn rfl rfl rfl rfl rfl rfl
 ·intro hc;have gA:Ai l f.name=some i:=ZU
  rw[ixC,if_pos gA,DQ]at two;refine Zt ?_;exact two _ _ kn rfl rfl rfl rfl rfl rfl
theorem Qbfy {l:List Fn}{fl:Bool}(hf:Qn l≤2^38)(g:GK H)(hK:∀H',Upd H H' []→K (.c (.int .i64 (AV l))) H'):Qm prog Qm5 [.ag [.sl fl 3 (Qo l)]] H K:=by
 refine Q1 ?_;refine Qc Aa Q9m ?_;have retf:∀(b:Int) (e:Env) (H':Heap) (L:List (Nat×Obj)),AV l=b→Kn H H' [] L→lk 2 e=.c (.int .i64 b)→Qq Ac (unK H K) .ret e H':=by
  intro b e H' L hf kn h4;simp only[go_sem,Qq,Q0,Ja,forall_eq,RS.op,h4];refine⟨_,.c _ _ (Qe rfl),?_⟩;rw[←hf];exact hK _ kn.fin
 have kn:=Kn.ao H;refine Za ?_;refine Qz (Qa ?_);simp only[go_sem];refine Qafc ZT g fun H1 hu=>?_;have kn:=kn.ay hu;simp only[go_sem,Qj7];refine Qf (Qb rfl ?_ ?_)
 ·intro hc;have hb:AW l=false:=ZU
  refine Za ?_;refine Zx ?_;exact retf 1 _ _ _ (by rw[AV,hb];rfl) kn rfl
 intro hc;have hb:AW l=true:=ZU
 have cS:AV l=ckK l l.length:=by rw[AV,if_pos hb]
 have hv:=hb;simp only[AW,Jo,decide_eq_true_eq,Jaf]at hv;refine Zc ?_
 refine Za ?_;intro c cq H2 h2;have kn:=kn.al cq h2;simp only[go_sem,Qj8];refine Qz (Qa ?_);simp only[go_sem,Qu];intro hl;simp only[LIM]at hl;refine Qf (Qg (Q3 (fun m e1 H1=>∃(i:Nat) (at_:Int),m=l.length-i∧i≤l.length∧Kn H H1 [] [(c,ckO fl l at_ (ckK l i))]∧
  e1=[(1,.c (.pp [.sl fl 3 (Qo l)])),(3,.c (.ptr c 0)),(18,.c (.sl fl 3 (Qo l))),(19,.c (.int .i64 l.length)),(20,.c (.int .i64 i))]) l.length ?_ ?_))
 ·exact⟨0,0,ZT,ZT,kn,rfl⟩
 ·clear kn;rintro m e1 H3 ⟨i,at_,hm,hi,kn,rfl⟩;refine Za ?_;refine Qf (Qb rfl ?_ ?_)
  ·intro hc;have af:i<l.length:=ZU
   have dc:=Cm (Jd af);have gv:=hv.1.2 _ (Jd af);have nY:=F6 l i;refine Zc ?_
   refine Qf (Qg ?_);refine Qa ?_;simp only[go_sem,af,Qu,AB _ _ af,Fn.cells];intro x5 cp H4 h4;have kn:=kn.al cp h4;have g5:=kn.l 1 rfl;simp only[go_sem,Qj9,g5];intro H5 h5;have kn:=kn.ax 1 rfl h5;have gc:=kn.l 0 rfl;refine Zd gc ?_;intro H6 h6;have kn:Kn H H6 [] [(c,ckO fl l i (ckK l i)),(x5,fnO l[i])]:=kn.ax 0 rfl h6;refine Y3 af gv ZT kn rfl rfl rfl rfl rfl rfl rfl (fun H7 kn e7 f1 f3 f18 f19 f20=>?_);simp only[go_sem,AE.X.next];refine Qr ?_;simp only[go_sem,AE.X.next,f1,f3,f18,f19,f20];refine⟨Qv,l.length-(i+1),ZT,i+1,i,rfl,ZT,?_,rfl⟩;rw[nY];exact kn
  ·intro hc;have aV:l.length≤i:=ZU
   have oZ:i=l.length:=ZT
   subst oZ;have gc:=kn.l 0 rfl;refine Zg ?_;refine Zd gc ?_;refine Qi ?_;exact retf _ _ _ _ cS kn rfl
theorem RJ {l:List Fn}{fl:Bool}(hf:Qn l≤2^38)(g:GK H)(hK:∀H',Upd H H' []→K (.c (.bool (Bl l))) H'):Qm prog Mp [.ag [.sl fl 3 (Qo l)]] H K:=by
 refine Qc Aa Qbgx ?_;refine Za ?_;refine Za ?_;refine Qbfy hf g fun H1 hu=>?_;simp only[go_sem,Eg];refine Zb ?_;exact hK _ hu
end Go.AE.Y
namespace Go.AE
variable {H0 H H' F:Heap}{E L B A M:List (Nat×Obj)}{sz:Nat}{rows:List (List C)}{c:C}{Lg:List (Nat×Obj)}
def Gp (Lg:List (Nat×Obj))(sz:Nat)(rows:List (List C))(c:C):Prop:=
 (c=.sl true sz []∧rows=[]∧Lg=[])∨∃y R,c=.aw y sz 0 rows.length∧Lg=[(y,.vec sz R)]∧R.take rows.length=rows
theorem Gp.nil (sz:Nat):Gp [] sz [] (.sl true sz []):=.inl ⟨rfl,rfl,rfl⟩
theorem Gp.ah (h:Gp Lg sz rows c):c.ah=false:=by rcases h with ⟨rfl,_⟩|⟨y,R,rfl,_⟩ <;> rfl
theorem Gp.slc (h:Gp Lg sz rows c)(hg:∀p∈Lg,H p.1=p.2):Slc H sz rows c:=by
 rcases h with ⟨rfl,rfl,rfl⟩|⟨y,R,rfl,rfl,hR⟩
 ·exact .mk' H true sz []
 ·have hy:H y=.vec sz R:=hg (y,.vec sz R) ZV;have aE:rows.length≤R.length:=by
   have:=congrArg List.length hR;rw[Jz]at this;omega
  exact⟨by simp[aT,hy,aE],rfl,by simp[rowsOf,hy,hR],rfl⟩
theorem Gp.ne (h:Gp Lg sz rows c):∀p∈Lg,p.2≠.none:=by
 rcases h with ⟨_,_,rfl⟩|⟨y,R,_,rfl,_⟩
 ·simp
 ·intro p hp;simp only[Ja]at hp;subst hp;nofun
theorem Kn.growP {K:V→Heap→Prop}{new:List (List C)}{b:C}(kn:Kn H0 H E (B++Lg))(hc:Gp Lg sz rows c)(hb:Slc H sz new b)
  (h1:∀r∈new,ai r=true) (h2:rows.length+new.length≤LIM)
  (h:∀t Lg' H',Gp Lg' sz (rows++new) t→Kn H0 H' E (B++Lg')→K (.c t) H'):appQ H sz c b K:=by
 refine⟨hb.ok,hb.sz,?_⟩;rcases hc with ⟨rfl,rfl,rfl⟩|⟨y,R,rfl,rfl,hR⟩
 ·simp only[hb.rows,hb.len,Jah,Jx,Ja3];refine⟨trivial,.inl trivial,h1,Zbf,fun l hl H' dg=>?_⟩;rw[List.append_nil]at kn;exact h _ _ H' (.inr ⟨l,new,ZV,rfl,Jaz⟩) (kn.al hl dg)
 ·have aE:rows.length≤R.length:=by
   have:=congrArg List.length hR;rw[Jz]at this;omega
  have hy:H y=.vec sz R:=(kn.get (y,.vec sz R) ZV).1;simp only[hy,hb.rows,hb.len,Jaj,hR];refine⟨trivial,trivial,ZT,h1,h2,fun l' dd H' dg=>?_⟩;refine h _ [(l',.vec sz (rows++new))] H' (.inr ⟨l',rows++new,ZV,rfl,Jaz⟩) ?_;have:=kn.ap B.length (y:=y) (o:=.vec sz R) ZV dd dg;simpa using this
theorem Gp.cut (h:Gp Lg sz rows c){k:Nat}(hk:k≤rows.length):Gp Lg sz (rows.take k) (sliC none (some (k:Int)) c):=by
 rcases h with ⟨rfl,rfl,rfl⟩|⟨y,R,rfl,rfl,hR⟩
 ·refine .inl ⟨?_,ZV,rfl⟩;simp[sliC]
 ·refine .inr ⟨y,R,?_,rfl,?_⟩
  ·simp only[sliC,Jal,J0,Jz,Int.toNat_natCast,Int.toNat_zero,Ja3,Nat.sub_zero];rw[Jau hk]
  ·rw[Jz,Jau hk,←hR,List.take_take,Jau hk]
theorem Kn.side (kn:Kn F H [] (A++M)):∃F',Kn F' H [] A∧∀(A':List (Nat×Obj)) (H':Heap),Kn F' H' [] A'→Kn F H' [] (A'++M):=by
 have du:=kn.dL;rw[Ju]at du;obtain⟨d1,d2,d3⟩:=J1.1 du;obtain⟨F',tP⟩:∃F':Heap,F'=fun m=>if m∈M.map Prod.fst then H m else F m:=⟨_,rfl⟩;have gM:∀m,m∈M.map Prod.fst→F' m=H m:=fun m hm=>by rw[tP];exact if_pos hm
 have eK:∀m,m∉M.map Prod.fst→F' m=F m:=fun m hm=>by rw[tP];exact if_neg hm
 have hM:∀p∈M,F' p.1=p.2∧p.2≠.none:=fun p hp=>by
  have:=kn.get p Zap;rw[gM p.1 (AR hp)];exact this
 refine⟨F',⟨fun p hp=>kn.get p (by simp only[Jah]at hp⊢;exact Je _ hp),ZV,fun p hp=>?_,ZV,d1,fun m hm _=>?_⟩,fun A' H' k=>?_⟩
 ·rw[eK p.1 fun h=>d3 _ (AR hp) _ h rfl];exact kn.loc p (Je _ hp)
 ·by_cases h:m∈M.map Prod.fst
  ·rw[gM m h]
  ·rw[eK m h]at hm⊢;exact kn.chg m hm ZV
 ·have hA:∀p∈A',p.1∉M.map Prod.fst:=fun p hp h=>by
   obtain⟨q,hq,e⟩:=Jq.1 h;have h1:=k.loc p hp;rw[←e,(hM q hq).1]at h1;exact (hM q hq).2 h1
  refine⟨fun p hp=>?_,ZV,fun p hp=>?_,ZV,?_,fun m hm _=>?_⟩
  ·simp only[Jah]at hp;rcases Jl.1 hp with hp|hp
   ·exact k.get p Zat
   ·obtain⟨h1,h2⟩:=hM p hp;refine⟨?_,h2⟩;rw[k.chg p.1 Zbb ZV,h1]
  ·rcases Jl.1 hp with hp|hp
   ·rw[←eK p.1 (hA p hp)];exact k.loc p hp
   ·exact kn.loc p (Jp _ hp)
  ·rw[Ju];refine J1.2 ⟨k.dL,d2,fun a ha b hb cK=>?_⟩;obtain⟨p,hp,rfl⟩:=Jq.1 ha;exact hA p hp (cK▸hb)
  ·have th:m∉M.map Prod.fst:=fun h=>by
    obtain⟨q,hq,rfl⟩:=Jq.1 h;exact hm (kn.loc q (Jp _ hq))
   have:=k.chg m (by rw[eK m th];exact hm) ZV;rw[this,eK m th]
end Go.AE
namespace Go.AE.Y
attribute [local go_sem] cond_true cond_false Bool.not_true Bool.not_false
open Go.Proofs.Tryz
variable {H H0:Heap}{K:V→Heap→Prop}{E E' L:List (Nat×Obj)}
abbrev wO (fl:Bool)(fns:List Fn)(k:Nat)(vc:C)(cnt:Nat)(code:Int):Obj:=.st [.sl fl 3 (Qo fns),.int .i64 k,vc,.int .i64 cnt,.int .i64 code]
theorem PF {n:Nat}(hK:∀s,K (.c (.str s)) H):Qm prog Tn [.c (.int .i64 n)] H K:=by
 refine Qc Aa Qbmg ?_;have e1:((n:Int).tmod 26)=((n % 26:Nat):Int):=rfl;have h1:n % 26<26:=Nat.mod_lt _ ZT;refine Za ?_;refine Zd e1 ?_;generalize n % 26=q at *;refine⟨Zab,?_⟩;refine Za ?_;refine⟨Qv,⟨ZT,ZT⟩,?_,?_⟩
 ·simp only[LIM,List.length_drop,Jz,Jn,Jx];omega
 refine Zb ?_;exact hK _
theorem RD {w k cnt:Nat}{fl:Bool}{fns:List Fn}{vc:C}{code n:Int}(an:vc.ah=false)(hH:H w=wO fl fns k vc cnt code)(hK:∀H',Upd H H' [(w,wO fl fns k vc cnt (Af code n))]→K (.tup []) H') :
  Qm prog Q2g [.c (.ptr w 0),.c (.int .i64 n)] H K:=by
 refine Qc Aa Qau2 ?_;have kn:=Kn.start1 hH ZaO;refine Zi hH an ?_;refine Qb rfl (fun hc=>?_) (fun hc=>?_)
 ·have h0:code=0:=ZU
  refine ZE hH an ?_;intro H1 h1;have kn:=kn.stE 0 rfl h1;simp only[Qq,Q0,AJ,go_sem];refine hK _ ⟨fun p hp=>?_,fun m h1 h2=>kn.chg m h1 h2⟩;rw[Af,if_pos h0]at hp;exact (kn.get p (Je _ hp)).1
 ·have h0:¬code=0:=ZU
  refine Qd ?_;simp only[Qq,Q0,AJ,go_sem];refine hK _ ⟨fun p hp=>?_,fun m h1 h2=>rfl⟩;rw[Af,if_neg h0]at hp;simp only[Ja]at hp;rw[hp];exact hH
def In (v:Vars)(s:List UInt8)(r:Int):Prop:=
 (r=-1∧((vT v).find? fun x=>decide (x.1=s))=none)∨∃(i:Nat) (x:List UInt8×Nat×Nat),r=i∧i<(vT v).length∧(Am v).getD i []=row3 x∧((vT v).find? fun x=>decide (x.1=s))=some x
theorem Pq {w k cnt:Nat}{fl:Bool}{fns:List Fn}{vc:C}{code:Int}{v:Vars}{s:List UInt8}(an:vc.ah=false)(hH:H w=wO fl fns k vc cnt code)(hg:Slc H 3 (Am v) vc)
  (hK:∀r,In v s r→K (.c (.int .i64 r)) H):Qm prog SE [.c (.ptr w 0),.c (.str s)] H K:=by
 have bf:=eq_true hg.ok;have di:=hg.rows;have cO:=hg.len;have aO:=hg.sz;rw[Hi]at cO;refine Qc Aa Qau3 ?_;have retf:∀(n:Int) (e:Env),In v s n→lk 4 e=.c (.int .i64 n)→Qq Ab K .ret e H:=by
  intro b e hf h1;simp only[go_sem,Qq,Q0,Ja,forall_eq,RS.op,h1];exact hK _ hf
 refine Za ?_;refine Qz (Qa ?_);simp only[go_sem,hH,an,bf,cO];intro hl;simp only[LIM]at hl;refine⟨Qv,?_⟩;refine Qf (Qg (Q3 (fun n e1 H1=>∃(j:Nat),n=j∧j≤(vT v).length∧H1=H∧(∀x∈(vT v).take ((vT v).length-j),¬decide (x.1=s)=true)∧e1=[(0,.c (.ptr w 0)),(1,.c (.str s)),(5,.c (.int .i64 ((j:Int)-1)))]) (vT v).length ?_ ?_))
 ·exact⟨(vT v).length,rfl,ZT,rfl,ZV,rfl⟩
 ·rintro n e1 H1 ⟨j,rm,hj,rfl,aG,rfl⟩;refine Qz (Qa ?_);simp only[go_sem];refine Qf (Qb rfl ?_ ?_)
  ·intro hc;have rL:1≤j:=Zb4
   obtain⟨i,rfl⟩:∃i,j=i+1:=⟨j-1,ZT⟩;have e1:(((i+1:Nat):Int)-1)=(i:Int):=ZT
   have af:i<(vT v).length:=ZT
   have hk:(vT v).length-1-i<(vT v).length:=ZT
   have hr:=KU v af;have ek:(vT v).length-(i+1)=(vT v).length-1-i:=ZT
   obtain⟨x,hx⟩:∃x,(vT v)[(vT v).length-1-i]=x:=⟨_,rfl⟩;rw[hx]at hr;have bw:=hr;rw[row3]at bw;rw[e1]at hc⊢;refine Ze ?_;refine Qf (Qg ?_);refine Qa ?_;simp only[go_sem,hH,an,bf,cO,di,aO,af,bw];refine Qb rfl ?_ ?_
   ·intro au;refine Za ?_;refine Zx ?_;refine retf _ _ (.inr ⟨i,x,rfl,af,hr,?_⟩) rfl;have:=Qbpt (p:=fun x:List UInt8×Nat×Nat=>decide (x.1=s)) hk (by rw[hx];exact au) (by rw[←ek];exact aG);rw[this,hx]
   ·intro au;refine Ze ?_;refine Zk ?_;refine⟨Qv,i,ZT,i,rfl,ZT,?_,rfl⟩;have e2:(vT v).length-i=(vT v).length-1-i+1:=ZT;rw[e2,Jc hk];intro y hy;rcases Jl.1 hy with hy|hy
    ·rw[←ek]at hy;exact aG y hy
    ·simp only[Ja]at hy;rw[hy,hx];intro h;rw[h]at au;cases au
  ·intro hc;have jT:j=0:=Zb4
   subst jT;refine Zg ?_;refine Za ?_;refine Qi ?_;refine retf (-1) _ (.inl ⟨rfl,?_⟩) rfl;rw[List.find?_eq_none];simpa using aG
theorem I9 {w k cnt:Nat}{fl:Bool}{fns:List Fn}{vc:C}{code:Int}{v:Vars}{s:List UInt8}(an:vc.ah=false)(hH:H w=wO fl fns k vc cnt code)(hg:Slc H 3 (Am v) vc)
  (hK:∀t H',Upd H H' [(w,wO fl fns k vc cnt (Af code (if (v.find s).isSome then 0 else 3)))]→K (.c (.str t)) H'):Qm prog S2 [.c (.ptr w 0),.c (.str s)] H K:=by
 have bf:=eq_true hg.ok;have di:=hg.rows;have cO:=hg.len;have aO:=hg.sz;rw[Hi]at cO;refine Qc Aa Qayh ?_;have retf:∀(t:List UInt8) (e:Env) (H':Heap),Upd H H' [(w,wO fl fns k vc cnt (Af code (if (v.find s).isSome then 0 else 3)))]→lk 4 e=.c (.str t)→Qq Ab K .ret e H':=by
  intro b e H' hu h1;simp only[go_sem,Qq,Q0,Ja,forall_eq,RS.op,h1];exact hK _ _ hu
 refine Za ?_;refine Za ?_;refine Pq an hH hg fun r hr=>?_;simp only[go_sem,Qyi];refine Qz (Qa ?_);simp only[go_sem];have pM:=YD v s;rcases hr with ⟨rfl,hf⟩|⟨i,x,rfl,af,aI,hf⟩
 ·rw[hf]at pM;rw[pM]at retf;refine Qf (Qb rfl (fun _=>?_) (fun h=>by cases h));refine Za ?_;refine RD an hH fun H1 hu=>?_;simp only[go_sem];refine Za ?_;refine Zx ?_;exact retf _ _ _ hu rfl
 ·rw[hf]at pM;rw[pM]at retf;have bw:=aI;rw[row3]at bw;refine Qf (Qb rfl (fun h=>by have:=of_decide_eq_true h;omega) (fun _=>?_));refine Zc ?_
  refine Qa ?_;simp only[go_sem,hH,an,bf,cO,di,aO,af,bw];refine PF fun t=>?_;simp only[go_sem,Qyj];refine Qi ?_;refine retf t _ _ ⟨fun q hq=>?_,fun m h1 h2=>rfl⟩ rfl;simp only[Ja]at hq;rw[hq];have e0:Af code (if (Option.map (fun x:List UInt8×Nat×Nat=>x.2.1) (some x)).isSome=true then 0 else 3)=code:=Cz code;rw[e0];exact hH
theorem I4 {F:Heap}{w k cnt:Nat}{fl:Bool}{fns:List Fn}{vc:C}{code:Int}{b:List (List UInt8×Nat)}{r:Vars}{s:List UInt8}{Lg:List (Nat×Obj)}(hg:Gp Lg 3 (Am (b::r)) vc)
  (kn:Kn F H [] ((w,wO fl fns k vc cnt code)::Lg)) (hc:cnt≤2^40) (hl:(Am (b::r)).length+1≤LIM)
  (hK:∀t H' vc' Lg',Gp Lg' 3 (Am (((s,cnt)::b)::r)) vc'→Kn F H' [] ((w,wO fl fns k vc' (cnt+1) (Af code (if A6 (b::r) s then 2 else 0)))::Lg')→K (.c (.str t)) H') :
  Qm prog Q7d [.c (.ptr w 0),.c (.str s),.c (.int .i64 r.length)] H K:=by
 have an:=hg.ah;have hH:=kn.l 0 rfl;have hs:=hg.slc fun p hp=>(kn.get p Zap).1;have bf:=eq_true hs.ok;have di:=hs.rows;have cO:=hs.len;have aO:=hs.sz;rw[Hi]at cO;refine Qc Aa Qayg ?_;have tail:∀(code':Int) (H1:Heap) (e1:Env),code'=Af code (if A6 (b::r) s then 2 else 0)→Kn F H1 [] ((w,wO fl fns k vc cnt code')::Lg)→lk 0 e1=.c (.ptr w 0)→lk 1 e1=.c (.str s)→lk 2 e1=.c (.int .i64 r.length)→
   Q6 prog Q2u (Qq Ad K) e1 H1:=by
  intro code' H1 e1 pt kn f0 f1 f2;subst pt;have hH:=kn.l 0 rfl;refine An ?_;simp only[go_sem,f0,f1,f2,hH,an];refine Kn.growP (B:=[(w,wO fl fns k vc cnt (Af code (if A6 (b::r) s then 2 else 0)))]) kn hg (.mk' _ true 3 _) Zax ZaG fun t Lg' H2 eP kn=>?_;have mI:=eP.ah;have hH:=kn.l 0 rfl;simp only[go_sem,Qyg,hH,mI,f0,f1,f2];intro H3 h3;have kn:=kn.ax 0 rfl h3;have hH:=kn.l 0 rfl;refine Zj hH mI f0 f1 f2 ?_;refine⟨Qv,?_⟩;intro H4 h4;have kn:=kn.ax 0 rfl h4;have hH:=kn.l 0 rfl;refine Zj hH mI f0 f1 f2 ?_;refine⟨Qv,?_⟩;have en:((cnt:Int)+1-1)=((cnt:Nat):Int):=ZT
  try rw[en]
  refine PF fun t'=>?_;simp only[go_sem,Qyh];refine Zb ?_;exact hK t' _ t Lg' (by rw[FD];exact eP) kn
 refine Za ?_;refine Za ?_;refine Pq an hH hs fun n hn=>?_;simp only[go_sem,Qyf];refine Qz ?_;have jE:=X3 b r s;rcases hn with ⟨rfl,hf⟩|⟨i,x,rfl,af,aI,hf⟩
 ·rw[hf]at jE;have bp:decide ((0:Int)≤-1)=false:=Zab
  have tn:Int.toNat (-1)=0:=rfl;have ht0:A6 (b::r) s=false:=by rw[jE];rfl
  rw[ht0]at tail;obtain⟨ro,kl,pu⟩:∃ro,(Am (b::r)).getD 0 []=ro∧(ro=[]∨∃a m n,ro=[.str a,.int .i64 m,.int .i64 n]):=by
   refine⟨_,rfl,?_⟩;rcases Nat.eq_zero_or_pos (vT (b::r)).length with h0|h0
   ·refine .inl ?_;have:Am (b::r)=[]:=List.eq_nil_of_length_eq_zero (by rw[Hi];exact h0);rw[this];rfl
   ·exact .inr ⟨_,_,_,KU _ h0⟩
  refine Qa ?_;rcases pu with rfl|⟨a,m,n,rfl⟩
  ·simp only[go_sem,bp,hH,an,bf,cO,di,aO,kl,tn,List.headD_nil];refine Qf (Qb rfl (fun h=>by cases h) (fun _=>?_));refine Ze ?_;exact tail code _ _ (Cz code).symm kn rfl rfl rfl
  ·simp only[go_sem,bp,hH,an,bf,cO,di,aO,kl,tn];refine Qf (Qb rfl (fun h=>by cases h) (fun _=>?_));refine Ze ?_;exact tail code _ _ (Cz code).symm kn rfl rfl rfl
 ·rw[hf]at jE;have bw:=aI;rw[row3]at bw;have aV:decide ((0:Int)≤(i:Int))=true:=decide_eq_true ZT;refine Qa ?_;simp only[go_sem,aV,hH,an,bf,cO,di,aO,af,bw];have he:decide (((x.2.2:Nat):Int)=((r.length:Nat):Int))=decide (x.2.2=r.length):=Zag
  simp only[Jac,J0]at jE;rw[←jE]at he;rw[he];refine Qf (Qb rfl (fun au=>?_) (fun au=>?_))
  ·refine Zp ?_;refine RD an hH fun H1 hu=>?_;have kn:=kn.callL 0 rfl hu ZaO;simp only[go_sem,AE.X.next];refine tail _ _ _ ?_ kn rfl rfl rfl;have:A6 (b::r) s=true:=ZZ
   rw[this];rfl
  ·refine Zt ?_;refine tail code _ _ ?_ kn rfl rfl rfl;have:A6 (b::r) s=false:=ZZ
   rw[this];exact (Cz code).symm
theorem Py {l:List Fn}{fl:Bool}{name:List UInt8}(hK:K (.c (.int .i64 (ixI (Ai l name)))) H):Qm prog LN [.ag [.sl fl 3 (Qo l)],.c (.str name)] H K:=by
 refine Qc Aa Qbg9 ?_;have retf:∀(n:Int) (e:Env),n=ixI (Ai l name)→lk 4 e=.c (.int .i64 n)→Qq Ab K .ret e H:=by
  intro b e hn h1;simp only[go_sem,Qq,Q0,Ja,forall_eq,RS.op,h1];rw[hn];exact hK
 refine Za ?_;refine Qz (Qa ?_);simp only[go_sem];refine Qf (Qg (Q3 (fun n e1 H1=>∃(i:Nat),n=l.length-i∧i≤l.length∧H1=H∧(∀f∈l.take i,¬f.name=name)∧e1=[(1,.c (.str name)),(2,.c (.pp [.sl fl 3 (Qo l)])),(5,.c (.int .i64 i))]) l.length ?_ ?_))
 ·exact⟨0,ZT,ZT,rfl,ZV,rfl⟩
 ·rintro n e1 H1 ⟨i,eM,hi,rfl,aG,rfl⟩;refine Qz (Qa ?_);simp only[go_sem,Qu];intro hl;simp only[LIM]at hl;refine Qf (Qb rfl ?_ ?_)
  ·intro hc;have af:i<l.length:=ZU
   refine Ze ?_;refine Qf (Qg ?_);refine Qa ?_;simp only[go_sem,af,Qu,AB _ _ af,Fn.cells];refine Qb rfl ?_ ?_
   ·intro au;have dy:l[i].name=name:=ZZ;refine Za ?_;refine Zx ?_;exact retf i _ (by rw[Kb af dy aG];rfl) rfl
   ·intro au;have dy:¬l[i].name=name:=ZZ;refine Ze ?_;refine Zk ?_;refine⟨Qv,l.length-(i+1),ZT,i+1,rfl,ZT,?_,rfl⟩;rw[Jc af];intro x hx;rcases Jl.1 hx with hx|hx
    ·exact aG x hx
    ·simp only[Ja]at hx;subst hx;exact dy
  ·intro hc;have aV:l.length≤i:=ZU
   rw[Jb aV]at aG;refine Zg ?_;refine Za ?_;refine Qi ?_;exact retf (-1) _ (by rw[Ka aG];rfl) rfl
abbrev exO (op n:Int)(nm:List UInt8)(kc:C):Obj:=.st [.int .i64 op,.int .i64 n,.str nm,kc]
theorem Qboa {w k cnt:Nat}{fl:Bool}{fns:List Fn}{vc:C}{Lg:List (Nat×Obj)}{v:Vars}(hg:Gp Lg 3 (Am v) vc):∀(n:Nat) (x:Ex) (code:Int) (H:Heap) (K:V→Heap→Prop),
  x.size≤n→x.size≤2^38→((w::Lg.map Prod.fst).Nodup)→(∀p∈(w,wO fl fns k vc cnt code)::Lg,H p.1=p.2)→
  (∀(y:Ex) H',Upd H H' ((w,wO fl fns k vc cnt (Ax fns k v x.pre code))::Lg)→K (.ag y.cells) H')→Qm prog SF [.c (.ptr w 0),.ag x.cells] H K:=by
 have an:=hg.ah;intro n
 induction n with
 |zero=>intro x code H K h;have:=x.size_pos;omega
 |succ n ih=>
 intro x code H K hn hb du hh hK;have aO:=x.size_kids;have aP:∀c,∀p∈(w,wO fl fns k vc cnt c)::Lg,p.2≠.none:=by
  intro c p hp;rcases Jg.1 hp with rfl|hp
  ·nofun
  ·exact hg.ne p hp
 have kn:Kn H H ((w,wO fl fns k vc cnt code)::Lg) []:=.startE (fun p hp=>⟨hh p hp,aP _ p hp⟩) du;refine Q1 ?_;refine Qc Aa Qau1 ?_;refine Zu ?_;intro x3 bQ H1 h1;have kn:=kn.al bQ h1;simp only[go_sem,Qt0];intro x4 bW H2 h2;have kn:Kn H H2 ((w,wO fl fns k vc cnt code)::Lg) [(x3,exO x.op x.n x.name (.sl false 4 (Ql x.kids))),(x4,exO 0 0 [] (.sl true 4 []))]:=kn.al bW h2;try simp only[go_sem]
 have three:∀(H1:Heap) (e1:Env) (nm:List UInt8),Kn H H1 ((w,wO fl fns k vc cnt (Af code (AA fns k v x)))::Lg) [(x3,exO x.op x.n nm (.sl false 4 (Ql x.kids))),(x4,exO 0 0 [] (.sl true 4 []))]→
   lk 0 e1=.c (.ptr w 0)→lk 3 e1=.c (.ptr x3 0)→lk 4 e1=.c (.ptr x4 0)→Q6 prog Vn (Qq Bm (unK H K)) e1 H1:=by
  intro H1 e1 nm kn f0 f3 f4;refine Zr f0 f3 f4 ?_;refine Qz (Qa ?_);simp only[go_sem];refine Qf (Qg (Q3 (fun m e2 H2=>∃(j:Nat) (ks:List Ex) (Lk:List (Nat×Obj)) (t:C),m=x.kids.length-j∧j≤x.kids.length∧Gr Lk 4 (Ql ks) t∧ks.length=j∧
   Kn H H2 ((w,wO fl fns k vc cnt (Ax fns k v (Q7 (x.kids.take j)) (Af code (AA fns k v x))))::Lg) ([(x3,exO x.op x.n nm (.sl false 4 (Ql x.kids))),(x4,exO 0 0 [] (.sl true 4 []))]++Lk)∧
   e2=[(0,.c (.ptr w 0)),(3,.c (.ptr x3 0)),(4,.c (.ptr x4 0)),(6,.c t),(7,.c (.int .i64 j))]) x.kids.length ?_ ?_))
  ·exact⟨0,[],[],.sl true 4 [],ZT,ZT,.nil 4,rfl,by simpa[Q7,Ax]using kn,rfl⟩
  ·clear kn f0 f3 f4;rintro m e2 H2 ⟨j,ks,Lk,t,hm,hj,jq,nG,kn,rfl⟩;have aq:=jq.ah;have g3:=kn.l 0 rfl;refine Qz (Qa ?_);simp only[go_sem,g3,aq,Qh];intro hl;simp only[LIM]at hl;refine Qf (Qb rfl ?_ ?_)
   ·intro hc;have af:j<x.kids.length:=ZU;have dc:=Bn (Jd af);obtain⟨y,hy⟩:∃y,x.kids[j]=y:=⟨_,rfl⟩;have aY:=HK af;rw[hy]at dc aY;refine Zc ?_
    refine Qf (Qg ?_);refine Qr ?_;simp only[go_sem,g3,aq,af,Qh,Qs _ _ af,hy,y.aa];have iK:=fun K=>ih y (Ax fns k v (Q7 (x.kids.take j)) (Af code (AA fns k v x))) H2 K;rw[y.aa]at iK;refine iK _ ZT ZT du (fun p hp=>(kn.get p (Je _ hp)).1) fun z H5 hu=>?_;have kn:=kn.callAll hu rfl (aP _);simp only[go_sem,Qt4,aq,z.ae];refine kn.aQ jq (.mk' _ true 4 _) (by simpa using z.ai) (by simp only[Qh,Jn,Jx,LIM];omega) fun t' Lk' H6 eP aR kn=>?_;rw[Dm]at eP;simp only[go_sem,Qt3,aR];refine Zl aR ?_;refine⟨Qv,x.kids.length-(j+1),ZT,j+1,ks++[z],Lk',t',rfl,ZT,eP,by simp[nG],?_,rfl⟩;rw[aY,Q98];exact kn
   ·intro hc;have aV:x.kids.length≤j:=ZU;rw[Jb aV]at kn;refine Zg ?_;refine Zi g3 aq ?_;intro H3 h3;have kn:=kn.ax 0 rfl h3;have g3:=kn.l 0 rfl;have g4:=kn.l 1 rfl;refine Zr g3 g4 aq ?_;intro H4 h4;have kn:=kn.ax 1 rfl h4;have g4:=kn.l 1 rfl;refine ZC g4 aq ?_;refine⟨.ag (Ex.mk x.op x.n nm ks).cells,?_,hK (Ex.mk x.op x.n nm ks) _ ?_⟩
    ·rw[Ex.aa];exact (FrzL.cons (Qe rfl) (.cons (Qe rfl) (.cons (Qe rfl) (.cons (jq.frz (B:=[_,_]) kn (Bb _)) .nil)))).ag
    ·rw[x.pre_eq];exact kn.fin
 have two:∀(H1:Heap) (e1:Env) (nm:List UInt8) (code1:Int),(x.op=2→code1=Af code (AA fns k v x))→(¬x.op=2→code1=code∧nm=x.name)→Kn H H1 ((w,wO fl fns k vc cnt code1)::Lg) [(x3,exO x.op x.n nm (.sl false 4 (Ql x.kids))),(x4,exO 0 0 [] (.sl true 4 []))]→
   lk 0 e1=.c (.ptr w 0)→lk 3 e1=.c (.ptr x3 0)→lk 4 e1=.c (.ptr x4 0)→Q6 prog Qtz (Qq Bm (unK H K)) e1 H1:=by
  intro H1 e1 nm code1 fA au kn f0 f3 f4;have g3:=kn.l 0 rfl;have gw:=kn.e 0 rfl;refine Qz (Qa ?_);simp only[go_sem,f0,f3,f4,g3];refine Qf (Qb rfl ?_ ?_)
  ·intro hc;have cy:x.op=13:=ZU
   have h2:¬x.op=2:=ZT
   obtain⟨ec,en⟩:=au h2;rw[ec,en]at kn;rw[ec]at gw;rw[en]at g3;have cS:=PU fns k v x;rw[if_neg h2,if_pos cy]at cS;refine An ?_;simp only[go_sem,g3,gw,an];refine Py ?_;simp only[go_sem,Sb];have bad:∀(e2:Env),AA fns k v x=4→lk 0 e2=.c (.ptr w 0)→lk 3 e2=.c (.ptr x3 0)→lk 4 e2=.c (.ptr x4 0)→lk 35 e2=.c (.bool true)→Q6 prog Qye (X.sq prog Vn (Qq Bm (unK H K))) e2 H1:=by
    intro e2 hp f0 f3 f4 f35;refine Qb (c:=true) f35 (fun _=>?_) (fun h=>by cases h);refine Qr ?_;simp only[go_sem,f0,f3,f4];refine RD an gw fun H3 hu=>?_;have kn:=kn.ak 0 rfl hu ZaO;rw[←hp]at kn;simp only[go_sem,AE.X.next];exact three _ _ _ kn rfl rfl rfl
   cases hx:Ai fns x.name with
   |none=>
    rw[hx]at cS;refine Qa ?_;simp only[go_sem,ixI,gw,an];exact bad _ cS rfl rfl rfl rfl
   |some j=>
    rw[hx]at cS;obtain⟨hj,_,_⟩:=Tr hx;simp only[hj,Jt,Jac,J0]at cS;have tD:decide ((j:Int)<0)=false:=decide_eq_false ZT;refine Qa ?_;simp only[go_sem,ixI,gw,an,tD];by_cases rG:k≤j
    ·have hd:decide ((k:Int)≤(j:Int))=true:=decide_eq_true ZT;rw[if_pos rG]at cS;refine bad _ cS rfl rfl rfl ?_;simp[lk,rG]
    ·have hd:decide ((k:Int)≤(j:Int))=false:=decide_eq_false ZT;rw[if_neg rG]at cS;refine Qb (c:=false) (by simp[Opd.raw,lk];omega) (fun h=>by cases h) (fun _=>?_);refine An ?_;simp only[go_sem,g3,gw,an,hj,Qu,AB _ _ hj,Fn.cells,Qt,Qh];refine Qb rfl ?_ ?_
     ·intro dH;have aP:¬fns[j].params.length=x.kids.length:=by
       have h:=BD dH;rw[decide_eq_false_iff_not]at h;omega
      rw[if_neg aP]at cS;refine Zp ?_;refine RD an gw fun H3 hu=>?_;have kn:=kn.ak 0 rfl hu ZaO;rw[←cS]at kn;simp only[go_sem,AE.X.next];exact three _ _ _ kn rfl rfl rfl
     ·intro dH;have he:fns[j].params.length=x.kids.length:=by
       have h:=Be dH;rw[decide_eq_true_eq]at h;omega
      rw[if_pos he]at cS;refine Zt ?_;refine three _ _ x.name ?_ rfl rfl rfl;rw[cS,Cz];exact kn
  ·intro hc;have cy:¬x.op=13:=ZU
   refine Zt ?_;refine three _ _ nm ?_ rfl rfl rfl;by_cases h2:x.op=2
   ·rw[←fA h2];exact kn
   ·obtain⟨ec,_⟩:=au h2;rw[ec]at kn;have cS:=PU fns k v x;rw[if_neg h2,if_neg cy]at cS;rw[cS,Cz];exact kn
 have g3:=kn.l 0 rfl;have gw:=kn.e 0 rfl;refine Qz (Qa ?_);simp only[go_sem,g3];refine Qf (Qb rfl ?_ ?_)
 ·intro hc;have h2:x.op=2:=ZU
  have cS:AA fns k v x=if (v.find x.name).isSome then 0 else 3:=by rw[AA,if_pos h2]
  refine ZB g3 ?_;refine I9 an gw (hg.slc fun p hp=>(kn.get p Zap).1) fun t H3 hu=>?_;have kn:=kn.ak 0 rfl hu ZaO;have g3:=kn.l 0 rfl;simp only[go_sem,Qt1,g3];intro H4 h4;have kn:=kn.ax 0 rfl h4;try simp only[go_sem,AE.X.next]
  exact two _ _ t _ (fun _=>by rw[cS]) (fun h=>absurd h2 h) kn rfl rfl rfl
 ·intro hc;have h2:¬x.op=2:=ZU
  refine Zt ?_;exact two _ _ x.name code (fun h=>absurd h h2) (fun _=>⟨rfl,rfl⟩) kn rfl rfl rfl
end Go.AE.Y
namespace Go.AE.Y
structure Blk where
 ic:C
 j7:List (List C)
 lg:List (Nat×Obj)
 jump:Int
 on:Int
 nfl:Bool
 next:List Int
def Blk.row (b:Blk):List C:=[.sl true 2 [],b.ic,.int .i64 b.jump,.int .i64 b.on,.sl b.nfl 1 (Ar b.next)]
structure LS where
 fns:List Fn
 pfl:Bool
 params:Int
 cu:Int
 bc:C
 lb:List (Nat×Obj)
 blocks:List Blk
 at_:Nat
 vc:C
 lv:List (Nat×Obj)
 vars:List (List C)
 next:Int
def LS.o (s:LS):Obj:=.st [.sl s.pfl 3 (Qo s.fns),.int .i64 s.params,.int .i64 s.cu,s.bc,.int .i64 s.at_,s.vc,.int .i64 s.next,.sl true 1 []]
structure LS.ok (s:LS)(N:Nat):Prop where
 r0:0≤s.cu
 r1:s.cu≤N
 n0:0≤s.next
 n1:s.next≤N
 b1:s.blocks.length≤N
 i1:∀b∈s.blocks,b.j7.length≤N
 v1:s.vars.length≤N
theorem LS.ok.mono {s:LS}{N M:Nat}(h:s.ok N)(hm:N≤M):s.ok M:=
 ⟨h.r0,by have:=h.r1;omega,h.n0,by have:=h.n1;omega,by have:=h.b1;omega,fun b hb=>by have:=h.i1 b hb;omega,by have:=h.v1;omega⟩
end Go.AE.Y
namespace Go.AE
variable {H0 H H' F:Heap}{E L B A:List (Nat×Obj)}
theorem Kn.frz1 {z:Nat}{o:Obj}(kn:Kn H0 H E (B++[(z,o)])):Kn H0 (H.frz fun m=>m == z) E B:=by
 have dM:H0 z=.none:=kn.loc (z,o) ZV;have du:=kn.dL;rw[Ju]at du;have aP:∀p∈B,p.1≠z:=fun p hp hh=>(J1.1 du).2.2 _ (AR hp) z ZV hh;have mN:∀p∈E,p.1≠z:=fun p hp hh=>kn.ext p hp (hh▸dM);refine⟨fun p hp=>?_,kn.ext,fun p hp=>kn.loc p (Je _ hp),kn.dE,(J1.1 du).1,fun m hm hx=>?_⟩
 ·have:p.1≠z:=by
   rcases Jl.1 hp with h|h
   ·exact mN p h
   ·exact aP p h
  have h2:(H.frz fun m=>m == z) p.1=H p.1:=by simp[Heap.frz,this]
  rw[h2];refine kn.get p ?_;rcases Jl.1 hp with h|h
  ·exact Je _ h
  ·exact Jp _ (Je _ h)
 ·have:m≠z:=fun h=>hm (h▸dM);have h2:(H.frz fun m=>m == z) m=H m:=by simp[Heap.frz,this]
  rw[h2];exact kn.chg m hm hx
theorem Gr.freeze {Lg:List (Nat×Obj)}{sz:Nat}{rows:List (List C)}{c:C}(h:Gr Lg sz rows c)(kn:Kn H0 H E (B++Lg))(hr:∀r∈rows,ai r=true) :
  ∃S H2,FrzC H S c (.sl false sz rows)∧FrzH H S H2∧Kn H0 H2 E B:=by
 rcases h with ⟨rfl,rfl,rfl⟩|⟨y,rfl,rfl⟩
 ·refine⟨fun _=>false,H,Y.FrzR.nil.sl,fun m=>.inr ⟨rfl,.same _⟩,ZaW⟩
 ·exact⟨fun m=>m == y,_,(Y.FrzR.same hr).aw ZV (kn.get (y,.vec sz rows) ZV).1 rfl,E7 _ _,kn.frz1⟩
end Go.AE
namespace Go.AE
variable {H0 H H' F:Heap}{E L B A M:List (Nat×Obj)}{S:Nat→Bool}
theorem Kn.stM {x:Nat}{o o':Obj}(kn:Kn H0 H E (A++(x,o)::B))(h1:H'=H.set x o')(ho:o'≠.none:=by nofun):Kn H0 H' E (A++(x,o')::B):=by
 have:=kn.ax A.length (x:=x) (o:=o) ZV h1 ho;simpa using this
theorem Kn.getM {x:Nat}{o:Obj}(kn:Kn H0 H E (A++(x,o)::B)):H x=o:=(kn.get (x,o) ZV).1
theorem CS {e e':Env}(h:∀p∈e',FrzV H S (lk p.1 e) p.2):∀t,FrzV H S (lk t e) (lk t e'):=fun t=>by
 induction e' with
 |nil=>exact .unk _
 |cons p e' ih=>
  obtain⟨s,v⟩:=p;by_cases ht:t=s
  ·subst ht;have:=h (t,v) Jab;simpa[lk]using this
  ·have:=ih fun p hp=>h p (Jm _ hp);simpa[lk,ht]using this
end Go.AE
namespace Go.AE.Y
attribute [local go_sem] cond_true cond_false Bool.not_true Bool.not_false
open Go.Proofs.Tryz
variable {H H0 F:Heap}{K:V→Heap→Prop}{E E' L:List (Nat×Obj)}
def StsW (w k:Nat)(fl:Bool)(fns:List Fn)(n:Nat):Prop:=∀(sts:List St) (f5:Bool) (b:List (List UInt8×Nat)) (r:Vars) (s:Ck) (vc:C) (Lg:List (Nat×Obj)) (F H:Heap) (K:V→Heap→Prop),
 Qj sts≤n→s.v=b::r→(r≠[]→b=[])→Gp Lg 3 (Am (b::r)) vc→Kn F H [] ((w,wO fl fns k vc s.n s.c)::Lg)→(Am (b::r)).length≤s.n→s.n+Qj sts≤2^38→r.length+Qj sts≤2^38→
 (∀out H' vc' Lg',(r=[]→Gp Lg' 3 (Am (Ae fns k sts s).v) vc')→(r≠[]→Gp Lg' 3 (Am r) vc')→Kn F H' [] ((w,wO fl fns k vc' (Ae fns k sts s).n (Ae fns k sts s).c)::Lg')→K (.c (.sl false 5 (Qk out))) H')→
 Qm prog Qvk [.c (.ptr w 0),.c (.sl f5 5 (Qk sts)),.c (.int .i64 r.length)] H K
abbrev stX (op:Int)(nm:List UInt8)(a b c:C):Obj:=.st [.int .i64 op,.str nm,a,b,c]
theorem Qbjx {w k x10 i many:Nat}{fl f5:Bool}{fns:List Fn}{x:St}{sts:List St}{outs:List St}{ars:List Ex}{nm:List UInt8}{t vc:C}{Lz Lg:List (Nat×Obj)}{e:Env}{Q:X→Env→Heap→Prop}{s1:Ck}{b1:List (List UInt8×Nat)}{r:Vars}
  (hN:∀n,n<x.size→StsW w k fl fns n) (hv:s1.v=b1::r) (hg:Gp Lg 3 (Am (b1::r)) vc) (hz:Gr Lz 5 (Qk outs) t) (ho:outs.length<2^38)
  (kn:Kn F H [] (((w,wO fl fns k vc s1.n s1.c)::Lg)++((x10,stX x.op nm (.sl false 4 (Ql ars)) (.sl false 5 (Qk x.body)) (.sl false 5 (Qk x.els)))::Lz)))
  (aI:(Am (b1::r)).length≤s1.n) (hn:s1.n+Qj x.body+Qj x.els≤2^38) (hr:r.length+x.size≤2^38)
  (f0:lk 0 e=.c (.ptr w 0)) (f1:lk 1 e=.c (.sl f5 5 (Qk sts))) (f2:lk 2 e=.c (.int .i64 r.length)) (f7:lk 7 e=.c t) (f8:lk 8 e=.c (.int .i64 many)) (f9:lk 9 e=.c (.int .i64 i)) (f10:lk 10 e=.c (.ptr x10 0))
  (hQ:∀(s2 s3:Ck) H' out vc' Lg' Lz' t',Ae fns k x.body ⟨[]::s1.v,s1.c,s1.n⟩=s2→Ae fns k x.els ⟨[]::s1.v,s2.c,s2.n⟩=s3→Gp Lg' 3 (Am (b1::r)) vc'→Gr Lz' 5 (Qk (outs++[out])) t'→
   Kn F H' [] (((w,wO fl fns k vc' s3.n s3.c)::Lg')++Lz')→Q .nrm [(0,.c (.ptr w 0)),(1,.c (.sl f5 5 (Qk sts))),(2,.c (.int .i64 r.length)),(7,.c t'),(8,.c (.int .i64 many)),(9,.c (.int .i64 i))] H') :
  Q6 prog V3 Q e H:=by
 have aq:=hz.ah;have gW:=x.size_eq;have g10:=kn.getM;have elen:((r.length:Int)+1)=(((b1::r).length:Nat):Int):=ZV
 obtain⟨s2,cr⟩:∃s2,Ae fns k x.body ⟨[]::s1.v,s1.c,s1.n⟩=s2:=⟨_,rfl⟩;obtain⟨s3,iD⟩:∃s3,Ae fns k x.els ⟨[]::s1.v,s2.c,s2.n⟩=s3:=⟨_,rfl⟩;have nD:=G3 fns k x.body ⟨[]::s1.v,s1.c,s1.n⟩;rw[cr]at nD;simp only at nD;refine Qa ?_;simp only[go_sem,f0,f1,f2,f7,f8,f9,f10,g10,aq];refine⟨Qv,?_⟩;rw[elen];obtain⟨F',kn',back⟩:=kn.side;refine hN (Qj x.body) ZT x.body false [] (b1::r) ⟨[]::s1.v,s1.c,s1.n⟩ vc Lg F' H _ (Ji _) (by rw[hv]) (fun _=>rfl) (by rw[Ht];exact hg) kn' (by rw[Ht];exact aI) (by show s1.n+_≤_;omega) (by simp only[Jn];omega) fun out1 H1 vc1 Lg1 _ jW kn=>?_;have jW:=jW ZV;rw[cr]at kn;have kn:=back _ _ kn;clear back kn';have g10:=kn.getM;simp only[go_sem,Qog,f0,f1,f2,f7,f8,f9,f10,g10,aq];intro H2 h2;have kn:=kn.stM h2;have g10:=kn.getM;refine Zi g10 aq ?_;refine⟨Qv,?_⟩;rw[elen];obtain⟨F',kn',back⟩:=kn.side;refine hN (Qj x.els) ZT x.els false [] (b1::r) ⟨[]::s1.v,s2.c,s2.n⟩ vc1 Lg1 F' H2 _ (Ji _) (by rw[hv]) (fun _=>rfl) (by rw[Ht];exact jW) kn' (by rw[Ht];show _≤s2.n;omega) (by show s2.n+_≤_;omega) (by simp only[Jn];omega) fun out2 H3 vc2 Lg2 _ fV kn=>?_;have fV:=fV ZV;rw[iD]at kn;have kn:=back _ _ kn;clear back kn';have g10:=kn.getM;simp only[go_sem,Qoh,g10,aq];intro H4 h4;have kn:=kn.stM h4;have g10:=kn.getM;refine ZE g10 aq ?_;have kn:Kn F H4 [] ((((w,wO fl fns k vc2 s3.n s3.c)::Lg2)++[(x10,stX x.op nm (.sl false 4 (Ql ars)) (.sl false 5 (Qk out1)) (.sl false 5 (Qk out2)))])++Lz):=by
  rw[Js];exact kn
 refine kn.aQ hz (new:=[(St.mk x.op nm ars out1 out2).cells]) (.mk' _ true 5 _) (by simpa using (St.mk x.op nm ars out1 out2).ai) (by simp only[Qp,Jn,Jx,LIM];omega) fun t' Lz' H5 bF aR kn=>?_;rw[EC]at bF;simp only[go_sem,Qoi,aR];refine hQ s2 s3 H5 (St.mk x.op nm ars out1 out2) vc2 Lg2 Lz' t' cr iD fV bF ?_;refine kn.sub ?_;rw[Js];exact List.Sublist.append (List.Sublist.refl _) (List.sublist_append_right _ _)
theorem YB {w k x10 i many:Nat}{fl f5:Bool}{fns:List Fn}{x:St}{sts:List St}{outs:List St}{ars:List Ex}{t vc:C}{Lz Lg:List (Nat×Obj)}{e:Env}{Q:X→Env→Heap→Prop}{s:Ck}{b:List (List UInt8×Nat)}{r:Vars}
  (hN:∀n,n<x.size→StsW w k fl fns n) (hv:s.v=b::r) (hg:Gp Lg 3 (Am (b::r)) vc) (hz:Gr Lz 5 (Qk outs) t) (ho:outs.length<2^38)
  (kn:Kn F H [] (((w,wO fl fns k vc s.n (Ax fns k (b::r) (Q7 x.args) s.c))::Lg)++((x10,stX x.op x.name (.sl false 4 (Ql ars)) (.sl false 5 (Qk x.body)) (.sl false 5 (Qk x.els)))::Lz)))
  (aI:(Am (b::r)).length≤s.n) (hn:s.n+x.size≤2^38) (hr:r.length+x.size≤2^38)
  (f0:lk 0 e=.c (.ptr w 0)) (f1:lk 1 e=.c (.sl f5 5 (Qk sts))) (f2:lk 2 e=.c (.int .i64 r.length)) (f7:lk 7 e=.c t) (f8:lk 8 e=.c (.int .i64 many)) (f9:lk 9 e=.c (.int .i64 i)) (f10:lk 10 e=.c (.ptr x10 0))
  (hQ:∀H' out vc' Lg' Lz' t' b1,(x.ck fns k s).v=b1::r→Gp Lg' 3 (Am (b1::r)) vc'→(Am (b1::r)).length≤(x.ck fns k s).n→Gr Lz' 5 (Qk (outs++[out])) t'→
   Kn F H' [] (((w,wO fl fns k vc' (x.ck fns k s).n (x.ck fns k s).c)::Lg')++Lz')→Q .nrm [(0,.c (.ptr w 0)),(1,.c (.sl f5 5 (Qk sts))),(2,.c (.int .i64 r.length)),(7,.c t'),(8,.c (.int .i64 many)),(9,.c (.int .i64 i))] H') :
  Q6 prog Qqp Q e H:=by
 have aq:=hz.ah;have gW:=x.size_eq;have an:=hg.ah;have g10:=kn.getM;obtain⟨s1,cd⟩:∃s1,stC fns k x.op x.name x.args s=s1:=⟨_,rfl⟩;have eM:=If fns k x.op x.name x.args s;have fj:=Qbns fns k x.op x.name x.args s hv aI;obtain⟨b1,dU⟩:=Qbnt fns k x.op x.name x.args s hv;have fA:=It fns k x.op x.name x.args s;rw[cd]at eM fj dU fA;rw[dU]at fj;rw[hv]at fA;have cH:=x.ck_eq fns k s;rw[cd]at cH;have tail:∀(H1:Heap) (e1:Env) (nm:List UInt8) (vc1:C) (Lg1:List (Nat×Obj)),Gp Lg1 3 (Am (b1::r)) vc1→
   Kn F H1 [] (((w,wO fl fns k vc1 s1.n s1.c)::Lg1)++((x10,stX x.op nm (.sl false 4 (Ql ars)) (.sl false 5 (Qk x.body)) (.sl false 5 (Qk x.els)))::Lz))→
   lk 0 e1=.c (.ptr w 0)→lk 1 e1=.c (.sl f5 5 (Qk sts))→lk 2 e1=.c (.int .i64 r.length)→lk 7 e1=.c t→lk 8 e1=.c (.int .i64 many)→lk 9 e1=.c (.int .i64 i)→lk 10 e1=.c (.ptr x10 0)→
   Q6 prog V3 Q e1 H1:=by
  intro H1 e1 nm vc1 Lg1 jW kn f0 f1 f2 f7 f8 f9 f10;refine Qbjx hN dU jW hz ho kn fj ZT hr f0 f1 f2 f7 f8 f9 f10 fun s2 s3 H' out vc' Lg' Lz' t' e2 e3 eP bF kn=>?_;rw[e2,e3]at cH;refine hQ H' out vc' Lg' Lz' t' b1 (by rw[cH];exact dU) eP ?_ bF (by rw[cH];exact kn);have:=(St.ck_n fns k x s).1;rw[cH]at this⊢;have h2:=G3 fns k x.body ⟨[]::s1.v,s1.c,s1.n⟩;have h3:=G3 fns k x.els ⟨[]::s1.v,s2.c,s2.n⟩;rw[e2]at h2;rw[e3]at h3;simp only at h2 h3⊢;omega
 refine Qz (Qa ?_);simp only[go_sem,f0,f1,f2,f7,f8,f9,f10,g10,aq];refine Qf (Qb rfl ?_ ?_)
 ·intro hc;have h1:x.op=1:=ZU
  have es1:s1=⟨((x.name,s.n)::b)::r,Af (Ax fns k (b::r) (Q7 x.args) s.c) (if A6 (b::r) x.name then 2 else 0),s.n+1⟩:=by
   rw[←cd,stC,if_pos h1,hv];rfl
  rw[es1]at tail dU;simp only[Jao]at dU;obtain⟨bh,_⟩:=dU;subst bh;refine ZE g10 aq ?_;obtain⟨F',kn',back⟩:=kn.side;refine I4 hg kn' ZT Zav fun t2 H1 vc1 Lg1 jW kn=>?_;have kn:=back _ _ kn;have g10:=kn.getM;simp only[go_sem,Qqu,g10,aq];intro H2 h2;have kn:=kn.stM h2;have g10:=kn.getM;try simp only[go_sem,AE.X.next,aq]
  refine Qz (Qa ?_);simp only[go_sem,g10,aq];refine Qf (Qb rfl (fun h=>?_) (fun _=>?_))
  ·have:=of_decide_eq_true h;omega
  ·refine ZO aq ?_
   exact tail _ _ t2 vc1 Lg1 jW kn rfl rfl rfl rfl rfl rfl rfl
 ·intro hc;have h1:¬x.op=1:=ZU
  refine ZO aq ?_
  refine Qz (Qa ?_);simp only[go_sem,g10,aq];refine Qf (Qb rfl ?_ ?_)
  ·intro au;have h2:x.op=2:=ZZ
   have es1:s1=⟨b::r,Af (Ax fns k (b::r) (Q7 x.args) s.c) (if (Vars.find (b::r) x.name).isSome then 0 else 3),s.n⟩:=by
    rw[←cd,stC,if_neg h1,if_pos h2,hv]
   rw[es1]at tail dU;simp only[Jao]at dU;obtain⟨bh,_⟩:=dU;subst bh;refine ZE g10 aq ?_;refine I9 an (kn.l 0 rfl) (hg.slc fun p hp=>(kn.get p Zap).1) fun t2 H1 hu=>?_;have kn:Kn F H1 [] (((w,wO fl fns k vc s.n (Af (Ax fns k (b::r) (Q7 x.args) s.c) (if (Vars.find (b::r) x.name).isSome then 0 else 3)))::Lg)++((x10,stX x.op x.name (.sl false 4 (Ql ars)) (.sl false 5 (Qk x.body)) (.sl false 5 (Qk x.els)))::Lz)):=kn.callL 0 rfl hu ZaO;have g10:=kn.getM;simp only[go_sem,Qqv,g10,aq];intro H2 h2;have kn:=kn.stM h2;try simp only[go_sem,AE.X.next,aq]
   exact tail _ _ t2 vc Lg hg kn rfl rfl rfl rfl rfl rfl rfl
  ·intro au;have h2:¬x.op=2:=ZZ
   have es1:s1=⟨b::r,Ax fns k (b::r) (Q7 x.args) s.c,s.n⟩:=by
    rw[←cd,stC,if_neg h1,if_neg h2,hv]
   rw[es1]at tail dU;simp only[Jao]at dU;obtain⟨bh,_⟩:=dU;subst bh;refine ZO aq ?_
   exact tail _ _ x.name vc Lg hg kn rfl rfl rfl rfl rfl rfl rfl
theorem Qbjz (w k:Nat)(fl:Bool)(fns:List Fn):∀n,StsW w k fl fns n:=by
 intro n
 induction n using Nat.strongRecOn with
 |_ n ih=>
 intro sts f5 b r s vc Lg F H K hn qN hbr hg kn aI hsn co hK;have an:=hg.ah;have sP:=BM sts;refine FU ?_;refine Qc Aa Qapr ?_;refine Za ?_;refine Za ?_;have gw:=kn.l 0 rfl;have iU:=hg.slc fun p hp=>(kn.get p Zap).1;have hY:=eq_true iU.ok;have oO:=iU.len;refine ZG gw an hY oO ?_;intro i0;simp only[LIM]at i0;refine Qz (Qa ?_);simp only[go_sem];refine Qf (Qg (Q3 (fun m e1 H1=>∃(i:Nat) (outs:List St) (Lz Lgi:List (Nat×Obj)) (t vci:C) (bi:List (List UInt8×Nat)),m=sts.length-i∧i≤sts.length∧(Ae fns k (sts.take i) s).v=bi::r∧Gr Lz 5 (Qk outs) t∧outs.length=i∧
   Gp Lgi 3 (Am (bi::r)) vci∧(Am (bi::r)).length≤(Ae fns k (sts.take i) s).n∧Kn F H1 [] (((w,wO fl fns k vci (Ae fns k (sts.take i) s).n (Ae fns k (sts.take i) s).c)::Lgi)++Lz)∧
   e1=[(0,.c (.ptr w 0)),(1,.c (.sl f5 5 (Qk sts))),(2,.c (.int .i64 r.length)),(7,.c t),(8,.c (.int .i64 (Am (b::r)).length)),(9,.c (.int .i64 i))]) sts.length ?_ ?_))
 ·exact⟨0,[],[],Lg,.sl true 5 [],vc,b,ZT,ZT,by simpa[Ae]using qN,.nil 5,rfl,hg,by simpa[Ae]using aI,by simpa[Ae]using kn,rfl⟩
 ·clear kn gw iU hY oO;rintro m e1 H1 ⟨i,outs,Lz,Lgi,t,vci,bi,hm,hi,lq,hz,pU,j2,m7,kn,rfl⟩;have hni:=G3 fns k (sts.take i) s;have cE:=GV sts i;obtain⟨si,ki⟩:∃si,Ae fns k (sts.take i) s=si:=⟨_,rfl⟩;rw[ki]at lq kn m7 hni;have aq:=hz.ah;have qY:=j2.ah;refine Qz (Qa ?_);simp only[go_sem,aq,Qp];intro hl;simp only[LIM]at hl;refine Qf (Qb rfl ?_ ?_)
  ·intro hc;have af:i<sts.length:=ZU
   have dc:=Bw (Jd af);obtain⟨x,hx⟩:∃x,sts[i]=x:=⟨_,rfl⟩;have aY:=KW fns k af s;have aC:=Tt af;have iC:=GV sts (i+1);rw[hx]at dc aC;rw[ki,hx]at aY;have gW:=x.size_eq;refine Zc ?_
   refine Qf (Qg ?_);refine ZF aq af hx ?_;intro x10 mf H3 h3;have kn:Kn F H3 [] (((w,wO fl fns k vci si.n si.c)::Lgi)++((x10,stX 0 [] (.sl true 4 []) (.sl true 5 []) (.sl true 5 []))::Lz)):=(kn.al mf h3).perm (by
    rw[Js];exact List.Perm.append_left _ (List.perm_append_comm (l₁:=Lz) (l₂:=[(x10,_)])))
   have g10:=kn.getM;simp only[go_sem,Qqr,g10,aq];intro H4 h4;have kn:Kn F H4 [] (((w,wO fl fns k vci si.n si.c)::Lgi)++((x10,stO x)::Lz)):=kn.stM h4;have g10:=kn.getM;refine Zd aq ?_;refine Qz (Qa ?_);simp only[go_sem,aq];refine Qf (Qg (Q3 (fun m e2 H5=>∃(j:Nat) (ars:List Ex) (La:List (Nat×Obj)) (ta:C),m=x.args.length-j∧j≤x.args.length∧Gr La 4 (Ql ars) ta∧ars.length=j∧
    Kn F H5 [] ((((w,wO fl fns k vci si.n (Ax fns k (bi::r) (Q7 (x.args.take j)) si.c))::Lgi)++((x10,stO x)::Lz))++La)∧
    e2=[(0,.c (.ptr w 0)),(1,.c (.sl f5 5 (Qk sts))),(2,.c (.int .i64 r.length)),(7,.c t),(8,.c (.int .i64 (Am (b::r)).length)),(9,.c (.int .i64 i)),(10,.c (.ptr x10 0)),(11,.c ta),(12,.c (.int .i64 j))]) x.args.length ?_ ?_))
   ·exact⟨0,[],[],.sl true 4 [],ZT,ZT,.nil 4,rfl,by simpa[Q7,Ax]using kn,rfl⟩
   ·clear kn g10 h4 h3;rintro m2 e2 H5 ⟨j,ars,La,ta,aZ,hj,jr,sf,kn,rfl⟩;have dx:=jr.ah;have kn2:Kn F H5 [] (((w,wO fl fns k vci si.n (Ax fns k (bi::r) (Q7 (x.args.take j)) si.c))::Lgi)++((x10,stO x)::(Lz++La))):=by
     rw[Js]at kn;exact kn
    have g10:=kn2.getM;refine Qz (Qa ?_);simp only[go_sem,aq,dx,g10,Qh];intro eW;simp only[LIM]at eW;refine Qf (Qb rfl ?_ ?_)
    ·intro au;have aD:j<x.args.length:=ZZ;have oH:=Bn (Jd aD);obtain⟨y,hy⟩:∃y,x.args[j]=y:=⟨_,rfl⟩;have nT:=HK aD;rw[hy]at oH nT;refine Zc ?_
     refine Qf (Qg ?_);refine Qr ?_;simp only[go_sem,aq,dx,g10,aD,Qh,Qs _ _ aD,hy,y.aa];have hE:=fun K=>Qboa (k:=k) (w:=w) (cnt:=si.n) (fl:=fl) (fns:=fns) j2 y.size y (Ax fns k (bi::r) (Q7 (x.args.take j)) si.c) H5 K;rw[y.aa]at hE;have du:(w::Lgi.map Prod.fst).Nodup:=by
      have:=kn2.dL;rw[Ju]at this;exact (J1.1 this).1
     refine hE _ (Ji _) ZT du (fun p hp=>(kn2.get p (by simp only[Jah];exact Je _ hp)).1) fun z H6 hu=>?_;have kn:=Kn.callLs (L:=(w,wO fl fns k vci si.n (Ax fns k (bi::r) (Q7 (x.args.take j)) si.c))::Lgi) (M:=(x10,stO x)::(Lz++La)) kn2 hu rfl (by
      intro p hp;rcases Jg.1 hp with rfl|hp
      ·nofun
      ·exact j2.ne p hp)
     simp only[go_sem,Qqt,aq,dx,z.ae];have kn:Kn F H6 [] ((((w,wO fl fns k vci si.n (Ax fns k (bi::r) y.pre (Ax fns k (bi::r) (Q7 (x.args.take j)) si.c)))::Lgi)++((x10,stO x)::Lz))++La):=by
      rw[Js];exact kn
     refine kn.aQ jr (.mk' _ true 4 _) (by simpa using z.ai) (by simp only[Qh,Jn,Jx,LIM];omega) fun ta' La' H7 ie ip kn=>?_;rw[Dm]at ie;simp only[go_sem,Qqs,aq,ip];refine Qr ?_;simp only[go_sem,AE.X.next,aq,ip];refine⟨Qv,x.args.length-(j+1),ZT,j+1,ars++[z],La',ta',rfl,ZT,ie,by simp[sf],?_,rfl⟩;rw[nT,Q98];exact kn
    ·intro au;have jV:x.args.length≤j:=ZZ;rw[Jb jV]at kn;refine Zg ?_;obtain⟨S,H6,f1,f2,kn⟩:=jr.freeze kn (Bb _);refine Qz (c_gh (Hz S (CS ?_) f2) (e':=[(0,.c (.ptr w 0)),(1,.c (.sl f5 5 (Qk sts))),(2,.c (.int .i64 r.length)),(7,.c t),(8,.c (.int .i64 (Am (b::r)).length)),(9,.c (.int .i64 i)),(10,.c (.ptr x10 0)),(11,.c (.sl false 4 (Ql ars)))]) ?_)
     ·intro p hp;simp only[Jg,Jw,or_false]at hp;rcases hp with rfl|rfl|rfl|rfl|rfl|rfl|rfl|rfl
      ·exact .c _ _ (.same _ rfl)
      ·exact .c _ _ (.same _ rfl)
      ·exact .c _ _ (.same _ rfl)
      ·exact .c _ _ (.same _ aq)
      ·exact .c _ _ (.same _ rfl)
      ·exact .c _ _ (.same _ rfl)
      ·exact .c _ _ (.same _ rfl)
      ·exact .c _ _ f1
     have g10:=kn.getM;refine Zi aq g10 ?_;intro H7 h7;have kn:=kn.stM h7;refine YB (fun n' hn'=>ih n' ZT) lq j2 hz ZT kn m7 ZT ZT rfl rfl rfl rfl rfl rfl rfl fun H8 out vc8 Lg8 Lz8 t8 b8 hv8 hg8 hr8 sG kn=>?_;have nS:=sG.ah;simp only[go_sem,AE.X.next,nS];refine Zl nS ?_;refine⟨Qv,sts.length-(i+1),ZT,i+1,outs++[out],Lz8,Lg8,t8,vc8,b8,rfl,ZT,?_,sG,by simp[pU],hg8,?_,?_,rfl⟩
     ·rw[aY];exact hv8
     ·rw[aY];exact hr8
     ·rw[aY];exact kn
  ·intro hc;have aV:sts.length≤i:=ZU
   rw[Jb aV]at ki;have gw:=kn.l 0 rfl;have mq:=j2.slc fun p hp=>(kn.get p Zap).1;have re:=eq_true mq.ok;have rD:=mq.len;have qL:=mq.sz;refine Zg ?_;have fin:∀(H':Heap) (e':Env) (vc':C),(r=[]→Gp Lgi 3 (Am si.v) vc')→(r≠[]→Gp Lgi 3 (Am r) vc')→Kn F H' [] (((w,wO fl fns k vc' si.n si.c)::Lgi)++Lz)→lk 7 e'=.c t→Q6 prog Qqq (Qq Ad (finK K)) e' H':=by
    intro H' e' vc' h1 h2 kn f7;refine Zi f7 aq ?_;refine Zq aq ?_;obtain⟨S,H6,f1,f2,kn⟩:=hz.freeze kn (AQ _);refine⟨S,_,H6,.c _ _ f1,f2,?_⟩;rw[ki]at hK;exact hK outs H6 vc' Lgi h1 h2 kn
   refine Qz (Qa ?_);simp only[go_sem,aq];refine Qf (Qb rfl ?_ ?_)
   ·intro au;have bG:r≠[]:=by
     intro h;rw[h]at au;simp at au
    have fG:=hbr bG;rw[fG,Ht];have aE:=Qbn9 bi r;have bu:=j2.cut aE;rw[Qbei]at bu;refine Qr ?_;simp only[go_sem,gw,qY,aq,re,rD,qL,bnds,Ja1,Jac,Jal,J0];refine⟨⟨ZT,ZT⟩,?_⟩;intro H7 h7;have fx:=bu.ah;have kn:=kn.ax 0 rfl h7;try simp only[go_sem,AE.X.next,aq]
    exact fin _ _ _ (fun h=>absurd h bG) (fun _=>bu) kn rfl
   ·intro au;have bG:r=[]:=by
     cases hr:r with
     |nil=>rfl
     |cons a q=>rw[hr]at au;simp only[Jn,decide_eq_false_iff_not]at au;omega
    refine ZO aq ?_
    exact fin _ _ vci (fun _=>by rw[lq];exact j2) (fun h=>absurd bG h) kn rfl
end Go.AE.Y
namespace Go.AE
variable {H0 H H' F:Heap}{E L B A M:List (Nat×Obj)}{p:Nat×Obj}
theorem Kn.stM2 {x:Nat}{o o':Obj}(kn:Kn H0 H E (A++p::(x,o)::B))(h1:H'=H.set x o')(ho:o'≠.none:=by nofun):Kn H0 H' E (A++p::(x,o')::B):=by
 have k2:Kn H0 H E ((A++[p])++(x,o)::B):=Zca
 have k3:=k2.stM h1 ho;rw[Js]at k3;exact k3
theorem Kn.getM2 {x:Nat}{o:Obj}(kn:Kn H0 H E (A++p::(x,o)::B)):H x=o:=(kn.get (x,o) ZV).1
end Go.AE
namespace Go.AE.Y
attribute [local go_sem] cond_true cond_false Bool.not_true Bool.not_false
open Go.Proofs.Tryz
variable {H H0 F:Heap}{K:V→Heap→Prop}{E E' L:List (Nat×Obj)}
theorem Ym (l:List Fn)(s:List UInt8)(k:Nat):decide (ixI (Ai l s)=(k:Int))=decide (Ai l s=some k):=by
 rw[decide_eq_decide]
 cases Ai l s with
 |none=>simp only[ixI];constructor
        ·intro h;omega
        ·intro h;cases h
 |some j=>simp only[ixI,J6];omega
theorem Yk {fns:List Fn}{fl:Bool}{k:Nat}(hk:k<fns.length)(hb:Qj fns[k].body≤2^36)(hp:fns[k].params.length≤2^30)
  (hK:∀(f':Fn) (cnt:Nat) H',Upd H H' []→K (.tup [.ag f'.cells,.c (.int .i64 (fnCk fns k).c),.c (.int .i64 cnt)]) H'):Qm prog IY [.ag [.sl fl 3 (Qo fns)],.c (.int .i64 k)] H K:=by
 obtain⟨f,da⟩:∃f,fns[k]=f:=⟨_,rfl⟩;have rT:fnCk fns k=Ae fns k f.body (A1 f.params ⟨[[]],ixC fns k f.name,0⟩):=by
  rw[fnCk,Jt hk,da];rfl
 rw[da]at hb hp;obtain⟨s0,iU⟩:∃s0:Ck,(⟨[[]],ixC fns k f.name,0⟩:Ck)=s0:=⟨_,rfl⟩;rw[iU]at rT;have mt:s0.v=[[]]:=Zco
 have om:s0.n=0:=Zco
 have mw:s0.c=ixC fns k f.name:=Zco
 refine Q1 ?_;refine Qc Aa Yb ?_;refine Za ?_;intro x4 bW H1 h1;have kn:=(Kn.ao H).al bW h1;simp only[go_sem,Kt];refine Za ?_;intro w hw H2 h2;have kn:=kn.al hw h2;simp only[go_sem,RB];refine Qa ?_;simp only[go_sem,hk,Qu,AB _ _ hk,da,Fn.cells];intro x8 cC H3 h3;have kn:=kn.al cC h3;have g8:=kn.l 2 rfl;simp only[go_sem,RA,g8];intro H4 h4;have kn:=kn.ax 2 rfl h4;have kn:Kn H H4 [] (((w,wO fl fns k (.sl true 3 []) 0 0)::[])++(x4,.st [.str [],.sl true 1 [],.sl true 5 []])::(x8,fnO f)::[]):=kn.perm (.swap _ _ _);have g8:=kn.getM2;refine Qz (Qa ?_);simp only[go_sem,g8];refine Py ?_;have kw:=Ym fns f.name k;simp only[go_sem,R9,kw];have two:∀(H1:Heap) (e1:Env),Kn H H1 [] (((w,wO fl fns k (.sl true 3 []) 0 (ixC fns k f.name))::[])++(x4,.st [.str [],.sl true 1 [],.sl true 5 []])::(x8,fnO f)::[])→lk 4 e1=.c (.ptr x4 0)→lk 7 e1=.c (.ptr w 0)→lk 8 e1=.c (.ptr x8 0)→
   Q6 prog Ku (Qq Fe (unK H K)) e1 H1:=by
  intro H1 e1 kn f4 f7 f8;have kn:Kn H H1 [] (((w,wO fl fns k (.sl true 3 []) s0.n s0.c)::[])++(x4,.st [.str [],.sl true 1 [],.sl true 5 []])::(x8,fnO f)::[]):=by rw[om,mw];exact kn
  refine Zr f4 f7 f8 ?_;refine Qz (Qa ?_);simp only[go_sem];refine Qf (Qg (Q3 (fun m e2 H2=>∃(j:Nat) (ps:List (List UInt8)) (Lg Lp:List (Nat×Obj)) (vc t:C) (bj:List (List UInt8×Nat)),m=f.params.length-j∧j≤f.params.length∧(A1 (f.params.take j) s0).v=[bj]∧(A1 (f.params.take j) s0).n=j∧(Am [bj]).length≤j∧
   Gp Lg 3 (Am [bj]) vc∧Gr Lp 1 (Q5 ps) t∧ps.length=j∧
   Kn H H2 [] (((w,wO fl fns k vc (A1 (f.params.take j) s0).n (A1 (f.params.take j) s0).c)::Lg)++(x4,.st [.str [],.sl true 1 [],.sl true 5 []])::(x8,fnO f)::Lp)∧
   e2=[(4,.c (.ptr x4 0)),(7,.c (.ptr w 0)),(8,.c (.ptr x8 0)),(9,.c t),(10,.c (.int .i64 j))]) f.params.length ?_ ?_))
  ·exact⟨0,[],[],[],.sl true 3 [],.sl true 1 [],[],ZT,ZT,mt,om,Zb7,.nil 3,.nil 1,rfl,kn,rfl⟩
  ·clear kn;rintro m e2 H2 ⟨j,ps,Lg,Lp,vc,t,bj,hm,hj,ll,rm,hrj,hg,rP,hT,kn,rfl⟩;obtain⟨sj,kP⟩:∃sj,A1 (f.params.take j) s0=sj:=⟨_,rfl⟩;rw[kP]at ll kn rm;have aq:=rP.ah;have g8:=kn.getM2;refine Qz (Qa ?_);simp only[go_sem,g8,aq,Qt];intro hl;simp only[LIM]at hl;refine Qf (Qb rfl ?_ ?_)
   ·intro hc;have af:j<f.params.length:=ZU;obtain⟨p,mD⟩:∃p,f.params[j]=p:=⟨_,rfl⟩;have qX:f.params.getD j []=p:=(by simp[Jf,af,mD]);have aY:=Ky af s0;rw[kP,mD,ll]at aY;refine Zc ?_
    refine Qf (Qg ?_);refine Qr ?_;simp only[go_sem,g8,aq,af,Qt,BT _ _ af,qX];obtain⟨F',kn',back⟩:=kn.side;refine I4 (r:=[]) hg kn' ZT Zav fun t2 H5 vc' Lg' eP kn=>?_;have kn:=back _ _ kn;simp only[go_sem,R7,aq];have kn:Kn H H5 [] ((((w,wO fl fns k vc' (sj.n+1) (Af sj.c (if A6 [bj] p then 2 else 0)))::Lg')++[(x4,.st [.str [],.sl true 1 [],.sl true 5 []]),(x8,fnO f)])++Lp):=Zca;refine kn.aQ rP (.mk' _ true 1 _) Zax (by simp only[Qt,Jn,Jx,LIM];omega) fun t' Lp' H6 pd aR kn=>?_;rw[Q6t]at pd;simp only[go_sem,R8,aR];refine Zl aR ?_;refine⟨Qv,f.params.length-(j+1),ZT,j+1,ps++[t2],Lg',Lp',vc',t',(p,sj.n)::bj,rfl,ZT,?_,?_,?_,eP,pd,by simp[hT],?_,rfl⟩
    ·rw[aY];simp[A8]
    ·rw[aY];simp[rm]
    ·rw[FD];simp only[Jaw,Jar];omega
    ·rw[aY];rw[Js]at kn;exact kn
   ·intro hc;have aV:f.params.length≤j:=ZU;rw[Jb aV]at kP;rw[kP]at rT;refine Zg ?_;refine Zi g8 aq ?_;intro H5 h5;have kn:=kn.stM2 h5;have g8:=kn.getM2;refine Zi g8 aq ?_;obtain⟨F',kn',back⟩:=kn.side;refine Qbjz w k fl fns (Qj f.body) f.body false bj [] sj vc Lg F' H5 _ (Ji _) ll (fun h=>absurd rfl h) hg kn' ZT ZT (by simp only[Jx];omega) fun out H6 vc' Lg' _ _ kn=>?_;have kn:=back _ _ kn;rw[←rT]at kn;have g8:=kn.getM2;simp only[go_sem,LW,g8,aq];intro H7 h7;have kn:=kn.stM2 h7;have g8:=kn.getM2;have g4:=kn.getM;have gw:=kn.l 0 rfl;refine An ?_;simp only[go_sem,g8,g4,gw,aq];intro H8 h8;have kn:=kn.stM h8;have g8:=kn.getM2;have g4:=kn.getM;have gw:=kn.l 0 rfl;simp only[go_sem,LV,g8,g4,gw,aq];refine Qi ?_;simp only[go_sem,Qq,Q0,Jv,Jw,RS.op,g4,aq];have kn2:Kn H H8 [] ((((w,wO fl fns k vc' (fnCk fns k).n (fnCk fns k).c)::Lg')++[(x4,.st [.str f.name,t,.sl false 5 (Qk out)]),(x8,.st [.str f.name,t,.sl false 5 (Qk out)])])++Lp):=Zca;refine⟨fun _=>trivial,.tup [.ag (Fn.cells ⟨f.name,ps,out⟩),.c (.int .i64 (fnCk fns k).c),.c (.int .i64 (fnCk fns k).n)],.tup _ _ rfl (fun j x x' h1 h2=>?_),hK ⟨f.name,ps,out⟩ _ _ kn.fin⟩;rcases j with _|_|_|j
    ·simp only[Jaa,J6]at h1 h2;subst h1 h2;exact (FrzL.cons (Qe rfl) (.cons (rP.frz kn2 (CJ _)) (.cons (Qe rfl) .nil))).ag
    ·simp only[Jak,Jaa,J6]at h1 h2;subst h1 h2;exact .c _ _ (Qe rfl)
    ·simp only[Jak,Jaa,J6]at h1 h2;subst h1 h2;exact .c _ _ (Qe rfl)
    ·simp at h1
 refine Qf (Qb rfl ?_ ?_)
 ·intro hc;have aP:¬Ai fns f.name=some k:=ZU
  rw[ixC,if_neg aP]at two;refine Zp ?_;refine RD rfl (kn.l 0 rfl) fun H5 hu=>?_;have kn:=kn.callL 0 rfl hu ZaO;simp only[go_sem,AE.X.next];exact two _ _ kn rfl rfl rfl
 ·intro hc;have he:Ai fns f.name=some k:=ZU
  rw[ixC,if_pos he]at two;refine Zt ?_;exact two _ _ kn rfl rfl rfl
theorem Qbjg {l:List Fn}{fl:Bool}(hf:Qn l≤2^36)(hK:∀H',Upd H H' []→K (.c (.int .i64 (AV l))) H'):Qm prog Qnh [.ag [.sl fl 3 (Qo l)]] H K:=by
 refine Q1 ?_;refine Qc Aa Q94 ?_;have retf:∀(b:Int) (e:Env) (H':Heap) (L:List (Nat×Obj)),AV l=b→Kn H H' [] L→lk 2 e=.c (.int .i64 b)→Qq Ac (unK H K) .ret e H':=by
  intro b e H' L hf kn h4;simp only[go_sem,Qq,Q0,Ja,forall_eq,RS.op,h4];refine⟨_,.c _ _ (Qe rfl),?_⟩;rw[←hf];exact hK _ kn.fin
 have kn:=Kn.ao H;refine Za ?_;refine Qz (Qa ?_);simp only[go_sem];refine Qaia ZT ?_;simp only[go_sem,S8];refine Qf (Qb rfl ?_ ?_)
 ·intro hc;have hb:AW l=false:=ZU
  refine Za ?_;refine Zx ?_;exact retf 1 _ _ _ (by rw[AV,hb];rfl) kn rfl
 intro hc;have hb:AW l=true:=ZU
 have cS:AV l=ckK l l.length:=by rw[AV,if_pos hb]
 have hv:=hb;simp only[AW,Jo,decide_eq_true_eq,Jaf]at hv;refine Zc ?_
 refine Qz (Qa ?_);simp only[go_sem];refine Qf (Qg (Q3 (fun m e1 H1=>∃(i:Nat),m=l.length-i∧i≤l.length∧Kn H H1 [] []∧ckK l i=0∧e1=[(1,.c (.pp [.sl fl 3 (Qo l)])),(3,.c (.int .i64 i))]) l.length ?_ ?_))
 ·exact⟨0,ZT,ZT,kn,rfl,rfl⟩
 ·clear kn;rintro m e1 H1 ⟨i,hm,hi,kn,cq,rfl⟩;refine Qz (Qa ?_);simp only[go_sem,Qu];intro hl;simp only[LIM]at hl;refine Qf (Qb rfl ?_ ?_)
  ·intro hc;have af:i<l.length:=ZU
   have dc:=Cm (Jd af);have gv:=hv.1.2 _ (Jd af);have eH:l[i].params.length≤3:=by
    rw[Fn.form]at gv;simp only[Jo,decide_eq_true_eq]at gv;exact gv.1.2
   have nY:=F6 l i;rw[cq]at nY;refine Zc ?_
   refine Qf (Qg ?_);refine Za ?_;refine Yk af ZT ZT fun f' cnt H2 hu=>?_;have kn:=kn.ay hu;simp only[go_sem,Qla,Jh,Jj,Fn.cells];intro x4 bW H3 h3;have kn:=kn.al bW h3;have g4:=kn.l 0 rfl;simp only[go_sem,Qk9,g4,Fn.cells];intro H4 h4;have kn:=kn.ax 0 rfl h4;simp only[go_sem,Qk8];refine Za ?_;refine Qb rfl ?_ ?_
   ·intro au;have aP:(fnCk l i).c≠0:=ZZ;refine Za ?_;refine Zx ?_;refine retf _ _ _ _ ?_ kn rfl;rw[cS];exact Qbkh l (by rw[nY,Af,if_pos rfl]) aP _ ZT
   ·intro au;have he:(fnCk l i).c=0:=ZZ;refine Zc ?_
    refine Zk ?_;refine⟨Qv,l.length-(i+1),ZT,i+1,rfl,ZT,Kn.drop (A:=[]) kn,?_,rfl⟩;rw[nY,he];rfl
  ·intro hc;have aV:l.length≤i:=ZU
   have oZ:i=l.length:=ZT
   subst oZ;refine Zg ?_;refine Za ?_;refine Qi ?_;exact retf 0 _ _ _ (by rw[cS,cq]) kn rfl
theorem Qbnr {l:List Fn}{fl:Bool}(hf:Qn l≤2^36)(hK:∀H',Upd H H' []→K (.c (.bool (Bl l))) H'):Qm prog KI [.ag [.sl fl 3 (Qo l)]] H K:=by
 refine Qc Aa Qbmf ?_;refine Za ?_;refine Za ?_;refine Qbjg hf fun H1 hu=>?_;simp only[go_sem,Eg];refine Zb ?_;exact hK _ hu
end Go.AE.Y
namespace Go.AE.Y
structure InsD where
 op:Int
 to:Int
 args:List Int
 n:Int
def InsD.cells (x:InsD):List C:=[.int .i64 x.op,.int .i64 x.to,.sl false 1 (Ar x.args),.int .i64 x.n]
structure PhiD where
 to:Int
 args:List Int
def PhiD.cells (x:PhiD):List C:=[.int .i64 x.to,.sl false 1 (Ar x.args)]
def EX (l:List InsD):List (List C):=l.map InsD.cells
def XW (l:List PhiD):List (List C):=l.map PhiD.cells
structure BlkD where
 bV:List PhiD
 ins:List InsD
 jump:Int
 on:Int
 next:List Int
def BlkD.cells (x:BlkD):List C:=[.sl false 2 (XW x.bV),.sl false 4 (EX x.ins),.int .i64 x.jump,.int .i64 x.on,.sl false 1 (Ar x.next)]
def Y5 (l:List BlkD):List (List C):=l.map BlkD.cells
structure CodeD where
 params:Int
 cu:Int
 blocks:List BlkD
def CodeD.cells (x:CodeD):List C:=[.int .i64 x.params,.int .i64 x.cu,.sl false 5 (Y5 x.blocks)]
def Km (l:List CodeD):List (List C):=l.map CodeD.cells
theorem Qbap (l:List InsD):∀r∈EX l,ai r=true:=by intro r hr;obtain⟨x,_,rfl⟩:=Jq.1 hr;rfl
variable {H:Heap}{S:Nat→Bool}
theorem Gr.frzM {Lg:List (Nat×Obj)}{sz:Nat}{rows rows':List (List C)}{c:C}(h:Gr Lg sz rows c)(hm:∀p∈Lg,H p.1=p.2∧S p.1=true)(hr:FrzR H S rows rows'):FrzC H S c (.sl false sz rows'):=by
 rcases h with ⟨rfl,rfl,rfl⟩|⟨y,rfl,rfl⟩
 ·cases hr;exact FrzR.nil.sl
 ·obtain⟨h1,h2⟩:=hm (y,.vec sz rows) ZV;exact hr.aw h2 h1 rfl
def CodeD.fits (c:CodeD):Prop:=∀b∈c.blocks,b.ins.length≤2^38∧b.bV.length≤2^38
end Go.AE.Y
