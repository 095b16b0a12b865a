/- Part 3 of the proof: the engine, codes, walks and plain laws, each named where it stands. -/
import Derived.Test.YtchjcdooknkfpaaGreatZB
open Nat (reduceEqDiff reduceAdd reduceLeDiff reduceLT)
set_option linter.unusedVariables false
set_option linter.unusedSimpArgs false
set_option maxRecDepth 4000
set_option maxHeartbeats 4000000
open Bool renaming and_eq_true->Jr,not_false->Jaa
open Int renaming eq_ofNat_of_zero_le->Jo,tmod_lt_of_pos->J2,tmod_nonneg->J8
open List renaming mem_singleton->Ja,getElem_mem->Jb,getD_eq_getElem?_getD->Jc,take_of_length_le->Jd,length_map->Jf,take_succ_eq_append_getElem->Jh,mem_append_right->Ji,perm_append_comm->Jj,mem_append->Jk,length_cons->Jl,length_nil->Jm,append_assoc->Jn,drop_zero->Jp,nil_append->Jq,cons_append->Js,flatMap_append->Jt,map_append->Ju,map_set->Jv,set_cons_zero->Jw,take_append_drop->Jx,getElem_of_mem->Jy,getD_cons_zero->Jz,mem_or_eq_of_mem_set->J3,getElem?_eq_getElem->J4,all_eq_true->J5,length_take->J6,mem_flatMap->J7,contains_iff_mem->J9,getD_cons_succ->Jab,nodup_append->Jad,filter_cons->Jaf,all_append->Jag,filter_nil->Jah,length_set->Jai,sum_append->Jaj,map_cons->Jal,take_nil->Jam,map_nil->Jan,set_set->Jao
open Nat renaming le_refl->Je,zero_add->Jg,lt_pow_self->J0,mul_le_mul_left->J1,one_le_two_pow->Jac,le_trans->Jae,le_succ->Jak,mul_succ->Jap
attribute [go_sem_proc] reduceIte reduceEqDiff reduceAdd reduceLeDiff reduceLT reduceCtorEq
namespace Go.AE.Y
open Go.Proofs.Tryz
theorem A6:prog.follows .mixedOrders=true:=ZE
theorem TJ (l : Nat) (fl : Bool) (bs : List UInt8) (k : Nat) (n : Int) (H : Heap) (K : V -> Heap -> Prop)
   (hH : H l = .st [.sl fl 1 (B3 bs), Ui k]) (cp : k <= 2^40)
   (hK : ∀ v : Int, (if n < 1 then v = 0 else 0 <= v /\ v < n) -> K (Uv v) (H.set l (.st [.sl fl 1 (B3 bs), Ui ((k + 1 : Nat) : Int)]))) :
   Qv prog Rj [Up l, Uv n] H K := by
  refine Qd A6 Qawt ?_;refine Qa ?_;simp only [go_sem, Nat.reduceEqDiff, Nat.reduceAdd];refine Qa ?_;simp only [go_sem, Nat.reduceEqDiff, Nat.reduceAdd, Nat.reduceLT, hH];refine ⟨Qr, λH2 uy => ?_⟩;have rt : H2 l = .st [C.sl fl 1 (B3 bs), C.int IntKind.i64 (k + 1)] := by rw [uy]; exact Heap.aE _ _ _
  have yK : ∀ v : Int, (if n < 1 then v = 0 else 0 <= v /\ v < n) -> K (Uv v) H2 := by
    intro v hv; rw [uy]; exact hK v hv
  clear hK;refine Q1 (Qa ?_);simp only [go_sem, Dr, Nat.reduceEqDiff, Nat.reduceAdd, Nat.reduceLeDiff, rt];intro _;refine Wu ?_ ?_
  · intro hc;refine Qa ?_;simp only [go_sem, Nat.reduceEqDiff];refine Qk ?_;simp only [go_sem, Q7, A5, A7, Ja, forall_eq, RS.op];refine yK 0 ?_;split <;> omega
  · intro hc;refine Qi ?_;simp only [go_sem];have hn : 1 <= n /\ bs.length ≠ 0 := by
      simp only [cond_eq_ite] at hc;split at hc
      · simp at hc
      · simp at hc; simp_all
    refine Qa ?_;simp only [go_sem, Nat.reduceEqDiff, Nat.reduceAdd, rt];refine ⟨Qr, ?_⟩;refine Q1 (Qa ?_);simp only [go_sem, Dr, Nat.reduceEqDiff, Nat.reduceAdd, Nat.reduceLeDiff, rt];intro hl;refine Wu ?_ ?_
    · intro a7;have hk : k < bs.length := ZF;refine Qa ?_;simp only [go_sem, Dr, IJ, Nat.reduceEqDiff, Nat.reduceAdd, Nat.reduceLeDiff, rt, hk, Q2o];refine ⟨ZA, ?_⟩;refine Qk ?_;simp only [go_sem, Q7, A5, A7, Ja, forall_eq, RS.op];refine yK _ ?_;rw [if_neg ZA];exact ⟨J8 _ ZA, J2 _ ZA⟩
    · intro a7;refine Qi ?_;simp only [go_sem];refine AC ?_;have e1 : ((k : Int).tmod (bs.length : Int)) = ((k % bs.length : Nat) : Int) := rfl;have e2 : (((k : Int) * 7 + 3).tmod (bs.length : Int)) = (((k * 7 + 3) % bs.length : Nat) : Int) := rfl;have h1 : k % bs.length < bs.length := Nat.mod_lt _ ZA;have h2 : (k * 7 + 3) % bs.length < bs.length := Nat.mod_lt _ ZA;simp only [go_sem, Dr, IJ, Nat.reduceEqDiff, Nat.reduceAdd, Nat.reduceLeDiff, rt, e1, e2, h1, h2, Q2o];have e3 : (k : Int).tdiv (bs.length : Int) = ((k / bs.length : Nat) : Int) := rfl;have h3 : k / bs.length <= k := Nat.div_le_self _ _;rw [e3];have h4 := (bs.getD (k % bs.length) 0).toNat_lt;have h5 := (bs.getD ((k * 7 + 3) % bs.length) 0).toNat_lt;generalize (bs.getD (k % bs.length) 0).toNat = b1 at *;generalize (bs.getD ((k * 7 + 3) % bs.length) 0).toNat = b2 at *;generalize k / bs.length = d at *;clear e1 e2 h1 h2 e3;refine ⟨ZA, Qr, Qr, Qr, by omega, Qr, Qr,
        Qr, Qr, ⟨ZA, Qr⟩, Qr, Qr, ?_⟩
      have hx : 0 <= (b1 : Int) * 131 + b2 * 1117 + k * 29 + d * 53 := ZA;have gg : (b1 : Int) * 131 + b2 * 1117 + k * 29 + d * 53 < 2 ^ 62 := ZA;generalize (b1 : Int) * 131 + b2 * 1117 + k * 29 + d * 53 = x at *;refine Qa ?_;simp only [go_sem, Nat.reduceEqDiff];have hq : 0 <= x.tdiv 64 := Int.tdiv_nonneg hx ZA;have zv : x.tdiv 64 <= x := (by have := Int.tdiv_le_self (a := x) 64 hx; exact this);refine ⟨⟨ZA, Qr⟩, ?_⟩;have hy := Tt hx hq gg ZA;generalize CO .xor .i64 x (x.tdiv 64) = y at *;refine Qa ?_;simp only [go_sem, Nat.reduceEqDiff];refine ⟨ZA, ?_⟩;refine Qk ?_;simp only [go_sem, Q7, A5, A7, Ja, forall_eq, RS.op];refine yK _ ?_;rw [if_neg ZA];exact ⟨J8 _ ZA, J2 _ ZA⟩
theorem AX {R:Rdr}{k:Nat}{n:Int}{H:Heap}{K:Uk}(hH:H R.l=R.o k)(hk:k<=2^40)
  (hK:∀(v:Int) (H':Heap),(if n<1 then v=0 else 0<=v/\v<n)->Upd H H' [(R.l,R.o (k+1))]->K (Uv v) H') :
  Qv prog Rj [.c (.ptr R.l 0),Uv n] H K:=
 TJ R.l R.fl R.bs k n H K hH hk λv hv=>hK v _ hv ⟨by simp[Heap.aE,Rdr.o],λm _ hm=>Heap.aj _ _ ZaV⟩
theorem BA {R:Rdr}{k:Nat}{fl:Bool}{ns:List Int}{H:Heap}{K:Uk}(hH:H R.l=R.o k)(hk:k<=2^40)(dv:0<ns.length)
  (hK:∀(v:Int) (H':Heap),v∈ns->Upd H H' [(R.l,R.o (k+1))]->K (Uv v) H') :
  Qv prog Q20 [.c (.ptr R.l 0),.c (.sl fl 1 (Qc ns))] H K:=by
 refine Qd A6 Qa5q ?_;refine Wk ?_;simp only[go_sem,Qb];intro hl;refine AX hH hk λv H' hv hu=>?_;rw[if_neg ZA]at hv;obtain⟨i,rfl⟩:=Jo hv.1;have hi:i<ns.length:=ZA
 simp only[go_sem,PI,Qb,Qo,hi];refine Zf ?_;refine hK _ H' ?_ hu;rw[Jc,J4 hi];exact Jb hi
theorem of_c {R:Rdr}{k:Nat}{fl:Bool}{ss:List (List UInt8)}{H:Heap}{K:Uk}(hH:H R.l=R.o k)(hk:k<=2^40)(dv:0<ss.length)
  (hK:∀(v:List UInt8) (H':Heap),v∈ss->Upd H H' [(R.l,R.o (k+1))]->K (.c (.str v)) H') :
  Qv prog ND [.c (.ptr R.l 0),.c (.sl fl 1 (Bg ss))] H K:=by
 refine Qd A6 Qbfx ?_;refine Wk ?_;simp only[go_sem,BB];intro hl;refine AX hH hk λv H' hv hu=>?_;rw[if_neg ZA]at hv;obtain⟨i,rfl⟩:=Jo hv.1;have hi:i<ss.length:=ZA
 simp only[go_sem,PI,BB,Hn,hi];refine Zf ?_;refine hK _ H' ?_ hu;rw[Jc,J4 hi];exact Jb hi
theorem YJ {R:Rdr}{k:Nat}{fl:Bool}{ss:List (List UInt8)}{H:Heap}{K:Uk}(hH:H R.l=R.o k)(hk:k+2<=2^40)
  (hK:∀(x:Ex) (H':Heap) (k':Nat),k<k'->k'<=k+2->Upd H H' [(R.l,R.o k')]->x.ok->x.size=1->K (.ag x.cells) H') :
  Qv prog Ky [.c (.ptr R.l 0),.c (.sl fl 1 (Bg ss))] H K:=by
 refine Qz ?_;refine Qd A6 Y2 ?_;refine Za ?_;intro x hx H1 h1;have kn:=(Kn.start1 hH (R.an k)).al hx h1;refine Q1 (Qa ?_);simp only[go_sem,BB];intro hl;have rest:∀(b:Bool) (H2:Heap) (k2:Nat),k<=k2->k2<=k+1->Kn H H2 [(R.l,R.o k2)] [(x,.st [Ui 0,Ui 0,.str [],.sl true 4 []])]->(b=false->0<ss.length)->
   A9 prog (s_l2Leaf_2.seq KO) (Q7 E8 (unK H K)) [(0,V.c (C.ptr R.l 0)),(1,V.c (C.sl fl 1 (Bg ss))),(4,V.c (C.ptr x 0)),(12,V.c (.bool b))] H2:=by
  intro b H2 k2 i9 fx kn hb;refine Wu ?_ ?_
  ·intro aT;refine Za ?_;refine BA (ns:=[0,1,2,3,5,7,15,16,100,255]) (kn.e 0 rfl) ZA ZC λv H3 hv hu=>?_;have kn:=kn.aq 0 rfl hu (R.an _);have aK:=kn.l 0 rfl;simp only[go_sem,MZ,aK];intro H4 h4;have kn:=kn.aA 0 rfl h4;have aY:=kn.l 0 rfl;refine Zj aY ?_;refine⟨_,(Ex.mk 1 v [] []).frz,hK _ _ (k2+1) ZA ZA kn.fin ?_ ?_⟩
   ·simp[Ex.ok,Bj]
   ·simp[Ex.size,AR]
  ·intro aT;refine Zc ?_;refine Za ?_;refine of_c (kn.e 0 rfl) ZA (hb aT) λv H3 hv hu=>?_;have kn:=kn.aq 0 rfl hu (R.an _);have aK:=kn.l 0 rfl;simp only[go_sem,MY,aK];intro H4 h4;have kn:=kn.aA 0 rfl h4;have aY:=kn.l 0 rfl;refine Zj aY ?_;refine⟨_,(Ex.mk 2 0 v []).frz,hK _ _ (k2+1) ZA ZA kn.fin ?_ ?_⟩
   ·simp[Ex.ok,Bj]
   ·simp[Ex.size,AR]
 refine⟨λhb=>?_,λhb=>?_⟩
 ·refine AX (kn.e 0 rfl) ZA λv H2 hv hu=>?_;have kn:=kn.aq 0 rfl hu (R.an _);simp only[go_sem,P8];refine rest _ H2 (k+1) ZA ZA kn ?_;intro h;have:¬ss.length=0:=ZX
  omega
 ·have cx:decide ((ss.length:Int)=0)=true:=ZX
  simp only[go_sem,P8,cx];exact rest true H1 k ZA ZA kn (λh=>ZH)
variable {H:Heap}{K:Uk}
theorem B1 {n lo hi:Int}(hK:K (.c (.bool (decide (lo<=n/\n<=hi)))) H):Qv prog Ij [Uv n,Uv lo,Uv hi] H K:=by
 refine Qd A6 SL ?_;refine Wd ?_;refine Zf ?_;have:(bif decide (lo<=n)then decide (n<=hi)else false)=decide (lo<=n/\n<=hi):=by
  by_cases h:lo<=n <;> simp[h]
 rw[this];exact hK
theorem Qbkw {b:Bool}(hK:K (Uv (if b then 1 else 0)) H):Qv prog Ll [.c (.bool b)] H K:=by
 refine Qd A6 Qblq ?_;refine Wh ?_;refine Wu ?_ ?_
 ·intro hc;subst hc;refine Ws ?_;exact hK
 ·intro hc;subst hc;refine Zc ?_;refine Ws ?_;exact hK
theorem Qbkt {s:List UInt8}{b:UInt8}(hK:∀n:Int,K (Uv n) H):Qv prog Q00 [.c (.str s),.c (.int .u8 b.toNat)] H K:=by
 refine Qd A6 Qblm ?_;refine Wh ?_;refine Qh (Qe (Qx (λn e1 H1=>∃i:Nat,n=s.length-i/\i<=s.length/\H1=H/\e1=[(0,.c (.str s)),(1,.c (.int .u8 b.toNat)),(5,Uv i)]) s.length ?_ ?_))
 ·exact⟨0,ZA,ZA,rfl,rfl⟩
 ·rintro n e1 H1 ⟨i,hn,hi,rfl,rfl⟩;refine Wa ?_;intro hl;simp only[LIM]at hl;refine Wu ?_ ?_
  ·intro hc;have af:i<s.length:=ZD
   refine Wj ?_;refine Zi af ?_;refine Wv ?_ ?_
   ·intro a7;refine Za ?_;refine Zx ?_;exact hK _
   ·intro a7;refine Wi ?_;exact⟨Qr,s.length-(i+1),ZA,i+1,rfl,ZA,rfl⟩
  ·intro hc;refine Wp ?_;exact hK _
theorem Qbkr {b:UInt8}(hK:∀n:Int,K (Uv n) H):Qv prog Ls [.c (.int .u8 b.toNat)] H K:=by
 refine Qd A6 Qblk ?_;refine Za ?_;refine Wf ?_;refine Wv ?_ ?_
 ·intro hc;refine Ws ?_;exact hK _
 intro hc;refine Za ?_;refine Wv ?_ ?_
 ·intro hc;refine Ws ?_;exact hK _
 intro hc;refine Za ?_;refine Qbkt λn=>?_;simp only[go_sem,Q48];refine Wv ?_ ?_
 ·intro hc;refine Ws ?_;exact hK _
 intro hc;refine Za ?_;refine Wv ?_ ?_
 ·intro hc;refine Ws ?_;exact hK _
 intro hc;refine Zc ?_;refine Ws ?_;exact hK _
theorem Vf {s:List UInt8}{k:Int}(hK:∀b:Bool,K (.c (.bool b)) H):Qv prog IB [.c (.str s),Uv k] H K:=by
 refine Qd A6 TV ?_;refine Wh ?_;refine Qh (Qe (Qx (λn e1 H1=>∃i:Nat,n=s.length-i/\i<=s.length/\H1=H/\e1=[(0,.c (.str s)),(1,Uv k),(5,Uv i)]) s.length ?_ ?_))
 ·exact⟨0,ZA,ZA,rfl,rfl⟩
 ·rintro n e1 H1 ⟨i,hn,hi,rfl,rfl⟩;refine Wa ?_;intro hl;simp only[LIM]at hl;refine Wu ?_ ?_
  ·intro hc;have af:i<s.length:=ZD
   refine Wj ?_;refine Zi af ?_;refine Qbkr λcl=>?_;simp only[go_sem,KT];refine Wv ?_ ?_
   ·intro a7;refine Za ?_;refine Zx ?_;exact hK _
   ·intro a7;refine Wi ?_;exact⟨Qr,s.length-(i+1),ZA,i+1,rfl,ZA,rfl⟩
  ·intro hc;refine Wc ?_;intro _;refine Zf ?_;exact hK _
theorem Qbeu (hK:∀ss:List (List UInt8),K (.c (.sl true 1 (Bg ss))) H):Qv prog Qtj [] H K:=by
 refine Qd A6 Qarg ?_;refine Wd ?_;refine Zf ?_;exact hK [[102,110],[108,101,116],[115,97,121],[112,117,116],[105,102],[101,108,115,101],[108,111,111,112],[98,97,99,107],[100,111]]
theorem Ve {s:List UInt8}(hK:∀b:Bool,K (.c (.bool b)) H):Qv prog IA [.c (.str s)] H K:=by
 refine Qd A6 TU ?_;refine Wd ?_;refine Qbeu λss=>?_;simp only[go_sem,CQ];refine Wa ?_;refine Qh (Qe (Qx (λn e1 H1=>∃i:Nat,n=ss.length-i/\i<=ss.length/\H1=H/\e1=[(0,.c (.str s)),(3,.c (.sl true 1 (Bg ss))),(4,Uv i)]) ss.length ?_ ?_))
 ·exact⟨0,ZA,ZA,rfl,rfl⟩
 ·rintro n e1 H1 ⟨i,hn,hi,rfl,rfl⟩;refine Q1 (Qa ?_);simp only[go_sem,BB];intro hl;simp only[LIM]at hl;refine Wu ?_ ?_
  ·intro hc;have af:i<ss.length:=ZD
   refine Wm ?_;simp only[go_sem,af,BB,Hn _ _ af];refine Wv ?_ ?_
   ·intro a7;refine Za ?_;refine Zx ?_;exact hK _
   ·intro a7;refine Wi ?_;exact⟨Qr,ss.length-(i+1),ZA,i+1,rfl,ZA,rfl⟩
  ·intro hc;refine Wp ?_;exact hK _
theorem Pq {s:List UInt8}(hK:∀b:Bool,K (.c (.bool b)) H):Qv prog Q25 [.c (.str s)] H K:=by
 refine Qd A6 Qa5v ?_;refine Wd ?_;refine Vf λb=>?_;simp only[go_sem,Qvr];intro hl;refine⟨λhb=>?_,λhb=>?_⟩
 ·refine Ve λb2=>?_;simp only[go_sem,Rm];refine Zf ?_;exact hK _
 ·simp only[go_sem,Rm,hb];refine Zf ?_;exact hK _
theorem YK {op:Int}(hK:∀a b:Int,K (.tup [Uv a,Uv b]) H):Qv prog Kz [Uv op] H K:=by
 refine Qd A6 Y3 ?_;refine Wh ?_;have ret:∀(a b:Int) (e:Env),lk 2 e=Uv a->lk 3 e=Uv b->Q7 GN K .ret e H:=by
  intro a b e h1 h2;simp only[go_sem,Q7,A5,List.forall_mem_cons,RS.op,h1,h2];exact hK _ _
 refine Qh (Qe ?_);refine Wa ?_;have r5:∀(b:Bool),A9 prog KQ (X.inBlock 0 (X.sq prog Q11 (Q7 GN K))) [(4,Uv op),(5,.c (.bool b))] H:=by
  intro b;refine Wv ?_ ?_
  ·intro hc;refine We ?_;exact ret 0 0 _ ZB ZB
  intro hc;refine Wa ?_;have r8:∀(b:Bool),A9 prog KS (X.inBlock 0 (X.sq prog Q11 (Q7 GN K))) [(4,Uv op),(8,.c (.bool b))] H:=by
   intro b;refine Wv ?_ ?_
   ·intro hc;refine We ?_;exact ret 1 1 _ ZB ZB
   intro hc;refine Za ?_;refine Wv ?_ ?_
   ·intro hc;refine We ?_;exact ret 0 3 _ ZB ZB
   ·intro hc;refine Zc ?_;refine Za ?_;refine Qk ?_;exact ret 2 2 _ ZB ZB
  refine Wu ?_ ?_
  ·intro hc;refine Zc ?_;exact r8 _
  ·intro hc;refine Zh ?_;exact r8 _
 refine Wu ?_ ?_
 ·intro hc;refine Zc ?_;exact r5 _
 ·intro hc;refine Zh ?_;exact r5 _
theorem YI {op:Int}(hK:K (Uv (if op=4 then 2 else 1)) H):Qv prog Kx [Uv op] H K:=by
 refine Qd A6 Y1 ?_;refine Wh ?_;refine Wu ?_ ?_
 ·intro hc;refine Ws ?_;rw[if_pos ZD]at hK;exact hK
 ·intro hc;refine Zc ?_;refine Ws ?_;rw[if_neg ZD]at hK;exact hK
end Go.AE.Y
namespace Go.AE
open Go.AE.Y
open Go.Proofs.Tryz
variable {H:Heap}{K:Uk}
theorem Slc.keep {H':Heap}{sz:Nat}{rows:List (List C)}{b:C}{E L:Ul}(h:Slc H sz rows b)(kn:Kn H H' E L)(hE:∀l a c d,b=.ai l a c d->l∉E.map Prod.fst):Slc H' sz rows b:=by
 obtain⟨h1,h2,h3,h4⟩:=h
 cases b with
 |sl fl z rs=>exact⟨trivial,h2,h3,h4⟩
 |ai l z st n=>
  simp only[Go.AE.aW]at h1
  cases ho:H l with
  |vec y rs=>
   have:=kn.chg l (by rw[ho];simp) (hE l z st n rfl);refine⟨?_,h2,?_,h4⟩
   ·simp only[Go.AE.aW,this];exact h1
   ·simp only[Go.AE.rowsOf,this];exact h3
  |_=>rw[ho]at h1;exact h1.elim
 |_=>exact h1.elim
theorem Slc.keep0 {H':Heap}{sz:Nat}{rows:List (List C)}{b:C}{L:Ul}(h:Slc H sz rows b)(kn:Kn H H' [] L):Slc H' sz rows b:=h.keep kn ZC
end Go.AE
namespace Go.AE.Y
open Go.Proofs.Tryz
variable {H:Heap}{K:Uk}
def Qp (nx:Nat->List Int)(b:Int)(n:Nat):List Int:=((List.range n).filter λi=>(nx i).contains b).map Int.ofNat
theorem OM (nx:Nat->List Int)(b:Int)(n:Nat):Qp nx b (n+1)=Qp nx b n++if (nx n).contains b then [(n:Int)]else []:=by
 simp only[Qp,List.range_succ,List.filter_append,Ju];congr 1;cases h:(nx n).contains b
 ·simp only[Jaf,h,Jah];rfl
 ·simp only[Jaf,h,Jah,if_true];rfl
theorem CA (nx:Nat->List Int)(b:Int)(n:Nat):(Qp nx b n).length<=n:=by
 simp only[Qp,Jf];exact Jae (List.length_filter_le _ _) ZC
theorem LH {p rg:Int}{bc:C}{rows:List (List C)}{nx:Nat->List Int}{b:Int}(hs:Slc H 5 rows bc)(bt:bc.ah=false)
  (hx:∀i,i<rows.length->∃a1 a2 a3 a4 a5,rows.getD i []=[a1,a2,a3,a4,a5]/\a5.ah=false/\Slc H 1 (Qc (nx i)) a5)
  (hK:∀H',Upd H H' []->K (.c (.sl false 1 (Qc (Qp nx b rows.length)))) H'):Qv prog Q01 [.ag [Ui p,Ui rg,bc],Uv b] H K:=by
 refine Qz ?_;refine Qd A6 Qblt ?_;refine Wd ?_;refine Wa ?_;have am:=hs.len;have iU:=hs.sz;refine Qh (Qe (Qx (λn e1 H1=>∃(i:Nat) (c:C) (Lg:Ul),n=rows.length-i/\i<=rows.length/\Gr Lg 1 (Qc (Qp nx b i)) c/\Kn H H1 [] ([]++Lg)/\
  e1=[(1,Uv b),(2,.c (.pp [Ui p,Ui rg,bc])),(5,.c c),(6,Uv i)]) rows.length ?_ ?_))
 ·exact⟨0,_,[],ZA,ZA,.nil 1,Kn.ao H,rfl⟩
 ·rintro n e1 H1 ⟨i,c,Lg,cN,hi,ay,kn,rfl⟩;have cn:=hs.keep0 kn;have ew:=eq_true cn.ok;have iK:=cn.rows;refine Q1 (Qa ?_);simp only[go_sem,bt,ew,am];intro hl;simp only[LIM]at hl;refine Wu ?_ ?_
  ·intro hc;have af:i<rows.length:=ZD
   obtain⟨a1,a2,a3,a4,a5,aC,o5,oG⟩:=hx i af;have oG:=oG.keep0 kn;have jB:=eq_true oG.ok;have oU:=oG.len;have wb:=oG.sz;have wk:=oG.rows;refine Zc ?_;have turn:∀(e:Env) (H2:Heap) (c':C) (Lg':Ul),lk 1 e=Uv b->lk 2 e=.c (.pp [Ui p,Ui rg,bc])->lk 5 e=.c c'->lk 6 e=Uv i->
     Gr Lg' 1 (Qc (Qp nx b (i+1))) c'->Kn H H2 [] ([]++Lg')->
     A9 prog My (X.next (λe2 H2=>∃m,m<n/\∃(i:Nat) (c:C) (Lg:Ul),m=rows.length-i/\i<=rows.length/\Gr Lg 1 (Qc (Qp nx b i)) c/\Kn H H2 [] ([]++Lg)/\
      e2=[(1,Uv b),(2,.c (.pp [Ui p,Ui rg,bc])),(5,.c c),(6,Uv i)]) (X.inBlock 0 (X.sq prog Mx (Q7 A7 (unK H K))))) e H2:=by
    intro e H2 c' Lg' l1 l2 l5 l6 mo kn';refine Qq ?_;simp only[go_sem,l1,l2,l5,l6,X.next];exact⟨Qr,rows.length-(i+1),ZA,i+1,c',Lg',rfl,ZA,mo,by simpa using kn',rfl⟩
   refine Wf ?_;refine Qe (Qx (λn e1 H2=>∃(k:Nat),n=(nx i).length-k/\k<=(nx i).length/\b∉(nx i).take k/\H2=H1/\e1=[(1,Uv b),(2,.c (.pp [Ui p,Ui rg,bc])),(5,.c c),(6,Uv i),(7,Uv k)]) (nx i).length ?_ ?_)
   ·exact⟨0,ZA,ZA,ZC,rfl,rfl⟩
   ·rintro n e1 H2 ⟨k,gM,hk,bx,rfl,rfl⟩;refine Q1 (Qa ?_);simp only[go_sem,bt,ew,am,iU,iK,af,aC,o5,jB,oU,Qb];intro mg;simp only[LIM]at mg;refine Wu ?_ ?_
    ·intro hc;have aN:k<(nx i).length:=ZD;have b6:(nx i).getD k 0=(nx i)[k]:=(by simp[Jc,aN]);refine Wm ?_;simp only[go_sem,bt,ew,am,iU,iK,af,aC,o5,jB,oU,wb,wk,aN,Qb,Qo _ _ aN,b6];refine Wv ?_ ?_
     ·intro a7;have hb:(nx i)[k]=b:=ZF;have iv:(nx i).contains b=true:=(by rw[J9,<-hb];exact Jb aN);refine Za ?_;have cQ:=CA nx b i;refine kn.grow (B:=[]) (new:=Qc [(i:Int)]) ay (.mk' _ _ _ _) (Qw _) Zax λy' H3 kn=>?_;simp only[go_sem,Q56];refine Qu ?_;have nW:((2:Nat) == 3)=false:=rfl;rw[FB nW];simp only[go_sem,X.next];refine turn _ _ _ _ ZB ZB ZJ ZB ?_ kn;rw[OM,iv,if_pos rfl,De];exact .mk _ _ _ ZC
     ·intro a7;have hb:¬(nx i)[k]=b:=ZF;refine Wi ?_;refine⟨Qr,(nx i).length-(k+1),ZA,k+1,rfl,ZA,?_,rfl⟩;rw[Jh aN];simp only[Jk,Ja,not_or];exact⟨bx,λh=>hb h.symm⟩
    ·intro hc;have bp:(nx i).length<=k:=ZD;rw[Jd bp]at bx;have iv:(nx i).contains b=false:=by
      cases fy:(nx i).contains b with
      |false=>rfl
      |true=>exact absurd (J9.1 fy) bx
     refine Zb ?_;refine turn _ _ _ _ ZB ZB ZJ ZB ?_ kn;rw[OM,iv];simpa using ay
  ·intro hc;have bp:i=rows.length:=by have:rows.length<=i:=ZD;omega
   subst bp;refine Wp ?_;exact⟨_,.c _ _ (ay.frz kn (Qw _)),hK _ kn.fin⟩
theorem DG {p rg:Int}{bc:C}{rows:List (List C)}{nx:Nat->List Int}{b:Int}(hs:Slc H 5 rows bc)(bt:bc.ah=false)
  (hx:∀i,i<rows.length->∃a1 a2 a3 a4 fl,rows.getD i []=[a1,a2,a3,a4,.sl fl 1 (Qc (nx i))])
  (hK:∀H',Upd H H' []->K (.c (.sl false 1 (Qc (Qp nx b rows.length)))) H'):Qv prog Q01 [.ag [Ui p,Ui rg,bc],Uv b] H K:=
 LH hs bt (λi hi=>by
  obtain⟨a1,a2,a3,a4,fl,h⟩:=hx i hi;exact⟨a1,a2,a3,a4,_,h,rfl,.mk' _ _ _ _⟩) hK
def BQ (op:Int):Int:=if op=1 then 0 else if op=2\/op=10\/op=11\/op=13 then 1 else if (3<=op/\op<=9)\/op=12 then 2 else -1
theorem I1 {op:Int}(hK:K (Uv (BQ op)) H):Qv prog FS [Uv op] H K:=by
 refine Qd A6 Yx ?_;have retf:∀(n:Int) (e:Env),BQ op=n->lk 2 e=Uv n->Q7 A8 K .ret e H:=by
  intro b e h1 h3;simp only[go_sem,Q7,A5,Ja,forall_eq,RS.op,h3];rw[<-h1];exact hK
 refine Za ?_;refine Wf ?_;refine Wv ?_ ?_
 ·intro hc;refine We ?_;exact retf 0 _ (by simp only[decide_eq_true_eq]at hc;simp[BQ,hc]) ZB
 intro bB;refine Za ?_;refine Wv ?_ ?_
 ·intro hc;refine We ?_;exact retf 1 _ (by simp at bB hc;rw[BQ,if_neg bB,if_pos (by omega)]) ZB
 intro a7;refine Za ?_;refine B1 ?_;simp only[go_sem,MP];refine Wv ?_ ?_
 ·intro hc;refine We ?_;exact retf 2 _ (by simp at bB a7 hc;rw[BQ,if_neg bB,if_neg (by omega),if_pos (by omega)]) ZB
 ·intro hc;refine Zc ?_;refine Za ?_;refine Qk ?_;exact retf (-1) _ (by simp at bB a7 hc;rw[BQ,if_neg bB,if_neg (by omega),if_neg (by omega)]) ZB
theorem argsN_in {op:Int}:-1<=BQ op/\BQ op<=2:=by
 rw[BQ];split
 ·omega
 ·split
  ·omega
  ·split <;> omega
theorem Qbkx {op:Int}(hK:∀n:Int,-1<=n->n<=2->K (Uv n) H):Qv prog FS [Uv op] H K:=I1 (hK _ argsN_in.1 argsN_in.2)
def BR (op:Int):Bool:=decide (1<=op/\op<=14)&&!decide (op=12)&&!decide (op=13)
theorem Hb {op:Int}(hK:K (.c (.bool (BR op))) H):Qv prog Lj [Uv op] H K:=by
 refine Qd A6 Qbls ?_;refine Wd ?_;refine B1 ?_;simp only[go_sem,Ps];refine Zf ?_;have:∀a b c:Bool,(bif bif a then b else false then c else false)=(a&&b&&c):=ZN
 rw[this];exact hK
def BC (rg:Int)(l:List Int):Bool:=l.all λx=>decide (0<=x/\x<=rg-1)
theorem Qbgb {rg:Int}{l:List Int}{i:Nat}(hi:i<l.length):BC rg (l.take (i+1))=(BC rg (l.take i)&&decide (0<=l.getD i 0/\l.getD i 0<=rg-1)):=by
 have e:l.getD i 0=l[i]:=by simp[Jc,hi]
 rw[BC,Jh hi,Jag,e];simp[BC]
theorem Qbme {rg:Int}{l:List Int}{i:Nat}(hi:i<l.length)(h:decide (0<=l.getD i 0/\l.getD i 0<=rg-1)=false):BC rg l=false:=by
 have e:l.getD i 0=l[i]:=by simp[Jc,hi]
 cases hc:BC rg l with
 |false=>rfl
 |true=>
  rw[BC,J5]at hc;have:=hc _ (Jb hi);rw[e]at h;rw[h]at this;exact absurd this ZC
theorem IX {p rg:Int}{bc:C}{fl:Bool}{l:List Int}(hr:-(2^62)<=rg)(f9:rg<=2^62)(hK:K (.c (.bool (BC rg l))) H) :
  Qv prog KG [.ag [Ui p,Ui rg,bc],.c (.sl fl 1 (Qc l))] H K:=by
 refine Qd A6 YS ?_;have retf:∀(b:Bool) (e:Env),BC rg l=b->lk 4 e=.c (.bool b)->Q7 A7 K .ret e H:=by
  intro b e h1 h3;simp only[go_sem,Q7,A5,Ja,forall_eq,RS.op,h3];rw[<-h1];exact hK
 refine Wh ?_;refine Qh (Qe (Qx (λn e1 H1=>∃(i:Nat),n=l.length-i/\i<=l.length/\H1=H/\BC rg (l.take i)=true/\e1=[(1,.c (.sl fl 1 (Qc l))),(2,.c (.pp [Ui p,Ui rg,bc])),(5,Uv i)]) l.length ?_ ?_))
 ·exact⟨0,ZA,ZA,rfl,rfl,rfl⟩
 ·rintro n e1 H1 ⟨i,cN,hi,rfl,bI,rfl⟩;refine Q1 (Qa ?_);simp only[go_sem,Qb];intro hl;simp only[LIM]at hl;refine Wu ?_ ?_
  ·intro hc;have af:i<l.length:=ZD
   refine Wj ?_;refine AC ?_;simp only[go_sem,af,Qb,Qo _ _ af];refine⟨Qr,?_⟩;refine B1 ?_;simp only[go_sem,Mw];refine Wv ?_ ?_
   ·intro a7;refine Wn ?_;exact retf false _ (Qbme af (BM a7)) ZB
   ·intro a7;refine Wi ?_;exact⟨Qr,l.length-(i+1),ZA,i+1,rfl,ZA,by rw[Qbgb af,bI,Bi a7];rfl,rfl⟩
  ·intro hc;have bp:l.length<=i:=ZD
   rw[Jd bp]at bI;refine Wc ?_;refine Qk ?_;exact retf true _ bI ZB
def rgOf (cs:List CodeD)(k:Nat):Int:=(cs[k]?.map CodeD.ae).getD 0
def pmOf (cs:List CodeD)(k:Nat):Int:=(cs[k]?.map CodeD.params).getD 0
theorem GE {cs:List CodeD}{k:Nat}(h:k<cs.length):rgOf cs k=cs[k].ae:=by simp[rgOf,h]
theorem GG {cs:List CodeD}{k:Nat}(h:k<cs.length):pmOf cs k=cs[k].params:=by simp[pmOf,h]
def insH (rg:Int)(x:InsD):Bool:=decide (1<=x.op/\x.op<=14)&&BC rg x.args
def insT (rg:Int)(x:InsD):Bool:=if BR x.op then decide (0<=x.to/\x.to<=rg-1)else decide (x.to=-1)
def insL (cs:List CodeD)(k:Nat)(x:InsD):Bool:=
 if x.op=14 then decide (0<=x.n/\x.n<=(k:Int)-1)&&decide ((x.args.length:Int)=pmOf cs x.n.toNat)
 else decide ((x.args.length:Int)=BQ x.op)&&decide (0<=x.n/\x.n<=255)&&(decide (x.n=0) || decide (x.op=1))
def Be (cs:List CodeD)(k:Nat)(x:InsD):Bool:=insH (rgOf cs k) x&&insT (rgOf cs k) x&&insL cs k x
theorem Vc {cs:List CodeD}{fl:Bool}{k:Nat}{x:InsD}(hk:k<cs.length)(hr:0<=cs[k].ae)(f9:cs[k].ae<=300)(cA:cs.length<=100)(hK:∀(H':Heap),Upd H H' []->K (.c (.bool (Be cs k x))) H') :
  Qv prog I8 [.ag [.sl fl 3 (Qn cs)],Uv k,.ag x.cells] H K:=by
 refine Qz ?_;refine Qd A6 TR ?_;refine Zy ?_;refine Qa ?_;simp only[go_sem,hk,Q5,Cg _ _ hk,CodeD.cells];intro x7 b7 H1 h1;have kn:=(Kn.ao H).al b7 h1;have lu:=kn.l 0 rfl;simp only[go_sem,KK,lu];intro H2 h2;have kn:=kn.aA 0 rfl h2;have ge:=kn.l 0 rfl;have iM:=GE hk;have retf:∀(b:Bool) (e:Env),Be cs k x=b->lk 6 e=.c (.bool b)->Q7 AJ (unK H K) .ret e H2:=by
  intro b e h1 h3;simp only[go_sem,Q7,A5,Ja,forall_eq,RS.op,h3];rw[<-h1];exact⟨_,.c _ _ (Qg rfl),hK _ kn.fin⟩
 refine Wa ?_;refine B1 ?_;simp only[go_sem,Lh,ge];have rest:∀(E1:Env) (b:Bool),insH cs[k].ae x=(!b)->lk 1 E1=Uv k->lk 3 E1=.c (.pp [.sl fl 3 (Qn cs)])->lk 5 E1=.c (.pp [Ui x.op,Ui x.to,.sl false 1 (Qc x.args),Ui x.n])->lk 7 E1=Up x7->lk 23 E1=.c (.bool b)->
   A9 prog (s_l7Ins_3.seq KL) (Q7 AJ (unK H K)) E1 H2:=by
  intro E1 b hb l1 l3 l5 l7 l23;refine Qh (Qf l23 ?_ ?_)
  ·intro hc;refine We ?_;exact retf false _ (by rw[Be,iM,hb,hc];rfl) ZB
  intro hc;rw[hc]at hb;refine Zc ?_;refine Q1 (AC ?_);simp only[go_sem,l5,l7,ge];refine⟨Qr,?_⟩;refine Hb ?_;simp only[go_sem,Ld,ge];refine B1 ?_;simp only[go_sem,Lf,l5];have rest2:∀(E1:Env) (b:Bool),insT cs[k].ae x=(!b)->lk 1 E1=Uv k->lk 3 E1=.c (.pp [.sl fl 3 (Qn cs)])->lk 5 E1=.c (.pp [Ui x.op,Ui x.to,.sl false 1 (Qc x.args),Ui x.n])->lk 44 E1=.c (.bool b)->
    A9 prog (s_l7Ins_7.seq KM) (Q7 AJ (unK H K)) E1 H2:=by
   intro E1 b cx l1 l3 l5 l44;refine Qh (Qf l44 ?_ ?_)
   ·intro hc;refine We ?_;exact retf false _ (by rw[Be,iM,cx,hc];simp) ZB
   intro hc;rw[hc]at cx;have hG:Be cs k x=insL cs k x:=by rw[Be,iM,hb,cx];rfl
   refine Zc ?_;refine Q1 (Qa ?_);simp only[go_sem,l1,l3,l5];refine Wu ?_ ?_
   ·intro hc;have bG:x.op=14:=of_decide_eq_true hc;rw[insL,if_pos bG]at hG;refine Zz ?_;refine⟨Qr,?_⟩;refine B1 ?_;by_cases cq:0<=x.n/\x.n<=(k:Int)-1
    ·obtain⟨m,hm⟩:=Jo cq.1;have cD:m<cs.length:=ZA;have iq:(0<=(m:Int)/\(m:Int)<=(k:Int)-1)=True:=eq_true (by rw[<-hm];exact cq);simp only[go_sem,O3,hm,cD,Q5,Cg _ _ cD,CodeD.cells,Qb];refine Qk ?_;refine retf _ _ ?_ ZJ;rw[hG,hm,Int.toNat_natCast,GG cD];simp only[iq,decide_true,Bool.true_and];simp[show ((m:Int)<=(k:Int)-1) from by omega]
    ·have iq:decide (0<=x.n/\x.n<=(k:Int)-1)=false:=(by simpa using cq);by_cases hm:x.n.toNat<cs.length
     ·simp only[go_sem,O3,iq,Cg _ _ hm,CodeD.cells];refine Qk ?_;exact retf false _ (by rw[hG,iq];rfl) ZB
     ·have b6:(Qn cs).getD x.n.toNat []=[]:=by
       rw[Jc,List.getElem?_eq_none (by rw[Q5];omega)];rfl
      simp only[go_sem,O3,iq,b6,Jam,List.headD_nil];refine Qk ?_;exact retf false _ (by rw[hG,iq];rfl) ZB
   ·intro hc;have bG:¬x.op=14:=of_decide_eq_false hc;rw[insL,if_neg bG]at hG;refine Zc ?_;refine Zz ?_;refine I1 ?_;simp only[go_sem,Mz];refine⟨λhb=>?_,λhb=>?_⟩
    ·refine B1 ?_;simp only[go_sem,P6];refine Qk ?_;refine retf _ _ ?_ ZJ;have aT:(x.args.length:Int)=BQ x.op:=(by simpa[Qb]using hb);rw[hG];simp[aT,Qb]
    ·simp only[go_sem,P6,hb];refine Qk ?_;refine retf _ _ ?_ ZJ;have aT:¬(x.args.length:Int)=BQ x.op:=(by simpa[Qb]using hb);rw[hG];simp[aT]
  refine⟨λhb=>?_,λhb=>?_⟩
  ·refine Hb ?_;simp only[go_sem,Q14,l1,l3,l5];refine rest2 _ _ ?_ ZB ZB ZB ZJ
   cases cD:BR x.op with
   |true=>simp[insT,cD]
   |false=>by_cases h:x.to=-1 <;> simp[insT,cD,h]
  ·replace hb:=Bi hb;simp only[go_sem,Q14,l1,l3,l5,hb];refine rest2 _ true ?_ ZB ZB ZB ZB
   cases cD:BR x.op with
   |true=>simp[cD]at hb;simp[insT,cD];omega
   |false=>simp[cD]at hb;simp[insT,cD];omega
 refine⟨λhb=>?_,λhb=>?_⟩
 ·refine IX ZA ZA ?_;simp only[go_sem,Q13];refine rest _ _ ?_ ZB ZB ZB ZB ZJ;simp[insH]
 ·replace hb:=Bi hb;simp only[go_sem,Q13,hb];refine rest _ true ?_ ZB ZB ZB ZB ZB;rw[insH,BM hb];rfl
theorem InsD.cF (x:InsD):x.cells.take 4=x.cells:=rfl
theorem InsD.bv (x:InsD):(x.cells.all λc=>!c.ah)=true:=rfl
theorem InsD.len4 (x:InsD):x.cells.length=4:=rfl
theorem Xf (l:List BlkD)(i:Nat)(h:i<(Qm l).length):∃a1 a2 a3 a4 fl,(Qm l).getD i []=[a1,a2,a3,a4,.sl fl 1 (Qc ((l.map BlkD.next).getD i []))]:=by
 rw[Ql]at h;rw[Q9 _ _ h];have:(l.map BlkD.next).getD i []=l[i].next:=by simp[Jc,h]
 exact⟨.sl false 2 (Q3 l[i].ab),.sl false 4 (AD l[i].ins),Ui l[i].jump,Ui l[i].on,false,by rw[this];rfl⟩
theorem Pp {α:Type}{p:α->Bool}{l:List α}{i:Nat}(hi:i<l.length):(l.take (i+1)).all p=((l.take i).all p&&p l[i]):=by
 rw[Jh hi,Jag];simp
theorem Eu {α:Type}{p:α->Bool}{l:List α}{i:Nat}(hi:i<l.length)(h:p l[i]=false):l.all p=false:=by
 cases hc:l.all p with
 |false=>rfl
 |true=>rw[J5.1 hc _ (Jb hi)]at h;exact absurd h ZC
def Bd (j:Int):Int:=if j=1 then 1 else if j=2 then 2 else if j=3 then 0 else -1
def B0 (rg:Int)(y:BlkD):Bool:=decide ((y.next.length:Int)=Bd y.jump)&&if y.jump=1 then decide (y.on=0)else decide (0<=y.on/\y.on<=rg-1)
def Cj (n:Nat)(x:Int):Bool:=decide (1<=x/\x<=(n:Int)-1)
def phiG (rg:Int)(np b:Nat)(x:PhiD):Bool:=!decide (b=0)&&decide ((x.args.length:Int)=np)&&BC rg x.args&&decide (0<=x.to/\x.to<=rg-1)
def Bh (cs:List CodeD)(k b:Nat)(q:CodeD)(y:BlkD):Bool:=
 B0 q.ae y&&y.next.all (Cj (Qm q.blocks).length)&&y.ins.all (Be cs k)&&y.ab.all (phiG q.ae (Qp (λi=>(q.blocks.map BlkD.next).getD i []) (b:Int) (Qm q.blocks).length).length b)
theorem K7 {cs:List CodeD}{k b:Nat}{q:CodeD}{y:BlkD}(h:Bh cs k b q y=true):y.next.length<=2:=by
 simp only[Bh,B0,Jr,decide_eq_true_eq]at h;have:=h.1.1.1.1;rw[Bd]at this;split at this
 ·omega
 ·split at this
  ·omega
  ·split at this <;> omega
theorem Qbky {cs:List CodeD}{fl:Bool}{k b:Nat}(hk:k<cs.length)(ni:b<cs[k].blocks.length)(hr:0<=cs[k].ae)(f9:cs[k].ae<=300)(cA:cs.length<=100)(bk:cs[k].blocks.length<=200)(hK:∀(H':Heap),Upd H H' []->K (.c (.bool (Bh cs k b cs[k] cs[k].blocks[b]))) H') :
  Qv prog Lk [.ag [.sl fl 3 (Qn cs)],Uv k,Uv b] H K:=by
 refine Qz ?_;refine Qd A6 Qblr ?_;have retf:∀(v:Bool) (e:Env) (H':Heap) (L:Ul),Bh cs k b cs[k] cs[k].blocks[b]=v->Kn H H' [] L->lk 6 e=.c (.bool v)->Q7 AJ (unK H K) .ret e H':=by
  intro v e H' L hb kn h3;simp only[go_sem,Q7,A5,Ja,forall_eq,RS.op,h3];rw[<-hb];exact⟨_,.c _ _ (Qg rfl),hK _ kn.fin⟩
 refine Wk ?_;simp only[go_sem,hk,Q5,Cg _ _ hk,CodeD.cells];intro x7 b7 H1 h1;have kn:=(Kn.ao H).al b7 h1;have lu:=kn.l 0 rfl;simp only[go_sem,Pr,lu];intro H2 h2;have kn:=kn.aA 0 rfl h2;have ge:=kn.l 0 rfl;refine Qa ?_;simp only[go_sem,ge,ni,Ql,Q9 _ _ ni,BlkD.cells];obtain⟨y,hy⟩:∃y,cs[k].blocks[b]=y:=⟨_,rfl⟩;rw[hy];intro x8 be H3 h3;have kn:=kn.al be h3;have vw:=kn.l 1 rfl;simp only[go_sem,Q5v,vw];intro H4 h4;have kn:Kn H H4 [] [(x7,.st [Ui cs[k].params,Ui cs[k].ae,.sl false 5 (Qm cs[k].blocks)]),(x8,.st [.sl false 2 (Q3 y.ab),.sl false 4 (AD y.ins),Ui y.jump,Ui y.on,.sl false 1 (Qc y.next)])]:=kn.aA 1 rfl h4;obtain⟨q,hq⟩:∃q,cs[k]=q:=⟨_,rfl⟩;have hGe:Bh cs k b cs[k] cs[k].blocks[b]=Bh cs k b q y:=by rw[hy,hq]
 rw[hGe]at retf;rw[hq]at kn hr f9 ni bk;generalize lZ:(Qp (λi=>(q.blocks.map BlkD.next).getD i []) (b:Int) (Qm q.blocks).length).length=np;have ke:Bh cs k b q y=(B0 q.ae y&&y.next.all (Cj (Qm q.blocks).length)&&y.ins.all (Be cs k)&&y.ab.all (phiG q.ae np b)):=by rw[Bh,lZ]
 refine Za ?_;have ny:=kn.l 0 rfl;have ju:=kn.l 1 rfl;refine Q1 (Qa ?_);simp only[go_sem,ju];have rest31:∀(want:Int) (E1:Env),Bd y.jump=want->(y.jump=1->y.on=0)->lk 1 E1=Uv k->lk 2 E1=Uv b->lk 3 E1=.c (.pp [.sl fl 3 (Qn cs)])->lk 7 E1=Up x7->lk 8 E1=Up x8->lk 9 E1=Uv want->
   A9 prog Q5t (Q7 AJ (unK H K)) E1 H4:=by
  intro want E1 hw hjo l1 l2 l3 l7 l8 l9;refine Q1 (Qa ?_);simp only[go_sem,l7,l8,l9,ny,ju,Qb];intro bC;simp only[LIM]at bC;refine⟨λ_=>Qr,?_⟩;have rest8:∀(b1:Bool) (E1:Env),B0 q.ae y=(!b1)->lk 1 E1=Uv k->lk 2 E1=Uv b->lk 3 E1=.c (.pp [.sl fl 3 (Qn cs)])->lk 7 E1=Up x7->lk 8 E1=Up x8->lk 53 E1=.c (.bool b1)->
    A9 prog (s_l7Block_8.seq Q5s) (Q7 AJ (unK H K)) E1 H4:=by
   intro b1 E1 gM l1 l2 l3 l7 l8 l53;refine Qh (Qf l53 ?_ ?_)
   ·intro hc;refine We ?_;exact retf false _ _ _ (by rw[ke,gM,hc];simp) kn ZB
   intro rP;rw[rP]at gM;refine Zc ?_;refine Q1 (Qa ?_);simp only[go_sem,l1,l2,l3,l7,l8];refine Qh (Qe (Qx (λn e1 H1=>∃(i:Nat),n=y.next.length-i/\i<=y.next.length/\H1=H4/\(y.next.take i).all (Cj (Qm q.blocks).length)=true/\e1=[(1,Uv k),(2,Uv b),(3,.c (.pp [.sl fl 3 (Qn cs)])),(7,Up x7),(8,Up x8),(10,Uv i)]) y.next.length ?_ ?_))
   ·exact⟨0,ZA,ZA,rfl,rfl,rfl⟩
   ·rintro n e1 H1 ⟨i,cN,hi,rfl,mA,rfl⟩;refine Q1 (Qa ?_);simp only[go_sem,ju,Qb];refine λ_=>?_;refine Wu ?_ ?_
    ·intro hc;have af:i<y.next.length:=ZD;have b6:y.next.getD i 0=y.next[i]:=(by simp[Jc,af]);have uH:Cj (Qm q.blocks).length y.next[i]=decide (1<=y.next.getD i 0/\y.next.getD i 0<=(q.blocks.length:Int)-1):=(by rw[b6,Cj,Ql]);refine Wj ?_;refine AC ?_;simp only[go_sem,ju,ny,af,Qb,Qo _ _ af,Ql];refine⟨Qr,?_⟩;refine B1 ?_;simp only[go_sem,Q5w];refine Wv ?_ ?_
     ·intro a7;refine Wn ?_;exact retf false _ _ _ (by rw[ke,Eu af (by rw[uH];exact BM a7)];simp) kn ZB
     ·intro a7;refine Wi ?_;exact⟨Qr,y.next.length-(i+1),ZA,i+1,rfl,ZA,by rw[Pp af,<-Ql q.blocks,mA,uH,Bi a7];rfl,rfl⟩
    ·intro hc;have bp:y.next.length<=i:=ZD;rw[Jd bp]at mA;refine Zb ?_;refine Wa ?_;refine Qh (Qe (Qx (λn e1 H1=>∃(i:Nat),n=y.ins.length-i/\i<=y.ins.length/\Kn H H1 [] [(x7,.st [Ui q.params,Ui q.ae,.sl false 5 (Qm q.blocks)]),(x8,.st [.sl false 2 (Q3 y.ab),.sl false 4 (AD y.ins),Ui y.jump,Ui y.on,.sl false 1 (Qc y.next)])]/\(y.ins.take i).all (Be cs k)=true/\
      e1=[(1,Uv k),(2,Uv b),(3,.c (.pp [.sl fl 3 (Qn cs)])),(7,Up x7),(8,Up x8),(11,Uv i)]) y.ins.length ?_ ?_))
     ·exact⟨0,ZA,ZA,kn,rfl,rfl⟩
     ·rintro n e1 H5 ⟨i,cN,hi,kn,fS,rfl⟩;have pM:=kn.l 0 rfl;have sk:=kn.l 1 rfl;refine Q1 (Qa ?_);simp only[go_sem,sk,Bm];intro cj;simp only[LIM]at cj;refine Wu ?_ ?_
      ·intro hc;have af:i<y.ins.length:=ZD;refine Wj ?_;refine AC ?_;simp only[go_sem,sk,af,Bm,DJ _ _ af,InsD.cF,InsD.bv,InsD.len4];refine Vc hk (by rw[hq];omega) (by rw[hq];omega) cA λH6 hu=>?_;have kn:=kn.au hu;simp only[go_sem,Q0g];refine Wv ?_ ?_
       ·intro a7;refine Wn ?_;exact retf false _ _ _ (by rw[ke,Eu af (BM a7)];simp) kn ZB
       ·intro a7;refine Wi ?_;exact⟨Qr,y.ins.length-(i+1),ZA,i+1,rfl,ZA,kn,by rw[Pp af,fS,Bi a7];rfl,rfl⟩
      ·intro hc;have bp:y.ins.length<=i:=ZD;rw[Jd bp]at fS;refine Zb ?_;refine Zi pM ?_;refine DG (rows:=Qm q.blocks) (nx:=λi=>(q.blocks.map BlkD.next).getD i []) (.mk' _ _ _ _) rfl (Xf q.blocks) λH6 hu=>?_;have kn:=kn.au hu;simp only[go_sem,Q0h];refine Wa ?_;obtain⟨ps,fj⟩:∃ps,Qp (λi=>(q.blocks.map BlkD.next).getD i []) (b:Int) (Qm q.blocks).length=ps:=⟨_,rfl⟩;rw[fj];rw[fj]at lZ;have pL:=kn.l 0 rfl;have nv:=kn.l 1 rfl;refine Qh (Qe (Qx (λn e1 H1=>∃(i:Nat),n=y.ab.length-i/\i<=y.ab.length/\H1=H6/\(y.ab.take i).all (phiG q.ae np b)=true/\
        e1=[(2,Uv b),(7,Up x7),(8,Up x8),(12,.c (.sl false 1 (Qc ps))),(13,Uv i)]) y.ab.length ?_ ?_))
       ·exact⟨0,ZA,ZA,rfl,rfl,rfl⟩
       ·rintro n e1 H7 ⟨i,cN,hi,rfl,m9,rfl⟩;refine Q1 (Qa ?_);simp only[go_sem,nv,Qy];intro cQ;simp only[LIM]at cQ;refine Wu ?_ ?_
        ·intro hc;have af:i<y.ab.length:=ZD;refine Wj ?_;have fin:∀(b3:Bool) (E1:Env),phiG q.ae np b y.ab[i]=(!b3)->lk 2 E1=Uv b->lk 7 E1=Up x7->lk 8 E1=Up x8->lk 12 E1=.c (.sl false 1 (Qc ps))->lk 13 E1=Uv i->lk 135 E1=.c (.bool b3)->
           A9 prog Q5p (X.inBlock 6 (X.sq prog Q5q (X.next (λe2 H2=>∃m,m<n/\∃(i:Nat),m=y.ab.length-i/\i<=y.ab.length/\H2=H7/\(y.ab.take i).all (phiG q.ae np b)=true/\
            e2=[(2,Uv b),(7,Up x7),(8,Up x8),(12,.c (.sl false 1 (Qc ps))),(13,Uv i)]) (X.inBlock 5 (X.sq prog Q5r (Q7 AJ (unK H K))))))) E1 H7:=by
          intro b3 E1 eJ l2 l7 l8 l12 l13 l135;refine Qf l135 ?_ ?_
          ·intro a7;refine Wn ?_;exact retf false _ _ _ (by rw[ke,Eu af (by rw[eJ,a7];rfl)];simp) kn ZB
          ·intro a7;refine Zc ?_;refine Qq ?_;simp only[go_sem,X.next,l2,l7,l8,l12,l13];exact⟨Qr,y.ab.length-(i+1),ZA,i+1,rfl,ZA,by rw[Pp af,m9,eJ,a7];rfl,rfl⟩
         refine AC ?_;simp only[go_sem,nv,pL,af,Qy,BU _ _ af,PhiD.cells,Qb];refine⟨λbg=>?_,λbg=>?_⟩
         ·refine IX ZA ZA ?_;simp only[go_sem,PZ,nv,pL,af,Qy,BU _ _ af,PhiD.cells];refine⟨λ_=>Qr,?_⟩;refine⟨λcx=>?_,λcx=>?_⟩
          ·refine B1 ?_;simp only[go_sem,OO];refine fin _ _ ?_ ZB ZB ZB ZB ZB ZJ;simp[phiG,<-lZ]
          ·replace cx:=Bi cx;simp only[go_sem,OO,cx];refine fin true _ ?_ ZB ZB ZB ZB ZB ZB;subst lZ;simp at cx;simp[phiG];intro h1 h2 h3;simp[h1,h2,h3]at cx
         ·replace bg:=Bi bg;simp only[go_sem,PZ,OO,bg,nv,pL,af,Qy,BU _ _ af,PhiD.cells];refine fin true _ ?_ ZB ZB ZB ZB ZB ZB;subst lZ;simp at bg;simp[phiG];intro h1 h2 h3;simp[h1,h2]at bg
        ·intro hc;have bp:y.ab.length<=i:=ZD;rw[Jd bp]at m9;refine Wc ?_;refine Qk ?_;exact retf true _ _ _ (by rw[ke,gM,mA,fS,m9];rfl) kn ZB
  refine⟨λbg=>?_,λbg=>?_⟩
  ·refine B1 ?_;simp only[go_sem,OI,bg,l1,l2,l3,l7,l8];refine rest8 _ _ ?_ ZB ZB ZB ZB ZB ZJ;by_cases md:(y.next.length:Int)=want
   ·by_cases hj:y.jump=1
    ·simp[md,hj]at bg
    ·simp[B0,hw,md,hj]
   ·simp[md]at bg
  ·by_cases md:(y.next.length:Int)=want
   ·by_cases hj:y.jump=1
    ·simp only[go_sem,OI,md,hj,l1,l2,l3,l7,l8,decide_true,cond_false];have gI:Bd 1=want:=(by rw[<-hj];exact hw);refine rest8 _ _ ?_ ZB ZB ZB ZB ZB ZJ;simp[B0,gI,md,hj,hjo hj]
    ·simp[md,hj]at bg
   ·simp only[go_sem,OI,md,l1,l2,l3,l7,l8,decide_false,cond_true];by_cases hj:y.jump=1
    ·simp only[go_sem,hj,decide_true];exact rest8 true _ (by simp[B0,hw,md]) ZB ZB ZB ZB ZB ZB
    ·simp only[go_sem,hj,decide_false];exact rest8 true _ (by simp[B0,hw,md]) ZB ZB ZB ZB ZB ZB
 refine Wf ?_;refine Wv ?_ ?_
 ·intro hc;refine Zi ju ?_;refine Wv ?_ ?_
  ·intro a7;refine We ?_;exact retf false _ _ _ (by simp at hc a7;rw[ke];simp[B0,hc,a7]) kn ZB
  ·intro a7;refine Zc ?_;exact rest31 1 _ Zag (λ_=>ZF) ZB ZB ZB ZB ZB ZB
 intro bB;refine Za ?_;refine Wv ?_ ?_
 ·intro hc;refine Zh ?_;exact rest31 2 _ Zag (λh=>by simp at bB;exact absurd h bB) ZB ZB ZB ZB ZB ZB
 intro a7;refine Za ?_;refine Wv ?_ ?_
 ·intro hc;refine Zh ?_;exact rest31 0 _ Zag (λh=>by simp at bB;exact absurd h bB) ZB ZB ZB ZB ZB ZB
 ·intro hc;refine We ?_;exact retf false _ _ _ (by simp at bB a7 hc;rw[ke];simp[B0,Bd,bB,a7,hc]) kn ZB
theorem Qx9 {b:BlkD}(hb:b.sg)(hK:∀(o:OBlk) (H':Heap),Kn H H' [] o.lg->o.ok->o.d=b->(∀p∈o.ab,p.own)->K (.ag o.row) H'):Qv prog Qte [.ag b.cells] H K:=by
 have cr:=hb.n;have cB:=hb.i;have yn:=hb.p;refine CG ?_;refine Qd A6 Qara ?_;refine Qa ?_;simp only[go_sem,BlkD.cells];intro x2 aH H1 h1;have kn:=(Kn.ao H).al aH h1;refine AC ?_;simp only[go_sem,Qb,Jq,Jg];refine⟨.inl trivial,Qw _,by simp only[LIM];omega,λy hy H2 h2=>?_⟩;have kn:=kn.al hy h2;simp only[go_sem,Ql1];intro x3 aK H3 h3;have kn:=kn.al aK h3;have vH:=kn.l 2 rfl;simp only[go_sem,Ql0,vH];intro H4 h4;have kn:=kn.aA 2 rfl h4;obtain⟨nx,eC⟩:∃nx:OInts,nx=⟨b.next,y⟩:=⟨_,rfl⟩;have uI:C.ai y 1 0 b.next.length=nx.c:=by rw[eC];rfl
 have bC:[(y,Obj.vec 1 (Qc b.next))]=nx.lg:=by rw[eC];rfl
 rw[uI]at kn;have kn:Kn H H4 [] ([(x2,.st [.sl true 2 [],.sl true 4 [],Ui 0,Ui 0,.sl true 1 []]),(x3,.st [.sl true 2 [],.sl true 4 [],Ui b.jump,Ui b.on,nx.c])]++nx.lg):=kn.perm (by
  rw[<-bC];exact .cons _ (.swap _ _ _))
 refine Wa ?_;refine Qh (Qe (Qx (λn e1 H1=>∃(i:Nat) (ps:List OPhi) (pc:C) (pl:Ul),n=b.ab.length-i/\i<=b.ab.length/\ps.map OPhi.d=b.ab.take i/\(∀p∈ps,p.own)/\Gr pl 2 (ps.map OPhi.row) pc/\
  Kn H H1 [] (([(x2,.st [.sl true 2 [],.sl true 4 [],Ui 0,Ui 0,.sl true 1 []]),(x3,.st [pc,.sl true 4 [],Ui b.jump,Ui b.on,nx.c])]++(nx.lg++ps.flatMap OPhi.lg))++pl)/\
  e1=[(1,.c (.pp [.sl false 2 (Q3 b.ab),.sl false 4 (AD b.ins),Ui b.jump,Ui b.on,.sl false 1 (Qc b.next)])),(2,Up x2),(3,Up x3),(4,Uv i)]) b.ab.length ?_ ?_))
 ·exact⟨0,[],_,[],ZA,ZA,rfl,ZC,.nil 2,ZL,rfl⟩
 ·rintro n e1 H1 ⟨i,ps,pc,pl,cN,hi,qr,lP,ay,kn,rfl⟩;have sS:ps.length=i:=by have:=congrArg List.length qr;rw[Jf,J6]at this;omega
  have eO:=ay.ah;refine Q1 (Qa ?_);simp only[go_sem,Qy];intro hl;refine Wu ?_ ?_
  ·intro hc;have af:i<b.ab.length:=ZD
   have zy:=hb.pa _ (Jb af);have fv:=kn.l 1 rfl;refine Wl ?_;simp only[go_sem,fv,eO,af,Qy,BU _ _ af,PhiD.cells,Qb,Jq,Jg];refine⟨.inl trivial,Qw _,by simp only[LIM];omega,λa ha H5 h5=>?_⟩;have kn:=kn.al ha h5;have jv:=kn.l 1 rfl;simp only[go_sem,Ql3,jv,eO,af,Qy,BU _ _ af,PhiD.cells];obtain⟨o,ho⟩:∃o:OPhi,o=⟨b.ab[i].to,b.ab[i].args,.ai a 1 0 b.ab[i].args.length,[(a,.vec 1 (Qc b.ab[i].args))]⟩:=⟨_,rfl⟩;have nE:o.own:=by rw[ho];exact⟨a,rfl,rfl⟩
   have ku:o.ok:=.inl nE;have j9:[C.int IntKind.i64 b.ab[i].to,C.ai a 1 0 b.ab[i].args.length]=o.row:=Zbr
   have ev:[(a,Obj.vec 1 (Qc b.ab[i].args))]=o.lg:=by rw[ho]
   rw[j9];rw[ev]at kn;have kn:=kn.perm CT;refine kn.grow (new:=[o.row]) ay (.mk' _ _ _ _) (by intro r hr;simp only[Ja]at hr;subst hr;exact o.ak ku) ZO λz H6 kn=>?_;have kn:Kn H H6 [] (([(x2,.st [.sl true 2 [],.sl true 4 [],Ui 0,Ui 0,.sl true 1 []]),(x3,.st [pc,.sl true 4 [],Ui b.jump,Ui b.on,nx.c])]++(nx.lg++(ps++[o]).flatMap OPhi.lg))++[(z,.vec 2 ((ps++[o]).map OPhi.row))]):=by
    simpa[Jt,Jn]using kn
   have pR:=kn.l 1 rfl;simp only[go_sem,Ql2,pR];intro H7 h7;have kn:=kn.aA 1 rfl h7;refine Zg ?_;simp only[LIM]at hl;refine⟨Qr,b.ab.length-(i+1),ZA,i+1,ps++[o],_,_,rfl,ZA,by rw[Ju,qr,Jh af,ho];rfl,λp hp=>?_,?_,kn,rfl⟩
   ·rcases Jk.1 hp with h|h
    ·exact lP p h
    ·simp only[Ja]at h;subst h;exact nE
   ·exact .mk _ _ _ ZC
  ·intro hc;have sT:ps.map OPhi.d=b.ab:=by rw[qr,Jd ZD]
   refine Zb ?_;refine Wa ?_;refine Qh (Qe (Qx (λn e1 H1=>∃(i:Nat) (is:List OIns) (ic:C) (il:Ul),n=b.ins.length-i/\i<=b.ins.length/\is.map OIns.d=b.ins.take i/\(∀x∈is,x.a.ns.length<=1000000)/\Gr il 4 (is.map OIns.row) ic/\
    Kn H H1 [] (([(x2,.st [.sl true 2 [],.sl true 4 [],Ui 0,Ui 0,.sl true 1 []]),(x3,.st [pc,ic,Ui b.jump,Ui b.on,nx.c])]++(nx.lg++(ps.flatMap OPhi.lg++(pl++is.flatMap OIns.lg))))++il)/\
    e1=[(1,.c (.pp [.sl false 2 (Q3 b.ab),.sl false 4 (AD b.ins),Ui b.jump,Ui b.on,.sl false 1 (Qc b.next)])),(2,Up x2),(3,Up x3),(5,Uv i)]) b.ins.length ?_ ?_))
   ·exact⟨0,[],_,[],ZA,ZA,rfl,ZC,.nil 4,by simpa[Jn]using kn,rfl⟩
   ·rintro n e1 H1 ⟨i,is,ic,il,cN,hi,qO,xE,gP,kn,rfl⟩;have hisl:is.length=i:=(by have:=congrArg List.length qO;rw[Jf,J6]at this;omega);have da:=gP.ah;refine Q1 (Qa ?_);simp only[go_sem,Bm];intro hl;refine Wu ?_ ?_
    ·intro hc;have af:i<b.ins.length:=ZD;have xK:=hb.ia _ (Jb af);refine Wm ?_;simp only[go_sem,af,Bm,DJ _ _ af,InsD.cells];intro x6 aZ H5 h5;have kn:=kn.al aZ h5;have kn:=kn.perm (Jj (l₁:=_) (l₂:=[(x6,_)]));have lz:=kn.l 0 rfl;simp only[go_sem,Ql4,lz];intro H6 h6;have kn:=kn.aA 0 rfl h6;have ly:=kn.l 0 rfl;have pR:=kn.l 2 rfl;refine AY ?_;simp only[go_sem,ly,pR,da,Qb,Jq,Jg];refine⟨.inl trivial,Qw _,by simp only[LIM];omega,λa ha H7 h7=>?_⟩;have kn:=kn.al ha h7;have kh:=kn.l 0 rfl;have vG:=kn.l 2 rfl;simp only[go_sem,Ql6,kh,vG,da];obtain⟨o,ho⟩:∃o:OIns,o=⟨b.ins[i].op,b.ins[i].to,⟨b.ins[i].args,a⟩,b.ins[i].n⟩:=⟨_,rfl⟩;have j9:[C.int IntKind.i64 b.ins[i].op,C.int IntKind.i64 b.ins[i].to,C.ai a 1 0 b.ins[i].args.length,C.int IntKind.i64 b.ins[i].n]=o.row:=Zbr;have ev:[(a,Obj.vec 1 (Qc b.ins[i].args))]=o.lg:=Zbr;rw[j9];rw[ev]at kn;have kn:Kn H H7 [] ((([(x2,.st [.sl true 2 [],.sl true 4 [],Ui 0,Ui 0,.sl true 1 []]),(x3,.st [pc,ic,Ui b.jump,Ui b.on,nx.c])]++(nx.lg++(ps.flatMap OPhi.lg++(pl++is.flatMap OIns.lg))))++il)++o.lg):=by
      have kn:=kn.perm (Jj (l₁:=[(x6,_)]) (l₂:=_));exact kn.drop
     have kn:=kn.perm CT;refine kn.grow (new:=[o.row]) gP (.mk' _ _ _ _) (by simp[o.ak]) ZO λz H8 kn=>?_;have kn:Kn H H8 [] (([(x2,.st [.sl true 2 [],.sl true 4 [],Ui 0,Ui 0,.sl true 1 []]),(x3,.st [pc,ic,Ui b.jump,Ui b.on,nx.c])]++(nx.lg++(ps.flatMap OPhi.lg++(pl++(is++[o]).flatMap OIns.lg))))++[(z,.vec 4 ((is++[o]).map OIns.row))]):=by
      simpa[Jt,Jn]using kn
     have vF:=kn.l 1 rfl;simp only[go_sem,Ql5,vF];intro H9 h9;have kn:=kn.aA 1 rfl h9;refine Zg ?_;simp only[LIM]at hl;refine⟨Qr,b.ins.length-(i+1),ZA,i+1,is++[o],_,_,rfl,ZA,by rw[Ju,qO,Jh af,ho];rfl,λx hx=>?_,?_,kn,rfl⟩
     ·rcases Jk.1 hx with hx|hx
      ·exact xE x hx
      ·simp only[Ja]at hx;rw[hx,ho];exact xK
     ·exact .mk _ _ _ ZC
    ·intro hc;have tK:is.map OIns.d=b.ins:=(by rw[qO,Jd (by simpa using hc)]);have jx:=kn.l 0 rfl;have fv:=kn.l 1 rfl;refine Zb ?_;have qz:nx.c.ah=false:=rfl;refine Qa ?_;simp only[go_sem,jx,fv,eO,da,qz];intro H5 h5;have kn:=kn.aA 0 rfl h5;have vI:=kn.l 0 rfl;refine Qk ?_;simp only[go_sem,Q7,A5,Ja,forall_eq,RS.op,vI,eO,da,qz];obtain⟨o,ho⟩:∃o:OBlk,o=⟨ps,pc,pl,is,ic,il,b.jump,b.on,nx⟩:=⟨_,rfl⟩;have aw:o.ok:=(by rw[ho];exact⟨ay,gP,λp hp=>.inl (lP p hp)⟩);have gy:o.d=b:=by
      rw[ho];show BlkD.mk (ps.map OPhi.d) (is.map OIns.d) b.jump b.on nx.ns=b;rw[sT,tK,eC]
     have kn:Kn H H5 [] ([(x2,.st [pc,ic,Ui b.jump,Ui b.on,nx.c]),(x3,.st [pc,ic,Ui b.jump,Ui b.on,nx.c])]++o.lg):=by
      rw[ho];simpa[OBlk.lg,Jn]using kn
     refine⟨unx H o.lg,.ag o.row,H5.frz (unx H o.lg),?_,CP _ _,hK o _ kn.finK aw gy (by rw[ho];exact lP)⟩;rw[ho];exact FrzL.ag (.cons (.same _ eO) (.cons (.same _ da) (.cons (Qg rfl) (.cons (Qg rfl) (.cons (.same _ qz) .nil)))))
theorem BlkD.take5 (x:BlkD):x.cells.take 5=x.cells:=rfl
theorem BlkD.bv (x:BlkD):(x.cells.all λc=>!c.ah)=true:=rfl
theorem BlkD.len5 (x:BlkD):x.cells.length=5:=rfl
theorem CodeD.take3 (x:CodeD):x.cells.take 3=x.cells:=rfl
theorem CodeD.bv (x:CodeD):(x.cells.all λc=>!c.ah)=true:=rfl
theorem CodeD.len3 (x:CodeD):x.cells.length=3:=rfl
theorem OBlk.len5 (x:OBlk):x.row.length=5:=rfl
theorem OCode.len3 (x:OCode):x.row.length=3:=rfl
theorem Pi {q:CodeD}(hq:q.sg)(hK:∀(o:OCode) (H':Heap),Kn H H' [] o.lg->o.ok->o.d=q->(∀b∈o.blocks,∀p∈b.ab,p.own)->K (.ag o.row) H'):Qv prog Ow [.ag q.cells] H K:=by
 have hqb:=hq.b;refine CG ?_;refine Qd A6 YT ?_;refine Qa ?_;simp only[go_sem,CodeD.cells];intro x2 aH H1 h1;have kn:=(Kn.ao H).al aH h1;refine Za ?_;intro x3 aK H2 h2;have kn:=kn.al aK h2;have jw:=kn.l 1 rfl;simp only[go_sem,Ew,jw];intro H3 h3;have kn:=kn.aA 1 rfl h3;refine Wa ?_;refine Qh (Qe (Qx (λn e1 H1=>∃(i:Nat) (os:List OBlk) (bc:C) (bl:Ul),n=q.blocks.length-i/\i<=q.blocks.length/\os.map OBlk.d=q.blocks.take i/\(∀o∈os,o.ok/\∀p∈o.ab,p.own)/\Gr bl 5 (os.map OBlk.row) bc/\
  Kn H H1 [] (([(x2,.st [Ui 0,Ui 0,.sl true 5 []]),(x3,.st [Ui q.params,Ui q.ae,bc])]++os.flatMap OBlk.lg)++bl)/\
  e1=[(1,.c (.pp [Ui q.params,Ui q.ae,.sl false 5 (Qm q.blocks)])),(2,Up x2),(3,Up x3),(4,Uv i)]) q.blocks.length ?_ ?_))
 ·exact⟨0,[],_,[],ZA,ZA,rfl,ZC,.nil 5,ZL,rfl⟩
 ·rintro n e1 H1 ⟨i,os,bc,bl,cN,hi,gy,aw,ay,kn,rfl⟩;have ev:os.length=i:=by have:=congrArg List.length gy;rw[Jf,J6]at this;omega
  have cS:=ay.ah;have fv:=kn.l 1 rfl;refine Q1 (Qa ?_);simp only[go_sem,Ql];intro hl;simp only[LIM]at hl;refine Wu ?_ ?_
  ·intro hc;have af:i<q.blocks.length:=ZD
   refine Wl ?_;simp only[go_sem,fv,cS,af,Ql,Q9 _ _ af,BlkD.take5,BlkD.bv,BlkD.len5];refine Qx9 (hq.bs _ (Jb af)) λo H4 k2 iO uh nE=>?_;have kn:=kn.comp0 k2;have lC:=kn.l 1 rfl;simp only[go_sem,M0,lC,cS,o.len5];have kn:=kn.perm CT;refine kn.grow (new:=[o.row]) ay (.mk' _ _ _ _) (by intro r hr;simp only[Ja]at hr;subst hr;exact o.ak iO) ZO λz H5 kn=>?_;have kn:Kn H H5 [] (([(x2,.st [Ui 0,Ui 0,.sl true 5 []]),(x3,.st [Ui q.params,Ui q.ae,bc])]++(os++[o]).flatMap OBlk.lg)++[(z,.vec 5 ((os++[o]).map OBlk.row))]):=by
    simpa[Jt,Jn]using kn
   have jv:=kn.l 1 rfl;simp only[go_sem,M1,jv];intro H6 h6;have kn:=kn.aA 1 rfl h6;refine Zg ?_;refine⟨Qr,q.blocks.length-(i+1),ZA,i+1,os++[o],_,_,rfl,ZA,by rw[Ju,gy,Jh af,Jal,Jan,uh],λo' fA=>?_,.mk _ _ _ ZC,kn,rfl⟩;rcases Jk.1 fA with h|h
   ·exact aw o' h
   ·simp at h;subst h;exact⟨iO,nE⟩
  ·intro hc;have bp:q.blocks.length<=i:=ZD
   have jx:=kn.l 0 rfl;refine Zb ?_;refine Zp fv jx cS ?_;intro H4 h4;have kn:=kn.aA 0 rfl h4;have lD:=kn.l 0 rfl;refine Zl lD cS ?_;obtain⟨o,ho⟩:∃o:OCode,o=⟨q.params,q.ae,os,bc,bl⟩:=⟨_,rfl⟩;have gy:o.d=q:=by
    rw[ho];show CodeD.mk q.params q.ae (os.map OBlk.d)=q;rw[gy,Jd bp]
   have wG:∀b∈o.blocks,∀p∈b.ab,p.own:=by rw[ho];exact λb hb=>(aw b hb).2
   have aw:o.ok:=by rw[ho];exact⟨ay,λb hb=>(aw b hb).1⟩
   have kn:Kn H H4 [] ([(x2,.st [Ui q.params,Ui q.ae,bc]),(x3,.st [Ui q.params,Ui q.ae,bc])]++o.lg):=by
    rw[ho];simpa[OCode.lg,Jn]using kn
   refine⟨unx H o.lg,.ag o.row,H4.frz (unx H o.lg),?_,CP _ _,hK o _ kn.finK aw gy wG⟩;rw[ho];exact FrzL.ag (.cons (Qg rfl) (.cons (Qg rfl) (.cons (.same _ cS) .nil)))
theorem YE {q:CodeD}(hq:q.sm)(hK:∀(o:OCode) (H':Heap),Kn H H' [] o.lg->o.ok->o.d=q->o.sm 1000->K (.ag o.row) H'):Qv prog Ow [.ag q.cells] H K:=
 Pi hq.sg λo H' k1 k2 k3 _=>hK o H' k1 k2 k3 (by rw[<-k3]at hq;exact hq.o)
theorem Qawj {cs:List CodeD}{fl:Bool}(hs:∀c∈cs,c.sm)(hl:cs.length<=1000000)
  (hK:∀(us:List OCode) (cc:C) (cl:Ul) (H':Heap),Kn H H' [] (us.flatMap OCode.lg++cl)->Gr cl 3 (us.map OCode.row) cc->(∀u∈us,u.ok/\u.sm 1000)->us.length=cs.length->K (.ag [cc]) H') :
  Qv prog Qxw [.ag [.sl fl 3 (Qn cs)]] H K:=by
 refine CG ?_;refine Qd A6 Qawy ?_;refine Za ?_;intro x2 aH H1 h1;have kn:=(Kn.ao H).al aH h1;refine Za ?_;intro x3 aK H2 h2;have kn:=kn.al aK h2;have jw:=kn.l 1 rfl;simp only[go_sem,O8,jw];intro H3 h3;have kn:=kn.aA 1 rfl h3;refine Wa ?_;refine Qh (Qe (Qx (λn e1 H1=>∃(i:Nat) (os:List OCode) (bc:C) (bl:Ul),n=cs.length-i/\i<=cs.length/\os.length=i/\(∀o∈os,o.ok/\o.sm 1000)/\Gr bl 3 (os.map OCode.row) bc/\
  Kn H H1 [] (([(x2,.st [.sl true 3 []]),(x3,.st [bc])]++os.flatMap OCode.lg)++bl)/\
  e1=[(1,.c (.pp [.sl fl 3 (Qn cs)])),(2,Up x2),(3,Up x3),(4,Uv i)]) cs.length ?_ ?_))
 ·exact⟨0,[],_,[],ZA,ZA,rfl,ZC,.nil 3,ZL,rfl⟩
 ·rintro n e1 H1 ⟨i,os,bc,bl,cN,hi,ev,aw,ay,kn,rfl⟩;have cS:=ay.ah;have fv:=kn.l 1 rfl;refine Q1 (Qa ?_);simp only[go_sem,Q5];intro _;refine Wu ?_ ?_
  ·intro hc;have af:i<cs.length:=ZD
   refine Wl ?_;simp only[go_sem,fv,cS,af,Q5,Cg _ _ af,CodeD.take3,CodeD.bv,CodeD.len3];refine YE (hs _ (Jb af)) λo H4 k2 iO _ bh=>?_;have kn:=kn.comp0 k2;have lC:=kn.l 1 rfl;simp only[go_sem,Qq4,lC,cS,o.len3];have kn:=kn.perm CT;refine kn.grow (new:=[o.row]) ay (.mk' _ _ _ _) (by intro r hr;simp only[Ja]at hr;subst hr;exact o.ak iO) ZO λz H5 kn=>?_;have kn:Kn H H5 [] (([(x2,.st [.sl true 3 []]),(x3,.st [bc])]++(os++[o]).flatMap OCode.lg)++[(z,.vec 3 ((os++[o]).map OCode.row))]):=by
    simpa[Jt,Jn]using kn
   have jv:=kn.l 1 rfl;simp only[go_sem,Qq3,jv];intro H6 h6;have kn:=kn.aA 1 rfl h6;refine Zg ?_;refine⟨Qr,cs.length-(i+1),ZA,i+1,os++[o],_,_,rfl,ZA,by simp[ev],λo' fA=>?_,.mk _ _ _ ZC,kn,rfl⟩;rcases Jk.1 fA with h|h
   ·exact aw o' h
   ·simp at h;subst h;exact⟨iO,bh⟩
  ·intro hc;have bp:cs.length<=i:=ZD
   have jx:=kn.l 0 rfl;refine Zb ?_;refine Zp fv jx cS ?_;intro H4 h4;have kn:=kn.aA 0 rfl h4;have lD:=kn.l 0 rfl;refine Zl lD cS ?_;have kn:Kn H H4 [] ([(x2,.st [bc]),(x3,.st [bc])]++(os.flatMap OCode.lg++bl)):=by
    simpa[Jn]using kn
   exact⟨unx H _,.ag [bc],H4.frz (unx H _),FrzL.ag (.cons (.same _ cS) .nil),CP _ _,hK os bc bl _ kn.finK ay aw ZA⟩
structure CRd (H:Heap)(R:Rdr)(cc:C)(rows:List (List C)):Prop where
 s:Slc H 3 rows cc
 ow:cc.ah=false
 ne:∀l a c d,cc=.ai l a c d->l≠R.l
 r:∀i,i<rows.length->∃(p:Int) (c1 c2:C),rows.getD i []=[Ui p,c1,c2]/\0<=p/\p<=3
theorem CRd.keep {R:Rdr}{cc:C}{rows:List (List C)}{o:Obj}{H':Heap}{L:Ul}(h:CRd H R cc rows)(kn:Kn H H' [(R.l,o)] L):CRd H' R cc rows:=
 ⟨h.s.keep kn (λl a c d hh=>by simpa using h.ne l a c d hh),h.ow,h.ne,h.r⟩
theorem Fq {R:Rdr}{k b n:Nat}(hH:H R.l=R.o k)(hk:k+2<=2^40)(hb:b<=1000)(hn:n<=1000)
  (hK:∀(v:Int) (H':Heap) (k':Nat),k<k'->k'<=k+2->Upd H H' [(R.l,R.o k')]->K (Uv v) H') :
  Qv prog Ih [.c (.ptr R.l 0),Uv b,Uv n] H K:=by
 refine Qz ?_;refine Qd A6 SJ ?_;have kn:=Kn.start1 hH (R.an k);refine Wh ?_;refine⟨Qr,?_⟩;have rest:∀(v:Bool) (H2:Heap) (k2:Nat),k<=k2->k2<=k+1->Kn H H2 [(R.l,R.o k2)] []->
   A9 prog (s_l7To_2.seq I0) (Q7 AJ (unK H K)) [(0,.c (.ptr R.l 0)),(1,Uv b),(2,Uv n),(15,.c (.bool v))] H2:=by
  intro v H2 k2 i9 fx kn;have pv:∀m v:Int,m<=1000->(if m<1 then v=0 else 0<=v/\v<m)->0<=v/\v<=1000:=by
   intro m v hm hv;split at hv <;> omega
  refine Wu ?_ ?_
  ·intro hc;refine Za ?_;refine⟨Qr,Qr,Qr,?_⟩;refine AX (kn.e 0 rfl) ZA λv H3 hv hu=>?_;have kn:=kn.aq 0 rfl hu (R.an _);have hv:=pv _ _ ZA hv;simp only[go_sem,Of];refine⟨Qr,?_⟩;refine Zf ?_;exact⟨_,.c _ _ (Qg rfl),hK _ _ (k2+1) ZA ZA kn.fin⟩
  ·intro hc;refine Zc ?_;refine Za ?_;refine⟨Qr,?_⟩;refine AX (kn.e 0 rfl) ZA λv H3 hv hu=>?_;have kn:=kn.aq 0 rfl hu (R.an _);have hv:=pv _ _ ZA hv;simp only[go_sem,Oe];refine⟨Qr,?_⟩;refine Zf ?_;exact⟨_,.c _ _ (Qg rfl),hK _ _ (k2+1) ZA ZA kn.fin⟩
 refine⟨λbg=>?_,λbg=>?_⟩
 ·refine AX (kn.e 0 rfl) ZA λv H3 hv hu=>?_;have kn:=kn.aq 0 rfl hu (R.an _);simp only[go_sem,FM,bg];exact rest _ _ (k+1) ZA ZA kn
 ·simp only[go_sem,FM,bg];exact rest _ _ k ZA ZA kn
theorem YC {R:Rdr}{k:Nat}{cc:C}{rows:List (List C)}{ae:Int}(hH:H R.l=R.o k)(hk:k+9<=2^40)(hc:CRd H R cc rows)
  (hK:∀(x:InsD) (H':Heap) (k':Nat),k<k'->k'<=k+9->Upd H H' [(R.l,R.o k')]->x.args.length<=3->K (.ag x.cells) H') :
  Qv prog KF [.c (.ptr R.l 0),.ag [cc],Uv ae] H K:=by
 refine Qz ?_;refine Qd A6 YR ?_;have bt:=hc.ow;have am:=hc.s.len;have iU:=hc.s.sz;refine Za ?_;intro x6 aZ H1 h1;have kn:=(Kn.start1 hH (R.an k)).al aZ h1;refine Za ?_;refine BA (ns:=[1,1,2,3,4,5,8,9,10,13,3,6,7,11,12,14]) (kn.e 0 rfl) ZA ZC λop H2 bG hu=>?_;have kn:=kn.aq 0 rfl hu (R.an _);simp only[go_sem,MJ];refine Za ?_;refine AX (kn.e 0 rfl) ZA λto H3 zk hu=>?_;have kn:=kn.aq 0 rfl hu (R.an _);simp only[go_sem,MH,MI];intro x8 be H4 h4;have kn:=kn.al be h4;have ju:=kn.l 1 rfl;simp only[go_sem,ju];intro H5 h5;have kn:=kn.aA 1 rfl h5;refine Za ?_;refine Qbkx λmany xe eW=>?_;simp only[go_sem,Ch];have args:∀(many:Int) (to n:Int) (H6:Heap) (k6:Nat),many<=3->k<k6->k6<=k+4->Kn H H6 [(R.l,R.o k6)] [(x6,.st [Ui 0,Ui 0,.sl true 1 [],Ui 0]),(x8,.st [Ui op,Ui to,.sl true 1 [],Ui n])]->
   A9 prog MM (Q7 D9 (unK H K)) [(0,.c (.ptr R.l 0)),(2,Uv ae),(6,Up x6),(8,Up x8),(9,Uv many)] H6:=by
  intro many to n H6 k6 mc i9 fx kn;refine Wa ?_;refine Qh (Qe (Qx (λm e1 H1=>∃(i:Nat) (ns:List Int) (ac:C) (al:Ul),m=3-i/\i<=3/\ns.length=i/\Gr al 1 (Qc ns) ac/\
   Kn H H1 [(R.l,R.o (k6+i))] ([(x6,.st [Ui 0,Ui 0,.sl true 1 [],Ui 0]),(x8,.st [Ui op,Ui to,ac,Ui n])]++al)/\
   e1=[(0,.c (.ptr R.l 0)),(2,Uv ae),(6,Up x6),(8,Up x8),(9,Uv many),(10,Uv i)]) 3 ?_ ?_))
  ·exact⟨0,[],_,[],ZA,ZA,rfl,.nil 1,ZL,rfl⟩
  ·rintro m e1 H7 ⟨i,ns,ac,al,hm,hi,dv,ay,kn,rfl⟩;have fm:=ay.ah;have be:=kn.l 1 rfl;refine Wa ?_;refine Wu ?_ ?_
   ·intro hc;have af:(i:Int)<many:=ZD;refine Wj ?_;refine AY ?_;simp only[go_sem,be,fm];refine AX (kn.e 0 rfl) ZA λv H8 hv hu=>?_;have kn:=kn.aq 0 rfl hu (R.an _);have be:=kn.l 1 rfl;simp only[go_sem,Q6a,be,fm];refine kn.grow (new:=Qc [v]) ay (.mk' _ _ _ _) (Qw _) Zax λy H9 kn=>?_;have be:=kn.l 1 rfl;simp only[go_sem,Q59,be];intro H10 dh;have kn:=kn.aA 1 rfl dh;refine Zg ?_;refine⟨Qr,3-(i+1),ZA,i+1,ns++[v],_,_,rfl,ZA,by simp[dv],?_,kn,rfl⟩;rw[<-De];exact .mk _ _ _ (by simp[De,Qb])
   ·intro hc;refine Zb ?_;have aZ:=kn.l 0 rfl;refine Zp be aZ fm ?_;intro H8 h8;have kn:Kn H H8 [(R.l,R.o (k6+i))] ([(x6,.st [Ui op,Ui to,ac,Ui n]),(x8,.st [Ui op,Ui to,ac,Ui n])]++al):=kn.aA 0 rfl h8;have aZ:=kn.l 0 rfl;refine Zl aZ fm ?_;exact⟨.ag (InsD.mk op to ns n).cells,FrzL.ag (.cons (Qg rfl) (.cons (Qg rfl) (.cons (ay.frz kn (Qw _)) (.cons (Qg rfl) .nil)))),hK ⟨op,to,ns,n⟩ _ (k6+i) ZA ZA kn.fin (by show ns.length<=3;omega)⟩
 have rest:∀(many n:Int) (H6:Heap) (k6:Nat) (E1:Env),lk 0 E1=.c (.ptr R.l 0)->lk 2 E1=Uv ae->lk 6 E1=Up x6->lk 7 E1=Uv op->lk 8 E1=Up x8->lk 9 E1=Uv many->many<=3->k<k6->k6<=k+3->Kn H H6 [(R.l,R.o k6)] [(x6,.st [Ui 0,Ui 0,.sl true 1 [],Ui 0]),(x8,.st [Ui op,Ui to,.sl true 1 [],Ui n])]->
   A9 prog MK (Q7 D9 (unK H K)) E1 H6:=by
  intro many n H6 k6 E1 l0 l2 l6 l7 l8 l9 mc i9 fx kn;have rest2:∀(n:Int) (H6:Heap) (k6:Nat) (E1:Env),lk 0 E1=.c (.ptr R.l 0)->lk 2 E1=Uv ae->lk 6 E1=Up x6->lk 7 E1=Uv op->lk 8 E1=Up x8->lk 9 E1=Uv many->k<k6->k6<=k+4->Kn H H6 [(R.l,R.o k6)] [(x6,.st [Ui 0,Ui 0,.sl true 1 [],Ui 0]),(x8,.st [Ui op,Ui to,.sl true 1 [],Ui n])]->
    A9 prog ML (Q7 D9 (unK H K)) E1 H6:=by
   intro n H6 k6 E1 l0 l2 l6 l7 l8 l9 i9 fx kn;refine Wa ?_;simp only[l7,true_and];refine Hb ?_;simp only[go_sem,Q58,l0,l2,l6,l8,l9];refine Wu ?_ ?_
   ·intro hc;have be:=kn.l 1 rfl;refine Qq ?_;simp only[go_sem,be];intro H7 h7;have kn:=kn.aA 1 rfl h7;exact args many (-1) n H7 k6 mc i9 fx kn
   ·intro hc;refine Zc ?_;exact args many to n H6 k6 mc i9 fx kn
  refine Q1 (Qa ?_);simp only[go_sem,l0,l2,l6,l7,l8,l9];refine Wu ?_ ?_
  ·intro hc;refine Zh ?_;refine BA (ns:=[0,1,2,3,15,16,255]) (kn.e 0 rfl) ZA ZC λn2 H7 gM hu=>?_;have kn:=kn.aq 0 rfl hu (R.an _);have be:=kn.l 1 rfl;simp only[go_sem,Q57,be];intro H8 h8;have kn:=kn.aA 1 rfl h8;exact rest2 n2 H8 (k6+1) _ ZB ZB ZB ZB ZB ZB ZA ZA kn
  ·intro hc;refine Zc ?_;exact rest2 n H6 k6 _ ZB ZB ZB ZB ZB ZB ZA ZA kn
 refine Wa ?_;refine Wu ?_ ?_
 ·intro oL;have eU:=hc.keep kn;have jB:=eq_true eU.s.ok;refine Q1 (Qa ?_);simp only[go_sem,bt,am,jB];intro hl;refine Wu ?_ ?_
  ·intro h0;refine Za ?_;refine AX (kn.e 0 rfl) ZA λv H6 hv hu=>?_;have kn:=kn.aq 0 rfl hu (R.an _);have aZ:=kn.l 0 rfl;simp only[go_sem,Mv,aZ];intro H7 h7;have kn:=kn.aA 0 rfl h7;have aZ:=kn.l 0 rfl;refine Zj aZ ?_;exact⟨.ag (InsD.mk 13 (-1) [v] 0).cells,FrzL.ag (.cons (Qg rfl) (.cons (Qg rfl) (.cons (FrzR.same (Qw [v])).sl (.cons (Qg rfl) .nil)))),hK ⟨13,-1,[v],0⟩ _ (k+3) ZA ZA kn.fin ZC⟩
  ·intro h0;have lR:0<rows.length:=by
    have:¬rows.length=0:=(by simpa using h0);omega
   refine Zc ?_;refine Zp bt am jB ?_;intro _;refine AX (kn.e 0 rfl) ZA λv H6 hv hu=>?_;have kn:=kn.aq 0 rfl hu (R.an _);rw[if_neg ZA]at hv;obtain⟨i,rfl⟩:=Jo hv.1;have hi:i<rows.length:=ZA
   obtain⟨p,c1,c2,aC,iN,hp3⟩:=hc.r i hi;have be:=kn.l 1 rfl;simp only[go_sem,Mu,be];intro H7 h7;have kn:=kn.aA 1 rfl h7;have be:=kn.l 1 rfl;have zY:=hc.keep kn;have wN:=eq_true zY.s.ok;have wj:=zY.s.rows;refine Qq ?_;simp only[go_sem,bt,am,wN,wj,iU,be,hi,aC];exact rest p i H7 (k+3) _ ZB ZB ZB ZB ZB ZB ZA ZA ZA kn
 ·intro oL;refine Zc ?_;exact rest many 0 H5 (k+2) _ ZB ZB ZB ZB ZB ZB ZA ZA ZA kn
theorem TK {α:Type}{a M b c:List α}:(a++(M++b)++c).Perm (((M++c)++b)++a):=by
 refine Jj.trans ?_;refine (List.Perm.append_left _ (Jj (l₁:=a))).trans ?_;rw[<-Jn];refine .append_right _ ?_;rw[<-Jn];exact .append_right _ Jj
def EnvA (R:Rdr)(cc:C)(x4 x5 x8 n b:Nat)(e:Env):Prop:=
 lk 0 e=.c (.ptr R.l 0)/\lk 3 e=.c (.pp [cc])/\lk 4 e=.c (.ptr x4 0)/\lk 5 e=.c (.ptr x5 0)/\lk 6 e=.c (.int .i64 n)/\lk 7 e=.c (.int .i64 b)/\lk 8 e=.c (.ptr x8 0)
theorem YF {R:Rdr}{k:Nat}{cc:C}{rows:List (List C)}(hH:H R.l=R.o k)(hk:k+1000<=2^40)(hc:CRd H R cc rows)
  (hK:∀(o:UCode) (H':Heap) (k':Nat),k<k'->k'<=k+1000->Kn H H' [(R.l,R.o k')] o.lg->o.ok->o.sm 0->K (.ag o.row) H') :
  Qv prog KH [.c (.ptr R.l 0),.ag [cc]] H K:=by
 refine CG ?_;refine Qd A6 YU ?_;have bt:=hc.ow;refine Za ?_;intro x4 aY H1 h1;have kn:=(Kn.start1 hH (R.an k)).al aY h1;refine Za ?_;refine BA (ns:=[1,0,2,3]) (kn.e 0 rfl) ZA ZC λp H2 hp hu=>?_;have kn:=kn.aq 0 rfl hu (R.an _);have hp:0<=p/\p<=3:=by simp at hp;omega
 simp only[go_sem,M9];intro x5 bm H3 h3;have kn:=kn.al bm h3;have eN:=kn.l 1 rfl;simp only[go_sem,Ey,eN];intro H4 h4;have kn:=kn.aA 1 rfl h4;have gf:=kn.l 1 rfl;refine AC ?_;simp only[go_sem,gf];refine⟨Qr,?_⟩;refine AX (kn.e 0 rfl) ZA λq H5 hq hu=>?_;have kn:=kn.aq 0 rfl hu (R.an _);have nz:=kn.l 1 rfl;rw[if_neg ZA]at hq;simp only[go_sem,M8,nz];refine⟨Qr,?_⟩;intro H6 h6;have kn:=kn.aA 1 rfl h6;obtain⟨rg,iM⟩:∃rg,p+2+q=rg:=⟨_,rfl⟩;rw[iM]at kn;refine Za ?_;refine BA (ns:=[3,5,2,1,7,4]) (kn.e 0 rfl) ZA ZC λn0 H7 cd hu=>?_;have kn:=kn.aq 0 rfl hu (R.an _);simp only[go_sem,M7];obtain⟨n,rfl,cN,hn7⟩:∃n:Nat,n0=n/\1<=n/\n<=7:=⟨n0.toNat,by simp at cd;omega⟩;refine Wa ?_;refine Qh (Qe (Qx (λm e1 H1=>∃(b k1:Nat) (bs:List UBlk) (bc:C) (bl:Ul),m=n-b/\b<=n/\bs.length=b/\k<k1/\k1<=k+3+50 * b/\(∀o∈bs,o.ok/\o.sm 0)/\Gr bl 5 (bs.map UBlk.row) bc/\
  Kn H H1 [(R.l,R.o k1)] (([(x4,.st [Ui 0,Ui 0,.sl true 5 []]),(x5,.st [Ui p,Ui rg,bc])]++bs.flatMap UBlk.lg)++bl)/\
  e1=[(0,.c (.ptr R.l 0)),(3,.c (.pp [cc])),(4,Up x4),(5,Up x5),(6,Uv n),(7,Uv b)]) n ?_ ?_))
 ·exact⟨0,k+1+1+1,[],_,[],ZA,ZA,rfl,ZA,ZA,ZC,.nil 5,ZL,rfl⟩
 ·rintro m e1 H8 ⟨b,k1,bs,bc,bl,hm,hb,kH,i9,fx,aw,ay,kn,rfl⟩;have cS:=ay.ah;refine Wa ?_;refine Wu ?_ ?_
  ·intro bB;have af:b<n:=Zar
   refine Zc ?_;refine Wf ?_;intro x8 be H9 h9;have kn:=kn.al be h9;have kn:=kn.perm Jj;have vt:=kn.l 0 rfl;simp only[go_sem,M6,vt];intro H10 dh;have kn:=kn.aA 0 rfl dh;refine Wa ?_;refine BA (ns:=[1,2,0,3,4]) (kn.e 0 rfl) ZA ZC λi0 H11 kY hu=>?_;have kn:=kn.aq 0 rfl hu (R.an _);simp only[go_sem,M5];obtain⟨i,rfl,hi4⟩:∃i:Nat,i0=i/\i<=4:=⟨i0.toNat,by simp at kY;omega⟩;refine Qh (Qe (Qx (λm e1 H1=>∃(t k2:Nat) (ds:List InsD) (ic:C) (il:Ul),m=t/\t+ds.length=i/\k1<k2/\k2<=k1+1+9 * ds.length/\(∀d∈ds,d.args.length<=3)/\Gr il 4 (AD ds) ic/\
    Kn H H1 [(R.l,R.o k2)] (([(x8,.st [.sl true 2 [],ic,Ui 0,Ui 0,.sl true 1 []])]++(([(x4,.st [Ui 0,Ui 0,.sl true 5 []]),(x5,.st [Ui p,Ui rg,bc])]++bs.flatMap UBlk.lg)++bl))++il)/\
    e1=[(0,.c (.ptr R.l 0)),(3,.c (.pp [cc])),(4,Up x4),(5,Up x5),(6,Uv n),(7,Uv b),(8,Up x8),(9,Uv t)]) i ?_ ?_))
   ·refine⟨i,k1+1,[],_,[],rfl,rfl,ZA,ZC,ZC,.nil 4,ZL,rfl⟩
   ·rintro m2 e1 H12 ⟨t,k2,ds,ic,il,eW,ht,iR,iQ,fD,gP,kn,rfl⟩;have da:=gP.ah;have be:=kn.l 0 rfl;have bm:=kn.l 2 rfl;refine Wa ?_;refine Wu ?_ ?_
    ·intro a7;have uC:0<t:=ZF;refine Wj ?_;refine AY ?_;simp only[go_sem,be,bm,da,bt];refine YC (kn.e 0 rfl) ZA (hc.keep kn) λd H13 k3 xz zG hu hd=>?_;have kn:=kn.aq 0 rfl hu (R.an _);have be:=kn.l 0 rfl;simp only[go_sem,M3,be,da,InsD.len4];refine kn.grow (new:=[d.cells]) gP (.mk' _ _ _ _) (by intro r hr;simp only[Ja]at hr;subst hr;rfl) (by simp only[Bm,LIM,Jl,Jm];omega) λy H14 kn=>?_;have be:=kn.l 0 rfl;simp only[go_sem,M4,be];intro H15 ru;have kn:=kn.aA 0 rfl ru;refine Zg ?_;refine⟨Qr,t-1,ZA,t-1,k3,ds++[d],_,_,rfl,by simp;omega,ZA,by simp;omega,λd' cR=>?_,?_,kn,?_⟩
     ·rcases Jk.1 cR with h|h
      ·exact fD _ h
      ·simp only[Ja]at h;subst h;exact hd
     ·rw[Qbe9];exact .mk _ _ _ (by simp[Bm])
     ·have:(t:Int)-1=((t-1:Nat):Int):=ZA;rw[this]
    ·intro a7;have uC:t=0:=(by have:¬0<t:=(by simpa using a7);omega);refine Zb ?_;refine Zi bm ?_;refine AX (kn.e 0 rfl) ZA λon H13 wL hu=>?_;have kn:=kn.aq 0 rfl hu (R.an _);have be:=kn.l 0 rfl;simp only[go_sem,Q5x,be];intro H14 lp;have kn:=kn.aA 0 rfl lp;refine Za ?_;refine BA (ns:=[2,1,2,1,3]) (kn.e 0 rfl) ZA ZC λjump H15 zH hu=>?_;have kn:=kn.aq 0 rfl hu (R.an _);have be:=kn.l 0 rfl;simp only[go_sem,Q5y,be];intro H16 rZ;have kn:=kn.aA 0 rfl rZ;refine Bk (λe2 H2=>∃(k2:Nat) (jump:Int),k1<k2/\k2<=k1+40/\Kn H H2 [(R.l,R.o k2)] (([(x8,.st [.sl true 2 [],ic,Ui jump,Ui on,.sl true 1 []])]++(([(x4,.st [Ui 0,Ui 0,.sl true 5 []]),(x5,.st [Ui p,Ui rg,bc])]++bs.flatMap UBlk.lg)++bl))++il)/\EnvA R cc x4 x5 x8 n b e2) ?_ ?_
     ·intro Q hn _ _;have rest:∀(v:Bool) (H2:Heap) (k2:Nat),k1<k2->k2<=k1+40->Kn H H2 [(R.l,R.o k2)] (([(x8,.st [.sl true 2 [],ic,Ui jump,Ui on,.sl true 1 []])]++(([(x4,.st [Ui 0,Ui 0,.sl true 5 []]),(x5,.st [Ui p,Ui rg,bc])]++bs.flatMap UBlk.lg)++bl))++il)->
        A9 prog MA Q [(0,.c (.ptr R.l 0)),(3,.c (.pp [cc])),(4,Up x4),(5,Up x5),(6,Uv n),(7,Uv b),(8,Up x8),(68,.c (.bool v))] H2:=by
       intro v H2 k2 i9 fx kn;refine Wv ?_ ?_
       ·intro hc;have be:=kn.l 0 rfl;refine Qq ?_;simp only[go_sem,be];intro H3 h3;have kn:=kn.aA 0 rfl h3;exact hn _ _ ⟨k2,3,i9,fx,kn,rfl,rfl,rfl,rfl,rfl,rfl,rfl⟩
       ·intro hc;refine Qi ?_;exact hn _ _ ⟨k2,jump,i9,fx,kn,rfl,rfl,rfl,rfl,rfl,rfl,rfl⟩
      refine Za ?_;refine⟨λ_=>Qr,?_⟩;refine⟨λbg=>?_,λbg=>?_⟩
      ·refine AX (kn.e 0 rfl) ZA λv H17 hv hu=>?_;have kn:=kn.aq 0 rfl hu (R.an _);simp only[go_sem,OH,bg];exact rest _ _ _ ZA ZA kn
      ·by_cases h1:(n:Int)=1
       ·have hd:=decide_eq_true h1;have eT:decide ((b:Int)=n-1)=true:=decide_eq_true ZA;simp only[go_sem,OH,hd,eT,Bool.not_true];exact rest true _ _ ZA ZA kn
       ·have h2:¬(b:Int)=n-1:=(by simpa[h1]using bg);simp only[go_sem,OH,h1,h2,decide_false,Jaa,cond_false];exact rest false _ _ ZA ZA kn
     rintro e2 H17 ⟨k3,jump,xz,zG,kn,l0,l3,l4,l5,l6,l7,l8⟩;refine Bk (λe2 H2=>∃(k2:Nat) (jump on:Int) (nfl:Bool) (next:List Int),next.length<=2/\k1<k2/\k2<=k1+50/\Kn H H2 [(R.l,R.o k2)] (([(x8,.st [.sl true 2 [],ic,Ui jump,Ui on,.sl nfl 1 (Qc next)])]++(([(x4,.st [Ui 0,Ui 0,.sl true 5 []]),(x5,.st [Ui p,Ui rg,bc])]++bs.flatMap UBlk.lg)++bl))++il)/\EnvA R cc x4 x5 x8 n b e2) ?_ ?_
     ·intro Q hn _ _;have be:=kn.l 0 rfl;refine Qa ?_;simp only[go_sem,be,l0,l3,l4,l5,l6,l7,l8];refine Wt ?_;refine Wv ?_ ?_
      ·intro hc;refine Zi be ?_;intro H18 u4;have kn:=kn.aA 0 rfl u4;refine Zh ?_;refine Fq (kn.e 0 rfl) ZA ZA ZA λv1 H19 k4 zF zE hu=>?_;have kn:=kn.aq 0 rfl hu (R.an _);have be:=kn.l 0 rfl;simp only[go_sem,Q5z,be];intro H20 rY;have kn:=kn.aA 0 rfl rY;exact hn _ _ ⟨k4,jump,0,true,[v1],ZC,ZA,ZA,kn,rfl,rfl,rfl,rfl,rfl,rfl,rfl⟩
      ·intro hc;refine Za ?_;refine Wv ?_ ?_
       ·intro hc;refine Zh ?_;refine Fq (kn.e 0 rfl) ZA ZA ZA λv1 H19 k4 zF zE hu=>?_;have kn:=kn.aq 0 rfl hu (R.an _);simp only[go_sem,Q51];refine Fq (kn.e 0 rfl) ZA ZA ZA λv2 H20 k5 hk9 hk10 hu=>?_;have kn:=kn.aq 0 rfl hu (R.an _);have be:=kn.l 0 rfl;simp only[go_sem,Q50,be];intro H21 h21;have kn:=kn.aA 0 rfl h21;exact hn _ _ ⟨k5,jump,on,true,[v1,v2],ZC,ZA,ZA,kn,rfl,rfl,rfl,rfl,rfl,rfl,rfl⟩
       ·intro hc;refine Qi ?_;exact hn _ _ ⟨k3,jump,on,true,[],ZC,ZA,ZA,kn,rfl,rfl,rfl,rfl,rfl,rfl,rfl⟩
     rintro e3 H18 ⟨k4,jump,on,nfl,next,eC,zF,zE,kn,l0,l3,l4,l5,l6,l7,l8⟩;have be:=kn.l 0 rfl;have bm:=kn.l 2 rfl;refine Qq ?_;simp only[go_sem,be,bm,l5,l8,da,cS];obtain⟨o,ho⟩:∃o:UBlk,o=⟨[],.sl true 2 [],[],ds,ic,il,jump,on,nfl,next⟩:=⟨_,rfl⟩;have j9:[C.sl true 2 [],ic,C.int IntKind.i64 jump,C.int IntKind.i64 on,C.sl nfl 1 (Qc next)]=o.row:=Zbr;have ev:o.lg=il:=(by rw[ho];simp[UBlk.lg]);have ku:o.ok:=(by rw[ho];exact⟨.nil 2,gP,ZC⟩);have lV:o.sm 0:=(by rw[ho];exact⟨eC,by show ds.length<=_;omega,ZC,λd hd=>by have:=fD d hd;omega,ZC⟩);rw[j9];have kn:=(kn.perm TK).drop;refine kn.grow (new:=[o.row]) ay (.mk' _ _ _ _) (by intro r hr;simp only[Ja]at hr;subst hr;exact o.ak ku) ZO λz H19 kn=>?_;have kn:Kn H H19 [(R.l,R.o k4)] (([(x4,.st [Ui 0,Ui 0,.sl true 5 []]),(x5,.st [Ui p,Ui rg,bc])]++(bs++[o]).flatMap UBlk.lg)++[(z,.vec 5 ((bs++[o]).map UBlk.row))]):=by
      simpa[Jt,Jn,ev]using kn
     have bm:=kn.l 1 rfl;simp only[go_sem,Q52,bm,l0,l3,l4,l5,l6,l7];intro H20 rY;have kn:=kn.aA 1 rfl rY;refine Zg ?_;refine⟨Qr,n-(b+1),ZA,b+1,k4,bs++[o],_,_,rfl,ZA,by simp[kH],ZA,ZA,λo' fA=>?_,.mk _ _ _ ZC,kn,rfl⟩;rcases Jk.1 fA with h|h
     ·exact aw o' h
     ·simp only[Ja]at h;subst h;exact⟨ku,lV⟩
  ·intro bB;have cr:b=n:=by have:¬b<n:=Zar;omega
   have aY:=kn.l 0 rfl;have bm:=kn.l 1 rfl;refine Zb ?_;refine Zp bm aY cS ?_;intro H9 h9;have kn:=kn.aA 0 rfl h9;have aY:=kn.l 0 rfl;refine Zl aY cS ?_;obtain⟨o,ho⟩:∃o:UCode,o=⟨p,rg,bs,bc,bl⟩:=⟨_,rfl⟩;have ku:o.ok:=by rw[ho];exact⟨ay,λb hb=>(aw b hb).1,hp.1,hp.2⟩
   have lV:o.sm 0:=by rw[ho];exact⟨by show 0<bs.length;omega,by show bs.length<=_;omega,λb hb=>(aw b hb).2⟩
   have kn:Kn H H9 [(R.l,R.o k1)] ([(x4,.st [Ui p,Ui rg,bc]),(x5,.st [Ui p,Ui rg,bc])]++o.lg):=by
    rw[ho];simpa[UCode.lg,Jn]using kn
   refine⟨unx H o.lg,.ag o.row,H9.frz (unx H o.lg),?_,CP _ _,hK o _ k1 i9 ZA kn.finK ku lV⟩;rw[ho];exact FrzL.ag (.cons (Qg rfl) (.cons (Qg rfl) (.cons (.same _ cS) .nil)))
end Go.AE.Y
namespace Go.AE
open Go.AE.Y
open Go.Proofs.Tryz
variable {H:Heap}{K:Uk}
theorem Gr.slc {H0 H:Heap}{E B Lg:Ul}{sz:Nat}{rows:List (List C)}{c:C}(h:Gr Lg sz rows c)(kn:Kn H0 H E (B++Lg)):Slc H sz rows c:=by
 obtain⟨h1,h2⟩:=h.get kn;exact⟨h1,h.aO,h2,h.ax⟩
theorem Gr.ne {H0 H:Heap}{E B Lg:Ul}{sz:Nat}{rows:List (List C)}{c:C}{r:Nat}{o:Obj}(h:Gr Lg sz rows c)(kn:Kn H0 H E (B++Lg))(hr:(r,o)∈E):∀l a d n,c=.ai l a d n->l≠r:=by
 intro l a d n hc hh;rcases h with ⟨h1,_⟩|⟨y,h1,h2⟩
 ·rw[h1]at hc;simp at hc
 ·rw[h1]at hc;have hy:y=l:=by injection hc
  have:=kn.loc (y,.vec sz rows) Zai;exact kn.ext (r,o) hr (by rw[<-hh,<-hy];exact this)
theorem Gr.slcM {H0 H:Heap}{E L Lg:Ul}{sz:Nat}{rows:List (List C)}{c:C}(h:Gr Lg sz rows c)(kn:Kn H0 H E L)(hm:∀p∈Lg,p∈L):Slc H sz rows c:=by
 rcases h with ⟨h1,h2,h3⟩|⟨y,h1,h2⟩
 ·rw[h1,h2];exact .mk' _ _ _ _
 ·have hy:H y=.vec sz rows:=(kn.get (y,.vec sz rows) (Ji _ (hm _ Zai))).1;rw[h1];exact⟨by simp[Go.AE.aW,hy],rfl,by simp[Go.AE.rowsOf,hy],rfl⟩
end Go.AE
namespace Go.AE.Y
open Go.Proofs.Tryz
variable {H:Heap}{K:Uk}
theorem TH {H0 H:Heap}{B cl:Ul}{R:Rdr}{o:Obj}{us:List UCode}{cc:C}(hg:Gr cl 3 (us.map UCode.row) cc)(kn:Kn H0 H [(R.l,o)] (B++cl))(hu:∀u∈us,u.ok):CRd H R cc (us.map UCode.row):=by
 refine⟨hg.slc kn,hg.ah,hg.ne kn (o:=o) ZC,λi hi=>?_⟩;rw[Jf]at hi;refine⟨us[i].params,Ui us[i].ae,us[i].bc,by simp[Jc,hi,UCode.row],(hu _ (Jb hi)).p0,(hu _ (Jb hi)).p1⟩
theorem IW {R:Rdr}{k:Nat}(hH:H R.l=R.o k)(hk:k+10000<=2^40)
  (hK:∀(cs:List CodeD) (H':Heap) (k':Nat),k<k'->k'<=k+10000->Upd H H' [(R.l,R.o k')]->0<cs.length->cs.length<=3->(∀c∈cs,c.sm)->K (.ag [.sl false 3 (Qn cs)]) H') :
  Qv prog KE [.c (.ptr R.l 0)] H K:=by
 refine Qz ?_;refine Qd A6 YQ ?_;refine Za ?_;intro x2 aH H1 h1;have kn:=(Kn.start1 hH (R.an k)).al aH h1;refine Za ?_;intro x3 aK H2 h2;have kn:=kn.al aK h2;have jw:=kn.l 1 rfl;simp only[go_sem,Dy,jw];intro H3 h3;have kn:=kn.aA 1 rfl h3;refine Wa ?_;refine BA (ns:=[1,2,1,3]) (kn.e 0 rfl) ZA ZC λi0 H4 kY hu=>?_;have kn:=kn.aq 0 rfl hu (R.an _);simp only[go_sem,Mt];obtain⟨i,rfl,xM,hi3⟩:∃i:Nat,i0=i/\1<=i/\i<=3:=⟨i0.toNat,by simp at kY;omega⟩;refine Qh (Qe (Qx (λm e1 H1=>∃(t k1:Nat) (us:List UCode) (cc:C) (cl:Ul),m=t/\t+us.length=i/\k<k1/\k1<=k+1+1000 * us.length/\(∀u∈us,u.ok/\u.sm 0)/\Gr cl 3 (us.map UCode.row) cc/\
  Kn H H1 [(R.l,R.o k1)] (([(x2,.st [.sl true 3 []]),(x3,.st [cc])]++us.flatMap UCode.lg)++cl)/\
  e1=[(0,.c (.ptr R.l 0)),(2,Up x2),(3,Up x3),(4,Uv t)]) i ?_ ?_))
 ·exact⟨i,k+1,[],_,[],rfl,rfl,ZA,ZC,ZC,.nil 3,ZL,rfl⟩
 ·rintro m e1 H5 ⟨t,k1,us,cc,cl,hm,ht,i9,fx,aw,ay,kn,rfl⟩;have bD:=ay.ah;have aK:=kn.l 1 rfl;refine Wa ?_;refine Wu ?_ ?_
  ·intro hc;have uC:0<t:=ZD
   refine Wl ?_;simp only[go_sem,aK,bD];refine YF (kn.e 0 rfl) ZA (TH ay kn λu hu=>(aw u hu).1) λo H6 k2 iR iQ kn2 iO ji=>?_;have kn:=kn.compE 0 rfl kn2;have aK:=kn.l 1 rfl;simp only[go_sem,Mr,aK,bD,o.len3];have kn:=kn.perm CT;refine kn.grow (new:=[o.row]) ay (.mk' _ _ _ _) (by intro r hr;simp only[Ja]at hr;subst hr;exact o.ak iO) ZO λz H7 kn=>?_;have kn:Kn H H7 [(R.l,R.o k2)] (([(x2,.st [.sl true 3 []]),(x3,.st [cc])]++(us++[o]).flatMap UCode.lg)++[(z,.vec 3 ((us++[o]).map UCode.row))]):=by
    simpa[Jt,Jn]using kn
   have aK:=kn.l 1 rfl;simp only[go_sem,Ms,aK];intro H8 h8;have kn:=kn.aA 1 rfl h8;refine Zg ?_;refine⟨Qr,t-1,ZA,t-1,k2,us++[o],_,_,rfl,by simp;omega,ZA,by simp;omega,λo' fA=>?_,.mk _ _ _ ZC,kn,?_⟩
   ·rcases Jk.1 fA with h|h
    ·exact aw o' h
    ·simp only[Ja]at h;subst h;exact⟨iO,ji⟩
   ·have:(t:Int)-1=((t-1:Nat):Int):=ZA;rw[this]
  ·intro hc;have uC:t=0:=by have:¬0<t:=ZD;omega
   refine Zb ?_;refine Wa ?_;refine BA (ns:=[0,0,1,3]) (kn.e 0 rfl) ZA ZC λj0 H6 kX hu=>?_;have kn:=kn.aq 0 rfl hu (R.an _);simp only[go_sem,Mq];obtain⟨j,rfl,hj3⟩:∃j:Nat,j0=j/\j<=3:=⟨j0.toNat,by simp at kX;omega⟩;have cA:0<us.length:=ZA
   have hcl3:us.length<=3:=ZA
   refine Qh (Qe (Qx (λm e1 H1=>∃(t k2 N:Nat) (us:List UCode),m=t/\t+N=j/\us.length=i/\k<k2/\k2<=k1+1+200 * N/\(∀u∈us,u.ok/\u.sm N)/\Gr cl 3 (us.map UCode.row) cc/\
    Kn H H1 [(R.l,R.o k2)] (([(x2,.st [.sl true 3 []]),(x3,.st [cc])]++us.flatMap UCode.lg)++cl)/\
    e1=[(0,.c (.ptr R.l 0)),(2,Up x2),(3,Up x3),(5,Uv t)]) j ?_ ?_))
   ·exact⟨j,k1+1,0,us,rfl,rfl,ZA,ZA,ZA,aw,ay,kn,rfl⟩
   ·rintro m e1 H7 ⟨t,k2,N,us,hm,ht,uA,iR,iQ,aw,ay,kn,rfl⟩;have aK:=kn.l 1 rfl;refine Wa ?_;refine Wu ?_ ?_
    ·intro hc;have uC:0<t:=ZD;refine Zc ?_;have bZ:∀p∈cl,p∈(([(x2,.st [.sl true 3 []]),(x3,.st [cc])]++us.flatMap UCode.lg)++cl):=λp hp=>ZaQ;refine Bk (λe2 H2=>∃(k3:Nat) (us:List UCode),us.length=i/\k<k3/\k3<=k2+200/\(∀u∈us,u.ok/\u.sm (N+1))/\Gr cl 3 (us.map UCode.row) cc/\
      Kn H H2 [(R.l,R.o k3)] (([(x2,.st [.sl true 3 []]),(x3,.st [cc])]++us.flatMap UCode.lg)++cl)/\lk 0 e2=.c (.ptr R.l 0)/\lk 2 e2=Up x2/\lk 3 e2=Up x3/\lk 5 e2=Uv t) ?_ ?_
     ·intro Q hn _ _;have hs:=ay.slc kn;have aI:=eq_true hs.ok;have am:=hs.len;have bj:=hs.sz;rw[Jf]at am;refine Qe (AC ?_);simp only[go_sem,aK,bD,aI,am];refine AX (kn.e 0 rfl) ZA λv H8 hv hu=>?_;have kn:=kn.aq 0 rfl hu (R.an _);rw[if_neg ZA]at hv;obtain⟨ci,rfl⟩:=Jo hv.1;have dr:ci<us.length:=ZA;have aK:=kn.l 1 rfl;have hs:=ay.slc kn;have aI:=eq_true hs.ok;simp only[go_sem,Mp,aK,bD,aI,am,bj,dr];obtain⟨u,hu⟩:∃u,us[ci]=u:=⟨_,rfl⟩;obtain⟨eE,dH⟩:=aw _ (Jb dr);rw[hu]at eE dH;have aC:(us.map UCode.row).getD ci []=[Ui u.params,Ui u.ae,u.bc]:=(by rw[<-hu];simp[Jc,dr,UCode.row]);have pZ:=dH.b0;have vU:=dH.b;obtain⟨yb,dw,bk⟩:=UCode.bvec eE pZ;have iY:=eE.b.ah;have kd:=eE.b.ax;rw[Jf]at kd;have dx:=hs.rows;have oN:∀p∈u.bl,p∈(([(x2,.st [.sl true 3 []]),(x3,.st [cc])]++us.flatMap UCode.lg)++cl):=λp hp=>by
       have:p∈us.flatMap UCode.lg:=J7.2 ⟨u,by rw[<-hu];exact Jb dr,Ji _ hp⟩;simp[this]
      have b9:=eq_true (eE.b.slcM kn oN).ok;refine Qa ?_;simp only[go_sem,aI,am,bj,dr,dx,aC,iY,kd,b9];intro _;refine AX (kn.e 0 rfl) ZA λv H9 hv vV=>?_;have kn:=kn.aq 0 rfl vV (R.an _);rw[if_neg ZA]at hv;obtain⟨bi,rfl⟩:=Jo hv.1;have cB:bi<u.blocks.length:=ZA;have aI:=eq_true (ay.slcM kn bZ).ok;have dx:=(ay.slcM kn bZ).rows;simp only[go_sem,Mo];refine Qa ?_;simp only[go_sem,aI,am,bj,dr,dx,aC];refine AX (kn.e 0 rfl) ZA λto H10 _ jz=>?_;have kn:=kn.aq 0 rfl jz (R.an _);simp only[go_sem,Q6c];intro x8 be H11 eB;have kn:=kn.al be eB;have kn:=kn.perm Jj;have be:=kn.l 0 rfl;simp only[go_sem,Q6b,be];intro H12 jq;have kn:Kn H H12 [(R.l,R.o (k2+1+1+1))] ([(x8,.st [Ui to,.sl true 1 []])]++(([(x2,.st [.sl true 3 []]),(x3,.st [cc])]++us.flatMap UCode.lg)++cl)):=kn.aA 0 rfl jq;have oR:∀p∈cl,p∈([(x8,Obj.st [Ui to,.sl true 1 []])]++(([(x2,.st [.sl true 3 []]),(x3,.st [cc])]++us.flatMap UCode.lg)++cl)):=λp hp=>Ji _ (bZ p hp);have aI:=eq_true (ay.slcM kn oR).ok;have dx:=(ay.slcM kn oR).rows;have kH:=eE.b.slcM kn (λp hp=>Ji _ (oN p hp));refine Q1 (Qa ?_);simp only[go_sem,aI,am,bj,dr,dx,aC,iY];refine DG (rows:=u.blocks.map UBlk.row) (nx:=λi=>(u.blocks.map UBlk.next).getD i []) kH iY (λi hi=>?_) λH13 vX=>?_
      ·rw[Jf]at hi;refine⟨u.blocks[i].pc,u.blocks[i].ic,Ui u.blocks[i].jump,Ui u.blocks[i].on,u.blocks[i].nfl,?_⟩;simp[Jc,hi,UBlk.row]
      have kn:=kn.au vX;obtain⟨ps,fj⟩:∃ps,Qp (λi=>(u.blocks.map UBlk.next).getD i []) (bi:Int) (u.blocks.map UBlk.row).length=ps:=⟨_,rfl⟩;have sS:ps.length<=160:=by
       have:=CA (λi=>(u.blocks.map UBlk.next).getD i []) (bi:Int) (u.blocks.map UBlk.row).length;rw[fj,Jf]at this;omega
      rw[fj];simp only[go_sem,Q6d,Qb];intro _;refine Qh (Qe (Qx (λm e1 H1=>∃(q:Nat) (ns:List Int) (ac:C) (al:Ul),m=ps.length-q/\q<=ps.length/\ns.length=q/\Gr al 1 (Qc ns) ac/\
       Kn H H1 [(R.l,R.o (k2+1+1+1+q))] (([(x8,.st [Ui to,ac])]++(([(x2,.st [.sl true 3 []]),(x3,.st [cc])]++us.flatMap UCode.lg)++cl))++al)/\
       e1=[(0,.c (.ptr R.l 0)),(2,Up x2),(3,Up x3),(5,Uv t),(6,.c (cc.ep 3 ci 0)),(7,Uv bi),(8,Up x8),(59,.c (Ui ps.length)),(60,Uv q)]) ps.length ?_ ?_))
      ·exact⟨0,[],_,[],ZA,ZA,rfl,.nil 1,ZL,rfl⟩
      ·rintro m2 e1 H14 ⟨q,ns,ac,al,eW,hq,dv,tR,kn,rfl⟩;have fm:=tR.ah;have be:=kn.l 0 rfl;have oQ:∀p∈cl,p∈(([(x8,Obj.st [Ui to,ac])]++(([(x2,.st [.sl true 3 []]),(x3,.st [cc])]++us.flatMap UCode.lg)++cl))++al):=λp hp=>List.mem_append_left _ (Ji _ (bZ p hp));have aI:=eq_true (ay.slcM kn oQ).ok;have dx:=(ay.slcM kn oQ).rows;refine Za ?_;refine Wu ?_ ?_
       ·intro hc;have af:q<ps.length:=ZD;refine Wl ?_;simp only[go_sem,be,fm,aI,am,bj,dr,dx,aC];refine AX (kn.e 0 rfl) ZA λv H15 _ vW=>?_;have kn:=kn.aq 0 rfl vW (R.an _);have be:=kn.l 0 rfl;simp only[go_sem,Q6f,be,fm];refine kn.grow (new:=Qc [v]) tR (.mk' _ _ _ _) (Qw _) Zax λy H16 kn=>?_;have be:=kn.l 0 rfl;simp only[go_sem,Q6e,be];intro H17 h17;have kn:=kn.aA 0 rfl h17;refine Zg ?_;refine⟨Qr,ps.length-(q+1),ZA,q+1,ns++[v],_,_,rfl,ZA,by simp[dv],?_,kn,rfl⟩;rw[<-De];exact .mk _ _ _ (by simp[De,Qb])
       ·intro hc;have hqp:q=ps.length:=(by have:¬q<ps.length:=(by simpa using hc);omega);refine Wc ?_;refine Wv ?_ ?_
        ·intro hc;obtain⟨blk,cO⟩:∃blk,u.blocks[bi]=blk:=⟨_,rfl⟩;have iX:=eE.bs _ (Jb cB);have gR:=dH.bs _ (Jb cB);rw[cO]at iX gR;have yn:=gR.p;have fX:(u.blocks.map UBlk.row).getD bi []=[blk.pc,blk.ic,Ui blk.jump,Ui blk.on,.sl blk.nfl 1 (Qc blk.next)]:=(by rw[<-cO];simp[Jc,cB,UBlk.row]);have eO:=iX.p.ah;have dd:(u.blocks.map UBlk.row).length=u.blocks.length:=ZC;have kn:Kn H H14 [(R.l,R.o (k2+1+1+1+q))] (([(yb,.vec 5 (u.blocks.map UBlk.row))]++([(x8,.st [Ui to,ac])]++([(x2,.st [.sl true 3 []]),(x3,.st [cc])]++(blk.core++(al++(Cd us ci bi dr++cl))))))++blk.pl):=kn.perm (Qj λf hf h0 bB hp=>by
          have h1:=hp _ _ (XJ us ci bi dr (by rw[hu];exact cB));subst hu;rw[cO,bk]at h1;simp only[Ui,hf]at h1⊢;omega)
         have cP:=kn.l 0 rfl;have be:=kn.l 1 rfl;have oP:∀p∈cl,p∈(([(yb,Obj.vec 5 (u.blocks.map UBlk.row))]++([(x8,Obj.st [Ui to,ac])]++([(x2,Obj.st [.sl true 3 []]),(x3,Obj.st [cc])]++(blk.core++(al++(Cd us ci bi dr++cl))))))++blk.pl):=λp hp=>ZaQ;have aI:=eq_true (ay.slcM kn oP).ok;have dx:=(ay.slcM kn oP).rows;obtain⟨ph,eJ⟩:∃ph:UPhi,ph=⟨to,ns,ac,al⟩:=⟨_,rfl⟩;have qt:[C.int IntKind.i64 to,ac]=ph.row:=(by rw[eJ];rfl);have j5:ph.al=al:=(by rw[eJ]);have sZ:Gr ph.al 1 (Qc ph.ns) ph.ac:=(by rw[eJ];exact tR);rw[dw]at aC iY kd;have kZ:=iX.p;have bP:List.take u.blocks.length (u.blocks.map UBlk.row)=u.blocks.map UBlk.row:=Jd ZC;refine AY ?_;simp only[go_sem,be,fm,aI,am,bj,dr,dx,aC,cP,cB,dd,bP,fX,eO,Jp,Jg];rw[qt];refine kn.grow (new:=[ph.row]) kZ (.mk' _ _ _ _) (by intro r hr;simp only[Ja]at hr;subst hr;exact ph.ak sZ) ZO λz H15 kn=>?_;have kn:Kn H H15 [(R.l,R.o (k2+1+1+1+q))] ([(yb,.vec 5 (u.blocks.map UBlk.row))]++(([(x8,.st [Ui to,ac])]++([(x2,.st [.sl true 3 []]),(x3,.st [cc])]++(blk.core++(al++(Cd us ci bi dr++cl)))))++[(z,.vec 2 ((blk.ab++[ph]).map UPhi.row))])):=by
          simpa[Jn]using kn
         have cP:=kn.l 0 rfl;have oO:∀p∈cl,p∈([(yb,Obj.vec 5 (u.blocks.map UBlk.row))]++(([(x8,Obj.st [Ui to,ac])]++([(x2,Obj.st [.sl true 3 []]),(x3,Obj.st [cc])]++(blk.core++(al++(Cd us ci bi dr++cl)))))++[(z,.vec 2 ((blk.ab++[ph]).map UPhi.row))])):=λp hp=>ZaQ;have aI:=eq_true (ay.slcM kn oO).ok;have dx:=(ay.slcM kn oO).rows;simp only[go_sem,Q6g,aI,am,bj,dr,dx,aC,cP,cB,dd,fX,Jp,Jg];intro H16 rZ;obtain⟨b',aT⟩:∃b':UBlk,b'={ blk with ab:=blk.ab++[ph],pc:=.ai z 2 0 ((blk.ab.map UPhi.row).length+1),pl:=[(z,.vec 2 ((blk.ab++[ph]).map UPhi.row))] }:=⟨_,rfl⟩;have rk:[C.ai z 2 0 ((blk.ab.map UPhi.row).length+1),blk.ic,C.int IntKind.i64 blk.jump,C.int IntKind.i64 blk.on,C.sl blk.nfl 1 (Qc blk.next)]=b'.row:=(by rw[aT];rfl);have ue:(u.blocks.map UBlk.row).set bi b'.row=(u.blocks.set bi b').map UBlk.row:=(by rw[Jv]);rw[rk,ue]at rZ;have kn:=kn.aA 0 rfl rZ;have m7:b'.ok:=by
          rw[aT];refine⟨.mk _ _ _ ZC,iX.i,λp hp=>?_⟩;rcases Jk.1 hp with h|h
          ·exact iX.a p h
          ·simp only[Ja]at h;subst h;exact sZ
         have mz:b'.sm (N+1):=by
          rw[aT];refine⟨gR.n,gR.i,by simp;omega,gR.ia,λp hp=>?_⟩;rcases Jk.1 hp with h|h
          ·exact gR.pa p h
          ·simp only[Ja]at h;subst h;rw[eJ];show ns.length<=1000;omega
         obtain⟨u',iF⟩:∃u',u'=u.put bi b' [(yb,.vec 5 ((u.blocks.set bi b').map UBlk.row))]:=⟨_,rfl⟩;have lF:u'.ok:=(by rw[iF];exact UCode.put_ok eE m7 bk);have lE:u'.sm (N+1):=(by rw[iF];exact UCode.put_sm dH mz);have tD:Kn H H16 [(R.l,R.o (k2+1+1+1+q))] ((([(x2,.st [.sl true 3 []]),(x3,.st [cc])]++(us.set ci u').flatMap UCode.lg)++cl)++[(x8,.st [Ui to,ac])]):=kn.perm (Qj λf hf h0 bB hp=>by
          have h1:=hp _ _ (Tw us ci bi dr (by rw[hu];exact cB) b' [(yb,.vec 5 ((u.blocks.set bi b').map UBlk.row))]);rw[hu,<-iF]at h1;have h2:b'.core=blk.core++al:=(by rw[aT,UBlk.core_snoc,j5]);have h3:b'.pl=[(z,.vec 2 ((blk.ab++[ph]).map UPhi.row))]:=(by rw[aT]);rw[h2,h3]at h1;simp only[Ui,Js,Jq,Jw,hf,bB _ (_::_),bB _ (_++_)]at h1⊢;omega)
         refine hn _ _ ⟨k2+1+1+1+q,us.set ci u',by simpa using uA,ZA,ZA,λv hv=>?_,?_,tD.drop,rfl,rfl,rfl,rfl⟩
         ·rcases J3 hv with hv|rfl
          ·exact⟨(aw v hv).1,(aw v hv).2.mono ZA⟩
          ·exact⟨lF,lE⟩
         ·rw[Tv us ci dr u' (by rw[iF,UCode.put_row,hu])];exact ay
        ·intro hc;refine Zc ?_;refine hn _ _ ⟨k2+1+1+1+q,us,uA,ZA,ZA,λu hu=>⟨(aw u hu).1,(aw u hu).2.mono ZA⟩,ay,?_,rfl,rfl,rfl,rfl⟩;have kn:=kn.drop;exact (kn.perm Jj).drop
     rintro e2 H8 ⟨k3,us,uA,xz,zG,aw,ay,kn,l0,l2,l3,l5⟩;refine Qq ?_;simp only[go_sem,X.next,l0,l2,l3,l5];refine⟨Qr,t-1,ZA,t-1,k3,N+1,us,rfl,ZA,uA,xz,ZA,aw,ay,kn,?_⟩;have:(t:Int)-1=((t-1:Nat):Int):=ZA;rw[this]
    ·intro hc;refine Zb ?_;have aH:=kn.l 0 rfl;refine Zp aH aK bD ?_;intro H8 h8;have kn:=kn.aA 0 rfl h8;have aH:=kn.l 0 rfl;refine Zl aH bD ?_;have iS:Held H8 (un H) (us.flatMap UCode.lg++cl):=λp hp=>by
      have eV:p∈(([(x2,Obj.st [cc]),(x3,Obj.st [cc])]++us.flatMap UCode.lg)++cl):=by
       rcases Jk.1 hp with h|h
       ·simp[h]
       ·simp[h]
      exact⟨(kn.get p (Ji _ eV)).1,C5 (kn.loc p eV)⟩
     obtain⟨cs,hf,zV,lh⟩:=UCodes.frz (N:=N) ZA ay aw iS;exact⟨_,FrzL.ag (.cons hf .nil),hK cs _ k2 iR ZA kn.fin ZA ZA lh⟩
end Go.AE.Y
namespace Go.AE
open Go.AE.Y
open Go.Proofs.Tryz
variable {H:Heap}{K:Uk}
theorem Kn.lm {H0 H:Heap}{E L:Ul}{x:Nat}{o:Obj}(kn:Kn H0 H E L)(h:(x,o)∈L):H x=o:=(kn.get (x,o) (Ji _ h)).1
end Go.AE
namespace Go.AE.Y
open Go.Proofs.Tryz
variable {H:Heap}{K:Uk}
theorem YG {R:Rdr}{k:Nat}(hH:H R.l=R.o k)(hk:k+20000<=2^40)
  (hK:∀(cs:List CodeD) (H':Heap) (k':Nat),k<k'->k'<=k+20000->Upd H H' [(R.l,R.o k')]->0<cs.length->cs.length<=3->(∀c∈cs,c.gd)->K (.ag [.sl false 3 (Qn cs)]) H') :
  Qv prog KI [.c (.ptr R.l 0)] H K:=by
 refine Qz ?_;refine Qd A6 YV ?_;refine Za ?_;intro x2 aH H1 h1;have kn:=(Kn.start1 hH (R.an k)).al aH h1;refine Za ?_;refine IW (kn.e 0 rfl) ZA λcs H2 k1 i9 fx hu mt tZ gK=>?_;have kn:=kn.aq 0 rfl hu (R.an _);simp only[go_sem,MG];refine Qawj gK ZA λus cc cl H3 k2 ay aw oD=>?_;have kn:=kn.comp0 k2;have bD:=ay.ah;simp only[go_sem,E3];intro x3 aK H4 h4;have kn:=kn.al aK h4;have kn:=kn.perm Jj;have aK:=kn.l 0 rfl;simp only[go_sem,Dy,aK];intro H5 h5;have kn:=kn.aA 0 rfl h5;have kn:Kn H H5 [(R.l,R.o k1)] (([(x2,.st [.sl true 3 []]),(x3,.st [cc])]++us.flatMap OCode.lg)++cl):=kn.perm (Qj λf hf h0 bB hp=>by
  simp only[Ui,Js,Jq,Jw,hf,bB _ (_::_),bB _ (_++_)];omega)
 have aK:=kn.l 1 rfl;have hs:=ay.slc kn;have aI:=eq_true hs.ok;have am:=hs.len;have bj:=hs.sz;rw[Jf]at am;refine AC ?_;simp only[go_sem,aK,bD,aI,am];refine AX (kn.e 0 rfl) ZA λv H6 hv hu=>?_;have kn:=kn.aq 0 rfl hu (R.an _);rw[if_neg ZA]at hv;obtain⟨ci,rfl⟩:=Jo hv.1;have dr:ci<us.length:=ZA
 have aK:=kn.l 1 rfl;have hs:=ay.slc kn;have aI:=eq_true hs.ok;have dx:=hs.rows;simp only[go_sem,MF,aK,bD,aI,am,bj,dr];obtain⟨u,hu⟩:∃u,us[ci]=u:=⟨_,rfl⟩;obtain⟨eE,dH⟩:=aw _ (Jb dr);rw[hu]at eE dH;have aC:(us.map OCode.row).getD ci []=[Ui u.params,Ui u.ae,u.bc]:=by rw[<-hu];simp[Jc,dr,OCode.row]
 have pZ:=dH.b0;have vU:=dH.b;obtain⟨yb,dw,bk⟩:=OCode.bvec eE pZ;have iY:(C.ai yb 5 0 u.blocks.length).ah=false:=rfl;have kd:ax (C.ai yb 5 0 u.blocks.length)=u.blocks.length:=rfl;rw[dw]at aC;have sd:(yb,Obj.vec 5 (u.blocks.map OBlk.row))∈(([(x2,Obj.st [.sl true 3 []]),(x3,.st [cc])]++us.flatMap OCode.lg)++cl):=by
  have:(yb,Obj.vec 5 (u.blocks.map OBlk.row))∈us.flatMap OCode.lg:=J7.2 ⟨u,by rw[<-hu];exact Jb dr,Ji _ (by rw[bk];simp)⟩;simp[this]
 have cP:=kn.lm sd;have dd:(u.blocks.map OBlk.row).length=u.blocks.length:=ZC
 have bP:List.take u.blocks.length (u.blocks.map OBlk.row)=u.blocks.map OBlk.row:=Jd ZC;refine AC ?_;simp only[go_sem,aI,am,bj,dr,dx,aC,cP,dd,Jg,Je];refine AX (kn.e 0 rfl) ZA λv H7 hv hu7=>?_;have kn:=kn.aq 0 rfl hu7 (R.an _);rw[if_neg ZA]at hv;obtain⟨bi,rfl⟩:=Jo hv.1;have cB:bi<u.blocks.length:=ZA
 have hs:=ay.slc kn;have aI:=eq_true hs.ok;have dx:=hs.rows;have cP:=kn.lm sd;simp only[go_sem,ME,aI,am,bj,dr,dx,aC,cP,dd,cB,Jg,Je];refine AC ?_;simp only[go_sem,aI,am,bj,dr,dx,aC,cP,dd,Jg,Je];refine BA (ns:=[-1,u.ae,u.blocks.length,0,1]) (kn.e 0 rfl) ZA ZC λbad H8 _ hu8=>?_;have kn:=kn.aq 0 rfl hu8 (R.an _);simp only[go_sem,MD];refine Wa ?_;refine AX (kn.e 0 rfl) ZA λkind H9 _ vV=>?_;have kn:=kn.aq 0 rfl vV (R.an _);refine Bk (λe2 H2=>∃(k3:Nat) (us:List OCode) (cl:Ul),us.length=cs.length/\k<k3/\k3<=k+20000/\(∀u∈us,u.ok/\u.sm 1001)/\Gr cl 3 (us.map OCode.row) cc/\
   Kn H H2 [(R.l,R.o k3)] (([(x2,.st [.sl true 3 []]),(x3,.st [cc])]++us.flatMap OCode.lg)++cl)/\lk 2 e2=Up x2/\lk 3 e2=Up x3) ?_ ?_
 ·intro Q hn _ _;have hull:us.length=cs.length:=oD;have knO:=kn;obtain⟨blk,cO⟩:∃blk,u.blocks[bi]=blk:=⟨_,rfl⟩;have b9:=eE.bs _ (Jb cB);have ck:=dH.bs _ (Jb cB);rw[cO]at b9 ck;have fX:(u.blocks.map OBlk.row).getD bi []=[blk.pc,blk.ic,Ui blk.jump,Ui blk.on,.ai blk.nx.y 1 0 blk.nx.ns.length]:=by rw[<-cO];simp[Jc,cB,OBlk.row,OInts.c]
  have eO:=b9.p.ah;have da:=b9.i.ah;have kn:=Qbex kn dr hu cB cO bk;have bK:∀b':OBlk,(u.blocks.map OBlk.row).set bi b'.row=(u.blocks.set bi b').map OBlk.row:=λb'=>(Jv).symm;have cK:∀(b':OBlk) (H2:Heap) (k3:Nat) (e2:Env),b'.ok->b'.sm 1001->k<k3->k3<=k+20000->Kn H H2 [(R.l,R.o k3)] ([(yb,.vec 5 ((u.blocks.set bi b').map OBlk.row))]++(b'.lg++(B6 us ci bi dr++([(x2,Obj.st [.sl true 3 []]),(x3,.st [cc])]++cl))))->
    lk 2 e2=Up x2->lk 3 e2=Up x3->Q .nrm e2 H2:=by
   intro b' H2 k3 e2 h1 h2 h3 h4 kn l2 l3;obtain⟨us',g1,g2,g3,g4⟩:=Qbi4 (N:=1000) dr hu cB bk aw h1 h2 ay kn;exact hn _ _ ⟨k3,us',cl,ZA,h3,h4,g3,g2,g4,l2,l3⟩
  have iI:∀e2:Env,lk 2 e2=Up x2->lk 3 e2=Up x3->Q .nrm e2 H9:=λe2 l2 l3=>
   hn _ _ ⟨_,us,cl,oD,ZA,ZA,λu hu=>⟨(aw u hu).1,(aw u hu).2.mono ZA⟩,ay,knO,l2,l3⟩
  refine Wt ?_;have aI:=eq_true (ay.slcM kn (λp hp=>ZaQ)).ok;have dx:=(ay.slcM kn (λp hp=>ZaQ)).rows;have cP:=kn.l 0 rfl;refine Wv ?_ ?_
  ·intro hc;refine Zh ?_;refine AX (kn.e 0 rfl) ZA λv H10 _ jz=>?_;have kn:=kn.aq 0 rfl jz (R.an _);have cP:=kn.l 0 rfl;simp only[go_sem,MC,cP,dd,cB,fX,Jp,Jg,Je];intro H11 eB;have aT:[blk.pc,blk.ic,C.int IntKind.i64 v,C.int IntKind.i64 blk.on,C.ai blk.nx.y 1 0 blk.nx.ns.length]=({ blk with jump:=v }:OBlk).row:=rfl;rw[aT,bK]at eB;exact cK { blk with jump:=v } _ _ _ ⟨b9.p,b9.i,b9.a⟩ ⟨ck.n,ck.i,by have:=ck.p;show blk.ab.length<=_;omega,λx hx=>by have:=ck.ia x hx;omega,λx hx=>by have:=ck.pa x hx;omega⟩ ZA ZA (kn.aA 0 rfl eB) ZB ZB
  intro dg;refine Za ?_;refine Wv ?_ ?_
  ·intro hc;have rL:H9 blk.nx.y=.vec 1 (Qc blk.nx.ns):=kn.l 1 rfl;have gm:List.take blk.nx.ns.length (Qc blk.nx.ns)=Qc blk.nx.ns:=Jd (by simp[Qb]);refine Qa ?_;simp only[go_sem,cP,dd,bP,cB,fX,EA,Jp,Jg,Je,rL,Qb];intro _;refine Wv ?_ ?_
   ·intro a7;have cd:0<blk.nx.ns.length:=ZF;have fR:=Qo blk.nx.ns 0 cd;refine Qq ?_;simp only[go_sem,cP,dd,bP,cB,fX,EA,Jp,Jg,Je,rL,cd,fR,Qb];refine⟨ZA,λH11 eB=>?_⟩;have cn:(Qc blk.nx.ns).set 0 [C.int IntKind.i64 bad]=Qc (blk.nx.ns.set 0 bad):=(by simp[Qc,Jv]);rw[cn]at eB;have kn:Kn H H11 [(R.l,R.o (k1+1+1+1+1))] ([(yb,.vec 5 (u.blocks.map OBlk.row))]++(OBlk.lg { blk with nx:=⟨blk.nx.ns.set 0 bad,blk.nx.y⟩ }++(B6 us ci bi dr++([(x2,Obj.st [.sl true 3 []]),(x3,.st [cc])]++cl)))):=kn.aA 1 rfl eB;refine cK { blk with nx:=⟨blk.nx.ns.set 0 bad,blk.nx.y⟩ } _ (k1+1+1+1+1) _ ⟨b9.p,b9.i,b9.a⟩ ⟨by simpa using ck.n,ck.i,by have:=ck.p;show blk.ab.length<=_;omega,λx hx=>by have:=ck.ia x hx;omega,λx hx=>by have:=ck.pa x hx;omega⟩ ZA ZA ?_ ZB ZB;rw[Po cB (by rw[cO];simp[OBlk.row,OInts.c])];exact kn
   ·intro a7;refine Qi ?_;exact iI _ ZB ZB
  intro bB;refine Za ?_;refine Wv ?_ ?_
  ·intro hc;refine Qq ?_;simp only[go_sem,cP,dd,cB,fX,Jp,Jg,Je];intro H11 eB;have aT:[blk.pc,blk.ic,C.int IntKind.i64 blk.jump,C.int IntKind.i64 bad,C.ai blk.nx.y 1 0 blk.nx.ns.length]=({ blk with on:=bad }:OBlk).row:=rfl;rw[aT,bK]at eB;exact cK { blk with on:=bad } _ _ _ ⟨b9.p,b9.i,b9.a⟩ ⟨ck.n,ck.i,by have:=ck.p;show blk.ab.length<=_;omega,λx hx=>by have:=ck.ia x hx;omega,λx hx=>by have:=ck.pa x hx;omega⟩ ZA ZA (kn.aA 0 rfl eB) ZB ZB
  intro a7;refine Za ?_;have gO:ax blk.ic=blk.ins.length:=by rw[b9.i.ax];simp
  have kC:aW H9 blk.ic=True:=eq_true (b9.i.slcM kn (λp hp=>by simp[OBlk.lg,hp])).ok;refine Wv ?_ ?_
  ·intro hc;refine Qa ?_;simp only[go_sem,cP,dd,bP,cB,fX,da,Jp,Jg,Je,gO,kC];intro _;refine Wv ?_ ?_
   ·intro a7;have cd:0<blk.ins.length:=ZF;obtain⟨yi,iB,cj⟩:=OBlk.ivec b9 cd;rw[iB]at fX;have knI:=FA kn cj;have f8:=knI.l 0 rfl;obtain⟨x,hx⟩:∃x,blk.ins[0]=x:=⟨_,rfl⟩;have rB:(blk.ins.map OIns.row).getD 0 []=[Ui x.op,Ui x.to,.ai x.a.y 1 0 x.a.ns.length,Ui x.n]:=Zaq;have kD:(blk.ins.map OIns.row).length=blk.ins.length:=ZC;have qb:List.take blk.ins.length (blk.ins.map OIns.row)=blk.ins.map OIns.row:=Jd ZC;have mS:x.a.ns.length<=1000:=ck.ia x ZaX;refine Qq ?_;simp only[go_sem,cP,dd,bP,cB,fX,EA,Jp,Jg,Je,f8,cd,rB,kD];refine⟨ZA,λH12 jq=>?_⟩;have bd:[C.int IntKind.i64 x.op,C.int IntKind.i64 bad,C.ai x.a.y 1 0 x.a.ns.length,C.int IntKind.i64 x.n]=({ x with to:=bad }:OIns).row:=rfl;rw[bd,<-Jv]at jq;have knD:=Ic (b:=blk) (is:=blk.ins.set 0 { x with to:=bad }) (knI.aA 0 rfl jq) (Q27 cd (by rw[hx];rfl));refine cK _ _ (k1+1+1+1+1) _ (OBlk.ins_ok (i:=0) (x':={ x with to:=bad }) b9 iB) (OBlk.ins_sm (i:=0) (x':={ x with to:=bad }) ck (by show x.a.ns.length<=_;omega)) ZA ZA ?_ ZB ZB;rw[Po cB (by rw[cO];rfl)];exact knD
   ·intro a7;refine Qi ?_;exact iI _ ZB ZB
  intro bn;refine Za ?_;refine Wv ?_ ?_
  ·intro hc;refine Qa ?_;simp only[go_sem,cP,dd,bP,cB,fX,da,Jp,Jg,Je,gO,kC];intro _;refine Wv ?_ ?_
   ·intro a7;have cd:0<blk.ins.length:=ZF;obtain⟨yi,iB,cj⟩:=OBlk.ivec b9 cd;rw[iB]at fX;have knI:=FA kn cj;have f8:=knI.l 0 rfl;obtain⟨x,hx⟩:∃x,blk.ins[0]=x:=⟨_,rfl⟩;have rB:(blk.ins.map OIns.row).getD 0 []=[Ui x.op,Ui x.to,.ai x.a.y 1 0 x.a.ns.length,Ui x.n]:=Zaq;have kD:(blk.ins.map OIns.row).length=blk.ins.length:=ZC;have qb:List.take blk.ins.length (blk.ins.map OIns.row)=blk.ins.map OIns.row:=Jd ZC;have mS:x.a.ns.length<=1000:=ck.ia x ZaX;refine AY ?_;have knA:Kn H H9 [(R.l,R.o (k1+1+1+1+1))] ([(x.a.y,.vec 1 (Qc x.a.ns))]++([(yi,.vec 4 (blk.ins.map OIns.row))]++([(yb,.vec 5 (u.blocks.map OBlk.row))]++(blk.nx.lg++(blk.ab.flatMap OPhi.lg++(blk.pl++((blk.ins.eraseIdx 0).flatMap OIns.lg++(B6 us ci bi dr++([(x2,Obj.st [.sl true 3 []]),(x3,.st [cc])]++cl))))))))):=knI.perm (Qj λf hf h0 bB hp=>by
     have h1:=hp _ _ (DD OIns.lg blk.ins 0 cd);rw[hx]at h1;have h2:x.lg=[(x.a.y,.vec 1 (Qc x.a.ns))]:=rfl;rw[h2]at h1;simp only[Ui,hf]at h1⊢;omega)
    have nu:=knA.l 0 rfl;have wa:List.take x.a.ns.length (Qc x.a.ns)=Qc x.a.ns:=Jd (by simp[Qb]);simp only[go_sem,cP,dd,bP,cB,fX,EA,Jp,Jg,Je,f8,cd,rB,kD,qb,nu,Qb,wa];refine⟨ZA,by simp only[LIM];omega,λy' dU H10 dh=>?_⟩;have knA:=knA.ap 0 rfl dU dh;have f8:=knA.l 1 rfl;have cP:=knA.l 2 rfl;simp only[go_sem,MB,cP,dd,bP,cB,fX,EA,Jp,Jg,Je,f8,cd,rB,kD];refine⟨ZA,λH12 jq=>?_⟩;obtain⟨x',gg⟩:∃x':OIns,x'={ x with a:=⟨x.a.ns++[bad],y'⟩ }:=⟨_,rfl⟩;have bd:[C.int IntKind.i64 x.op,C.int IntKind.i64 x.to,C.ai y' 1 0 (x.a.ns.length+1),C.int IntKind.i64 x.n]=x'.row:=(by rw[gg];simp[OIns.row,OInts.c]);have de:x'.lg=[(y',.vec 1 (Qc x.a.ns++[[Ui bad]]))]:=(by rw[gg];simp[OIns.lg,OInts.lg,Qc]);rw[bd,<-Jv]at jq;have knA:=knA.aA 1 rfl jq;refine cK _ _ (k1+1+1+1+1) _ (OBlk.ins_ok (i:=0) (x':=x') b9 iB) (OBlk.ins_sm (i:=0) (x':=x') ck (by rw[gg];simp;omega)) ZA ZA ?_ ZB ZB;rw[Po cB (by rw[cO];rfl)];refine knA.perm (Qj λf hf h0 bB hp=>?_);have h1:=hp _ _ (DN OIns.lg blk.ins 0 x' cd);rw[de]at h1;simp only[Ui,OBlk.lg,Js,Jq,Jw,List.set_cons_succ,hf,bB _ (_::_),bB _ (_++_),bB _ (List.flatMap _ _)]at h1⊢;omega
   ·intro a7;refine Qi ?_;exact iI _ ZB ZB
  intro dc;refine Za ?_;refine Wv ?_ ?_
  ·intro hc;refine Qq ?_;simp only[go_sem,cP,dd,bP,cB,fX,eO,Jp,Jg,Je];have knP:Kn H H9 [(R.l,R.o (k1+1+1+1+1))] (([(yb,.vec 5 (u.blocks.map OBlk.row))]++(blk.nx.lg++(blk.ab.flatMap OPhi.lg++(blk.ins.flatMap OIns.lg++(blk.il++(B6 us ci bi dr++([(x2,Obj.st [.sl true 3 []]),(x3,.st [cc])]++cl)))))))++blk.pl):=kn.perm (Qj λf hf h0 bB hp=>by
    simp only[Ui,OBlk.lg,hf];omega)
   obtain⟨ph,eJ⟩:∃ph:OPhi,ph=⟨0,[bad],.sl true 1 (Qc [bad]),[]⟩:=⟨_,rfl⟩;have qt:[C.int IntKind.i64 0,C.sl true 1 [[C.int IntKind.i64 bad]]]=ph.row:=by rw[eJ];rfl
   have oK:ph.ok:=by rw[eJ];exact .inr ⟨true,rfl,rfl⟩
   have j5:ph.lg=[]:=by rw[eJ]
   have cQ:=ck.p;rw[qt];refine knP.grow (new:=[ph.row]) b9.p (.mk' _ _ _ _) (by intro r hr;simp only[Ja]at hr;subst hr;exact ph.ak oK) ZO λz H10 knP=>?_;have cP:=knP.l 0 rfl;simp only[go_sem,Q5m,cP,dd,cB,fX,Jp,Jg,Je];intro H11 eB;obtain⟨b',aT⟩:∃b':OBlk,b'={ blk with ab:=blk.ab++[ph],pc:=.ai z 2 0 ((blk.ab.map OPhi.row).length+1),pl:=[(z,.vec 2 ((blk.ab++[ph]).map OPhi.row))] }:=⟨_,rfl⟩;have rk:[C.ai z 2 0 ((blk.ab.map OPhi.row).length+1),blk.ic,C.int IntKind.i64 blk.jump,C.int IntKind.i64 blk.on,C.ai blk.nx.y 1 0 blk.nx.ns.length]=b'.row:=by rw[aT];rfl
   rw[rk,bK]at eB;have knP:=knP.aA 0 rfl eB;have m7:b'.ok:=by
    rw[aT];refine⟨.mk _ _ _ ZC,b9.i,λp hp=>?_⟩;rcases Jk.1 hp with h|h
    ·exact b9.a p h
    ·simp only[Ja]at h;subst h;exact oK
   have mz:b'.sm 1001:=by
    rw[aT];refine⟨ck.n,ck.i,by simp;omega,λx hx=>by have:=ck.ia x hx;omega,λx hx=>?_⟩;rcases Jk.1 hx with h|h
    ·have:=ck.pa x h;omega
    ·simp only[Ja]at h;rw[h,eJ];simp
   refine cK b' _ (k1+1+1+1+1) _ m7 mz ZA ZA ?_ ZB ZB;have yq:b'.lg=blk.nx.lg++(blk.ab.flatMap OPhi.lg++([(z,.vec 2 ((blk.ab++[ph]).map OPhi.row))]++(blk.ins.flatMap OIns.lg++blk.il))):=by
    rw[aT];simp[OBlk.lg,Jt,j5]
   rw[yq];have dm:blk.ab.map OPhi.row++[ph.row]=(blk.ab++[ph]).map OPhi.row:=ZC
   rw[dm]at knP;refine knP.perm (Qj λf hf h0 bB hp=>?_);simp only[Ui,Js,Jq,Jw,hf,bB _ (_::_),bB _ (_++_)];omega
  intro eU;refine Za ?_;refine Wv ?_ ?_
  ·intro hc;refine AY ?_;simp only[go_sem,aI,am,bj,dr,dx,aC];refine AX (kn.e 0 rfl) ZA λv H10 hv jz=>?_;have knO:=knO.aq 0 rfl jz (R.an _);obtain⟨yc,fy,cA⟩:∃yc,cc=.ai yc 3 0 us.length/\cl=[(yc,.vec 3 (us.map OCode.row))]:=by
    rcases ay with ⟨h1,h2,h3⟩|⟨y,h1,h2⟩
    ·rw[List.map_eq_nil_iff]at h2;rw[h2]at dr;simp at dr
    ·exact⟨y,by rw[h1];simp,h2⟩
   have bQ:H10 yc=.vec 3 (us.map OCode.row):=knO.lm (by rw[cA];simp);have vS:(us.map OCode.row).length=us.length:=ZC
   have qc:List.take us.length (us.map OCode.row)=us.map OCode.row:=Jd ZC;have Ab:=eE.b.ah;simp only[go_sem,Q5n,fy,bQ,vS,qc,dr,aC,Jp,Jg,Je];have iN:=dH.p0;have qu:=dH.p1;rw[if_neg ZA]at hv;refine⟨Qr,λH11 eB=>?_⟩;obtain⟨u',iF⟩:∃u':OCode,u'={ u with ae:=u.params+v }:=⟨_,rfl⟩;have hur:[C.int IntKind.i64 u.params,C.int IntKind.i64 (u.params+v),C.ai yb 5 0 u.blocks.length]=u'.row:=by rw[iF,<-dw];rfl
   have vT:u'.lg=u.lg:=by rw[iF];rfl
   have lF:u'.ok:=by rw[iF];exact⟨eE.b,eE.bs⟩
   have lE:u'.sm 1000:=by rw[iF];exact⟨dH.b0,dH.b,dH.bs,dH.p0,dH.p1⟩
   rw[hur,<-Jv]at eB;have knF:Kn H H10 [(R.l,R.o (k1+1+1+1+1+1))] ([(yc,.vec 3 (us.map OCode.row))]++([(x2,Obj.st [.sl true 3 []]),(x3,.st [cc])]++us.flatMap OCode.lg)):=by
    rw[cA]at knO;exact knO.perm Jj
   have knF:=knF.aA 0 rfl eB;refine hn _ _ ⟨k1+1+1+1+1+1,us.set ci u',[(yc,.vec 3 ((us.set ci u').map OCode.row))],by simpa using oD,ZA,ZA,λw hw=>?_,?_,?_,ZB,ZB⟩
   ·rcases J3 hw with hw|rfl
    ·exact⟨(aw w hw).1,(aw w hw).2.mono ZA⟩
    ·exact⟨lF,lE.mono ZA⟩
   ·rw[fy];exact .mk _ _ _ ZC
   ·refine knF.perm (Qj λf hf h0 bB hp=>?_);have h1:=hp _ _ (DN OCode.lg us ci u' dr);have h2:=hp _ _ (DD OCode.lg us ci dr);rw[vT]at h1;rw[hu]at h2;simp only[Ui,Js,Jq,Jw,hf,bB _ (_::_),bB _ (_++_),bB _ (List.flatMap _ _)]at h1 h2⊢;omega
  intro zZ;refine Za ?_;refine Wv ?_ ?_
  ·intro hc;refine Qa ?_;simp only[go_sem,cP,dd,bP,cB,fX,da,Jp,Jg,Je,gO,kC];intro _;refine Wv ?_ ?_
   ·intro a7;have cd:0<blk.ins.length:=ZF;obtain⟨yi,iB,cj⟩:=OBlk.ivec b9 cd;rw[iB]at fX;have knI:=FA kn cj;have f8:=knI.l 0 rfl;obtain⟨x,hx⟩:∃x,blk.ins[0]=x:=⟨_,rfl⟩;have rB:(blk.ins.map OIns.row).getD 0 []=[Ui x.op,Ui x.to,.ai x.a.y 1 0 x.a.ns.length,Ui x.n]:=Zaq;have kD:(blk.ins.map OIns.row).length=blk.ins.length:=ZC;have qb:List.take blk.ins.length (blk.ins.map OIns.row)=blk.ins.map OIns.row:=Jd ZC;have mS:x.a.ns.length<=1000:=ck.ia x ZaX;refine AY ?_;simp only[go_sem,cP,dd,bP,cB,fX,EA,Jp,Jg,Je];refine BA (ns:=[256,-1,1]) (knI.e 0 rfl) ZA ZC λv H10 hv jz=>?_;have knI:=knI.aq 0 rfl jz (R.an _);have f8:=knI.l 0 rfl;have cP:=knI.l 1 rfl;simp only[go_sem,Q5o,cP,dd,bP,cB,fX,EA,Jp,Jg,Je,f8,cd,rB,kD];refine⟨ZA,λH12 jq=>?_⟩;have bd:[C.int IntKind.i64 x.op,C.int IntKind.i64 x.to,C.ai x.a.y 1 0 x.a.ns.length,C.int IntKind.i64 v]=({ x with n:=v }:OIns).row:=rfl;rw[bd,<-Jv]at jq;have knD:=Ic (b:=blk) (is:=blk.ins.set 0 { x with n:=v }) (knI.aA 0 rfl jq) (Q27 cd (by rw[hx];rfl));refine cK _ _ (k1+1+1+1+1+1) _ (OBlk.ins_ok (i:=0) (x':={ x with n:=v }) b9 iB) (OBlk.ins_sm (i:=0) (x':={ x with n:=v }) ck (by show x.a.ns.length<=_;omega)) ZA ZA ?_ ZB ZB;rw[Po cB (by rw[cO];rfl)];exact knD
   ·intro a7;refine Qi ?_;exact iI _ ZB ZB
  ·intro hc;refine Qi ?_;exact iI _ ZB ZB
 ·rintro e2 H10 ⟨k3,us,cl,oD,iR,iQ,aw,ay,kn,l2,l3⟩;have aH:=kn.l 0 rfl;have aK:=kn.l 1 rfl;refine Qa ?_;simp only[go_sem,aH,aK,bD,l2,l3];intro H8 h8;have kn:=kn.aA 0 rfl h8;have aH:=kn.l 0 rfl;refine Zl aH bD ?_;have iS:Held H8 (un H) (us.flatMap OCode.lg++cl):=λp hp=>by
   have eV:p∈(([(x2,Obj.st [cc]),(x3,Obj.st [cc])]++us.flatMap OCode.lg)++cl):=by
    rcases Jk.1 hp with h|h
    ·simp[h]
    ·simp[h]
   exact⟨(kn.get p (Ji _ eV)).1,C5 (kn.loc p eV)⟩
  obtain⟨cs,hf,zV,lh⟩:=OCodes.frz (N:=1001) ZA ay aw iS;exact⟨_,FrzL.ag (.cons hf .nil),hK cs _ k3 iR ZA kn.fin ZA ZA lh⟩
end Go.AE.Y
namespace Go.AE.Y
open Go.Proofs.Tryz
theorem F5 {R : Rdr} {fl : Bool} {ss : List (List UInt8)} : ∀ (d : Nat) {k : Nat} {H : Heap} {K : V -> Heap -> Prop} (deep : Int), deep <= d -> H R.l = R.o k -> k + 6 * 2^d <= 2^40 ->
    (∀ (x : Ex) (H' : Heap) (k' : Nat), k < k' -> k' + 3 <= k + 6 * 2^d -> Upd H H' [(R.l, R.o k')] -> x.ok -> k + x.size <= k' -> K (.ag x.cells) H') ->
    Qv prog K1 [.c (.ptr R.l 0), .c (.sl fl 1 (Bg ss)), Uv deep] H K := by
  intro d
  induction d using Nat.strongRecOn with
  | ind d ih =>
  intro k H K deep hd hH hk hK;have qu : 1 <= 2^d := Jac;have iN : d < 2^d := Nat.lt_two_pow_self;refine Qz ?_;refine Qd A6 Y5 ?_;refine Qa ?_;simp only [go_sem];intro x hx H1 h1;have kn := (Kn.start1 hH (R.an k)).al hx h1;refine Q1 (Qa ?_);simp only [go_sem];have rest : ∀ (b : Bool) (H2 : Heap) (k2 : Nat), k <= k2 -> k2 <= k + 1 -> Kn H H2 [(R.l, R.o k2)] [(x, .st [Ui 0, Ui 0, .str [], .sl true 4 []])] -> (b = false -> 2 <= deep) ->
      A9 prog (s_l2Expr_2.seq Nn) (Q7 D9 (unK H K))
       [(0, V.c (C.ptr R.l 0)), (1, V.c (C.sl fl 1 (Bg ss))), (2, Uv deep), (6, V.c (C.ptr x 0)), (14, V.c (.bool b))] H2 := by
    intro b H2 k2 i9 fx kn hb;have fin : ∀ (op n : Int) (name : List UInt8) (fl : Bool) (kids : List Ex) (H3 : Heap) (k3 : Nat) (o : Obj), k < k3 -> k3 + 3 <= k + 6 * 2^d -> Kn H H3 [(R.l, R.o k3)] [(x, .st [Ui op, Ui n, .str name, .sl fl 4 (AO kids)])] ->
        (op = 10 -> kids.length = 2) -> Bj kids -> k + 1 + AR kids <= k3 ->
        A5 D9 [(6, V.c (C.ptr x 0))] H3 (unK H K) := by
      intro op n name fl kids H3 k3 o g1 g2 kn g3 g4 g5;have aK := kn.l 0 rfl;simp only [go_sem, A5, D9, Ja, forall_eq, RS.op, aK];refine ⟨_, (Ex.mk op n name kids).frz, hK _ _ k3 g1 g2 kn.fin ?_ ?_⟩
      · simp only [Ex.ok]; exact ⟨g3, g4⟩
      · simp only [Ex.size]; omega
    refine Wu ?_ ?_
    · intro aT;refine Qa ?_;simp only [go_sem];refine YJ (kn.e 0 rfl) ZA λy H3 k3 g1 g2 hu aw bj => ?_;have kn := kn.aq 0 rfl hu (R.an _);have aK := kn.l 0 rfl;simp only [go_sem, Nm, aK, y.aF];intro H4 h4;have kn := kn.aA 0 rfl h4;refine Qk ?_;simp only [go_sem, Q7];refine fin _ _ _ _ _ _ k3 .none ZA ZA kn (Ex.ok_and aw) (Ex.ok_kids aw) ?_;have := y.size_kids; omega
    · intro aT;have jY := hb aT;have hp : 2^d = 2 * 2^(d-1) := (by rw [<- Nat.pow_succ']; congr 1; omega);have eV : 1 <= 2^(d-1) := Jac;have ihd := λ{k H K} => @ih (d-1) ZA k H K;generalize 2^(d-1) = e at *;refine Qi ?_;simp only [go_sem];refine Q1 (Qa ?_);simp only [go_sem];refine AX (kn.e 0 rfl) ZA λv H3 hv hu => ?_;have kn := kn.aq 0 rfl hu (R.an _);simp only [go_sem, Nl];refine Wu ?_ ?_
      · intro hc;refine Qa ?_;simp only [go_sem];refine BA (ns := [11, 12, 11]) (kn.e 0 rfl) ZA ZC λop H4 bG hu => ?_;have kn := kn.aq 0 rfl hu (R.an _);simp only [go_sem, Nj];refine ⟨Qr, ?_⟩;refine ihd (deep - 1) ZA (kn.e 0 rfl) ZA λy H5 k5 g1 g2 hu aw bj => ?_;have kn := kn.aq 0 rfl hu (R.an _);have bm := kn.l 0 rfl;simp only [go_sem, Nk, bm, y.az];intro H6 h6;have kn := kn.aA 0 rfl h6;refine Qk ?_;simp only [go_sem, Q7];refine fin op 0 [] true [y] _ k5 .none ZA ZA kn (λh => ?_) ⟨aw, trivial⟩ ?_
        · subst h; simp at bG
        · simp only [AR]; omega
      · intro hc;refine Qi ?_;simp only [go_sem];refine Qa ?_;simp only [go_sem];refine BA (ns := [3, 3, 4, 5, 6, 7, 8, 9, 10]) (kn.e 0 rfl) ZA ZC λop H4 bG hu => ?_;have kn := kn.aq 0 rfl hu (R.an _);simp only [go_sem, Ni];refine Qa ?_;simp only [go_sem];refine ⟨Qr, ?_⟩;refine ihd (deep - 1) ZA (kn.e 0 rfl) ZA λy H5 k5 g1 g2 hu aw bj => ?_;have kn := kn.aq 0 rfl hu (R.an _);simp only [go_sem, Ng];refine ⟨Qr, ?_⟩;refine ihd (deep - 1) ZA (kn.e 0 rfl) ZA λz H6 k6 g3 g4 hu fd hsz2 => ?_;have kn := kn.aq 0 rfl hu (R.an _);have bm := kn.l 0 rfl;simp only [go_sem, Nh, bm, y.az, z.az];intro H7 h7;have kn := kn.aA 0 rfl h7;refine Qk ?_;simp only [go_sem, Q7];refine fin op 0 [] true [y, z] _ k6 .none ZA ZA kn (λh => rfl) ⟨aw, fd, trivial⟩ ?_;simp only [AR]; omega
  refine ⟨λhb => ?_, λhb => ?_⟩
  · refine AX (kn.e 0 rfl) ZA λv H2 hv hu => ?_;have kn := kn.aq 0 rfl hu (R.an _);simp only [go_sem, PB];refine rest _ H2 (k + 1) ZA ZA kn ?_;intro h;have : ¬ deep < 2 := ZX;omega
  · have cx : decide (deep < 2) = true := ZX;simp only [go_sem, PB, cx];exact rest true H1 k ZA ZA kn (λh => by simp at h)
theorem Qaqw {R:Rdr}{gl k:Nat}{s:GS}{H:Heap}{K:Uk}(hR:H R.l=R.o k)(hG:H gl=s.o R)(bf:R.l≠gl)(hs:s.ok k)(hk:k+2<=2^30)
  (hK:∀(name:List UInt8) (H':Heap) (k':Nat),k+1<=k'->k'<=k+2->Upd H H' [(R.l,R.o k'),(gl,GS.o { s with next:=s.next+1 } R)]->K (.c (.str name)) H') :
  Qv prog Qtd [Up gl] H K:=by
 have h0:=hs.n0;have o8:=hs.n1;refine Qz ?_;refine Qd A6 Qaq9 ?_;refine Za ?_;refine Zv hG ?_;refine⟨Qr,λH1 h1=>?_⟩;have kn:Kn H H1 [(R.l,R.o k),(gl,GS.o { s with next:=s.next+1 } R)] []:=(Kn.start2 hR (R.an k) hG (s.an R) bf).stE 1 rfl h1;have jd:=kn.e 1 rfl;refine Q1 (Qa ?_);simp only[go_sem,jd,GS.o];refine AX (kn.e 0 rfl) ZA λv H2 hv hu=>?_;have kn:=kn.aq 0 rfl hu (R.an _);have fq:=kn.e 1 rfl;simp only[go_sem,Qls,fq,GS.o];intro hl;refine Wu ?_ ?_
 ·intro hc;have oC:0<s.vars.length:=by
   rw[BB]at hc;cases h:decide (v=0) <;> rw[h]at hc <;> simp_all
  refine AC ?_;simp only[go_sem,fq,GS.o];refine of_c (kn.e 0 rfl) ZA oC λname H3 hn hu=>?_;have kn:=kn.aq 0 rfl hu (R.an _);simp only[go_sem,Qlt];refine Zf ?_;exact⟨_,.c _ _ (Qg rfl),hK _ _ (k+1+1) ZA ZA kn.fin⟩
 ·intro hc;refine Zc ?_;refine AC ?_;have e1:0<=(s.next+1).tmod 24:=J8 _ ZA;have e2:(s.next+1).tmod 24<24:=J2 _ ZA;simp only[go_sem,fq,GS.o];refine⟨ZA,ZA,Qr,ZA,?_⟩;refine Zf ?_;exact⟨_,.c _ _ (Qg rfl),hK _ _ (k+1) ZA ZA kn.fin⟩
theorem N3 {R:Rdr}{gl k:Nat}{s:GS}{x:Ex}{fl:Bool}{H:Heap}{K:Uk}(hR:H R.l=R.o k)(hG:H gl=s.o R)(bf:R.l≠gl)(hs:s.ok k)(hk:k+2<=2^30)
  (hK:∀(name:List UInt8) (H':Heap) (k':Nat),k+1<=k'->k'<=k+2->Upd H H' [(R.l,R.o k'),(gl,GS.o { s with next:=s.next+1,vars:=s.vars++[name],vfl:=false } R)]->K (.ag (St.mk 1 name [x] [] []).cells) H') :
  Qv prog Q21 [Up gl,.ag [Ui x.op,Ui x.n,.str x.name,.sl fl 4 (AO x.kids)]] H K:=by
 have hv:=hs.v;refine CG ?_;refine Qd A6 Qa5r ?_;refine Za ?_;intro y hy H1 h1;have kn:=(Kn.start2 hR (R.an k) hG (s.an R) bf).al hy h1;refine Za ?_;refine Qaqw (kn.e 0 rfl) (kn.e 1 rfl) bf hs hk λname H2 k' g1 g2 hu=>?_;have kn:=kn.callEE 0 1 rfl rfl ZN hu (R.an _) (GS.an _ _);have fq:=kn.e 1 rfl;simp only[go_sem,Qvf];refine Qa ?_;have hL:s.vars.length<=LIM:=ZY
 have hL1:s.vars.length+1<=LIM:=ZY
 simp only[go_sem,fq,GS.o,BB,Jg,Jq,hL];refine⟨.inl trivial,OE _,?_⟩;intro z hz H3 h3;have kn:=kn.al hz h3;have vk:=kn.l 1 rfl;have pu:=kn.e 1 rfl;simp only[go_sem,Qvh,vk,BB,Qbc8,hL1,Jd];refine⟨ZA,λz' cV H4 h4=>?_⟩;have kn:=kn.ap 1 rfl cV h4;have u0:=kn.e 1 rfl;simp only[go_sem,Qvg,u0,GS.o];intro H5 h5;have kn:=kn.stE 1 rfl h5;have hy5:=kn.l 0 rfl;refine Zi hy5 ?_;intro H6 h6;have kn:=kn.aA 0 rfl h6;have hy6:=kn.l 0 rfl;refine Zj hy6 ?_;refine⟨un H,(.ag (St.mk 1 name [x] [] []).cells),(H6.frz (un H)).set gl (GS.o { s with next:=s.next+1,vars:=s.vars++[name],vfl:=false } R),?_,?_,hK name _ k' g1 g2 (kn.fin.set2 bf)⟩
 ·simp only[St.cells,AO,AF,x.aF];exact (FrzL.cons (Qg rfl) (.cons (Qg rfl) (.cons (FrzR.cons (.cons (Qg rfl) (.cons (Qg rfl) (.cons (Qg rfl) (.cons (FrzR.same (Hj _)).sl .nil)))) .nil).sl (.cons (FrzR.nil).sl (.cons (FrzR.nil).sl .nil))))).ag
 ·refine (CP _ _).set (Fy (kn.usedE 1 rfl)) ?_;rw[kn.e 1 rfl];refine FrzKL.st (.same (.same (.cons rfl ?_ (.same (.same .nil)))));exact FC (kn.un 1 rfl) (kn.l 1 rfl) (by simp[Bg]) (noOw_mem (OE _))
theorem EE {R : Rdr} {gl k : Nat} {s : GS} {H : Heap} {K : V -> Heap -> Prop} (deep : Int) (hd : deep <= 3) (hR : H R.l = R.o k) (hG : H gl = s.o R) (bf : R.l ≠ gl) (hs : s.ok k) (hF : FnsOk H R gl s) (hk : k + 200 <= 2^30)
    (hK : ∀ (x : Ex) (H' : Heap) (k' : Nat), k < k' -> k' <= k + 200 -> Upd H H' [(R.l, R.o k')] -> x.ok -> k + x.size <= k' -> K (.ag x.cells) H') :
    Qv prog Qxs [Up gl, Uv deep] H K := by
  have iD := hs.fn;refine Qz ?_;refine Qd A6 Qawv ?_;refine Qa ?_;simp only [go_sem];intro x4 aY H1 h1;have kn := (Kn.start2 hR (R.an k) hG (s.an R) bf).al aY h1;have jd := kn.e 1 rfl;refine AC ?_;simp only [go_sem, jd, GS.o];refine F5 3 deep ZA (kn.e 0 rfl) ZA λe H2 k2 g1 g2 hu qZ iU => ?_;have kn := kn.aq 0 rfl hu (R.an _);have fq := kn.e 1 rfl;simp only [go_sem, Qqb];intro x5 bm H3 h3;have kn := kn.al bm h3;have pu := kn.e 1 rfl;have eN := kn.l 1 rfl;simp only [go_sem, Qqa, pu, eN, GS.o, e.aF];intro H4 h4;have kn := kn.aA 1 rfl h4;have u0 := kn.e 1 rfl;refine Q1 (Qa ?_);simp only [go_sem, u0, GS.o, hF.ow, hF.ok kn, hF.len];intro hl;have fin : ∀ (op n : Int) (name : List UInt8) (c : C) (kids : List Ex) (H3 : Heap) (k3 : Nat) (L : List (Nat × Obj)), k < k3 -> k3 <= k + 200 -> Kn H H3 [(R.l, R.o k3), (gl, s.o R)] L ->
      L[0]? = some (x4, .st [Ui op, Ui n, .str name, c]) -> c.ah = false -> FrzC H3 (un H) c (.sl false 4 (AO kids)) -> (Ex.mk op n name kids).ok -> k + (Ex.mk op n name kids).size <= k3 ->
      A5 E8 [(4, V.c (C.ptr x4 0))] H3 (unK H K) := by
    intro op n name c kids H3 k3 L g1 g2 kn g3 bx g4 g5 g6;have aK := kn.l 0 g3;simp only [go_sem, A5, E8, Ja, forall_eq, RS.op, aK, bx];refine ⟨(.ag (Ex.mk op n name kids).cells), ?_, hK _ _ k3 g1 g2 (kn.fin.drop2 hG) g5 g6⟩;rw [Ex.aF];exact (FrzL.cons (Qg rfl) (.cons (Qg rfl) (.cons (Qg rfl) (.cons g4 .nil)))).ag
  have rest : ∀ (b : Bool) (H2 : Heap) (k3 : Nat), k2 <= k3 -> k3 <= k2 + 1 -> Kn H H2 [(R.l, R.o k3), (gl, s.o R)] [(x4, .st [Ui 0, Ui 0, .str [], .sl true 4 []]), (x5, .st [Ui e.op, Ui e.n, .str e.name, .sl false 4 (AO e.kids)])] ->
      (b = false -> 0 < s.fns.length) ->
      A9 prog (s_l3Gen_expr_3.seq Qp9) (Q7 E8 (unK H K))
       [(0, V.c (C.ptr gl 0)), (4, V.c (C.ptr x4 0)), (5, V.c (C.ptr x5 0)), (32, .c (.bool b))] H2 := by
    intro b H2 k3 g3 g4 kn hb;have lA := kn.l 1 rfl;have pQ := kn.l 0 rfl;refine Wu ?_ ?_
    · intro aT;refine Qa ?_;simp only [go_sem, lA, pQ];intro H3 h3;have kn := kn.aA 0 rfl h3;refine Qk ?_;simp only [go_sem, Q7]
      cases e with
      | mk op n name kids => exact fin op n name _ kids H3 k3 _ ZA ZA kn rfl rfl (Es (noOw_mem (Hj _))) qZ ZA
    · intro aT;have ir := hb aT;refine Qi ?_;simp only [go_sem];have pu := kn.e 1 rfl;refine AC ?_;simp only [go_sem, pu, GS.o, hF.ow, hF.ok kn, hF.len];refine AX (kn.e 0 rfl) ZA λv H3 hv hu => ?_;have kn := kn.aq 0 rfl hu (R.an _);rw [if_neg ZA] at hv;obtain ⟨i, rfl⟩ := Jo hv.1;have hi : i < s.fns.length := ZA;have u0 := kn.e 1 rfl;simp only [go_sem, Qqd, u0, GS.o, hF.ow, hF.ok kn, hF.len, hF.rows kn, hF.esz, hi, G6 _ _ hi, Fn.cells];intro x6 aZ H4 h4;have kn := kn.al aZ h4;have hG5 := kn.e 1 rfl;have v6 := kn.l 2 rfl;simp only [go_sem, Qqc, hG5, v6, GS.o, hF.ow, hF.ok kn, hF.len, hF.rows kn, hF.esz, hi, G6 _ _ hi, Fn.cells];have fM := hs.f _ (Jb hi);generalize s.fns[i] = f at *;intro H5 h5;have kn := kn.aA 2 rfl h5;have lz := kn.l 2 rfl;refine Qa ?_;simp only [go_sem, lz];intro x7 b7 H6 h6;have kn := kn.al b7 h6;have kh := kn.l 2 rfl;have pK := kn.l 3 rfl;simp only [go_sem, Qqe, pK];intro H7 h7;have kn := kn.aA 3 rfl h7;refine Q1 (Qa ?_);simp only [go_sem];refine Qh (Qe (Qx (λn e1 H1 => ∃ (i k4 : Nat) (kids : List Ex) (c : C) (Lg : List (Nat × Obj)), n = f.params.length - i /\ i <= f.params.length /\ k4 <= k3 + 1 + 21 * i /\ k3 + 1 + AR kids <= k4 /\ Bj kids /\ kids.length = i /\
        Gr Lg 4 (AO kids) c /\ Kn H H1 [(R.l, R.o k4), (gl, s.o R)] ([(x4, .st [Ui 0, Ui 0, .str [], .sl true 4 []]), (x5, .st [Ui e.op, Ui e.n, .str e.name, .sl false 4 (AO e.kids)]),
          (x6, .st [.str f.name, .sl false 1 (Bg f.params), .sl false 5 (AF f.body)]), (x7, .st [Ui 13, Ui 0, .str f.name, c])] ++ Lg) /\
        e1 = [(0, V.c (C.ptr gl 0)), (4, V.c (C.ptr x4 0)), (6, V.c (C.ptr x6 0)), (7, V.c (C.ptr x7 0)), (8, V.c (C.int IntKind.i64 i))]) f.params.length ?_ ?_))
      · exact ⟨0, k3 + 1, [], _, [], by omega, by omega, by omega, by simp [AR], trivial, rfl, .nil 4, kn, rfl⟩
      · rintro n e1 H1 ⟨i, k4, kids, c, Lg, hn, xM, iQ, hksz, gz, ce, ay, kn, rfl⟩;have v7 := kn.l 2 rfl;have lu := kn.l 3 rfl;have jd := kn.e 1 rfl;refine Q1 (Qa ?_);simp only [go_sem, v7, BB];intro cQ;refine Wu ?_ ?_
        · intro hc;have af : i < f.params.length := ZD;refine Qi ?_;simp only [go_sem];refine Qh (Qe (AY ?_));have bD := ay.ah;simp only [go_sem, lu, jd, GS.o, bD];refine F5 2 2 ZA (kn.e 0 rfl) ZA λz H2 k5 g5 g6 hu aw bj => ?_;have kn := kn.aq 0 rfl hu (R.an _);have ge := kn.l 3 rfl;simp only [go_sem, Qqg, ge, bD, z.az];refine kn.grow (new := [z.cells]) ay (.mk' _ _ _ _) (by simp [z.ak]) (by simp only [BK, Jl, Jm, LIM]; omega) λy' H3 kn => ?_;have pN := kn.l 3 rfl;simp only [go_sem, Qqf, pN];intro H4 h4;have kn := kn.aA 3 rfl h4;refine Qq ?_;simp only [go_sem];refine ⟨Qr, ?_⟩;refine ⟨f.params.length - (i + 1), by omega, i + 1, k5, kids ++ [z], _, _, rfl, by omega, by omega, ?_, Qbjh gz ⟨aw, trivial⟩, by simp [ce], ?_, kn, ?_⟩
          · simp only [PF, AR]; omega
          · rw [<- Qbe7]; exact .mk _ _ _ ZC
          · simp
        · intro hc;have bp : f.params.length <= i := ZD;refine Qu ?_;simp only [go_sem, X.next];refine Q1 (Qa ?_);simp only [go_sem, jd, GS.o];refine AX (kn.e 0 rfl) ZA λv H2 hv hu => ?_;have kn := kn.aq 0 rfl hu (R.an _);have ge := kn.l 3 rfl;have pQ := kn.l 0 rfl;have bD := ay.ah;have fq := kn.e 1 rfl;simp only [go_sem, Qlp];refine Wu ?_ ?_
          · intro hc;refine Qa ?_;simp only [go_sem, ge, pQ, bD];intro H3 h3;have kn := kn.aA 0 rfl h3;refine Qk ?_;simp only [go_sem, Q7];refine fin 13 0 f.name c kids H3 (k4 + 1) _ ZA ZA kn rfl bD (ay.frz (B := [_, _, _, _]) kn (Hj _)) ?_ ?_
            · simp only [Ex.ok]; exact ⟨λh => by simp at h, gz⟩
            · simp only [Ex.size]; omega
          · intro hc;refine Qi ?_;simp only [go_sem];refine AC ?_;simp only [go_sem, ge, fq, bD, GS.o];refine BA (ns := [3, 4, 8, 10]) (kn.e 0 rfl) ZA ZC λop H3 bG hu => ?_;have kn := kn.aq 0 rfl hu (R.an _);have pN := kn.l 3 rfl;have pu := kn.e 1 rfl;simp only [go_sem, Qlr, pN, pu, bD, GS.o];refine F5 2 2 ZA (kn.e 0 rfl) ZA λz H4 k5 g5 g6 hu aw bj => ?_;have kn := kn.aq 0 rfl hu (R.an _);have ny := kn.l 3 rfl;have vE := kn.l 0 rfl;simp only [go_sem, Qlq, ny, vE, bD, z.az];intro H5 h5;have kn := kn.aA 0 rfl h5;refine Qk ?_;simp only [go_sem, Q7];refine fin op 0 [] _ [Ex.mk 13 0 f.name kids, z] H5 k5 _ ZA ZA kn rfl rfl ?_ ?_ ?_
            · refine FrzR.sl (.cons ?_ (.cons (.same z.ak) .nil));rw [Ex.aF];exact .cons (Qg rfl) (.cons (Qg rfl) (.cons (Qg rfl) (.cons (ay.frz (B := [_, _, _, _]) kn (Hj _)) .nil)))
            · simp only [Ex.ok, Bj]; exact ⟨λh => rfl, ⟨λh => by simp at h, gz⟩, aw, trivial⟩
            · simp only [Ex.size, AR]; omega
  refine ⟨λhb => ?_, λhb => ?_⟩
  · refine AX (kn.e 0 rfl) ZA λv H5 hv hu => ?_;have kn := kn.aq 0 rfl hu (R.an _);simp only [go_sem, Ru];refine rest _ H5 (k2 + 1) ZA ZA kn ?_;intro h;have : ¬ s.fns.length = 0 := ZX;omega
  · have cx : decide ((s.fns.length : Int) = 0) = true := ZX;simp only [go_sem, Ru, cx];exact rest true H4 k2 ZA ZA kn (λh => by simp at h)
theorem Q28 {R:Rdr}{gl k:Nat}{s:GS}{H:Heap}{K:Uk}(hR:H R.l=R.o k)(hG:H gl=s.o R)(bf:R.l≠gl)(hs:s.ok k)(hF:FnsOk H R gl s)(hk:k+201<=2^30)
  (hK:∀(x:Ex) (H':Heap) (k':Nat),k<k'->k'<=k+201->Upd H H' [(R.l,R.o k')]->x.ok->2 * k+x.size<=2 * k'->K (.ag x.cells) H') :
  Qv prog Qxr [Up gl] H K:=by
 refine Qz ?_;refine Qd A6 Qawu ?_;refine Za ?_;intro x2 aH H1 h1;have kn:=(Kn.start2 hR (R.an k) hG (s.an R) bf).al aH h1;have jd:=kn.e 1 rfl;refine AC ?_;simp only[go_sem,jd,GS.o];refine EE 2 ZA (kn.e 0 rfl) (kn.e 1 rfl) bf hs (hF.keep kn rfl rfl) ZA λe H2 k2 g1 g2 hu qZ iU=>?_;have kn:=kn.aq 0 rfl hu (R.an _);have fq:=kn.e 1 rfl;simp only[go_sem,Qp8,fq,GS.o];refine BA (ns:=[16,16,16,8,17,0]) (kn.e 0 rfl) ZA ZC λv H3 hv hu=>?_;have kn:=kn.aq 0 rfl hu (R.an _);have vK:=kn.l 0 rfl;simp only[go_sem,Qp7,vK,e.az];intro H4 h4;have kn:=kn.aA 0 rfl h4;have lD:=kn.l 0 rfl;refine Zj lD ?_;refine⟨(.ag (Ex.mk 7 0 [] [e,Ex.mk 1 v [] []]).cells),?_,hK _ _ (k2+1) ZA ZA (kn.fin.drop2 hG) ?_ ?_⟩
 ·rw[Ex.aF (Ex.mk 7 0 [] _)];refine FrzL.ag ?_;refine .cons (Qg rfl) (.cons (Qg rfl) (.cons (Qg rfl) (.cons (FrzR.sl (.cons (.same e.ak) (.cons ?_ .nil))) .nil)));simp only[Ex.cells,AO];exact .cons (Qg rfl) (.cons (Qg rfl) (.cons (Qg rfl) (.cons (FrzR.nil).sl .nil)))
 ·simp only[Ex.ok,Bj];exact⟨λh=>rfl,qZ,⟨λh=>ZH,trivial⟩,trivial⟩
 ·simp only[Ex.size,AR];omega
def Fd (d:Nat):Prop:=∀(R:Rdr) (gl k:Nat) (s:GS) (H:Heap) (K:V->Heap->Prop) (deep:Int),deep<=d->H R.l=R.o k->H gl=s.o R->R.l≠gl->s.ok k->FnsOk H R gl s->k+500 * 10^d<=2^30->
  (∀(l:List St) (s':GS) (H':Heap) (k':Nat),k<k'->k'<=k+500 * 10^d->Upd H H' [(R.l,R.o k'),(gl,s'.o R)]->s'.ok k'->s.left+4 * (k:Int)<=s'.left+4 * (k':Int)->s'.fns=s.fns->s'.ffl=s.ffl->l.length<=2->Bc l->4 * k+Q8 l<=4 * k'->K (.c (.sl false 5 (AF l))) H')->
  Qv prog Qxu [.c (.ptr gl 0),.c (.int .i64 deep)] H K
def Gj (d:Nat):Prop:=∀(R:Rdr) (gl k:Nat) (s:GS) (H:Heap) (K:V->Heap->Prop) (deep:Int),deep<=d->H R.l=R.o k->H gl=s.o R->R.l≠gl->s.ok k->FnsOk H R gl s->k+2001 * 10^d<=2^30->
  (∀(l:List St) (c:C) (Lg:List (Nat×Obj)) (s':GS) (H':Heap) (k':Nat),k<k'->k'<=k+2001 * 10^d->Upd H H' [(R.l,R.o k'),(gl,s'.o R)]->Gr Lg 5 (AF l) c->New H H' Lg->s'.ok k'->s.left+4 * (k:Int)<=s'.left+4 * (k':Int)->s'.fns=s.fns->s'.ffl=s.ffl->
   l.length<=8->Bc l->4 * k+Q8 l<=4 * k'->K (.c c) H')->
  Qv prog Qtc [.c (.ptr gl 0),.c (.int .i64 deep)] H K
theorem IK {d:Nat}(hS:Fd d):Gj d:=by
 intro R gl k s H K deep hd hR hG bf hs hF hk hK;have iN:d<10^d:=J0 ZA;generalize j6:10^d=e at *;have mM:=hS;simp only[Fd]at mM;rw[j6]at mM;generalize hM:500 * e=M at *;refine CG ?_;refine Qd A6 Qaq8 ?_;refine Za ?_;refine Zv hG ?_;refine Wg ?_;simp only[go_sem,hG,GS.o];have kn:=Kn.start2 hR (R.an k) hG (s.an R) bf;refine BA (ns:=[2,3,1,4]) hR ZA ZC λv H1 hv hu=>?_;have kn:=kn.aq 0 rfl hu (R.an _);simp only[go_sem,Qlm];have hv4:1<=v/\v<=4:=by simp at hv;omega
 refine Qh (Qe (Qx (λn e1 H1=>∃(j k4:Nat) (l:List St) (c:C) (Lg:Ul) (s':GS),n=v.toNat-j/\(j:Int)<=v/\k+1<=k4/\k4<=k+1+M * j/\4 * k+Q8 l<=4 * k4/\Bc l/\l.length<=2 * j/\
    Gr Lg 5 (AF l) c/\s'.ok k4/\s.left+4 * (k:Int)<=s'.left+4 * (k4:Int)/\s'.fns=s.fns/\s'.ffl=s.ffl/\Kn H H1 [(R.l,R.o k4),(gl,s'.o R)] ([]++Lg)/\
    e1=[(0,V.c (C.ptr gl 0)),(1,Uv deep),(5,.c (.sl s.vfl 1 (Bg s.vars))),(6,.c c),(7,V.c (C.int IntKind.i64 (v-j)))]) v.toNat ?_ ?_))
 ·exact⟨0,k+1,[],_,[],s,ZA,ZA,ZA,ZA,by simp only[Q8];omega,trivial,ZC,.nil 5,hs.mono ZA,ZA,rfl,rfl,kn,ZC⟩
 ·rintro n e1 H1 ⟨j,k4,l,c,Lg,s',hn,hj,iQ,xA,bj,aw,kz,ay,dV,hlf,qW,ng,kn,rfl⟩;have jd:=kn.e 1 rfl;have hMj:M * j<=M * 4:=J1 _ ZA;refine Q1 (Qa ?_);simp only[go_sem,jd,GS.o];refine Wu ?_ ?_
  ·intro hc;have hi:(j:Int)<v:=by
    cases h:decide (0<v-(j:Int))with
    |true=>have:0<v-(j:Int):=by simpa using h
           omega
    |false=>rw[h]at hc;simp at hc
   have Ar:M * (j+1)=M * j+M:=Jap _ _;have vf:M * (j+1)<=M * 4:=J1 _ ZA;refine Zc ?_;refine Qh (Qe (Qq ?_));simp only[go_sem];refine mM _ _ _ _ _ _ deep hd (kn.e 0 rfl) (kn.e 1 rfl) bf dV (hF.keep kn qW ng) ZA λl2 s2 H2 k5 g1 g2 hu g3 glf g4 g5 g6 g7 g8=>?_;have kn:=kn.callEE 0 1 rfl rfl ZN hu (R.an _) (GS.an _ _);simp only[go_sem,Qlo];refine kn.grow ay (.mk' _ _ _ (AF l2)) (G4 _) (by simp only[BV,LIM];omega) λy' H3 kn=>?_;simp only[go_sem,Qln];refine Zh ?_;refine⟨Qr,?_⟩;simp only[X.next];refine⟨v.toNat-(j+1),ZA,j+1,k5,l++l2,.ai y' 5 0 ((AF l).length+(AF l2).length),_,s2,rfl,ZA,ZA,ZA,?_,FH aw g7,by simp;omega,?_,g3,ZA,g4.trans qW,g5.trans ng,kn,?_⟩
   ·rw[Hm];omega
   ·rw[FI];exact .mk _ _ _ (by simp[BV])
   ·have:v-((j+1:Nat):Int)=v-j-1:=ZA;rw[this]
  ·intro hc;refine Zb ?_;refine Zv jd ?_;intro H2 h2;have kn:Kn H H2 [(R.l,R.o k4),(gl,GS.o { s' with vars:=s.vars,vfl:=s.vfl } R)] ([]++Lg):=kn.stE 1 rfl h2;refine Ws ?_;refine⟨unx H Lg,_,H2.frz (unx H Lg),.c _ _ (.same _ ay.ah),CP _ _,?_⟩;refine hK l c Lg _ _ k4 ZA ZA kn.finx.1 ay kn.finx.2 ⟨dV.n0,dV.n1,dV.l0,dV.l1,?_,dV.f,dV.fn⟩ (by show _<=s'.left+_;omega) qW ng ZA aw bj;have:=hs.v;show s.vars.length<=_;omega
def Ff (d:Nat):Prop:=∀(R:Rdr) (gl k:Nat) (s:GS) (H:Heap) (K:V->Heap->Prop) (deep:Int),deep<=d+1->2<=deep->H R.l=R.o k->H gl=s.o R->R.l≠gl->s.ok k->FnsOk H R gl s->k+2001 * 10^d+10<=2^30->
  (∀(l:List St) (s':GS) (H':Heap) (k':Nat),k+2<k'->k'<=k+2001 * 10^d+3->Upd H H' [(R.l,R.o k'),(gl,s'.o R)]->s'.ok k'->s.left+4 * (k:Int)<=s'.left+4 * (k':Int)->s'.fns=s.fns->s'.ffl=s.ffl->l.length<=2->Bc l->4 * k+Q8 l<=4 * k'->K (.c (.sl false 5 (AF l))) H')->
  Qv prog Qxt [.c (.ptr gl 0),.c (.int .i64 deep)] H K
theorem Va {d:Nat}(hB:Gj d):Ff d:=by
 intro R gl k s H K deep hd eT hR hG bf hs hF hk hK;have iN:d<10^d:=J0 ZA;have rX:=hB;simp only[Gj]at rX;generalize j6:10^d=e at *;refine Qz ?_;refine Qd A6 Qaww ?_;refine Za ?_;refine Zv hG ?_;have kn:=Kn.start2 hR (R.an k) hG (s.an R) bf;refine BA (ns:=[2,3,1,0,5]) hR ZA ZC λv H1 hv hu=>?_;have kn:=kn.aq 0 rfl hu (R.an _);simp only[go_sem,Qqk];refine N3 (x:=Ex.mk 1 v [] []) (fl:=true) (kn.e 0 rfl) (kn.e 1 rfl) bf (hs.mono (Jak k)) ZA λname H2 k2 g1 g2 hu=>?_;have kn:=kn.callEE 0 1 rfl rfl ZN hu (R.an _) (GS.an _ _);simp only[go_sem,Qqj];intro x5 bm H3 h3;have kn:=kn.al bm h3;have eN:=kn.l 0 rfl;simp only[go_sem,Qqi,eN,St.cells];intro H4 h4;have kn:=kn.aA 0 rfl h4;have gf:=kn.l 0 rfl;refine Zi gf ?_;intro x6 aZ H5 h5;have kn:=kn.al aZ h5;have lz:=kn.l 1 rfl;simp only[go_sem,Qql,lz];intro H6 h6;have kn:=kn.aA 1 rfl h6;refine Za ?_;refine⟨Qr,?_⟩;have dk:GS.ok { s with next:=s.next+1,vars:=s.vars++[name],vfl:=false } k2:=by
  refine⟨?_,?_,?_,hs.l1,?_,hs.f,hs.fn⟩
  ·have:=hs.n0;show -1<=s.next+1;omega
  ·have:=hs.n1;show s.next+1<=_;omega
  ·have:=hs.l0;show _<=s.left;omega
  ·have:=hs.v;show (s.vars++[name]).length<=_;simp;omega
 refine rX _ _ _ _ _ _ (deep-1) ZA (kn.e 0 rfl) (kn.e 1 rfl) bf dk (hF.keep kn rfl rfl) ZA λl c Lg s3 H7 k3 g3 g4 hu ay eG jS glf g5 g6 g7 g8 g9=>?_;have kn0:=kn;have kn:=kn.callEE 0 1 rfl rfl ZN hu (R.an _) (GS.an _ _);have kn:=kn0.addGr kn rfl rfl ay eG;have pO:=kn.l 0 rfl;have kh:=kn.l 1 rfl;simp only[go_sem,O4];refine Zn pO kh ?_;intro x8 be H8 h8;have kn:=kn.al be h8;have kn:=kn.perm (L':=[(x5,_),(x6,_),(x8,_)]++Lg) (by
  simp only[List.set,Jq,Js];refine .cons _ (.cons _ ?_);exact Jj)
 have vu:=kn.l 2 rfl;simp only[go_sem,Qqn,vu];intro H9 h9;have kn:=kn.aA 2 rfl h9;have yO:=kn.e 1 rfl;refine Zv yO ?_;have i8:=jS.l0;have tB:=jS.l1;refine⟨Qr,λH10 dh=>?_⟩;have kn:Kn H H10 [(R.l,R.o k3),(gl,GS.o { s3 with left:=s3.left-2 } R)] ([(x5,_),(x6,_),(x8,_)]++Lg):=kn.stE 1 rfl dh;have vA:=kn.l 0 rfl;have lw:=kn.l 1 rfl;have vr:=kn.l 2 rfl;refine AC ?_;simp only[go_sem,vA,lw,vr];refine kn.grow ay (.mk' _ _ _ _) (by intro r hr;simp only[Ja]at hr;subst hr;rfl) (by simp only[BV,LIM,Jl,Jm];omega) λy' H11 kn=>?_;have v8:=kn.l 0 rfl;have gY:=kn.l 1 rfl;have cP:=kn.l 3 rfl;simp only[go_sem,Qqo,v8,gY];refine Zf ?_;have ew:GS.ok { s3 with left:=s3.left-2 } k3:=⟨jS.n0,jS.n1,by show _<=s3.left-2;have:=hs.l0;simp only at glf;omega,by show s3.left-2<=100;omega,jS.v,jS.f,jS.fn⟩;refine⟨.c (.sl false 5 (AF [St.mk 1 name [Ex.mk 1 v [] []] [] [],St.mk 6 [] [Ex.mk 2 0 name []] (l++[St.mk 2 name [Ex.mk 4 0 [] [Ex.mk 2 0 name [],Ex.mk 1 1 [] []]] [] []]) []])),.c _ _ ?_,hK _ _ _ k3 ZA ZA kn.fin ew (by show _<=s3.left-2+_;simp only at glf;omega) g5 g6 ZC ?_ ?_⟩
 ·simp only[AF,St.cells,AO,Ex.cells,<-FI]
  repeat' first|exact FrzL.nil|exact FrzR.nil|exact Qg rfl|exact FrzL.same (Ex.ak _)|exact FrzL.same (St.ak _)|refine FrzL.cons ?_ ?_|refine FrzR.cons ?_ ?_|refine FrzR.sl ?_
  refine FrzR.ai (kn.un 3 rfl) cP ZC (.app (.same (G4 _)) ?_)
  repeat' first|exact FrzL.nil|exact FrzR.nil|exact Qg rfl|exact FrzL.same (Ex.ak _)|exact FrzL.same (St.ak _)|refine FrzL.cons ?_ ?_|refine FrzR.cons ?_ ?_|refine FrzR.sl ?_
 ·simp only[Bc,St.ok,Bj,Ex.ok];refine⟨⟨ZC,⟨⟨λh=>ZH,trivial⟩,trivial⟩,trivial,trivial⟩,⟨ZC,⟨⟨λh=>ZH,trivial⟩,trivial⟩,FH g8 ?_,trivial⟩,trivial⟩;simp[Bc,St.ok,Bj,Ex.ok]
 ·simp only[Q8,St.size,Hm,AR,Ex.size];omega
theorem Ht {A L1 L2:Ul}:(A++L1++L2).Perm (A++L2++L1):=by
 rw[Jn,Jn];exact .append_left _ Jj
theorem HR {d : Nat} (hB : ∀ d', d = d' + 1 -> Gj d') : Fd d := by
  intro R gl k s H K deep hd hR hG bf hs hF hk hK;have iN : d < 10^d := J0 ZA;have jX : ∃ e, 10^d = e /\ ∀ d', d = d' + 1 -> 10 * 10^d' = e := ⟨10^d, rfl, λd' h => by rw [h, Nat.pow_succ]; omega⟩;obtain ⟨e, j6, he'⟩ := jX;rw [j6] at iN hk hK;have i8 := hs.l0;have tB := hs.l1;refine Qz ?_;refine Qd A6 Qawx ?_;refine Qa ?_;simp only [go_sem];refine Qa ?_;simp only [go_sem, hG, GS.o];refine ⟨Qr, λH1 h1 => ?_⟩;have kn : Kn H H1 [(R.l, R.o k), (gl, GS.o { s with left := s.left - 1 } R)] [] := (Kn.start2 hR (R.an k) hG (s.an R) bf).stE 1 rfl h1;have cn : GS.ok { s with left := s.left - 1 } (k + 1) := ⟨hs.n0, by have := hs.n1; show s.next <= _; omega, by show _ <= s.left - 1; omega, by show s.left - 1 <= 100; omega, by have := hs.v; show s.vars.length <= _; omega, hs.f, hs.fn⟩;have zB : s.left <= ({ s with left := s.left - 1 } : GS).left + 1 := by show s.left <= s.left - 1 + 1; omega
  have ir : ({ s with left := s.left - 1 } : GS).fns = s.fns := rfl;have oe : ({ s with left := s.left - 1 } : GS).ffl = s.ffl := rfl;have kf : FnsOk H R gl { s with left := s.left - 1 } := ⟨hF.1, hF.2⟩;generalize ({ s with left := s.left - 1 } : GS) = s1 at *;have jd := kn.e 1 rfl;refine Qa ?_;simp only [go_sem, jd, GS.o];refine AX (kn.e 0 rfl) ZA λv H2 hv hu => ?_;have kn : Kn H H2 [(R.l, R.o (k + 1)), (gl, s1.o R)] [] := kn.aq 0 rfl hu (R.an _);have fq := kn.e 1 rfl;simp only [go_sem, DA];have fin : ∀ (l : List St) (c : C) (s' : GS) (H3 : Heap) (k3 : Nat) (L : List (Nat × Obj)), k < k3 -> k3 <= k + 500 * e -> Kn H H3 [(R.l, R.o k3), (gl, s'.o R)] L -> FrzC H3 (un H) c (.sl false 5 (AF l)) ->
      s'.ok k3 -> s1.left + 4 * ((k + 1 : Nat) : Int) <= s'.left + 4 * (k3 : Int) -> s'.fns = s1.fns -> s'.ffl = s1.ffl -> l.length <= 2 -> Bc l -> 4 * k + Q8 l <= 4 * k3 -> ∃ x', FrzV H3 (un H) (.c c) x' /\ K x' (H3.frz (un H)) := by
    intro l c s' H3 k3 L g1 g2 kn g3 g4 g5 g6 g7 g8 g9 g10;exact ⟨_, .c _ _ g3, hK l s' _ k3 g1 g2 kn.fin g4 ZA (g6.trans ir) (g7.trans oe) g8 g9 g10⟩
  refine Wb ?_;simp only [go_sem, fq, GS.o, BB];intro bO;refine Wv ?_ ?_
  ·
    intro hc;have oC : 0 < s1.vars.length := by
      cases h : decide (v < 3) with
      | true => rw [h] at hc; simp at hc; omega
      | false => rw [h] at hc; simp at hc
    refine AC ?_;simp only [go_sem, fq, GS.o];refine of_c (kn.e 0 rfl) ZA oC λname H3 hn hu => ?_;have kn := kn.aq 0 rfl hu (R.an _);simp only [go_sem, Qqt];refine EE 3 ZA (kn.e 0 rfl) (kn.e 1 rfl) bf (cn.mono ZA) (kf.keep kn rfl rfl) ZA λx H4 k4 g1 g2 hu g3 g4 => ?_;have kn := kn.aq 0 rfl hu (R.an _);simp only [go_sem, Qqs, x.az];refine Qk ?_;simp only [go_sem, Q7, A5, A7, Ja, forall_eq, RS.op];refine fin [St.mk 2 name [x] [] []] _ s1 H4 k4 _ ZA ZA kn ?_ (cn.mono ZA) ZA rfl rfl ZC ?_ ?_
    · simp only [AF, St.cells, AO]
      repeat' first | exact FrzL.nil | exact FrzR.nil | exact Qg rfl | exact FrzL.same (Ex.ak _) | exact FrzL.same (St.ak _) | refine FrzL.cons ?_ ?_ | refine FrzR.cons ?_ ?_ | refine FrzR.sl ?_
    · simp only [Bc, St.ok, Bj]; exact ⟨⟨ZC, ⟨g3, trivial⟩, trivial, trivial⟩, trivial⟩
    · simp only [Q8, St.size, AR]; omega
  intro dg;refine Qa ?_;simp only [go_sem];refine Wv ?_ ?_
  ·
    intro hc;refine Qa ?_;simp only [go_sem];refine EE 3 ZA (kn.e 0 rfl) (kn.e 1 rfl) bf (cn.mono ZA) (kf.keep kn rfl rfl) ZA λx H4 k4 g1 g2 hu g3 g4 => ?_;have kn := kn.aq 0 rfl hu (R.an _);simp only [go_sem, Qqv, x.aF];refine N3 (x := x) (kn.e 0 rfl) (kn.e 1 rfl) bf (cn.mono ZA) ZA λname H5 k5 g5 g6 hu => ?_;have kn := kn.callEE 0 1 rfl rfl ZN hu (R.an _) (GS.an _ _);simp only [go_sem, Qqu, St.az];refine Qk ?_;simp only [go_sem, Q7, A5, A7, Ja, forall_eq, RS.op];have h0 := cn.n0;have h1 := cn.n1;have h2 := cn.l0;have h3 := cn.v;refine fin [St.mk 1 name [x] [] []] _ _ H5 k5 _ ZA ZA kn ?_ ⟨?_, ?_, ?_, cn.l1, ?_, cn.f, cn.fn⟩ (by show _ <= s1.left + _; omega) rfl rfl ZC ?_ ?_
    · simp only [AF]
      repeat' first | exact FrzL.nil | exact FrzR.nil | exact Qg rfl | exact FrzL.same (Ex.ak _) | exact FrzL.same (St.ak _) | refine FrzL.cons ?_ ?_ | refine FrzR.cons ?_ ?_ | refine FrzR.sl ?_
    · show -1 <= s1.next + 1; omega
    · show s1.next + 1 <= _; omega
    · show _ <= s1.left; omega
    · show (s1.vars ++ [name]).length <= _; simp; omega
    · simp only [Bc, St.ok, Bj]; exact ⟨⟨ZC, ⟨g3, trivial⟩, trivial, trivial⟩, trivial⟩
    · simp only [Q8, St.size, AR]; omega
  intro bB;refine Qa ?_;simp only [go_sem];refine Wv ?_ ?_
  ·
    intro hc;refine Qa ?_;simp only [go_sem];refine EE 3 ZA (kn.e 0 rfl) (kn.e 1 rfl) bf (cn.mono ZA) (kf.keep kn rfl rfl) ZA λx H4 k4 g1 g2 hu g3 g4 => ?_;have kn := kn.aq 0 rfl hu (R.an _);simp only [go_sem, Qqw, x.az];refine Qk ?_;simp only [go_sem, Q7, A5, A7, Ja, forall_eq, RS.op];refine fin [St.mk 3 [] [x] [] []] _ s1 H4 k4 _ ZA ZA kn ?_ (cn.mono ZA) ZA rfl rfl ZC ?_ ?_
    · simp only [AF, St.cells, AO]
      repeat' first | exact FrzL.nil | exact FrzR.nil | exact Qg rfl | exact FrzL.same (Ex.ak _) | exact FrzL.same (St.ak _) | refine FrzL.cons ?_ ?_ | refine FrzR.cons ?_ ?_ | refine FrzR.sl ?_
    · simp only [Bc, St.ok, Bj]; exact ⟨⟨ZC, ⟨g3, trivial⟩, trivial, trivial⟩, trivial⟩
    · simp only [Q8, St.size, AR]; omega
  intro a7;have jY : 2 <= deep := by
    cases h : decide (v < 7) with
    | true => rw [h] at a7; simp at a7
    | false => rw [h] at a7; simp at a7; omega
  obtain ⟨d', zS⟩ : ∃ d', d = d' + 1 := ⟨d - 1, by omega⟩;have A1 : Gj d' := hB d' zS;have hL0 : Ff d' := Va A1;have rX := A1;have Av := hL0;simp only [Gj, Ff] at rX Av;have uT := he' d' zS;have qu : d' < 10^d' := J0 ZA;generalize 10^d' = e1 at *;refine Qa ?_;simp only [go_sem];refine Wv ?_ ?_
  ·
    intro hc;refine Qa ?_;simp only [go_sem];refine Q28 (kn.e 0 rfl) (kn.e 1 rfl) bf (cn.mono ZA) (kf.keep kn rfl rfl) ZA λx H4 k4 g1 g2 hu g3 g4 => ?_;have kn := kn.aq 0 rfl hu (R.an _);simp only [go_sem, Qqy];refine EE 2 ZA (kn.e 0 rfl) (kn.e 1 rfl) bf (cn.mono ZA) (kf.keep kn rfl rfl) ZA λy H5 k5 g5 g6 hu g7 g8 => ?_;have kn := kn.aq 0 rfl hu (R.an _);simp only [go_sem, Qqx, x.az, y.az];refine Qk ?_;simp only [go_sem, Q7, A5, A7, Ja, forall_eq, RS.op];refine fin [St.mk 4 [] [x, y] [] []] _ s1 H5 k5 _ ZA ZA kn ?_ (cn.mono ZA) ZA rfl rfl ZC ?_ ?_
    · simp only [AF, St.cells, AO]
      repeat' first | exact FrzL.nil | exact FrzR.nil | exact Qg rfl | exact FrzL.same (Ex.ak _) | exact FrzL.same (St.ak _) | refine FrzL.cons ?_ ?_ | refine FrzR.cons ?_ ?_ | refine FrzR.sl ?_
    · simp only [Bc, St.ok, Bj]; exact ⟨⟨ZC, ⟨g3, g7, trivial⟩, trivial, trivial⟩, trivial⟩
    · simp only [Q8, St.size, AR]; omega
  intro bn;refine Qa ?_;simp only [go_sem];refine Wv ?_ ?_
  ·
    intro hc;refine Qa ?_;simp only [go_sem];refine Q28 (kn.e 0 rfl) (kn.e 1 rfl) bf (cn.mono ZA) (kf.keep kn rfl rfl) ZA λx H4 k4 g1 g2 hu g3 g4 => ?_;have kn := kn.aq 0 rfl hu (R.an _);simp only [go_sem, Qqz, x.az];refine Qk ?_;simp only [go_sem, Q7, A5, A7, Ja, forall_eq, RS.op];refine fin [St.mk 3 [] [Ex.mk 12 0 [] [x]] [] []] _ s1 H4 k4 _ ZA ZA kn ?_ (cn.mono ZA) ZA rfl rfl ZC ?_ ?_
    · rw [AF, AF, St.cells, AO, AO, Ex.aF (Ex.mk 12 0 [] _)];simp only [AF, AO, Ex.kids, Ex.op, Ex.n, Ex.name]
      repeat' first | exact FrzL.nil | exact FrzR.nil | exact Qg rfl | exact FrzL.same (Ex.ak _) | exact FrzL.same (St.ak _) | refine FrzL.cons ?_ ?_ | refine FrzR.cons ?_ ?_ | refine FrzR.sl ?_
    · simp only [Bc, St.ok, Bj, Ex.ok]; exact ⟨⟨ZC, ⟨⟨λh => by simp at h, g3, trivial⟩, trivial⟩, trivial, trivial⟩, trivial⟩
    · simp only [Q8, St.size, AR, Ex.size]; omega
  intro dc;refine Qa ?_;simp only [go_sem];refine Wv ?_ ?_
  ·
    intro hc;refine Qa ?_;simp only [go_sem];refine EE 3 ZA (kn.e 0 rfl) (kn.e 1 rfl) bf (cn.mono ZA) (kf.keep kn rfl rfl) ZA λx H4 k4 g1 g2 hu g3 g4 => ?_;have kn := kn.aq 0 rfl hu (R.an _);simp only [go_sem, Qlv, x.az];refine ⟨Qr, ?_⟩;refine rX _ _ _ _ _ _ (deep - 1) ZA (kn.e 0 rfl) (kn.e 1 rfl) bf (cn.mono ZA) (kf.keep kn rfl rfl) ZA λb1 c1 L1 s2 H5 k5 g5 g6 hu fR eG dk glf g7 g8 g9 g10 g11 => ?_;have kn0 := kn;have kn := kn.callEE 0 1 rfl rfl ZN hu (R.an _) (GS.an _ _);have kn := kn0.addGr kn rfl rfl fR eG;have ud := fR.ah;simp only [go_sem, Qlu];intro x6 aZ H6 h6;have kn := kn.al aZ h6;have kn := kn.perm (L' := [(x6, _)] ++ L1) Jj;have ly := kn.l 0 rfl;simp only [go_sem, Qq0, ly];intro H7 h7;have kn : Kn H H7 [(R.l, R.o k5), (gl, s2.o R)] ([(x6, _)] ++ L1) := kn.aA 0 rfl h7;have uz := kn.e 1 rfl;refine Q1 (Qa ?_);simp only [go_sem, uz, GS.o];refine AX (kn.e 0 rfl) ZA λv2 H8 jN hu => ?_;have kn : Kn H H8 [(R.l, R.o (k5 + 1)), (gl, s2.o R)] ([(x6, _)] ++ L1) := kn.aq 0 rfl hu (R.an _);simp only [go_sem, Qlw];have rest : ∀ (E1 : Env) (hE : lk 6 E1 = V.c (C.ptr x6 0)) (c2 : C) (b2 : List St) (L2 : List (Nat × Obj)) (s3 : GS) (H9 : Heap) (k6 : Nat), k5 + 1 <= k6 -> k6 <= k5 + 1 + 2001 * e1 -> Gr L2 5 (AF b2) c2 ->
        Kn H H9 [(R.l, R.o k6), (gl, s3.o R)] ([(x6, .st [Ui 5, .str [], .sl true 4 [x.cells], c1, c2])] ++ L1 ++ L2) -> s3.ok k6 -> s2.left + 4 * ((k5 + 1 : Nat) : Int) <= s3.left + 4 * (k6 : Int) -> s3.fns = s2.fns -> s3.ffl = s2.ffl -> Bc b2 -> 4 * (k5 + 1) + Q8 b2 <= 4 * k6 ->
        A9 prog Qqp (X.inBlock 0 (X.sq prog Rt (Q7 A7 (unK H K)))) E1 H9 := by
      intro E1 hE c2 b2 L2 s3 H9 k6 e1 e2 dA kn e3 e4 e5 e6 e7 e8;have lx := kn.l 0 rfl;have uc := dA.ah;refine Qa ?_;simp only [go_sem, hE, lx, ud, uc];refine Qk ?_;simp only [go_sem, Q7, A5, A7, Ja, forall_eq, RS.op];refine fin [St.mk 5 [] [x] b1 b2] _ s3 H9 k6 _ ZA ZA kn ?_ e3 ZA (e5.trans g7) (e6.trans g8) ZC ?_ ?_
      · simp only [AF, St.cells, AO]
        repeat' first | exact FrzL.nil | exact FrzR.nil | exact Qg rfl | exact FrzL.same (Ex.ak _) | exact FrzL.same (St.ak _) | refine FrzL.cons ?_ ?_ | refine FrzR.cons ?_ ?_ | refine FrzR.sl ?_
        · exact fR.frz (kn.perm Ht) (G4 _)
        · exact dA.frz kn (G4 _)
      · simp only [Bc, St.ok, Bj]; exact ⟨⟨ZC, ⟨g3, trivial⟩, g10, e7⟩, trivial⟩
      · simp only [Q8, St.size, AR]; omega
    refine Wu ?_ ?_
    · intro cf;refine Qq ?_;simp only [go_sem];refine ⟨Qr, ?_⟩;refine rX _ _ _ _ _ _ (deep - 1) ZA (kn.e 0 rfl) (kn.e 1 rfl) bf (dk.mono ZA) (kf.keep kn g7 g8) ZA λb2 c2 L2 s3 H9 k6 q1 q2 hu dA eG jS q3 q4 q5 q6 q7 q8 => ?_;have kn0 := kn;have kn := kn.callEE 0 1 rfl rfl ZN hu (R.an _) (GS.an _ _);have kn := kn0.addGr kn rfl rfl dA eG;have lx := kn.l 0 rfl;simp only [go_sem, Qlx, lx];intro H10 dh;have kn : Kn H H10 [(R.l, R.o k6), (gl, s3.o R)] ([(x6, _)] ++ L1 ++ L2) := kn.aA 0 rfl dh;exact rest _ (by simp [lk]) c2 b2 L2 s3 H10 k6 ZA ZA dA kn jS ZA q4 q5 q7 ZA
    · intro cf;refine Qi ?_;simp only [go_sem];exact rest _ (by simp [lk]) _ [] [] s2 H8 (k5 + 1) ZA ZA (.nil 5) (by rw [List.append_nil]; exact kn) (dk.mono ZA) ZA rfl rfl trivial (by simp only [Q8]; omega)
  · intro eU;refine Qa ?_;simp only [go_sem, fq, GS.o];have rest : ∀ (b : Bool) (H3 : Heap) (k3 : Nat), k + 1 <= k3 -> k3 <= k + 2 -> Kn H H3 [(R.l, R.o k3), (gl, s1.o R)] [] ->
        A9 prog Qqq (X.inBlock 0 (X.sq prog Rt (Q7 A7 (unK H K))))
         [(0, V.c (C.ptr gl 0)), (1, Uv deep), (109, .c (.bool b))] H3 := by
      intro b H3 k3 e3 e4 kn;refine Wv ?_ ?_
      · intro hb;refine Qa ?_;simp only [go_sem];refine EE 2 ZA (kn.e 0 rfl) (kn.e 1 rfl) bf (cn.mono ZA) (kf.keep kn rfl rfl) ZA λx H4 k4 g1 g2 hu g3 g4 => ?_;have kn := kn.aq 0 rfl hu (R.an _);simp only [go_sem, Qly, x.az];refine Qk ?_;simp only [go_sem, Q7, A5, A7, Ja, forall_eq, RS.op];refine fin [St.mk 7 [] [x] [] []] _ s1 H4 k4 _ ZA ZA kn ?_ (cn.mono ZA) ZA rfl rfl ZC ?_ ?_
        · simp only [AF, St.cells, AO]
          repeat' first | exact FrzL.nil | exact FrzR.nil | exact Qg rfl | exact FrzL.same (Ex.ak _) | exact FrzL.same (St.ak _) | refine FrzL.cons ?_ ?_ | refine FrzR.cons ?_ ?_ | refine FrzR.sl ?_
        · simp only [Bc, St.ok, Bj]; exact ⟨⟨ZC, ⟨g3, trivial⟩, trivial, trivial⟩, trivial⟩
        · simp only [Q8, St.size, AR]; omega
      · intro hb;refine Qi ?_;simp only [go_sem];refine Qa ?_;simp only [go_sem];refine Av _ _ _ _ _ _ deep ZA jY (kn.e 0 rfl) (kn.e 1 rfl) bf (cn.mono ZA) (kf.keep kn rfl rfl) ZA λl s2 H4 k4 g1 g2 hu g3 g4 g5 g6 g7 g8 g9 => ?_;have kn := kn.callEE 0 1 rfl rfl ZN hu (R.an _) (GS.an _ _);simp only [go_sem, Qlz];refine Qk ?_;simp only [go_sem, Q7, A5, A7, Ja, forall_eq, RS.op];exact fin l _ s2 H4 k4 _ ZA ZA kn (Qg rfl) g3 ZA g5 g6 g7 g8 ZA
    refine ⟨λhb => ?_, λhb => ?_⟩
    · refine AX (kn.e 0 rfl) ZA λv2 H3 jN hu => ?_;have kn := kn.aq 0 rfl hu (R.an _);simp only [go_sem, R9];exact rest _ H3 (k + 1 + 1) ZA ZA kn
    · simp only [go_sem, R9, hb];exact rest _ H2 (k + 1) ZA ZA kn
theorem Xe (d:Nat):Gj d:=by
 induction d with
 |zero=>exact IK (HR (λd' h=>absurd h ZA))
 |succ d ih=>exact IK (HR (λd' h=>by
   have:d'=d:=ZA
   rw[this];exact ih))
theorem LJ {R:Rdr}{gl k:Nat}{s:GS}{name:List UInt8}{params:Int}{H:Heap}{K:Uk}(iN:0<=params)(hp3:params<=3)(hR:H R.l=R.o k)(hG:H gl=s.o R)(bf:R.l≠gl)(hs:s.ok k)(hF:FnsOk H R gl s)(hk:k+2001300<=2^30)
  (hK:∀(f:Fn) (s':GS) (H':Heap) (k':Nat),k<k'->k'<=k+2001300->Upd H H' [(R.l,R.o k'),(gl,s'.o R)]->s'.ok k'->s'.fns=s.fns->s'.ffl=s.ffl->f.params.length<=3->Bc f.body->4 * k+Q8 f.body<=4 * k'->K (.ag f.cells) H') :
  Qv prog PC [Up gl,.c (.str name),Uv params] H K:=by
 obtain⟨np,rfl⟩:=Jo iN;refine Qz ?_;refine Qd A6 Qbfy ?_;refine Za ?_;intro x6 aZ H1 h1;have kn:=(Kn.start2 hR (R.an k) hG (s.an R) bf).al aZ h1;have jd:=kn.e 1 rfl;refine Qa ?_;have etk:List.take np [[C.str [97]],[C.str [98]],[C.str [99]]]=Bg (List.take np [[97],[98],[99]]):=by simp[Bg,List.map_take]
 simp only[go_sem,jd,GS.o,etk];refine⟨⟨ZA,ZA⟩,λH2 h2=>?_⟩;have kn:Kn H H2 [(R.l,R.o k),(gl,GS.o { s with vars:=List.take np [[97],[98],[99]],vfl:=false } R)] [(x6,_)]:=kn.stE 1 rfl h2;have fq:=kn.e 1 rfl;refine Zv fq ?_;refine⟨Qr,λH3 h3=>?_⟩;have kn:Kn H H3 [(R.l,R.o k),(gl,GS.o { s with vars:=List.take np [[97],[98],[99]],vfl:=false,next:=(np:Int)-1 } R)] [(x6,_)]:=kn.stE 1 rfl h3;have cn:GS.ok { s with vars:=List.take np [[97],[98],[99]],vfl:=false,next:=(np:Int)-1 } k:=
  ⟨by show -1<=(np:Int)-1;omega,by show (np:Int)-1<=_;omega,hs.l0,hs.l1,by show (List.take np _).length<=_;simp;omega,hs.f,hs.fn⟩
 have bO:(List.take np [[97],[98],[99]]:List (List UInt8)).length<=3:=ZG
 have ir:GS.fns { s with vars:=List.take np [[97],[98],[99]],vfl:=false,next:=(np:Int)-1 }=s.fns:=rfl;have oe:GS.ffl { s with vars:=List.take np [[97],[98],[99]],vfl:=false,next:=(np:Int)-1 }=s.ffl:=rfl;have rE:GS.vars { s with vars:=List.take np [[97],[98],[99]],vfl:=false,next:=(np:Int)-1 }=List.take np [[97],[98],[99]]:=rfl;rw[<-rE]at bO;have kf:FnsOk H R gl { s with vars:=List.take np [[97],[98],[99]],vfl:=false,next:=(np:Int)-1 }:=⟨hF.1,hF.2⟩;generalize ({ s with vars:=List.take np [[97],[98],[99]],vfl:=false,next:=(np:Int)-1 }:GS)=s1 at *;have pu:=kn.e 1 rfl;refine Qa ?_;have hL:s1.vars.length<=LIM:=ZY
 simp only[go_sem,pu,GS.o,BB,Jg,Jq,hL];refine⟨.inl trivial,OE _,λy hy H4 h4=>?_⟩;have kn:=kn.al hy h4;simp only[go_sem,Q0c];intro x7 b7 H5 h5;have kn:=kn.al b7 h5;have pM:=kn.l 2 rfl;simp only[go_sem,Q0b,pM];intro H6 h6;have kn:Kn H H6 [(R.l,R.o k),(gl,s1.o R)] [(x6,_),(y,_),(x7,_)]:=kn.aA 2 rfl h6;refine Za ?_;refine Xe 3 _ _ _ _ _ _ 3 ZA (kn.e 0 rfl) (kn.e 1 rfl) bf cn (kf.keep kn rfl rfl) ZA λl c Lg s2 H7 k2 g1 g2 hu ay eG dk glf g3 g4 g5 g6 g7=>?_;have kn0:=kn;have kn:=kn.callEE 0 1 rfl rfl ZN hu (R.an _) (GS.an _ _);have kn:=kn0.addGr kn rfl rfl ay eG;have pK:=kn.l 2 rfl;simp only[go_sem,Q0d,pK];intro H8 h8;have kn:Kn H H8 [(R.l,R.o k2),(gl,s2.o R)] ([(x6,.st [.str [],.sl true 1 [],.sl true 5 []]),(y,.vec 1 (Bg s1.vars)),(x7,.st [.str name,.ai y 1 0 s1.vars.length,c])]++Lg):=kn.aA 2 rfl h8;have yP:=kn.e 1 rfl;refine Q1 (Qa ?_);simp only[go_sem,yP,GS.o];have bD:=ay.ah;have rest:∀(E1:Env) (Az:lk 6 E1=V.c (C.ptr x6 0)) (Ay:lk 7 E1=V.c (C.ptr x7 0)) (l2:List St) (c2:C) (rws:List (List C)) (L2:Ul) (s3:GS) (H9:Heap) (k3:Nat),k<k3->k3<=k+2001300->
   Kn H H9 [(R.l,R.o k3),(gl,s3.o R)] ([(x6,.st [.str [],.sl true 1 [],.sl true 5 []]),(y,.vec 1 (Bg s1.vars)),(x7,.st [.str name,.ai y 1 0 s1.vars.length,c2])]++L2)->Gr L2 5 rws c2->(∀H',FrzR H' (un H) rws (AF l2))->
   s3.ok k3->s3.fns=s1.fns->s3.ffl=s1.ffl->Bc l2->4 * k+Q8 l2<=4 * k3->A9 prog PL (Q7 Gm (unK H K)) E1 H9:=by
  intro E1 Az Ay l2 c2 rws L2 s3 H9 k3 e1 e2 kn dA ey e3 e4 e5 e6 e7;have lx:=kn.l 0 rfl;have vy:=kn.l 2 rfl;have bD:=dA.ah;refine Qa ?_;simp only[go_sem,Az,Ay,lx,vy,bD];intro H10 dh;have kn:=kn.aA 0 rfl dh;have lw:=kn.l 0 rfl;have fF:=kn.l 1 rfl;refine Zl lw bD ?_;refine⟨(.ag (Fn.mk name s1.vars l2).cells),?_,hK _ s3 _ k3 e1 e2 kn.fin e3 (e4.trans ir) (e5.trans oe) bO e6 e7⟩;refine FrzL.ag (.cons (Qg rfl) (.cons ?_ (.cons ?_ .nil)))
  ·exact FC (kn.un 1 rfl) fF (by simp[Bg]) (noOw_mem (OE _))
  ·exact dA.frzR (B:=[_,_,_]) kn (ey _)
 have tl:∀(b:Bool) (H9:Heap) (k3:Nat),k2<=k3->k3<=k2+1->(b=true->0<s2.left)->Kn H H9 [(R.l,R.o k3),(gl,s2.o R)] ([(x6,.st [.str [],.sl true 1 [],.sl true 5 []]),(y,.vec 1 (Bg s1.vars)),(x7,.st [.str name,.ai y 1 0 s1.vars.length,c])]++Lg)->
   A9 prog (s_l3Gen_fn_7.seq PL) (Q7 Gm (unK H K)) [(0,V.c (C.ptr gl 0)),(6,V.c (C.ptr x6 0)),(7,V.c (C.ptr x7 0)),(42,.c (.bool b))] H9:=by
  intro b H9 k3 e1 e2 hb kn;have yO:=kn.e 1 rfl;refine Wu ?_ ?_
  ·intro hc;have zC:=hb hc;have tB:=dk.l1;refine Zv yO ?_;refine⟨Qr,λH10 dh=>?_⟩;have kn:Kn H H10 [(R.l,R.o k3),(gl,GS.o { s2 with left:=s2.left-1 } R)] ([(x6,_),(y,_),(x7,_)]++Lg):=kn.stE 1 rfl dh;have jS:GS.ok { s2 with left:=s2.left-1 } k3:=⟨dk.n0,by have:=dk.n1;show s2.next<=_;omega,by show _<=s2.left-1;omega,by show s2.left-1<=100;omega,by have:=dk.v;show s2.vars.length<=_;omega,dk.f,dk.fn⟩;have pI:=kn.l 2 rfl;refine AY ?_;simp only[go_sem,pI,bD];refine EE 2 ZA (kn.e 0 rfl) (kn.e 1 rfl) bf jS (kf.keep kn g3 g4) ZA λx H11 k4 q1 q2 hu q3 q4=>?_;have kn:=kn.aq 0 rfl hu (R.an _);have nw:=kn.l 2 rfl;simp only[go_sem,Q0f,nw,bD,x.az];refine kn.grow (B:=[_,_,_]) ay (.mk' _ _ _ _) (by intro r hr;simp only[Ja]at hr;subst hr;rfl) (by simp only[BV,LIM,Jl,Jm];omega) λy' H12 kn=>?_;have vx:=kn.l 2 rfl;simp only[go_sem,Q0e,vx];intro H13 rx;have kn:=kn.aA 2 rfl rx;refine rest _ ZB ZB (l++[St.mk 7 [] [x] [] []]) _ _ _ _ H13 k4 ZA ZA kn (.mk _ _ _ (by simp[BV])) (λH'=>?_) (jS.mono ZA) g3 g4 (FH g6 ?_) ?_
   ·rw[<-FI];refine .app (.same (G4 _)) ?_;simp only[AF,St.cells,AO]
    repeat' first|exact FrzL.nil|exact FrzR.nil|exact Qg rfl|exact FrzL.same (Ex.ak _)|exact FrzL.same (St.ak _)|refine FrzL.cons ?_ ?_|refine FrzR.cons ?_ ?_|refine FrzR.sl ?_
   ·simp only[Bc,St.ok,Bj];exact⟨⟨ZC,⟨q3,trivial⟩,trivial,trivial⟩,trivial⟩
   ·simp only[Hm,Q8,St.size,AR];omega
  ·intro hc;refine Zc ?_;exact rest _ ZB ZB l c _ Lg s2 H9 k3 ZA ZA kn ay (λH'=>.same (G4 _)) (dk.mono ZA) g3 g4 g6 ZA
 refine⟨λhb=>?_,λhb=>?_⟩
 ·refine AX (kn.e 0 rfl) ZA λv H9 hv hu=>?_;have kn:=kn.aq 0 rfl hu (R.an _);simp only[go_sem,Ra,hb];exact tl _ H9 (k2+1) ZA ZA (λ_=>ZX) kn
 ·simp only[go_sem,Ra,hb];exact tl false H8 k2 ZA ZA (λh=>ZH) kn
variable {H:Heap}{K:Uk}
theorem PU {l:List Ex}{i:Nat}(h:i<l.length):AR (l.take (i+1))=AR (l.take i)+(l[i]'h).size:=by
 rw[Jh h,PF];simp[AR]
theorem PK {l:List St}{i:Nat}(h:i<l.length):Q8 (l.take (i+1))=Q8 (l.take i)+(l[i]'h).size:=by
 rw[Jh h,Hm];simp[Q8]
theorem R6 (l:List Ex)(i:Nat):AR (l.take i)<=AR l:=by
 conv=>rhs;rw[<-Jx i l,PF]
 omega
theorem R4 (l:List St)(i:Nat):Q8 (l.take i)<=Q8 l:=by
 conv=>rhs;rw[<-Jx i l,Hm]
 omega
theorem St.size_pos (x:St):1<=x.size:=by rw[x.size_eq];omega
theorem Mh (l:List St):l.length<=Q8 l:=by
 induction l with
 |nil=>simp
 |cons x r ih=>simp only[Jl,Q8];have:=x.size_pos;omega
theorem Qbks:∀(n:Nat) (x:Ex) {H:Heap} {K:Uk},x.size<=n->x.size<=2^40->K (.c (Ui x.size)) H->Qv prog Lr [.ag x.cells] H K:=by
 intro n
 induction n with
 |zero=>intro x _ _ h;have:=x.size_pos;omega
 |succ n ih=>
 intro x H K hn hb hK;have bj:=x.size_kids;refine Qd A6 Qbll ?_;refine Zw ?_;refine Wh ?_;refine Qh (Qe (Qx (λn e1 H1=>∃i:Nat,n=x.kids.length-i/\i<=x.kids.length/\H1=H/\e1=[(1,.c (.pp [Ui x.op,Ui x.n,.str x.name,.sl false 4 (AO x.kids)])),(3,.c (Ui ((1+AR (x.kids.take i):Nat):Int))),(4,Uv i)]) x.kids.length ?_ ?_))
 ·exact⟨0,ZA,ZA,rfl,by simp[AR]⟩
 ·rintro n e1 H1 ⟨i,hn,hi,rfl,rfl⟩;refine Q1 (Qa ?_);simp only[go_sem,BK];intro hl;simp only[LIM]at hl;refine Wu ?_ ?_
  ·intro hc;have af:i<x.kids.length:=ZD
   have hm:=G9 (Jb af);have bP:=PU af;have rH:=R6 x.kids (i+1);refine Zc ?_;refine Qh (Qe (Qq ?_));simp only[go_sem,af,BK,ET _ _ af,Ex.cF,Ex.bv,Ex.az];refine ih _ ZA ZA ?_;simp only[go_sem,Q49];refine⟨Qr,?_⟩;refine Zg ?_;refine⟨Qr,x.kids.length-(i+1),ZA,i+1,rfl,ZA,?_⟩;rw[bP];simp;omega
  ·intro hc;have bp:x.kids.length<=i:=ZD
   refine Wp ?_;rw[Jd bp,<-bj];exact hK
theorem YL:∀(n:Nat) (x:Ex) {H:Heap} {K:Uk} (deep:Int),x.size<=n->deep<=100->(∀b:Bool,K (.c (.bool b)) H)->Qv prog K0 [.ag x.cells,Uv deep] H K:=by
 intro n
 induction n with
 |zero=>intro x _ _ _ h;have:=x.size_pos;omega
 |succ n ih=>
 intro x H K deep hn hd hK;have bj:=x.size_kids;refine Qd A6 Y4 ?_;refine Zw ?_;refine Za ?_;refine YK λlo hi=>?_;simp only[go_sem,Nc,Jz,Jab];refine Wa ?_;have retf:∀(b:Bool) (e:Env),lk 4 e=.c (.bool b)->Q7 A7 K .ret e H:=by
  intro b e h1;simp only[go_sem,Q7,A5,Ja,forall_eq,RS.op,h1];exact hK _
 have rest:∀b:Bool,(b=false->1<=deep)->A9 prog (s_l2Form_3.seq Nd) (Q7 A7 K)
   [(1,Uv deep),(2,.c (.pp [Ui x.op,Ui x.n,.str x.name,.sl false 4 (AO x.kids)])),(31,.c (.bool b))] H:=by
  intro b hb;refine Wu ?_ ?_
  ·intro hc;refine We ?_;exact retf false _ ZB
  intro hc;have jY:=hb hc;refine Zc ?_;refine Wh ?_;refine Pq λb1=>?_;simp only[go_sem,Nb];have rest2:∀b:Bool,A9 prog (s_l2Form_6.seq Nf) (Q7 A7 K)
    [(1,Uv deep),(2,.c (.pp [Ui x.op,Ui x.n,.str x.name,.sl false 4 (AO x.kids)])),(69,.c (.bool b))] H:=by
   intro b;refine Wu ?_ ?_
   ·intro hc;refine We ?_;exact retf false _ ZB
   intro hc;refine Zc ?_;refine Wa ?_;refine Qh (Qe (Qx (λn e1 H1=>∃i:Nat,n=x.kids.length-i/\i<=x.kids.length/\H1=H/\e1=[(1,Uv deep),(2,.c (.pp [Ui x.op,Ui x.n,.str x.name,.sl false 4 (AO x.kids)])),(8,Uv i)]) x.kids.length ?_ ?_))
   ·exact⟨0,ZA,ZA,rfl,rfl⟩
   ·rintro n e1 H1 ⟨i,hn,hi,rfl,rfl⟩;refine Q1 (Qa ?_);simp only[go_sem,BK];intro hl;simp only[LIM]at hl;refine Wu ?_ ?_
    ·intro hc;have af:i<x.kids.length:=ZD;have hm:=G9 (Jb af);refine Wm ?_;simp only[go_sem,af,BK,ET _ _ af,Ex.cF,Ex.bv,Ex.az];refine⟨Qr,?_⟩;refine ih _ (deep-1) ZA ZA λb2=>?_;simp only[go_sem,Na];refine Wv ?_ ?_
     ·intro a7;refine Wn ?_;exact retf false _ ZB
     ·intro a7;refine Wi ?_;exact⟨Qr,x.kids.length-(i+1),ZA,i+1,rfl,ZA,rfl⟩
    ·intro hc;refine Wc ?_;refine Qk ?_;exact retf true _ ZB
  refine⟨λbg=>?_,λbg=>?_⟩
  ·refine B1 ?_;simp only[go_sem,P9];exact rest2 _
  ·replace bg:=Bi bg;simp only[go_sem,P9,bg];exact rest2 _
 refine⟨λbg=>?_,λbg=>?_⟩
 ·replace bg:=BM bg;have jY:1<=deep:=by simp at bg;omega
  refine B1 ?_;simp only[go_sem,PA,bg,BK,cond_false];intro hl;refine⟨λcx=>?_,λcx=>?_⟩
  ·refine B1 ?_;simp only[go_sem,OA];exact rest _ (λ_=>jY)
  ·replace cx:=Bi cx;simp only[go_sem,OA,cx];exact rest _ (λ_=>jY)
 ·replace bg:=Bi bg;simp only[go_sem,PA,OA,bg,BK,cond_true];exact rest _ (λh=>ZH)
theorem Qa4k {x:Ex}(hx:x.size<=2^40)(hK:∀b:Bool,K (.c (.bool b)) H):Qv prog Qoa [.ag x.cells] H K:=by
 refine Qd A6 Qai0 ?_;refine Qa ?_;simp only[go_sem,Ex.ne_nil];refine Qa ?_;simp only[go_sem,Ex.cF,Ex.bv,Ex.az];refine YL x.size x 6 (Je _) ZA λb=>?_;simp only[go_sem,Qjn,Ex.cF,Ex.bv,Ex.az];refine⟨λhb=>?_,λhb=>?_⟩
 ·refine Qbks x.size x (Je _) hx ?_;simp only[go_sem,RB];refine Zf ?_;exact hK _
 ·simp only[go_sem,RB,hb];refine Zf ?_;exact hK _
def St.raw (x:St):List C:=[.int .i64 x.op,.str x.name,.sl false 4 (AO x.args),.sl false 5 (AF x.body),.sl false 5 (AF x.els)]
theorem Qbkv:∀(n:Nat) (l:List St) {fl:Bool} {H:Heap} {K:Uk},Q8 l<=n->Q8 l<=2^40->(∀v:Nat,v<=Q8 l->K (Uv v) H)->Qv prog Lp [.c (.sl fl 5 (AF l))] H K:=by
 intro n
 induction n using Nat.strongRecOn with
 |ind n ih=>
 intro l fl H K hn hb hK;have am:=Mh l;refine Qd A6 Qblo ?_;refine Wk ?_;simp only[go_sem,BV];intro hl;refine Wa ?_;refine Qh (Qe (Qx (λn e1 H1=>∃(i v:Nat),n=l.length-i/\i<=l.length/\v<=(l.length-i)+Q8 (l.take i)/\H1=H/\e1=[(0,.c (.sl fl 5 (AF l))),(3,Uv v),(4,Uv i)]) l.length ?_ ?_))
 ·exact⟨0,l.length,ZA,ZA,ZA,rfl,rfl⟩
 ·rintro n e1 H1 ⟨i,v,cN,hi,hv,rfl,rfl⟩;refine Q1 (Qa ?_);simp only[go_sem,BV];simp only[LIM]at hl;refine λ_=>?_;refine Wu ?_ ?_
  ·intro hc;have af:i<l.length:=ZD
   have hm:=OD (Jb af);have bP:=PK af;have rH:=R4 l (i+1);have rI:=(l[i]'af).size_eq;refine Wl ?_;simp only[go_sem,af,BV,ES _ _ af,St.aF];refine ih (Q8 l[i].body) ZA l[i].body (Je _) ZA λa ha=>?_;simp only[go_sem,Q5c,af,BV,ES _ _ af,St.aF];refine⟨Qr,?_⟩;refine ih (Q8 l[i].els) ZA l[i].els (Je _) ZA λc hc=>?_;simp only[go_sem,Q5b];refine⟨Qr,?_⟩;refine Zg ?_;refine⟨Qr,l.length-(i+1),ZA,i+1,v+a+c,rfl,ZA,ZA,rfl⟩
  ·intro hc;have bp:l.length<=i:=ZD
   refine Wp ?_;rw[Jd bp]at hv;exact hK v ZA
def Hx (n:Nat):Prop:=∀(x:St) (deep:Int) (H:Heap) (K:V->Heap->Prop),x.size<=n->x.size<=2^40->deep<=100->(∀b:Bool,K (.c (.bool b)) H)->Qv prog Kv [.ag x.cells,.c (.int .i64 deep)] H K
def Fu (n:Nat):Prop:=∀(l:List St) (deep:Int) (fl:Bool) (H:Heap) (K:V->Heap->Prop),Q8 l<=n->Q8 l<=2^40->deep<=100->(∀b:Bool,K (.c (.bool b)) H)->Qv prog Lm [.c (.sl fl 5 (AF l)),.c (.int .i64 deep)] H K
theorem Xr {n:Nat}(hS:Hx n):Fu n:=by
 intro l deep fl H K hn hb hd hK;refine Qd A6 Qblp ?_;have retf:∀(b:Bool) (e:Env),lk 4 e=.c (.bool b)->Q7 A7 K .ret e H:=by
  intro b e h1;simp only[go_sem,Q7,A5,Ja,forall_eq,RS.op,h1];exact hK _
 refine Wh ?_;refine Qh (Qe (Qx (λn e1 H1=>∃(i:Nat),n=l.length-i/\i<=l.length/\H1=H/\e1=[(0,.c (.sl fl 5 (AF l))),(1,Uv deep),(5,Uv i)]) l.length ?_ ?_))
 ·exact⟨0,ZA,ZA,rfl,rfl⟩
 ·rintro n e1 H1 ⟨i,cN,hi,rfl,rfl⟩;refine Q1 (Qa ?_);simp only[go_sem,BV];intro hl;simp only[LIM]at hl;refine Wu ?_ ?_
  ·intro hc;have af:i<l.length:=ZD
   have hm:=OD (Jb af);refine Wm ?_;simp only[go_sem,af,BV,ES _ _ af,St.take5,St.bv,St.az];refine hS _ deep _ _ ZA ZA hd λb=>?_;simp only[go_sem,Q5l];refine Wv ?_ ?_
   ·intro a7;refine Wn ?_;exact retf false _ ZB
   ·intro a7;refine Wi ?_;exact⟨Qr,l.length-(i+1),ZA,i+1,rfl,ZA,rfl⟩
  ·intro hc;refine Wc ?_;refine Qk ?_;exact retf true _ ZB
theorem T6 {n:Nat}(hS:∀m,m<n->Fu m):Hx n:=by
 intro x deep H K hn hb hd hK;have bj:=x.size_eq;refine Qd A6 Yz ?_;have retf:∀(b:Bool) (e:Env),lk 4 e=.c (.bool b)->Q7 A7 K .ret e H:=by
  intro b e h1;simp only[go_sem,Q7,A5,Ja,forall_eq,RS.op,h1];exact hK _
 refine Zw ?_;refine Q1 (AC ?_);simp only[go_sem];have rest:∀b:Bool,(b=false->1<=deep/\x.args.length=if x.op=4 then 2 else 1)->A9 prog (s_l3Stmt_2.seq MS) (Q7 A7 K)
   [(1,Uv deep),(2,.c (.pp [Ui x.op,.str x.name,.sl false 4 (AO x.args),.sl false 5 (AF x.body),.sl false 5 (AF x.els)])),(23,.c (.bool b))] H:=by
  intro b hb;refine Wu ?_ ?_
  ·intro hc;refine We ?_;exact retf false _ ZB
  intro hc;obtain⟨jY,dD⟩:=hb hc;have kM:0<x.args.length:=by rw[dD];split <;> omega
  refine Zc ?_;refine Wh ?_;refine Pq λb1=>?_;simp only[go_sem,MR];refine Wu ?_ ?_
  ·intro hc;refine We ?_;exact retf false _ ZB
  intro hc;refine Zc ?_;refine Wa ?_;refine Qh (Qe (Qx (λn e1 H1=>∃(i:Nat),n=x.args.length-i/\i<=x.args.length/\H1=H/\e1=[(1,Uv deep),(2,.c (.pp [Ui x.op,.str x.name,.sl false 4 (AO x.args),.sl false 5 (AF x.body),.sl false 5 (AF x.els)])),(6,Uv i)]) x.args.length ?_ ?_))
  ·exact⟨0,ZA,ZA,rfl,rfl⟩
  ·rintro n e1 H1 ⟨i,cN,hi,rfl,rfl⟩;refine Q1 (Qa ?_);simp only[go_sem,BK];intro hl;simp only[LIM]at hl;refine Wu ?_ ?_
   ·intro hc;have af:i<x.args.length:=ZD;have hm:=G9 (Jb af);refine Wm ?_;simp only[go_sem,af,BK,ET _ _ af,Ex.cF,Ex.bv,Ex.az];refine Qa4k ZA λb=>?_;simp only[go_sem,MQ];refine Wv ?_ ?_
    ·intro a7;refine Wn ?_;exact retf false _ ZB
    ·intro a7;refine Wi ?_;exact⟨Qr,x.args.length-(i+1),ZA,i+1,rfl,ZA,rfl⟩
   ·intro hc;refine Zb ?_;refine Q1 (Qa ?_);simp only[go_sem,kM,BK,ET _ _ kM,Ex.aF];refine⟨λ_=>Int.le_refl _,?_⟩;refine Wu ?_ ?_
    ·intro hc;refine We ?_;exact retf false _ ZB
    intro hc;refine Zc ?_;refine Q1 (Qa ?_);simp only[go_sem,BV]
    intros
    refine Wu ?_ ?_
    ·intro hc;refine We ?_;exact retf false _ ZB
    intro hc;refine Zc ?_;refine Za ?_;refine⟨Qr,?_⟩;refine hS (Q8 x.body) ZA _ _ _ _ _ (Je _) ZA ZA λb1=>?_;simp only[go_sem,Q5k];refine⟨λ_=>Qr,?_⟩;refine⟨λbg=>?_,λbg=>?_⟩
    ·refine hS (Q8 x.els) ZA _ _ _ _ _ (Je _) ZA ZA λb2=>?_;simp only[go_sem,PM];refine Qk ?_;exact retf _ _ ZJ
    ·simp only[go_sem,PM,bg];refine Qk ?_;exact retf false _ ZB
 refine⟨λbg=>?_,λbg=>?_⟩
 ·replace bg:=BM bg;have jY:1<=deep:=by simp at bg;omega
  refine B1 ?_;simp only[go_sem,P7,bg,BK,cond_false];refine⟨λcx=>?_,λcx=>?_⟩
  ·refine YI ?_;simp only[go_sem,O9,BK];refine rest _ (λh=>⟨jY,?_⟩);have h1:(x.args.length:Int)=if x.op=4 then 2 else 1:=by
    cases h2:decide (1<=x.op/\x.op<=8) <;> rw[h2]at h <;> simp_all
   by_cases h4:x.op=4
   ·rw[if_pos h4]at h1⊢;omega
   ·rw[if_neg h4]at h1⊢;omega
  ·replace cx:=Bi cx;simp only[go_sem,O9,cx,BK];exact rest _ (λh=>ZH)
 ·replace bg:=Bi bg;simp only[go_sem,P7,O9,bg,BK,cond_true];exact rest _ (λh=>ZH)
theorem T5 (n:Nat):Fu n:=by
 induction n using Nat.strongRecOn with
 |ind n ih=>exact Xr (T6 ih)
theorem SP {f:Fn}(hf:Q8 f.body<=2^40)(hK:∀b:Bool,K (.c (.bool b)) H):Qv prog Ii [.ag f.cells] H K:=by
 refine Qd A6 SK ?_;have retf:∀(b:Bool) (e:Env),lk 2 e=.c (.bool b)->Q7 A8 K .ret e H:=by
  intro b e h1;simp only[go_sem,Q7,A5,Ja,forall_eq,RS.op,h1];exact hK _
 refine Qa ?_;simp only[go_sem,Fn.cells];refine Wa ?_;refine Qh (Qe (Qx (λn e1 H1=>∃(i:Nat),n=f.params.length-i/\i<=f.params.length/\H1=H/\e1=[(1,.c (.pp [.str f.name,.sl false 1 (Bg f.params),.sl false 5 (AF f.body)])),(3,Uv i)]) f.params.length ?_ ?_))
 ·exact⟨0,ZA,ZA,rfl,rfl⟩
 ·rintro n e1 H1 ⟨i,cN,hi,rfl,rfl⟩;refine Q1 (Qa ?_);simp only[go_sem,BB];intro hl;simp only[LIM]at hl;refine Wu ?_ ?_
  ·intro hc;have af:i<f.params.length:=ZD
   refine Wm ?_;simp only[go_sem,af,BB,Hn _ _ af];refine Pq λb=>?_;simp only[go_sem,Oj];refine Wv ?_ ?_
   ·intro a7;refine Wn ?_;exact retf false _ ZB
   ·intro a7;refine Wi ?_;exact⟨Qr,f.params.length-(i+1),ZA,i+1,rfl,ZA,rfl⟩
  ·intro hc;refine Wc ?_;refine Pq λb=>?_;simp only[go_sem,Oi,BB]
   intros
   refine⟨λbg=>?_,λbg=>?_⟩
   ·refine T5 _ _ _ _ _ _ (Je _) hf ZA λb2=>?_;simp only[go_sem,FN];refine Qk ?_;exact retf _ _ ZJ
   ·simp only[go_sem,FN,bg];refine Qk ?_;exact retf false _ ZB
def Bx:List Fn->Nat
 |[]=>0
 |f::r=>Q8 f.body+Bx r
theorem PT {l:List Fn}{f:Fn}(h:f∈l):Q8 f.body<=Bx l:=by
 induction l with
 |nil=>simp at h
 |cons g r ih=>
  simp only[Bx];rcases List.mem_cons.1 h with rfl|h
  ·omega
  ·have:=ih h;omega
theorem OL (a b:List Fn):Bx (a++b)=Bx a+Bx b:=by
 induction a with
 |nil=>simp[Bx]
 |cons x r ih=>simp only[Js,Bx,ih];omega
theorem Qari {l:List Fn}{i:Nat}(h:i<l.length):Bx (l.take (i+1))=Bx (l.take i)+Q8 (l[i]'h).body:=by
 rw[Jh h,OL];simp[Bx]
theorem Q6q (l:List Fn)(i:Nat):Bx (l.take i)<=Bx l:=by
 conv=>rhs;rw[<-Jx i l,OL]
 omega
theorem Vd {l:List Fn}{fl:Bool}(hf:Bx l<=2^40)(hK:∀n:Int,K (Uv n) H):Qv prog I9 [.ag [.sl fl 3 (AU l)]] H K:=by
 refine Qd A6 TS ?_;refine Wd ?_;refine Wa ?_;refine Qh (Qe (Qx (λn e1 H1=>∃(i v:Nat),n=l.length-i/\i<=l.length/\v<=Bx (l.take i)/\H1=H/\e1=[(1,.c (.pp [.sl fl 3 (AU l)])),(3,Uv v),(4,Uv i)]) l.length ?_ ?_))
 ·exact⟨0,0,ZA,ZA,ZA,rfl,rfl⟩
 ·rintro n e1 H1 ⟨i,v,cN,hi,hv,rfl,rfl⟩;refine Q1 (Qa ?_);simp only[go_sem,Cp];intro hl;simp only[LIM]at hl;refine Wu ?_ ?_
  ·intro hc;have af:i<l.length:=ZD
   have hm:=PT (Jb af);have bP:=Qari af;have rH:=Q6q l (i+1);refine Zc ?_;refine Qh (Qe (Qq ?_));simp only[go_sem,af,Cp,G6 _ _ af,Fn.cells];refine Qbkv _ _ (Je _) ZA λc hc=>?_;simp only[go_sem,KN];refine⟨Qr,?_⟩;refine Zg ?_;exact⟨Qr,l.length-(i+1),ZA,i+1,v+c,rfl,ZA,ZA,rfl⟩
  ·intro hc;refine Wp ?_;exact hK _
theorem Qaii {l:List Fn}{fl:Bool}(hf:Bx l<=2^40)(hK:∀b:Bool,K (.c (.bool b)) H):Qv prog Qha [.ag [.sl fl 3 (AU l)]] H K:=by
 refine Qd A6 Q09 ?_;have retf:∀(b:Bool) (e:Env),lk 2 e=.c (.bool b)->Q7 A8 K .ret e H:=by
  intro b e h1;simp only[go_sem,Q7,A5,Ja,forall_eq,RS.op,h1];exact hK _
 refine Wg ?_;simp only[go_sem,Cp];intro hl;simp only[LIM]at hl;refine B1 ?_;simp only[go_sem,G3];refine Wu ?_ ?_
 ·intro hc;refine We ?_;exact retf false _ ZB
 intro hc;refine Zc ?_;refine Wa ?_;refine Qh (Qe (Qx (λn e1 H1=>∃(i:Nat),n=l.length-i/\i<=l.length/\H1=H/\e1=[(1,.c (.pp [.sl fl 3 (AU l)])),(3,Uv i)]) l.length ?_ ?_))
 ·exact⟨0,ZA,ZA,rfl,rfl⟩
 ·rintro n e1 H1 ⟨i,cN,hi,rfl,rfl⟩;refine Q1 (Qa ?_);simp only[go_sem,Cp];refine λ_=>?_;refine Wu ?_ ?_
  ·intro hc;have af:i<l.length:=ZD
   have hm:=PT (Jb af);refine Wm ?_;simp only[go_sem,af,Cp,G6 _ _ af,Fn.take3,Fn.bv,Fn.az];refine SP ZA λb=>?_;simp only[go_sem,OR];refine Wv ?_ ?_
   ·intro a7;refine Wn ?_;exact retf false _ ZB
   ·intro a7;refine Wi ?_;exact⟨Qr,l.length-(i+1),ZA,i+1,rfl,ZA,rfl⟩
  ·intro hc;refine Wc ?_;refine Vd hf λn=>?_;simp only[go_sem,Qfq];refine Qk ?_;exact retf _ _ ZJ
end Go.AE.Y
namespace Go.AE.Y
open Go.Proofs.Tryz
structure PrOk (l:List Fn):Prop where
 pos:0<l.length
 par:∀f∈l,f.params.length<=3
 ok:∀f∈l,Bc f.body
 size:Bx l<=2^34
 len:l.length<=4
end Go.AE.Y
namespace Go.AE
open Go.AE.Y
open Go.Proofs.Tryz
theorem Kn.perm4 {H0 H:Heap}{E:Ul}{a b c d:Nat×Obj}(kn:Kn H0 H E [a,b,c,d]):Kn H0 H E [a,b,d]:=
 Kn.drop (A:=[a,b,d]) (B:=[c]) (kn.perm (.cons _ (.cons _ (.swap _ _ _))))
end Go.AE
namespace Go.AE.Y
open Go.Proofs.Tryz
theorem YH {R:Rdr}{k:Nat}{H:Heap}{K:Uk}(hR:H R.l=R.o k)(hk:k+7000000<=2^30)
  (hK:∀(l:List Fn) (H':Heap) (k':Nat),k<k'->k'<=k+7000000->Upd H H' [(R.l,R.o k')]->PrOk l->K (.ag [.sl false 3 (AU l)]) H') :
  Qv prog Kw [.c (.ptr R.l 0)] H K:=by
 refine Qz ?_;refine Qd A6 Y0 ?_;refine Za ?_;intro x2 aH H1 h1;have kn:=(Kn.start1 hR (R.an k)).al aH h1;refine Za ?_;refine BA (ns:=[14,20,8,26]) (kn.e 0 rfl) ZA ZC λv H2 hv hu=>?_;have kn:=kn.aq 0 rfl hu (R.an _);simp only[go_sem,MN];intro gl d9 H3 h3;have kn:Kn H H3 [(R.l,R.o (k+1))] [(x2,.st [.sl true 3 []]),(gl,GS.o ⟨[],(.sl true 3 [],[]),[],true,0,v⟩ R)]:=kn.al d9 h3;have hv26:0<=v/\v<=26:=by simp at hv;omega
 simp only[go_sem,MO];have bf:R.l≠gl:=kn.ne 0 1 rfl rfl;refine Wa ?_;refine BA (ns:=[0,1,1,2]) (kn.e 0 rfl) ZA ZC λcnt H4 oh hu=>?_;have kn:=kn.aq 0 rfl hu (R.an _);have a7:0<=cnt/\cnt<=2:=by simp at oh;omega
 simp only[go_sem,Ez];obtain⟨M,hM⟩:∃M:Nat,M=2001301:=⟨_,rfl⟩;refine Qh (Qe (Qx (λn e1 H1=>∃(j k4:Nat) (s:GS),n=cnt.toNat-j/\(j:Int)<=cnt/\s.fns.length=j/\k+2<=k4/\k4<=k+2+M * j/\s.ok k4/\(∀f∈s.fns,Bc f.body)/\4 * k+Bx s.fns<=4 * k4/\
   Gr s.ffl.2 3 (AU s.fns) s.ffl.1/\Kn H H1 [(R.l,R.o k4)] ([(x2,.st [.sl true 3 []]),(gl,s.o R)]++s.ffl.2)/\
   e1=[(0,.c (.ptr R.l 0)),(2,Up x2),(3,Up gl),(4,Uv (cnt-j))]) cnt.toNat ?_ ?_))
 ·refine⟨0,k+2,⟨[],(.sl true 3 [],[]),[],true,0,v⟩,ZA,ZA,rfl,ZA,ZA,⟨?_,?_,?_,?_,ZC,ZC,ZC⟩,ZC,by simp only[Bx];omega,.nil 3,kn,ZC⟩
  ·show -1<=(0:Int);omega
  ·show (0:Int)<=_;omega
  ·show _<=v;omega
  ·show v<=100;omega
 ·rintro n e1 H1 ⟨j,k4,s,hn,hj,iD,iQ,xA,hs,tW,bj,ay,kn,rfl⟩;have hMj:M * j<=M * 2:=J1 _ ZA;have Ar:M * (j+1)=M * j+M:=Jap _ _;have jd:=kn.l 1 rfl;have kE:=ay.ah;have iT:=ay.ax;rw[Cp]at iT;refine Wa ?_;refine Wu ?_ ?_
  ·intro hc;have hi:(j:Int)<cnt:=by simp at hc;omega
   refine Wj ?_;have tV:=(ay.aW (B:=[_,_]) kn);have eg:List.getD [[C.str [102]],[C.str [103]],[C.str [104]]] s.fns.length []=[.str (List.getD [[102],[103],[104]] s.fns.length [])]:=Hn [[102],[103],[104]] _ ZG;have xn:s.fns.length<3:=ZA
   refine AC ?_;simp only[go_sem,jd,GS.o,kE,iT,eq_true tV,eg,xn];refine AX (kn.e 0 rfl) ZA λp H2 hp hu=>?_;have kn:Kn H H2 [(R.l,R.o (k4+1))] ([(x2,.st [.sl true 3 []]),(gl,s.o R)]++s.ffl.2):=kn.aq 0 rfl hu (R.an _);rw[if_neg ZA]at hp;have fq:=kn.l 1 rfl;have tU:=(ay.aW (B:=[_,_]) kn);simp only[go_sem,MU,fq,GS.o,kE,iT,eq_true tU,eg,xn];have hF:FnsOk H2 R gl s:=⟨ay,λq hq=>by
    have h1:=kn.get q (Ji _ (Ji _ hq));refine⟨h1.1,λhh=>?_,λhh=>?_⟩
    ·exact kn.usedE 0 rfl (hh▸kn.loc q (Ji _ hq))
    ·have:=kn.dL;rw[Ju]at this;exact (Jad.1 this).2.2 gl ZC q.1 (AV hq) hh.symm⟩
   refine LJ hp.1 ZA (kn.e 0 rfl) (kn.l 1 rfl) bf (hs.mono (Jak k4)) hF ZA λf s2 H5 k5 g1 g2 hu dk g3 g4 g5 g6 g7=>?_;have kn:=kn.callEL 0 1 rfl rfl hu (R.an _) (GS.an _ _);have kn:Kn H H5 [(R.l,R.o k5)] ([(x2,.st [.sl true 3 []]),(gl,s2.o R)]++s.ffl.2):=kn;simp only[go_sem,MV];intro x5 bm H6 h6;have kn:=kn.al bm h6;have kn:=kn.perm (L':=[(x2,_),(gl,_),(x5,_)]++s.ffl.2) (by
    simp only[Js,Jq];exact .cons _ (.cons _ Jj))
   have hG6:=kn.l 1 rfl;have vB:=kn.l 2 rfl;have tT:=(ay.aW (B:=[_,_,_]) kn);simp only[go_sem,MW,hG6,vB,GS.o,g4,kE,iT,eq_true tT,eg,xn,Fn.cells];intro H7 h7;have kn:Kn H H7 [(R.l,R.o k5)] ([(x2,_),(gl,_),(x5,_)]++s.ffl.2):=kn.aA 2 rfl h7;have uz:=kn.l 1 rfl;have pO:=kn.l 2 rfl;refine AY ?_;simp only[go_sem,uz,pO,GS.o,g4,kE];refine kn.grow (B:=[_,_,_]) (new:=[f.cells]) ay (.mk' _ _ _ _) (by simp[f.ak]) (by simp only[Cp,LIM,Jl,Jm];omega) λz H8 kn=>?_;have yP:=kn.l 1 rfl;simp only[go_sem,MT,yP,GS.o];intro H9 h9;have kn:=kn.aA 1 rfl h9;obtain⟨s9,qi⟩:∃s9:GS,s9=GS.mk (s.fns++[f]) (C.ai z 3 0 ((AU s.fns).length+1),[(z,Obj.vec 3 (AU s.fns++[f.cells]))]) s2.vars s2.vfl s2.next s2.left:=⟨_,rfl⟩;have uF:s9.o R=.st [C.ptr R.l 0,C.ai z 3 0 ((AU s.fns).length+1),C.sl s2.vfl 1 (Bg s2.vars),C.int IntKind.i64 s2.next,C.int IntKind.i64 s2.left]:=by rw[qi];rfl
   rw[<-uF]at kn;have kn:Kn H H9 [(R.l,R.o k5)] [(x2,_),(gl,s9.o R),(x5,_),(z,_)]:=kn;have kn:=kn.perm4;refine Zg ?_;have df:k5<=k+2+M * (j+1):=by rw[Ar];omega
   refine⟨Qr,cnt.toNat-(j+1),ZA,j+1,k5,s9,rfl,ZA,by simp[qi,iD],ZA,df,?_,?_,?_,?_,by rw[qi]at kn⊢;exact kn,?_⟩
   ·subst qi;refine⟨dk.n0,dk.n1,dk.l0,dk.l1,dk.v,λf' qX=>?_,by simp;omega⟩;rcases Jk.1 qX with h|h
    ·exact hs.f f' h
    ·simp at h;subst h;exact g5
   ·subst qi;intro f' qX;rcases Jk.1 qX with h|h
    ·exact tW f' h
    ·simp at h;subst h;exact g6
   ·subst qi;simp only[OL,Bx];omega
   ·subst qi;show Gr [(z,Obj.vec 3 (AU s.fns++[f.cells]))] 3 (AU (s.fns++[f])) _;rw[LQ];exact .mk _ _ _ (by simp[Cp])
   ·have:cnt-((j+1:Nat):Int)=cnt-j-1:=ZA;rw[this]
  ·intro hc;refine Zb ?_;have hkE:k4<=k+4002604:=ZA
   refine Za ?_;refine BA (ns:=[0,1,2,1]) (kn.e 0 rfl) ZA ZC λp H2 hp hu=>?_;have kn:Kn H H2 [(R.l,R.o (k4+1))] ([(x2,.st [.sl true 3 []]),(gl,s.o R)]++s.ffl.2):=kn.aq 0 rfl hu (R.an _);have eV:0<=p/\p<=3:=by simp at hp;omega
   simp only[go_sem,Q5f];have hF:FnsOk H2 R gl s:=⟨ay,λq hq=>by
    have h1:=kn.get q (Ji _ (Ji _ hq));refine⟨h1.1,λhh=>?_,λhh=>?_⟩
    ·exact kn.usedE 0 rfl (hh▸kn.loc q (Ji _ hq))
    ·have:=kn.dL;rw[Ju]at this;exact (Jad.1 this).2.2 gl ZC q.1 (AV hq) hh.symm⟩
   refine LJ eV.1 eV.2 (kn.e 0 rfl) (kn.l 1 rfl) bf (hs.mono (Jak k4)) hF ZA λf s2 H5 k5 g1 g2 hu dk g3 g4 g5 g6 g7=>?_;have kn:=kn.callEL 0 1 rfl rfl hu (R.an _) (GS.an _ _);have kn:Kn H H5 [(R.l,R.o k5)] ([(x2,.st [.sl true 3 []]),(gl,s2.o R)]++s.ffl.2):=kn;simp only[go_sem,Q5e];intro x6 aZ H6 h6;have kn:=kn.al aZ h6;have kn:=kn.perm (L':=[(x2,_),(gl,_),(x6,_)]++s.ffl.2) (by
    simp only[Js,Jq];exact .cons _ (.cons _ Jj))
   have ly:=kn.l 2 rfl;simp only[go_sem,Q5d,ly,Fn.cells];intro H7 h7;have kn:Kn H H7 [(R.l,R.o k5)] ([(x2,_),(gl,_),(x6,_)]++s.ffl.2):=kn.aA 2 rfl h7;have uz:=kn.l 1 rfl;have kh:=kn.l 2 rfl;have tS:=ay.aW (B:=[_,_,_]) kn;have qk:=ay.rowsOf (B:=[_,_,_]) kn;have iU:=ay.aO;have hL:s.fns.length<=LIM:=ZY
   refine AC ?_;simp only[go_sem,uz,kh,GS.o,g4,kE,iT,eq_true tS,qk,iU,hL,Jg];refine⟨.inl trivial,LR _,λy hy H8 h8=>?_⟩;have kn:=kn.al hy h8;have kn:=kn.perm (L':=([(x2,_),(gl,_),(x6,_)]++[(y,_)])++s.ffl.2) Ht;have kn:=kn.drop;have vz:=kn.l 2 rfl;have kn:Kn H H8 [(R.l,R.o k5)] [(x2,_),(gl,_),(x6,_),(y,_)]:=kn;have hy8:=kn.l 3 rfl;have etk:List.take s.fns.length (AU s.fns)=AU s.fns:=Jd (by rw[Cp];omega);simp only[go_sem,Q5i,vz,hy8,Cp,etk];refine⟨ZA,by simp only[LIM];omega,λz hz H9 h9=>?_⟩;have kn:Kn H H9 [(R.l,R.o k5)] [(x2,_),(gl,_),(x6,_),(z,.vec 3 (AU s.fns++[f.cells]))]:=kn.ap 3 rfl hz h9;simp only[go_sem,Q5h];intro x7 b7 H10 dh;have kn:=kn.al b7 dh;have yQ:=kn.l 1 rfl;have lw:=kn.l 2 rfl;have pI:=kn.l 4 rfl;have kn:Kn H H10 [(R.l,R.o k5)] [(x2,_),(gl,_),(x6,_),(z,_),(x7,_)]:=kn;simp only[go_sem,Q5g,yQ,lw,pI,GS.o,g4,kE];intro H11 eB;have kn:=kn.aA 4 rfl eB;have kn:Kn H H11 [(R.l,R.o k5)] ([(x2,.st [.sl true 3 []]),(x7,.st [.ai z 3 0 (s.fns.length+1)])]++[(z,.vec 3 (AU s.fns++[f.cells]))]):=
    (kn.perm (L':=([(x2,_),(x7,_)]++[(z,_)])++[(gl,_),(x6,_)]) (by
     simp only[List.set,Js,Jq];refine .cons _ ?_;refine .trans (.cons _ (.cons _ (.swap _ _ _))) ?_;refine .trans (.cons _ (.swap _ _ _)) ?_;refine .trans (.swap _ _ _) ?_;refine .cons _ ?_;refine .trans (.cons _ (.swap _ _ _)) ?_;exact .swap _ _ _)).drop
   have vm:=kn.l 2 rfl;have za:=kn.l 1 rfl;obtain⟨eK,kn⟩:=kn.freeze 1 rfl (og':=.st [.sl false 3 (AU (s.fns++[f]))]) (FrzKL.st (.cons rfl (by
    rw[<-LQ];exact FC ZC vm (by simp[Cp]) (noOw_mem (Ym (LR _) (by simp[f.ak])))) .nil)) ZC
   refine Q1 (c_gh (DK _ (λt=>?_) eK) (e':=[(2,V.c (C.ptr x2 0)),(7,V.c (C.ptr x7 0))]) ?_)
   ·simp only[lk];split
    ·exact .c _ _ (.same _ rfl)
    ·split
     ·exact .c _ _ (.same _ rfl)
     ·exact .unk _
   generalize ((H11.frz λm=>m == z).set x7 (Obj.st [C.sl false 3 (AU (s.fns++[f]))]))=H12 at *;have nw:=kn.l 1 rfl;have sp:=kn.l 0 rfl;have mY:Bx (s.fns++[f])<=2^34:=by rw[OL];simp only[Bx];omega
   refine Zi nw ?_;refine Qaii ZA λb=>?_;simp only[go_sem,Q5j];refine Wu ?_ ?_
   ·intro hc;refine Zi sp ?_;intro H13 rx;have kn:=kn.aA 0 rfl rx;have pS:=kn.l 0 rfl;refine Zj pS ?_;refine⟨.ag [.sl false 3 (AU [Fn.mk [109] [] [St.mk 3 [] [Ex.mk 1 1 [] []] [] []]])],FrzL.ag ?_,hK _ _ k5 ZA ZA kn.fin ⟨ZC,ZC,?_,?_,ZC⟩⟩
    ·simp only[AU,Jal,Jan,Fn.cells,Qbit,AF,St.cells,AO,Ex.cells]
     repeat' first|exact FrzL.nil|exact FrzR.nil|exact Qg rfl|exact FrzL.same (Ex.ak _)|exact FrzL.same (St.ak _)|refine FrzL.cons ?_ ?_|refine FrzR.cons ?_ ?_|refine FrzR.sl ?_
    ·intro f hf;simp at hf;subst hf;simp[Bc,St.ok,Bj,Ex.ok]
    ·simp[Bx,Q8,St.size,AR,Ex.size]
   ·intro hc;refine Zc ?_;refine Zn sp nw ?_;intro H13 rx;have kn:=kn.aA 0 rfl rx;have pS:=kn.l 0 rfl;refine Zj pS ?_;refine⟨.ag [.sl false 3 (AU (s.fns++[f]))],FrzL.ag (.cons (Qg rfl) .nil),hK _ _ k5 ZA ZA kn.fin ⟨ZC,?_,?_,mY,by simp;omega⟩⟩
    ·intro f' qX;rcases Jk.1 qX with h|h
     ·exact hs.f f' h
     ·simp at h;subst h;exact g5
    ·intro f' qX;rcases Jk.1 qX with h|h
     ·exact tW f' h
     ·simp at h;subst h;exact g6
variable {F H:Heap}{w:Nat}{s:LS}{K:Uk}
structure LStep (s s':LS)(d:Nat):Prop where
 bl:s.blocks.length<=s'.blocks.length
 ok:∀N,s.ok N->s'.ok (N+d)
 vl:s.vars.length<=s'.vars.length
 at_:s.at_<s.blocks.length->s'.at_<s'.blocks.length
 fn:s'.fns=s.fns/\s'.pfl=s.pfl
theorem LStep.trans {s s' s'':LS}{d e:Nat}(h:LStep s s' d)(k:LStep s' s'' e):LStep s s'' (d+e):=
 ⟨Jae h.bl k.bl,λN hN=>by rw[<-Nat.add_assoc];exact k.ok _ (h.ok N hN),Jae h.vl k.vl,λha=>k.at_ (h.at_ ha),k.fn.1.trans h.fn.1,k.fn.2.trans h.fn.2⟩
theorem LStep.refl (s:LS):LStep s s 0:=⟨Je _,λN h=>h,Je _,λh=>h,rfl,rfl⟩
theorem LStep.mono {s s':LS}{d e:Nat}(h:LStep s s' d)(hd:d<=e):LStep s s' e:=⟨h.bl,λN hN=>(h.ok N hN).mono ZA,h.vl,h.at_,h.fn⟩
theorem E6 {N:Nat}(h:LInv F H w s)(aw:s.ok N)(hN:N+1<=2^38)(hK:∀(s':LS) (H':Heap),LInv F H' w s'->LStep s s' 1->K (.c (Ui s.ae)) H') :
  Qv prog Qtg [Up w] H K:=by
 have hw:=h.hw;have h0:=aw.r0;have h1:=aw.r1;refine Qd A6 Qard ?_;refine Wk ?_;simp only[go_sem,hw,LS.o];refine⟨Qr,λH1 o8=>?_⟩;have h':LInv F H1 w { s with ae:=s.ae+1 }:=h.setw o8 rfl rfl rfl rfl h.gv h.rv;have gI:=h'.hw;refine Qa ?_;simp only[go_sem,gI,LS.o];refine⟨Qr,?_⟩;refine Zf ?_;refine hK _ H1 h' ⟨Je _,λM hM=>⟨?_,?_,hM.n0,?_,?_,?_,?_⟩,Je _,λh=>h,rfl,rfl⟩
 ·have:=hM.r0;show 0<=s.ae+1;omega
 ·have:=hM.r1;show s.ae+1<=_;omega
 ·have:=hM.n1;show s.next<=_;omega
 ·have:=hM.b1;show s.blocks.length<=_;omega
 ·intro b hb;have:=hM.i1 b hb;omega
 ·have:=hM.v1;show s.vars.length<=_;omega
theorem K6 {N:Nat}(h:LInv F H w s)(aw:s.ok N)(hN:N+1<=2^38)(hK:∀(s':LS) (H':Heap),LInv F H' w s'->LStep s s' 1->s.blocks.length<s'.blocks.length->s'.at_=s.at_->K (.c (Ui s.blocks.length)) H') :
  Qv prog Rr [Up w] H K:=by
 have hw:=h.hw;have bg:=aw.b1;have cS:=h.gb.ah;refine Qd A6 Qarc ?_;refine Wk ?_;simp only[go_sem,hw,LS.o,cS];refine h.addBlk (b:=⟨.sl true 4 [],[],[],0,0,true,[]⟩) ZY rfl rfl rfl λy H1 gI cont=>?_;simp only[go_sem,Qmc,gI,LS.o];intro H2 h2;have h':=cont H2 h2;have n5:=h'.hw;obtain⟨y2,oB,jN,hv3⟩:=h'.bvec ZC;simp only[C.ai.injEq]at oB;obtain⟨rfl,_⟩:=oB;refine Qa ?_;simp only[go_sem,n5,LS.o,hv3,Jf,List.length_append];refine⟨ZA,λhl=>⟨Qr,?_⟩⟩;refine Zf ?_;have e1:(((s.blocks.length+1:Nat):Int)-1)=s.blocks.length:=ZA
 rw[e1];refine hK _ H2 h' ⟨ZC,λM hM=>⟨hM.r0,?_,hM.n0,?_,?_,?_,?_⟩,Je _,λha=>by simp;show s.at_<_;omega,rfl,rfl⟩ ZC rfl
 ·have:=hM.r1;show s.ae<=_;omega
 ·have:=hM.n1;show s.next<=_;omega
 ·have:=hM.b1;simp;omega
 ·intro b hb;rcases Jk.1 hb with hb|hb
  ·have:=hM.i1 b hb;omega
  ·simp at hb;subst hb;simp
 ·have:=hM.v1;show s.vars.length<=_;omega
theorem DO {N:Nat}(h:LInv F H w s)(aw:s.ok N)(hN:N+1<=2^38)(hK:∀(s':LS) (H':Heap),LInv F H' w s'->LStep s s' 1->s.blocks.length<s'.blocks.length->K (.c (Ui s.blocks.length)) H') :
  Qv prog Rr [Up w] H K:=K6 h aw hN λs' H' a b c _=>hK s' H' a b c
theorem CZ {N:Nat}{op to n:Int}{fl:Bool}{args:List Int}(h:LInv F H w s)(bq:s.at_<s.blocks.length)(aw:s.ok N)(hN:N+1<=2^38)
  (hK:∀(s':LS) (H':Heap),LInv F H' w s'->LStep s s' 1->K (Uv to) H') :
  Qv prog Q23 [Up w,Uv op,Uv to,Uv n,.c (.sl fl 1 (Qc args))] H K:=by
 have hw:=h.hw;obtain⟨y,dw,oX,hy⟩:=h.bvec ZA;have hm:=Jb bq;have xM:=aw.i1 _ hm;have xG:=(h.gi _ hm).ah;have fR:List.getD (List.map Blk.row s.blocks) s.at_ []=s.blocks[s.at_].row:=Zbf
 have dA:List.getD (List.take s.blocks.length (List.map Blk.row s.blocks)) s.at_ []=s.blocks[s.at_].row:=by
  rw[Jd ZC];exact fR
 refine Qd A6 Qa5t ?_;refine Za ?_;refine AC ?_;simp only[go_sem,hw,LS.o,dw,hy,bq,Jg,Jf];refine Qa ?_;simp only[go_sem,hy,bq,dA,Blk.row,xG,Jg,Jf];refine h.addIns bq dw oX ⟨op,to,n,fl,args,rfl⟩ ZY λz H1 gI pG cont=>?_;simp only[go_sem,Qvq,pG,fR,bq,Blk.row,Jg,Jf];intro H2 h2;obtain⟨b',aT,h'⟩:=cont H2 h2;refine Ws ?_;refine hK _ H2 h' ⟨ZC,λM hM=>⟨hM.r0,?_,hM.n0,?_,?_,?_,?_⟩,Je _,λha=>by simp;show s.at_<_;omega,rfl,rfl⟩
 ·have:=hM.r1;show s.ae<=_;omega
 ·have:=hM.n1;show s.next<=_;omega
 ·have:=hM.b1;simp;omega
 ·intro b hb;rcases GA hb with rfl|hb
  ·have:=hM.i1 _ hm;omega
  ·have:=hM.i1 b hb;omega
 ·have:=hM.v1;show s.vars.length<=_;omega
theorem D7 {N:Nat}{kind on:Int}{at':Nat}{fl:Bool}{next:List Int}(h:LInv F H w s)(bq:s.at_<s.blocks.length)(yu:at'<s.blocks.length)
  (hK:∀(s':LS) (H':Heap),LInv F H' w s'->LStep s s' 0->K (.tup []) H') :
  Qv prog Qxz [Up w,Uv kind,Uv on,.c (.sl fl 1 (Qc next)),Uv at'] H K:=by
 have hw:=h.hw;obtain⟨y,dw,oX,hy⟩:=h.bvec ZA;have hm:=Jb bq;have fR:List.getD (List.map Blk.row s.blocks) s.at_ []=s.blocks[s.at_].row:=Zbf
 refine Qd A6 Qaw1 ?_;refine AC ?_;simp only[go_sem,hw,LS.o,dw,hy,bq,Jg,Jf];refine Qa ?_;simp only[go_sem,hy,fR,bq,Blk.row,Jg,Jf];intro H1 h1;have h1:H1=H.set y (.vec 5 ((s.blocks.set s.at_ { s.blocks[s.at_]with jump:=kind }).map Blk.row)):=by rw[h1,<-N1];rfl
 have hv:=h.setBlk bq dw oX h1 rfl rfl rfl;obtain⟨b1,bg,iz,hb1i⟩:∃b1:Blk,b1={ s.blocks[s.at_]with jump:=kind }/\b1.aV=s.blocks[s.at_].aV/\b1.ic=s.blocks[s.at_].ic:=⟨_,rfl,rfl,rfl⟩;rw[<-bg]at hv h1;have pG:H1 y=.vec 5 ((s.blocks.set s.at_ b1).map Blk.row):=by rw[h1];exact Heap.aE _ _ _
 have dA:List.getD ((s.blocks.set s.at_ b1).map Blk.row) s.at_ []=b1.row:=Zbf
 refine Qa ?_;simp only[go_sem,pG,dA,bq,Blk.row,Jg,Jf,Jai];intro H2 h2;have h2:H2=H1.set y (.vec 5 (((s.blocks.set s.at_ b1).set s.at_ { b1 with on:=on }).map Blk.row)):=by rw[h2];simp only[Jv];rfl
 have hv:=hv.setBlk (i:=s.at_) (b':={ b1 with on:=on }) (by simpa using bq) (by simpa using dw) (by rfl) h2 ZC ZC ZC;simp only[Jao]at hv h2;obtain⟨b2,cx,yt⟩:∃b2:Blk,b2={ b1 with on:=on }/\b2.aV=b1.aV:=⟨_,rfl,rfl⟩;rw[<-cx]at hv h2;have kP:H2 y=.vec 5 ((s.blocks.set s.at_ b2).map Blk.row):=by rw[h2];exact Heap.aE _ _ _
 have hg3:List.getD ((s.blocks.set s.at_ b2).map Blk.row) s.at_ []=b2.row:=Zbf
 refine Qa ?_;simp only[go_sem,kP,hg3,bq,Blk.row,Jg,Jf,Jai];intro H3 h3;have h3:H3=H2.set y (.vec 5 (((s.blocks.set s.at_ b2).set s.at_ { b2 with next:=next,nfl:=fl }).map Blk.row)):=by rw[h3];simp only[Jv];rfl
 have hv:=hv.setBlk (i:=s.at_) (b':={ b2 with next:=next,nfl:=fl }) (by simpa using bq) (by simpa using dw) (by rfl) h3 ZC ZC ZC;simp only[Jao]at hv;have sv:=hv.hw;refine Qq ?_;simp only[go_sem,sv,LS.o];intro H4 h4;have h':=hv.setw (s':={ s with lb:=[(y,.vec 5 ((s.blocks.set s.at_ { b2 with next:=next,nfl:=fl }).map Blk.row))],blocks:=s.blocks.set s.at_ { b2 with next:=next,nfl:=fl },at_:=at' }) h4 rfl rfl rfl rfl hv.gv hv.rv;simp only[Q7,A5,By];refine⟨ZC,hK _ H4 h' ⟨ZC,λM hM=>⟨hM.r0,hM.r1,hM.n0,hM.n1,?_,?_,hM.v1⟩,Je _,λha=>by simpa using yu,rfl,rfl⟩⟩
 ·have:=hM.b1;simpa using this
 ·intro b hb;rcases GA hb with rfl|hb
  ·show b2.aV.length<=_;rw[yt,iz];exact hM.i1 _ hm
  ·exact hM.i1 b hb
theorem To {l:List Fn}{fl:Bool}{name:List UInt8}(hK:∀n:Int,K (Uv n) H):Qv prog LT [.ag [.sl fl 3 (AU l)],.c (.str name)] H K:=by
 refine Qd A6 Qblv ?_;have retf:∀(n:Int) (e:Env),lk 4 e=Uv n->Q7 A7 K .ret e H:=by
  intro b e h1;simp only[go_sem,Q7,A5,Ja,forall_eq,RS.op,h1];exact hK _
 refine Wh ?_;refine Qh (Qe (Qx (λn e1 H1=>∃(i:Nat),n=l.length-i/\i<=l.length/\H1=H/\e1=[(1,.c (.str name)),(2,.c (.pp [.sl fl 3 (AU l)])),(5,Uv i)]) l.length ?_ ?_))
 ·exact⟨0,ZA,ZA,rfl,rfl⟩
 ·rintro n e1 H1 ⟨i,cN,hi,rfl,rfl⟩;refine Q1 (Qa ?_);simp only[go_sem,Cp];intro hl;simp only[LIM]at hl;refine Wu ?_ ?_
  ·intro hc;have af:i<l.length:=ZD
   refine Wm ?_;simp only[go_sem,af,Cp,G6 _ _ af,Fn.cells];refine Wv ?_ ?_
   ·intro a7;refine Wn ?_;exact retf _ _ ZJ
   ·intro a7;refine Wi ?_;exact⟨Qr,l.length-(i+1),ZA,i+1,rfl,ZA,rfl⟩
  ·intro hc;refine Wc ?_;refine Qk ?_;exact retf _ _ ZJ
theorem Hw {name:List UInt8}(h:LInv F H w s)(hK:∀n:Int,K (Uv n) H):Qv prog Q24 [Up w,.c (.str name)] H K:=by
 have hw:=h.hw;obtain⟨oB,jN⟩:=h.vget;have bO:=h.gv.ax;have u9:=h.gv.aO;have n6:=h.gv.ah;refine Qd A6 Qa5u ?_;have retf:∀(n:Int) (e:Env),lk 4 e=Uv n->Q7 A7 K .ret e H:=by
  intro b e h1;simp only[go_sem,Q7,A5,Ja,forall_eq,RS.op,h1];exact hK _
 refine Wg ?_;simp only[go_sem,hw,LS.o,oB,bO,n6];intro hl;simp only[LIM]at hl;refine⟨Qr,?_⟩;refine Qh (Qe (Qx (λn e1 H1=>∃(j:Nat),n=j/\j<=s.vars.length/\H1=H/\e1=[(0,Up w),(1,.c (.str name)),(5,Uv ((j:Int)-1))]) s.vars.length ?_ ?_))
 ·exact⟨s.vars.length,rfl,ZA,rfl,rfl⟩
 ·rintro n e1 H1 ⟨j,wS,hj,rfl,rfl⟩;refine Wa ?_;refine Wu ?_ ?_
  ·intro hc;have kB:1<=j:=by simp at hc;omega
   obtain⟨i,rfl⟩:∃i,j=i+1:=⟨j-1,ZA⟩;have e1:(((i+1:Nat):Int)-1)=(i:Int):=ZA
   have af:i<s.vars.length:=ZA
   obtain⟨nm,a,b,hr⟩:=h.rv _ (Jb af);have bd:List.getD s.vars i []=[.str nm,Ui a,Ui b]:=by rw[<-hr];simp[Jc,af]
   rw[e1]at hc⊢;refine Wm ?_;simp only[go_sem,hw,LS.o,oB,jN,bO,n6,u9,af,bd];refine Wv ?_ ?_
   ·intro a7;refine Qa ?_;simp only[go_sem,hw,LS.o,oB,jN,bO,n6,u9,af,bd];refine Zm ?_;exact retf _ _ ZJ
   ·intro a7;refine Wi ?_;exact⟨Qr,i,ZA,i,rfl,ZA,rfl⟩
  ·intro hc;refine Wc ?_;refine Qk ?_;exact retf _ _ ZJ
def DX (n:Nat):Prop:=∀(x:Ex) (F H:Heap) (w:Nat) (s:LS) (N:Nat) (K:V->Heap->Prop),x.size<=n->x.ok->LInv F H w s->s.at_<s.blocks.length->s.ok N->N+10 * x.size<=2^38->
  (∀(v:Int) (s':LS) (H':Heap),LInv F H' w s'->LStep s s' (10 * x.size)->K (.c (.int .i64 v)) H')->Qv prog Qxy [.c (.ptr w 0),.ag x.cells] H K
def AndL (n:Nat):Prop:=∀(x:Ex) (F H:Heap) (w:Nat) (s:LS) (N:Nat) (K:V->Heap->Prop),x.size<=n->x.ok->x.op=10->LInv F H w s->s.at_<s.blocks.length->s.ok N->N+10 * x.size<=2^38->
  (∀(v:Int) (s':LS) (H':Heap),LInv F H' w s'->LStep s s' (10 * x.size)->K (.c (.int .i64 v)) H')->Qv prog Q22 [.c (.ptr w 0),.ag x.cells] H K
theorem TI {n:Nat}(hE:∀m,m<n->DX m):AndL n:=by
 intro x F H w s N K hn aw bG h bq aI hN hK;have bj:=x.size_kids;have fx:=Ex.ok_and aw bG;have gz:=Ex.ok_kids aw;obtain⟨a,b,eH⟩:∃a b,x.kids=[a,b]:=by
  match hx:x.kids,fx with
  |[a,b],_=>exact⟨a,b,rfl⟩
 rw[eH]at bj gz;simp only[AR,Bj]at bj gz;refine Qd A6 Qa5s ?_;refine Zw ?_;refine Qa ?_;simp only[go_sem,eH,AO,Ex.cF,Ex.bv,Ex.az,Jz];refine⟨ZA,?_⟩;refine hE a.size ZA a F H w s N _ (Je _) gz.1 h bq aI ZA λva s1 H1 h1 st1=>?_;simp only[go_sem,Qvi];refine Za ?_;refine E6 h1 (st1.ok _ aI) ZA λs2 H2 h2 st2=>?_;have st2:=st1.trans st2;simp only[go_sem,Qvk];refine CZ (args:=[]) h2 (st2.at_ bq) (st2.ok _ aI) ZA λs3 H3 h3 st3=>?_;have st3:=st2.trans st3;simp only[go_sem,Qvj];refine Za ?_;refine DO h3 (st3.ok _ aI) ZA λs4 H4 h4 st4 Af=>?_;have st4':=st4;have st4:=st3.trans st4;simp only[go_sem,Qvl];refine Za ?_;refine DO h4 (st4.ok _ aI) ZA λs5 H5 h5 st5 Ae=>?_;have st5:=st4.trans st5;simp only[go_sem,Qvm];refine Za ?_;refine D7 (next:=[(s3.blocks.length:Int),(s4.blocks.length:Int)]) (N:=0) h5 (st5.at_ bq) ZA λs6 H6 h6 st6=>?_;have Ad:=st6.bl;have st6:=st5.trans st6;refine Qa ?_;simp only[go_sem,Ex.cF,Ex.bv,Ex.az,Jz,Jab];refine⟨ZA,?_⟩;refine hE b.size ZA b F H6 w s6 _ _ (Je _) gz.2.1 h6 (st6.at_ bq) (st6.ok _ aI) ZA λvb s7 H7 h7 st7=>?_;have Ac:=st7.bl;have st7:=st6.trans st7;simp only[go_sem,Qvn];refine Za ?_;refine E6 h7 (st7.ok _ aI) ZA λs8 H8 h8 st8=>?_;have hb8:=st8.bl;have st8:=st7.trans st8;simp only[go_sem,Qvp];refine CZ (args:=[vb]) h8 (st8.at_ bq) (st8.ok _ aI) ZA λs9 H9 h9 st9=>?_;have hb9:=st9.bl;have st9:=st8.trans st9;simp only[go_sem,O0];refine Za ?_;refine CZ (args:=[s7.ae]) h9 (st9.at_ bq) (st9.ok _ aI) ZA λs10 H10 dh st10=>?_;have hb10:=st10.bl;have st10:=st9.trans st10;refine Za ?_;refine D7 (next:=[(s4.blocks.length:Int)]) (N:=0) dh (st10.at_ bq) ZA λs11 H11 eB st11=>?_;have st11:=st10.trans st11;refine Ws ?_;exact hK _ s11 H11 eB (st11.mono ZA)
theorem V3 {n:Nat}(hA:AndL n)(hE:∀m,m<n->DX m):DX n:=by
 intro x F H w s N K hn aw h bq aI hN hK;have bj:=x.size_kids;have gz:=Ex.ok_kids aw;refine Qd A6 Qaw0 ?_;have retf:∀(v:Int) (e:Env) (s':LS) (H':Heap),LInv F H' w s'->LStep s s' (10 * x.size)->lk 4 e=Uv v->Q7 A7 K .ret e H':=by
  intro v e s' H' a1 a2 h1;simp only[go_sem,Q7,A5,Ja,forall_eq,RS.op,h1];exact hK _ _ _ a1 a2
 refine Zw ?_;refine Wa ?_;refine Wf ?_;refine Wv ?_ ?_
 ·intro hc;refine Zz ?_;refine E6 h aI ZA λs1 H1 h1 st1=>?_;simp only[go_sem,Qq7];refine CZ (args:=[]) h1 (st1.at_ bq) (st1.ok _ aI) ZA λs2 H2 h2 st2=>?_;simp only[go_sem,Qq6];refine Zk ?_;exact retf _ _ s2 H2 h2 ((st1.trans st2).mono ZA) ZJ
 intro bB;refine Za ?_;refine Wv ?_ ?_
 ·intro hc;refine Za ?_;refine Hw h λv=>?_;simp only[go_sem,Qq8];refine Zk ?_;exact retf _ _ s H h ((LStep.refl s).mono ZA) ZJ
 intro a7;refine Za ?_;refine Wv ?_ ?_
 ·intro hc;have bG:x.op=10:=ZD
  refine Za ?_;rw[<-x.aF];refine hA x F H w s N _ hn aw bG h bq aI hN λv s1 H1 h1 st1=>?_;simp only[go_sem,Qq9];refine Zk ?_;exact retf _ _ s1 H1 h1 st1 ZJ
 intro bn;refine Zc ?_;refine Wh ?_;refine Qh (Qe (Qx (λn e1 H1=>∃(i:Nat) (ars:List Int) (c:C) (Lg:Ul) (s':LS),n=x.kids.length-i/\i<=x.kids.length/\ars.length=i/\Gr Lg 1 (Qc ars) c/\LInv F H1 w s'/\Kn F H1 [] (s'.L w++Lg)/\
  LStep s s' (10 * AR (x.kids.take i))/\e1=[(0,Up w),(3,.c (.pp [Ui x.op,Ui x.n,.str x.name,.sl false 4 (AO x.kids)])),(5,.c c),(6,Uv i)]) x.kids.length ?_ ?_))
 ·exact⟨0,[],_,[],s,ZA,ZA,rfl,.nil 1,h,by simpa using h.kn,(LStep.refl s).mono ZA,rfl⟩
 ·rintro n e1 H1 ⟨i,ars,c,Lg,s1,cN,hi,ov,ay,h1,kn,st1,rfl⟩;refine Q1 (Qa ?_);simp only[go_sem,BK];intro hl;simp only[LIM]at hl;refine Wu ?_ ?_
  ·intro hc;have af:i<x.kids.length:=ZD
   have hm:=G9 (Jb af);have bP:=PU af;have rH:=R6 x.kids (i+1);refine Zc ?_;refine Qh (Qe (Qq ?_));simp only[go_sem,af,BK,ET _ _ af,Ex.cF,Ex.bv,Ex.az];obtain⟨F',hf,back⟩:=h1.beside kn ay;refine hE x.kids[i].size ZA _ F' H1 w s1 _ _ (Je _) (Q94 gz _ (Jb af)) hf (st1.at_ bq) (st1.ok _ aI) ZA λv s2 H2 h2 st2=>?_;obtain⟨h2,kn⟩:=back s2 H2 h2;simp only[go_sem,Qrb];refine kn.grow (new:=Qc [v]) ay (.mk' _ _ _ _) (Qw _) (by simp only[Qb,ov,Jl,Jm,LIM];omega) λy' H3 kn=>?_;simp only[go_sem,Qra];refine Zg ?_;refine⟨Qr,x.kids.length-(i+1),ZA,i+1,ars++[v],_,_,s2,rfl,ZA,by simp[ov],.mk y' 1 (Qc (ars++[v])) (n:=(Qc ars).length+(Qc [v]).length) Zat,h2.re kn.drop,by rw[De];exact kn,(st1.trans st2).mono (by rw[bP];omega),Zat⟩
  ·intro hc;have bp:x.kids.length<=i:=ZD
   rw[Jd bp]at st1;refine Zb ?_;refine Q1 (Q1 ?_);obtain⟨S,H2,f1,f2,kn2⟩:=ay.freeze kn (Qw _);have h2:=h1.re kn2;refine c_gh (DK S (λt=>?_) f2) (e':=[(0,Up w),(3,.c (.pp [Ui x.op,Ui x.n,.str x.name,.sl false 4 (AO x.kids)])),(5,.c (.sl false 1 (Qc ars)))]) ?_
   ·simp only[lk];split
    ·exact .c _ _ (.same _ rfl)
    ·split
     ·exact .c _ _ (.same _ rfl)
     ·split
      ·exact .c _ _ f1
      ·exact .unk _
   refine Za ?_;refine Wf ?_;refine Wv ?_ ?_
   ·intro hc;refine Za ?_;refine E6 h2 (st1.ok _ aI) ZA λs3 H3 h3 st3=>?_;have st3:=st1.trans st3;simp only[go_sem,Qme];refine CZ h3 (st3.at_ bq) (st3.ok _ aI) ZA λs4 H4 h4 st4=>?_;simp only[go_sem,Qmd];refine Zk ?_;exact retf _ _ s4 H4 h4 ((st3.trans st4).mono ZA) ZJ
   intro dc;refine Za ?_;refine Wv ?_ ?_
   ·intro hc;refine Za ?_;refine E6 h2 (st1.ok _ aI) ZA λs3 H3 h3 st3=>?_;have st3:=st1.trans st3;simp only[go_sem,Qmg];refine CZ h3 (st3.at_ bq) (st3.ok _ aI) ZA λs4 H4 h4 st4=>?_;simp only[go_sem,Qmf];refine Zk ?_;exact retf _ _ s4 H4 h4 ((st3.trans st4).mono ZA) ZJ
   intro eU;refine Za ?_;refine Wv ?_ ?_
   ·intro hc;have n5:=h2.hw;refine AC ?_;simp only[go_sem,n5,LS.o];refine E6 h2 (st1.ok _ aI) ZA λs3 H3 h3 st3=>?_;have sv:=h3.hw;have ir:=st3.fn;have st3:=st1.trans st3;simp only[go_sem,Qmj,sv,LS.o,ir.1,ir.2];refine To λq=>?_;simp only[go_sem,Qmi];refine CZ h3 (st3.at_ bq) (st3.ok _ aI) ZA λs4 H4 h4 st4=>?_;simp only[go_sem,Qmh];refine Zk ?_;exact retf _ _ s4 H4 h4 ((st3.trans st4).mono ZA) ZJ
   intro zZ;refine Zc ?_;refine Zz ?_;refine E6 h2 (st1.ok _ aI) ZA λs3 H3 h3 st3=>?_;have st3:=st1.trans st3;simp only[go_sem,Qml];refine CZ h3 (st3.at_ bq) (st3.ok _ aI) ZA λs4 H4 h4 st4=>?_;simp only[go_sem,Qmk];refine Qk ?_;exact retf _ _ s4 H4 h4 ((st3.trans st4).mono ZA) ZJ
theorem Hz (n:Nat):DX n:=by
 induction n using Nat.strongRecOn with
 |ind n ih=>exact V3 (TI ih) ih
theorem YB:∀(n:Nat) (l:List St) {fl:Bool} {H:Heap} {K:Uk},Q8 l<=n->Q8 l<=2^40->(∀v:Nat,v<=Q8 l->K (Uv v) H)->Qv prog KD [.c (.sl fl 5 (AF l))] H K:=by
 intro n
 induction n using Nat.strongRecOn with
 |ind n ih=>
 intro l fl H K hn hb hK;have am:=Mh l;refine Qd A6 YP ?_;refine Wd ?_;refine Wa ?_;refine Qh (Qe (Qx (λn e1 H1=>∃(i v:Nat),n=l.length-i/\i<=l.length/\v<=Q8 (l.take i)/\H1=H/\e1=[(0,.c (.sl fl 5 (AF l))),(3,Uv v),(4,Uv i)]) l.length ?_ ?_))
 ·exact⟨0,0,ZA,ZA,ZA,rfl,rfl⟩
 ·rintro n e1 H1 ⟨i,v,cN,hi,hv,rfl,rfl⟩;refine Q1 (Qa ?_);simp only[go_sem,BV];intro hl;simp only[LIM]at hl;refine Wu ?_ ?_
  ·intro hc;have af:i<l.length:=ZD
   have hm:=OD (Jb af);have bP:=PK af;have rH:=R4 l (i+1);have rI:=(l[i]'af).size_eq;refine Wl ?_;simp only[go_sem,af,BV,ES _ _ af,St.aF];refine Qbkw ?_;obtain⟨t,ht,zn⟩:∃t:Nat,(if decide (l[i].op=1)=true then (1:Int)else 0)=t/\t<=1:=by
    by_cases h:l[i].op=1
    ·exact⟨1,Za9,Je _⟩
    ·exact⟨0,Za9,ZA⟩
   simp only[go_sem,Ml,af,BV,ES _ _ af,St.aF,ht];refine⟨Qr,?_⟩;refine ih (Q8 l[i].body) ZA l[i].body (Je _) ZA λa ha=>?_;simp only[go_sem,Mm,af,BV,ES _ _ af,St.aF];refine⟨Qr,?_⟩;refine ih (Q8 l[i].els) ZA l[i].els (Je _) ZA λc hc=>?_;simp only[go_sem,Mn];refine⟨Qr,?_⟩;refine Zg ?_;refine⟨Qr,l.length-(i+1),ZA,i+1,v+t+a+c,rfl,ZA,ZA,rfl⟩
  ·intro hc;have bp:l.length<=i:=ZD
   refine Wp ?_;rw[Jd bp]at hv;exact hK v ZA
def Hy (n:Nat):Prop:=∀(x:St) (F H:Heap) (w:Nat) (s:LS) (N:Nat) (K:V->Heap->Prop),x.size<=n->x.ok->LInv F H w s->s.at_<s.blocks.length->s.ok N->N+10 * x.size<=2^38->
  (∀(s':LS) (H':Heap),LInv F H' w s'->LStep s s' (10 * x.size)->K (.tup []) H')->Qv prog Qx1 [.c (.ptr w 0),.ag x.cells] H K
def Sq (n:Nat):Prop:=∀(x:St) (F H:Heap) (w:Nat) (s:LS) (N:Nat) (K:V->Heap->Prop),x.size<=n->x.ok->LInv F H w s->s.at_<s.blocks.length->s.ok N->N+10 * x.size<=2^38->
  (∀(s':LS) (H':Heap),LInv F H' w s'->LStep s s' (10 * x.size)->K (.tup []) H')->Qv prog Qx0 [.c (.ptr w 0),.ag x.cells] H K
def Ec (n:Nat):Prop:=∀(l:List St) (fl:Bool) (F H:Heap) (w:Nat) (s:LS) (N:Nat) (K:V->Heap->Prop),Q8 l<=n->Bc l->LInv F H w s->s.at_<s.blocks.length->s.ok N->N+10 * Q8 l<=2^38->
  (∀(s':LS) (H':Heap),LInv F H' w s'->LStep s s' (10 * Q8 l)->K (.tup []) H')->Qv prog Qth [.c (.ptr w 0),.c (.sl fl 5 (AF l))] H K
theorem Qbof {n:Nat}(hS:Hy n):Ec n:=by
 intro l fl F H w s N K hn aw h bq aI hN hK;have hw:=h.hw;obtain⟨oB,jN⟩:=h.vget;have bO:=h.gv.ax;have n6:=h.gv.ah;refine Qd A6 Qare ?_;refine Qa ?_;simp only[go_sem,hw,LS.o,oB,bO,n6];intro zh;refine Wa ?_;refine Qh (Qe (Qx (λn e1 H1=>∃(i:Nat) (s':LS),n=l.length-i/\i<=l.length/\LInv F H1 w s'/\LStep s s' (10 * Q8 (l.take i))/\e1=[(0,Up w),(1,.c (.sl fl 5 (AF l))),(4,.c (Ui s.vars.length)),(5,Uv i)]) l.length ?_ ?_))
 ·exact⟨0,s,ZA,ZA,h,(LStep.refl s).mono ZA,rfl⟩
 ·rintro n e1 H1 ⟨i,s1,cN,hi,h1,st1,rfl⟩;refine Q1 (Qa ?_);simp only[go_sem,BV];intro hl;simp only[LIM]at hl;refine Wu ?_ ?_
  ·intro hc;have af:i<l.length:=ZD
   have hm:=OD (Jb af);have bP:=PK af;have rH:=R4 l (i+1);refine Zc ?_;refine Qh (Qe (Qq ?_));simp only[go_sem,af,BV,ES _ _ af,St.take5,St.bv,St.az];refine hS l[i] F H1 w s1 _ _ ZA (Qboi aw _ (Jb af)) h1 (st1.at_ bq) (st1.ok _ aI) ZA λs2 H2 h2 st2=>?_;refine Zg ?_;exact⟨Qr,l.length-(i+1),ZA,i+1,s2,rfl,ZA,h2,(st1.trans st2).mono (by rw[bP];omega),rfl⟩
  ·intro hc;have bp:l.length<=i:=ZD
   rw[Jd bp]at st1;have gI:=h1.hw;obtain⟨pY,hv2'⟩:=h1.vget;have eZ:=h1.gv.ax;have hvo':=h1.gv.ah;have hve':=h1.gv.aO;have s0:=st1.vl;have wm:∀r∈s1.vars.take s.vars.length,VarRow r:=λr hr=>h1.rv r (List.mem_of_mem_take hr);have fin:∀(H2:Heap) (c:C),H2=H1.set w (LS.o { s1 with vc:=c })->VGr s1.lv (s1.vars.take s.vars.length) c->Q7 By K .nrm [] H2:=by
    intro H2 c h2 hg;simp only[Q7,A5,By];refine⟨ZC,hK { s1 with vc:=c,vars:=s1.vars.take s.vars.length } H2 (h1.setw h2 rfl rfl rfl rfl hg wm) ⟨st1.bl,λM hM=>?_,by simp;omega,st1.at_,st1.fn⟩⟩;have:=st1.ok M hM;exact⟨this.r0,this.r1,this.n0,this.n1,this.b1,this.i1,by have:=this.v1;simp;omega⟩
   refine Zb ?_;refine Qq ?_;rcases h1.gv with ⟨g1,g2,g3⟩|⟨y,all,k,g1,g2,g3,g4⟩
   ·have hz:s.vars.length=0:=(by rw[g2]at s0;simpa using s0);simp only[go_sem,gI,LS.o,g1,hz,Jam,List.drop_nil];refine⟨⟨ZA,ZA⟩,λH2 h2=>?_⟩;refine fin H2 (.sl true 3 []) h2 (.inl ⟨rfl,by rw[g2];simp,g3⟩)
   ·rw[g1]at pY eZ;have hk:k=s1.vars.length:=(by simpa[ax]using eZ);simp only[go_sem]at pY;simp only[go_sem,gI,LS.o,g1,pY];refine⟨⟨ZA,ZA⟩,λH2 h2=>?_⟩;refine fin H2 (.ai y 3 0 (s.vars.length-0)) h2 (.inr ⟨y,all,s.vars.length-0,rfl,ZA,?_,g4⟩);rw[g3,List.take_take];congr 1;omega
theorem Y8 {n:Nat}(hS:∀m,m<n->Ec m):Sq n:=by
 intro x F H w s N K hn aw h bq aI hN hK;have bj:=x.size_eq;rw[St.ok_eq]at aw;obtain⟨kM,yy,cg,zP⟩:=aw;have ham:=G9 (Jb kM);refine Qd A6 Qaw2 ?_;refine Zw ?_;refine Za ?_;refine DO h aI ZA λs1 H1 h1 st1 bg=>?_;simp only[go_sem,Qrc];refine Za ?_;refine DO h1 (st1.ok _ aI) ZA λs2 H2 h2 st2 cx=>?_;have st2:=st1.trans st2;simp only[go_sem,Qrd];refine Za ?_;refine DO h2 (st2.ok _ aI) ZA λs3 H3 h3 st3 ot=>?_;have st3:=st2.trans st3;simp only[go_sem,Qre];refine Za ?_;refine D7 (next:=[(s.blocks.length:Int)]) (N:=0) h3 (st3.at_ bq) ZA λs4 H4 h4 st4=>?_;have Af:=st4.bl;have st4:=st3.trans st4;refine Qa ?_;simp only[go_sem,kM,BK,ET _ _ kM,Ex.cF,Ex.bv,Ex.az];refine⟨ZA,?_⟩;refine Hz _ x.args[0] F H4 w s4 _ _ (Je _) (Q94 yy _ (Jb kM)) h4 (st4.at_ bq) (st4.ok _ aI) ZA λv s5 H5 h5 st5=>?_;have Ae:=st5.bl;have st5:=st4.trans st5;simp only[go_sem,O4];refine Za ?_;refine D7 (next:=[(s1.blocks.length:Int),(s2.blocks.length:Int)]) (N:=0) h5 (st5.at_ bq) ZA λs6 H6 h6 st6=>?_;have Ad:=st6.bl;have st6:=st5.trans st6;refine Za ?_;refine hS (Q8 x.body) ZA x.body _ F H6 w s6 _ _ (Je _) cg h6 (st6.at_ bq) (st6.ok _ aI) ZA λs7 H7 h7 st7=>?_;have Ac:=st7.bl;have st7:=st6.trans st7;refine Zh ?_;refine D7 (next:=[(s.blocks.length:Int)]) (N:=0) h7 (st7.at_ bq) ZA λs8 H8 h8 st8=>?_;have st8:=st7.trans st8;simp only[Q7,A5,By];exact⟨ZC,hK s8 H8 h8 (st8.mono ZA)⟩
theorem Xt {n:Nat}(hS:∀m,m<n->Ec m):Hy n:=by
 intro x F H w s N K hn aw h bq aI hN hK;have qx:=aw;have bj:=x.size_eq;rw[St.ok_eq]at aw;obtain⟨kM,yy,cg,zP⟩:=aw;refine Qd A6 Qaw3 ?_;have retn:∀(e:Env) (s':LS) (H':Heap) (q:X),(q=.nrm\/q=.ret)->LInv F H' w s'->LStep s s' (10 * x.size)->Q7 By K q e H':=by
  intro e s' H' q hq a1 a2;rcases hq with rfl|rfl <;> exact⟨by simp[By],hK s' H' a1 a2⟩
 refine Zw ?_;refine Wa ?_;refine Wu ?_ ?_
 ·intro hc;refine Za ?_;rw[<-x.aF];refine Y8 hS x F H w s N _ hn qx h bq aI hN λs1 H1 h1 st1=>?_;simp only[FJ];refine Zk ?_;exact retn _ s1 H1 _ (.inr rfl) h1 st1
 intro dg;refine Zc ?_;refine Wh ?_;refine Qh (Qe (Qx (λn e1 H1=>∃(i:Nat) (ars:List Int) (c:C) (Lg:Ul) (s':LS),n=x.args.length-i/\i<=x.args.length/\ars.length=i/\Gr Lg 1 (Qc ars) c/\LInv F H1 w s'/\Kn F H1 [] (s'.L w++Lg)/\
  LStep s s' (10 * AR (x.args.take i))/\e1=[(0,Up w),(3,.c (.pp [Ui x.op,.str x.name,.sl false 4 (AO x.args),.sl false 5 (AF x.body),.sl false 5 (AF x.els)])),(4,.c c),(5,Uv i)]) x.args.length ?_ ?_))
 ·exact⟨0,[],_,[],s,ZA,ZA,rfl,.nil 1,h,by simpa using h.kn,(LStep.refl s).mono ZA,rfl⟩
 ·rintro n e1 H1 ⟨i,ars,c,Lg,s1,cN,hi,uk,ay,h1,kn,st1,rfl⟩;refine Q1 (Qa ?_);simp only[go_sem,BK];intro hl;simp only[LIM]at hl;refine Wu ?_ ?_
  ·intro hc;have af:i<x.args.length:=ZD
   have hm:=G9 (Jb af);have bP:=PU af;have rH:=R6 x.args (i+1);refine Zc ?_;refine Qh (Qe (Qq ?_));simp only[go_sem,af,BK,ET _ _ af,Ex.cF,Ex.bv,Ex.az];obtain⟨F',hf,back⟩:=h1.beside kn ay;refine Hz _ _ F' H1 w s1 _ _ (Je _) (Q94 yy _ (Jb af)) hf (st1.at_ bq) (st1.ok _ aI) ZA λv s2 H2 h2 st2=>?_;obtain⟨h2,kn⟩:=back s2 H2 h2;simp only[go_sem,Qrh];refine kn.grow (new:=Qc [v]) ay (.mk' _ _ _ _) (Qw _) (by simp only[Qb,uk,Jl,Jm,LIM];omega) λy' H3 kn=>?_;simp only[go_sem,Qrg];refine Zg ?_;refine⟨Qr,x.args.length-(i+1),ZA,i+1,ars++[v],_,_,s2,rfl,ZA,by simp[uk],.mk y' 1 (Qc (ars++[v])) (n:=(Qc ars).length+(Qc [v]).length) Zat,h2.re kn.drop,by rw[De];exact kn,(st1.trans st2).mono (by rw[bP];omega),Zat⟩
  ·intro hc;have bp:x.args.length<=i:=ZD
   have cj:i=x.args.length:=ZA
   rw[Jd bp]at st1;have kL:0<ars.length:=ZA
   refine Zb ?_;refine Q1 ?_;obtain⟨S,H2,f1,f2,kn2⟩:=ay.freeze kn (Qw _);have h2:=h1.re kn2;refine c_gh (DK S (λt=>?_) f2) (e':=[(0,Up w),(3,.c (.pp [Ui x.op,.str x.name,.sl false 4 (AO x.args),.sl false 5 (AF x.body),.sl false 5 (AF x.els)])),(4,.c (.sl false 1 (Qc ars)))]) ?_
   ·simp only[lk];split
    ·exact .c _ _ (.same _ rfl)
    ·split
     ·exact .c _ _ (.same _ rfl)
     ·split
      ·exact .c _ _ f1
      ·exact .unk _
   have dt:=st1.ok _ aI;have kK:=st1.at_ bq;have n5:=h2.hw;refine Za ?_;refine Wt ?_;refine Wv ?_ ?_
   ·
    intro hc;refine Qa ?_;simp only[go_sem,n5,LS.o];refine CZ h2 kK dt ZA λs3 H3 h3 st3=>?_;have sv:=h3.hw;have n6:=h3.gv.ah;have lH:=st3.ok _ dt;have st3:=st1.trans st3;simp only[go_sem];refine AC ?_;simp only[go_sem,sv,LS.o,n6];refine h3.addVar ⟨x.name,s3.next,0,rfl⟩ (by have:=lH.v1;simp only[LIM];omega) λy H4 su cont=>?_;simp only[go_sem,Qri,su,LS.o];intro H5 h5;have vg:=cont H5 h5;have vO:=vg.hw;refine Qq ?_;have cd:=lH.n0;have cN:=lH.n1;simp only[go_sem,vO,LS.o];refine⟨Qr,λH6 h6=>?_⟩;have h6':=vg.setw (s':={ s3 with vc:=.ai y 3 0 (s3.vars.length+1),lv:=[(y,.vec 3 (s3.vars++[[C.str x.name,C.int IntKind.i64 s3.next,C.int IntKind.i64 0]]))],vars:=s3.vars++[[C.str x.name,C.int IntKind.i64 s3.next,C.int IntKind.i64 0]],next:=s3.next+1 }) h6 rfl rfl rfl rfl vg.gv vg.rv;refine retn _ _ H6 _ (.inl rfl) h6' ⟨st3.bl,λM hM=>?_,?_,st3.at_,st3.fn⟩
    ·have q:=st3.ok M hM;refine⟨q.r0,?_,?_,?_,?_,λb hb=>?_,?_⟩
     ·have:=q.r1;show s3.ae<=_;omega
     ·have:=q.n0;show 0<=s3.next+1;omega
     ·have:=q.n1;show s3.next+1<=_;omega
     ·have:=q.b1;show s3.blocks.length<=_;omega
     ·have:=q.i1 b hb;omega
     ·have:=q.v1;simp;omega
    ·have:=st3.vl;simp;omega
   intro bB;refine Za ?_;refine Wv ?_ ?_
   ·
    intro hc;refine Zh ?_;refine Hw h2 λv=>?_;simp only[go_sem,Qrj];refine CZ h2 kK dt ZA λs3 H3 h3 st3=>?_;exact retn _ _ H3 _ (.inl rfl) h3 ((st1.trans st3).mono ZA)
   intro a7;refine Za ?_;refine Wv ?_ ?_
   ·intro hc;refine Zh ?_;refine CZ h2 kK dt ZA λs3 H3 h3 st3=>?_;exact retn _ _ H3 _ (.inl rfl) h3 ((st1.trans st3).mono ZA)
   intro bn;refine Za ?_;refine Wv ?_ ?_
   ·intro hc;refine Zh ?_;refine CZ h2 kK dt ZA λs3 H3 h3 st3=>?_;exact retn _ _ H3 _ (.inl rfl) h3 ((st1.trans st3).mono ZA)
   intro dc;refine Za ?_;refine Wv ?_ ?_
   ·
    intro hc;refine AY ?_;simp only[go_sem,kL,Qb,Qo _ _ kL];refine⟨ZA,?_⟩;refine DO h2 dt ZA λs3 H3 h3 st3 ot=>?_;have st3:=st1.trans st3;simp only[go_sem,Qmm,kL,Qb,Qo _ _ kL];refine⟨ZA,?_⟩;refine D7 (next:=[]) (N:=0) h3 (st3.at_ bq) ZA λs4 H4 h4 st4=>?_;exact retn _ _ H4 _ (.inl rfl) h4 ((st3.trans st4).mono ZA)
   intro eU;refine Za ?_;refine Wv ?_ ?_
   ·
    intro hc;refine Za ?_;refine DO h2 dt ZA λs3 H3 h3 st3 ot=>?_;have st3:=st1.trans st3;simp only[go_sem,Qmn];refine Za ?_;refine DO h3 (st3.ok _ aI) ZA λs4 H4 h4 st4 Af=>?_;have st4:=st3.trans st4;simp only[go_sem,Qmo];refine Za ?_;refine DO h4 (st4.ok _ aI) ZA λs5 H5 h5 st5 Ae=>?_;have st5:=st4.trans st5;simp only[go_sem,Qmp];refine Qa ?_;simp only[go_sem,kL,Qb,Qo _ _ kL];refine⟨ZA,?_⟩;refine D7 (next:=[(s1.blocks.length:Int),(s3.blocks.length:Int)]) (N:=0) h5 (st5.at_ bq) ZA λs6 H6 h6 st6=>?_;have Ad:=st6.bl;have st6:=st5.trans st6;refine Za ?_;refine hS (Q8 x.body) ZA x.body _ F H6 w s6 _ _ (Je _) cg h6 (st6.at_ bq) (st6.ok _ aI) ZA λs7 H7 h7 st7=>?_;have Ac:=st7.bl;have st7:=st6.trans st7;refine Za ?_;refine D7 (next:=[(s4.blocks.length:Int)]) (N:=0) h7 (st7.at_ bq) ZA λs8 H8 h8 st8=>?_;have hb8:=st8.bl;have st8:=st7.trans st8;refine Za ?_;refine hS (Q8 x.els) ZA x.els _ F H8 w s8 _ _ (Je _) zP h8 (st8.at_ bq) (st8.ok _ aI) ZA λs9 H9 h9 st9=>?_;have hb9:=st9.bl;have st9:=st8.trans st9;refine Zh ?_;refine D7 (next:=[(s4.blocks.length:Int)]) (N:=0) h9 (st9.at_ bq) ZA λs10 H10 dh st10=>?_;exact retn _ _ H10 _ (.inl rfl) dh ((st9.trans st10).mono ZA)
   ·intro zZ;refine Zc ?_;exact retn _ _ H2 _ (.inl rfl) h2 (st1.mono ZA)
theorem Sy (n:Nat):Ec n:=by
 induction n using Nat.strongRecOn with
 |ind n ih=>exact Qbof (Xt ih)
end Go.AE.Y
namespace Go.AE.Y
open Go.Proofs.Tryz
variable {H:Heap}{K:Uk}
theorem SO {fns:List Fn}{fl:Bool}{k:Nat}(hk:k<fns.length)(cQ:fns[k].params.length<=3)(cg:Bc fns[k].body)(kH:Q8 fns[k].body<=2^34)
  (hK:∀(c:CodeD) (H':Heap),Upd H H' []->c.fits->K (.ag c.cells) H'):Qv prog Ig [.ag [.sl fl 3 (AU fns)],Uv k] H K:=by
 refine Qz ?_;refine Qd A6 SI ?_;refine Za ?_;intro x4 aY H1 h1;have kn:=(Kn.ao H).al aY h1;refine Qa ?_;simp only[go_sem,hk,Cp,G6 _ _ hk,Fn.take3,Fn.bv,Fn.az];generalize fns[k]=f at *;intro x5 bm H2 h2;have kn:=kn.al bm h2;have lA:=kn.l 1 rfl;simp only[go_sem,Ey,lA,Fn.cells];intro H3 h3;have kn:Kn H H3 [] [(x4,.st [Ui 0,Ui 0,.sl true 5 []]),(x5,.st [.str f.name,.sl false 1 (Bg f.params),.sl false 5 (AF f.body)])]:=kn.aA 1 rfl h3;have pP:=kn.l 0 rfl;have eN:=kn.l 1 rfl;have h45:=kn.neL 0 1 rfl rfl ZN;refine Qa ?_;simp only[go_sem,eN,BB];intro qs w hw H4 h4;have h:LInv H3 H4 w ⟨fns,fl,0,0,.sl true 5 [],[],[],0,.sl true 3 [],[],[],f.params.length⟩:=
  ⟨(Kn.ao H3).al hw h4,.nil 5,.inl ⟨rfl,rfl,rfl⟩,ZC,ZC,ZC⟩
 have ey:∀(s:LS) (H':Heap),LInv H3 H' w s->H' x4=.st [Ui 0,Ui 0,.sl true 5 []]/\H' x5=.st [.str f.name,.sl false 1 (Bg f.params),.sl false 5 (AF f.body)]:=λs H' h'=>
  ⟨by rw[h'.kn.chg x4 (by rw[pP];simp) ZC,pP],by rw[h'.kn.chg x5 (by rw[eN];simp) ZC,eN]⟩
 have gf:=(ey _ _ h).2;have su:=h.hw;simp only[go_sem,Od];refine Qa ?_;simp only[go_sem,gf,su,LS.o,BB];intro _ H5 h5;have h:=h.setw (s':=⟨fns,fl,f.params.length,0,.sl true 5 [],[],[],0,.sl true 3 [],[],[],f.params.length⟩) h5 rfl rfl rfl rfl h.gv h.rv;have nz:=(ey _ _ h).2;refine AC ?_;simp only[go_sem,nz,BB];refine YB _ f.body (Je _) ZA λv hv=>?_;have vO:=h.hw;simp only[go_sem,Oc,nz,vO,LS.o,BB];refine⟨Qr,λH6 h6=>?_⟩;have h:=h.setw (s':=⟨fns,fl,f.params.length,(f.params.length:Int)+v,.sl true 5 [],[],[],0,.sl true 3 [],[],[],f.params.length⟩) h6 rfl rfl rfl rfl h.gv h.rv;refine Wa ?_;refine Qh (Qe (Qx (λn e1 H1=>∃(i:Nat) (s':LS),n=f.params.length-i/\i<=f.params.length/\LInv H3 H1 w s'/\s'.blocks=[]/\s'.at_=0/\s'.ae=(f.params.length:Int)+v/\s'.next=f.params.length/\s'.vars.length=i/\
  e1=[(4,Up x4),(5,Up x5),(6,Up w),(7,Uv i)]) f.params.length ?_ ?_))
 ·exact⟨0,_,ZA,ZA,h,rfl,rfl,rfl,rfl,rfl,rfl⟩
 ·rintro n e1 H1 ⟨i,s,cN,hi,h,fE,um,bR,cd,bO,rfl⟩;have sn:=(ey _ _ h).2;have gI:=h.hw;have n6:=h.gv.ah;refine Q1 (Qa ?_);simp only[go_sem,sn,BB];intro _;refine Wu ?_ ?_
  ·intro hc;have af:i<f.params.length:=ZD
   refine Wl ?_;simp only[go_sem,sn,gI,LS.o,n6,af,BB,Hn _ _ af];refine h.addVar ⟨_,_,_,rfl⟩ ZY λy H4 su cont=>?_;simp only[go_sem,Ob,su,LS.o];intro H5 h5;have h':=cont H5 h5;refine Zg ?_;exact⟨Qr,f.params.length-(i+1),ZA,i+1,_,rfl,ZA,h',fE,um,bR,cd,by simp[bO],rfl⟩
  ·intro hc;refine Zb ?_;have aI:s.ok (3+v):=⟨by rw[bR];omega,by rw[bR];omega,by rw[cd];omega,by rw[cd];omega,by simp[fE],by simp[fE],ZA⟩;refine Za ?_;refine K6 h aI ZA λs1 H4 h1 st1 bg kK=>?_;have bq:s1.at_<s1.blocks.length:=by rw[kK,um];omega
   have dt:=st1.ok _ aI;refine Qa ?_;have gf:=(ey _ _ h1).2;simp only[go_sem,gf];refine Sy _ f.body _ H3 H4 w s1 _ _ (Je _) cg h1 bq dt ZA λs2 H5 h2 st2=>?_;refine Za ?_;refine E6 h2 (st2.ok _ dt) ZA λs3 H6 h3 st3=>?_;have st3:=st2.trans st3;simp only[go_sem,Oa];refine CZ (args:=[]) h3 (st3.at_ bq) (st3.ok _ dt) ZA λs4 H7 h4 st4=>?_;have st4:=st3.trans st4;simp only[go_sem,E4];have hbl4:=st4.bl;refine Za ?_;refine D7 (at':=0) (next:=[]) (N:=0) h4 (st4.at_ bq) ZA λs5 H8 h5 st5=>?_;have ze:=h5.hw;obtain⟨vD,hx58⟩:=ey _ _ h5;have cS:=h5.gb.ah;refine Qa ?_;simp only[go_sem,ze,vD,LS.o,cS];intro H9 h9;have vC:H9 x4=.st [Ui s5.params,Ui s5.ae,s5.bc]:=by rw[h9];exact Heap.aE _ _ _
   have uF:∀m,m≠x4->H9 m=H8 m:=λm hm=>by rw[h9];exact Heap.aj _ _ hm
   have vR:∀m,H m≠.none->H9 m=H m:=λm hm=>by
    have e1:=kn.chg m hm ZC;have e2:=h5.kn.chg m (by rw[e1];exact hm) ZC;rw[uF m (λhh=>by subst hh;exact hm (kn.free 0 rfl)),e2,e1]
   have sA:∀p∈s5.L w,H9 p.1=p.2/\un H p.1=true:=λp hp=>by
    have e1:=(h5.kn.get p (by simpa using hp)).1;have e2:=h5.kn.loc p hp;have bf:p.1≠x4:=λhh=>(by rw[hh,pP]at e2;simp at e2);refine⟨by rw[uF _ bf,e1],C5 ?_⟩
    cases hh:H p.1 with
    |none=>rfl
    |_=>have:=kn.chg p.1 (by rw[hh];simp) ZC;rw[e2,hh]at this;simp at this
   refine Zl vC cS ?_;have jB:=(st4.trans st5).ok _ dt;obtain⟨bs,ym,hbs2,yl⟩:=IM (H:=H9) (S:=un H) s5.blocks λb hb=>⟨h5.gi b hb,h5.ri b hb,λp hp=>sA p (by
    simp only[LS.L,Jk,J7];exact .inr (.inr (.inr ⟨b,hb,hp⟩))),by have:=jB.i1 b hb;omega⟩
   refine⟨.ag (CodeD.mk s5.params s5.ae bs).cells,FrzL.ag (.cons (Qg rfl) (.cons (Qg rfl) (.cons (Gr.frzM h5.gb (λp hp=>sA p (by
    simp only[LS.L,Jk];exact .inr (.inl hp))) ym) .nil))),hK _ _ ⟨ZC,λm hm _=>?_⟩ yl⟩
   rw[Fs hm];exact vR m hm
theorem YA {fns:List Fn}{fl:Bool}(hp:PrOk fns)(hK:∀(cs:List CodeD) (H':Heap),Upd H H' []->0<cs.length->(∀c∈cs,c.fits)->K (.ag [.sl false 3 (Qn cs)]) H') :
  Qv prog KC [.ag [.sl fl 3 (AU fns)]] H K:=by
 refine Qz ?_;refine Qd A6 YO ?_;refine Za ?_;intro x2 aH H1 h1;have kn:=(Kn.ao H).al aH h1;refine Za ?_;intro x3 aK H2 h2;have kn:=kn.al aK h2;have jw:=kn.l 1 rfl;simp only[go_sem,O8,jw];intro H3 h3;have kn:Kn H H3 [] [(x2,.st [.sl true 3 []]),(x3,.st [.sl true 3 []])]:=kn.aA 1 rfl h3;refine Wa ?_;refine Qh (Qe (Qx (λn e1 H1=>∃(i:Nat) (cs:List CodeD) (c:C) (Lg:Ul),n=fns.length-i/\i<=fns.length/\cs.length=i/\(∀c∈cs,c.fits)/\Gr Lg 3 (Qn cs) c/\Kn H H1 [] ([(x2,.st [.sl true 3 []]),(x3,.st [c])]++Lg)/\
  e1=[(1,.c (.pp [.sl fl 3 (AU fns)])),(2,Up x2),(3,Up x3),(4,Uv i)]) fns.length ?_ ?_))
 ·exact⟨0,[],_,[],ZA,ZA,rfl,ZC,.nil 3,kn,rfl⟩
 ·rintro n e1 H1 ⟨i,cs,c,Lg,cN,hi,cA,aU,ay,kn,rfl⟩;refine Q1 (Qa ?_);simp only[go_sem,Cp];intro hl;simp only[LIM]at hl;have bD:=ay.ah;have fv:=kn.l 1 rfl;refine Wu ?_ ?_
  ·intro hc;have af:i<fns.length:=ZD
   have hm:=Jb af;refine Wl ?_;simp only[go_sem,fv,bD];refine SO af (hp.par _ hm) (hp.ok _ hm) (by have:=PT hm;have:=hp.size;omega) λx H4 hu hxf=>?_;have kn:=kn.au hu;have lC:=kn.l 1 rfl;simp only[go_sem,Mi,lC,bD,CodeD.cells];refine kn.grow (B:=[_,_]) (new:=[x.cells]) ay (.mk' _ _ _ _) (by intro r hr;simp only[Ja]at hr;subst hr;rfl) (by simp only[Q5,LIM,Jl,Jm];omega) λy' H5 kn=>?_;have jv:=kn.l 1 rfl;simp only[go_sem,Mj,jv];intro H6 h6;have kn:=kn.aA 1 rfl h6;refine Zg ?_;refine⟨Qr,fns.length-(i+1),ZA,i+1,cs++[x],_,_,rfl,ZA,by simp[cA],λc' cf=>by
    rcases Jk.1 cf with h|h
    ·exact aU c' h
    ·simp at h;subst h;exact hxf,?_,kn,rfl⟩
   rw[Qavn];exact .mk _ _ _ (by simp[Q5])
  ·intro hc;have bp:fns.length<=i:=ZD
   have jx:=kn.l 0 rfl;refine Zb ?_;refine Zp fv jx bD ?_;intro H2 h2;have kn:=kn.aA 0 rfl h2;have vL:=kn.l 0 rfl;refine Zl vL bD ?_;exact⟨.ag [.sl false 3 (Qn cs)],FrzL.ag (.cons (ay.frz (B:=[_,_]) kn (Di _)) .nil),hK _ _ kn.fin (by have:=hp.pos;omega) aU⟩
attribute [local instance] Classical.propDecidable
def BD (q:CodeD):Bool:=decide (0<=q.params/\q.params<=3)&&decide (q.params<=q.ae/\q.ae<=300)&&decide (1<=(q.blocks.length:Int)/\(q.blocks.length:Int)<=160)
def AT (y:BlkD):Nat:=y.ins.length+y.ab.length
def AL {α:Type}(f:α->Nat)(l:List α):Nat:=(l.map f).sum
theorem DE {α:Type}{f:α->Nat}{l:List α}{i:Nat}(h:i<l.length):AL f (l.take (i+1))=AL f (l.take i)+f l[i]:=by
 rw[AL,AL,Jh h,Ju,Jaj];simp
theorem Dx {α:Type}{f:α->Nat}{l:List α}(i:Nat):AL f (l.take i)<=AL f l:=by
 have:AL f l=AL f (l.take i)+AL f (l.drop i):=by rw[AL,AL,AL,<-Jaj,<-Ju,Jx]
 omega
def AI (q:CodeD):Nat:=AL AT q.blocks
def B5 (cs:List CodeD)(k:Nat)(hk:k<cs.length):Prop:=BD cs[k]=true/\∀(b:Nat) (h:b<cs[k].blocks.length),Bh cs k b cs[k] cs[k].blocks[b]=true
def EW (cs:List CodeD):Prop:=(1<=(cs.length:Int)/\(cs.length:Int)<=4)/\(∀(k:Nat) (h:k<cs.length),B5 cs k h)/\AL AI cs<=800
noncomputable def AN (cs:List CodeD):Bool:=decide (EW cs)
theorem Kt {α:Type}{f:α->Nat}{l:List α}{x:α}(h:x∈l):f x<=AL f l:=by
 obtain⟨i,hi,rfl⟩:=Jy h;have h1:=Dx (f:=f) (l:=l) (i+1);rw[DE hi]at h1;omega
theorem Xg {cs:List CodeD}(h:AN cs=true){k:Nat}(hk:k<cs.length):cs[k].sg:=by
 obtain⟨_,h2,h3⟩:=of_decide_eq_true h;obtain⟨g1,g2⟩:=h2 k hk;have hq:AI cs[k]<=AL AI cs:=Kt (Jb hk);simp only[BD,Jr,decide_eq_true_eq]at g1;refine⟨ZA,λy hy=>?_⟩;have kP:AT y<=AL AT cs[k].blocks:=Kt hy;simp only[AI]at hq;simp only[AT]at kP;obtain⟨b,hb,rfl⟩:=Jy hy;have g:=g2 b hb;have hn:=K7 g;simp only[Bh,Jr]at g;obtain⟨⟨_,ins⟩,ph⟩:=g;rw[J5]at ins ph;refine⟨ZA,ZA,ZA,λx hx=>?_,λx hx=>?_⟩
 ·have:=ins x hx;simp only[Be,Jr]at this;have h3:=this.2;rw[insL]at h3;split at h3
  ·simp only[Jr,decide_eq_true_eq]at h3;have hn:x.n.toNat<cs.length:=ZA
   have:=(h2 x.n.toNat hn).1;simp only[BD,Jr,decide_eq_true_eq]at this;rw[GG hn]at h3;omega
  ·simp only[Jr,decide_eq_true_eq]at h3;have:BQ x.op<=2:=by rw[BQ];split <;> (try split) <;> (try split) <;> omega
   omega
 ·have:=ph x hx;simp only[phiG,Jr,decide_eq_true_eq,Ql]at this;obtain⟨⟨⟨_,a1⟩,_⟩,_⟩:=this;have a3:=CA (λi=>(cs[k].blocks.map BlkD.next).getD i []) (b:Int) cs[k].blocks.length;omega
theorem Pg {cs:List CodeD}(aU:∀c∈cs,c.fits)(h:AN cs=true):cs.length<=4/\0<cs.length/\∀c∈cs,c.gd:=by
 obtain⟨h1,h2,_⟩:=of_decide_eq_true h;refine⟨ZA,ZA,λc hc=>?_⟩;obtain⟨k,hk,rfl⟩:=Jy hc;obtain⟨g1,g2⟩:=h2 k hk;simp only[BD,Jr,decide_eq_true_eq]at g1;refine⟨ZA,ZA,λb hb=>?_,λb hb=>aU _ (Jb hk) b hb,Xg h hk⟩;obtain⟨i,hi,rfl⟩:=Jy hb;exact K7 (g2 i hi)
theorem Gp {cs:List CodeD}(h:¬EW cs):AN cs=false:=decide_eq_false h
theorem Xm {cs:List CodeD}{k j:Nat}(hk:k<cs.length)(hj:j<cs[k].blocks.length)(h:800<AL AI (cs.take k)+AL AT (cs[k].blocks.take j)+AT cs[k].blocks[j]):¬EW cs:=by
 rintro⟨_,_,h3⟩;have a1:=Dx (f:=AI) (l:=cs) (k+1);rw[DE hk]at a1;have a2:=Dx (f:=AT) (l:=cs[k].blocks) (j+1);rw[DE hj]at a2;simp only[AI]at *;omega
theorem Ho {cs:List CodeD}{fl:Bool}(aU:∀c∈cs,c.fits)(hK:∀(H':Heap),Upd H H' []->K (.c (.bool (AN cs))) H') :
  Qv prog R5 [.ag [.sl fl 3 (Qn cs)]] H K:=by
 refine Qz ?_;refine Qd A6 Qai3 ?_;have retf:∀(b:Bool) (e:Env) (H':Heap) (L:Ul),AN cs=b->Kn H H' [] L->lk 2 e=.c (.bool b)->Q7 A8 (unK H K) .ret e H':=by
  intro b e H' L hb kn h3;simp only[go_sem,Q7,A5,Ja,forall_eq,RS.op,h3];rw[<-hb];exact⟨_,.c _ _ (Qg rfl),hK _ kn.fin⟩
 have kn:=Kn.ao H;refine Wg ?_;simp only[go_sem,Q5];intro cA;refine B1 ?_;simp only[go_sem,Qju];refine Wu ?_ ?_
 ·intro hc;refine We ?_;exact retf false _ _ _ (Gp λhu=>by have:=of_decide_eq_false (BM hc);exact this hu.1) kn ZB
 intro hc;have dc:cs.length<=4/\0<cs.length:=by
  have:1<=(cs.length:Int)/\(cs.length:Int)<=4:=ZD
  omega
 refine Zc ?_;refine Wh ?_;refine Qh (Qe (Qx (λm e1 H1=>∃(k n:Nat),m=cs.length-k/\k<=cs.length/\n=AL AI (cs.take k)/\n<=800/\(∀(i:Nat) (hi:i<cs.length),i<k->B5 cs i hi)/\Kn H H1 [] []/\e1=[(1,.c (.pp [.sl fl 3 (Qn cs)])),(3,Uv n),(4,Uv k)]) cs.length ?_ ?_))
 ·exact⟨0,0,ZA,ZA,rfl,ZA,λ_ _ h=>ZA,kn,rfl⟩
 ·rintro m e1 H1 ⟨k,n,hm,hk,dv,hn,b6,kn,rfl⟩;refine Q1 (Qa ?_);simp only[go_sem,Q5];intro cA;refine Wu ?_ ?_
  ·intro hc;have af:k<cs.length:=ZD
   refine Wm ?_;simp only[go_sem,af,Q5,Cg _ _ af,CodeD.cells];obtain⟨q,hq⟩:∃q,cs[k]=q:=⟨_,rfl⟩;rw[hq];intro x5 bm H2 h2;have kn:=kn.al bm h2;have lA:=kn.l 0 rfl;simp only[go_sem,Qjv,lA];intro H3 h3;have kn:Kn H H3 [] [(x5,.st [Ui q.params,Ui q.ae,.sl false 5 (Qm q.blocks)])]:=kn.aA 0 rfl h3;have eN:=kn.l 0 rfl;refine Q1 (Qa ?_);simp only[go_sem,eN];refine B1 ?_;simp only[go_sem,Qjw,eN];have rest:∀(b:Bool) (E1:Env),lk 1 E1=.c (.pp [.sl fl 3 (Qn cs)])->lk 3 E1=Uv n->lk 4 E1=Uv k->lk 5 E1=Up x5->lk 42 E1=.c (.bool b)->BD q=(!b)->
     A9 prog (s_sp_UnitValid_6.seq Qjt) (X.inBlock 1 (X.sq prog Pe (X.next (λe2 H2=>∃m_1,m_1<m/\∃(k n:Nat),m_1=cs.length-k/\k<=cs.length/\n=AL AI (cs.take k)/\n<=800/\(∀(i:Nat) (hi:i<cs.length),i<k->B5 cs i hi)/\Kn H H2 [] []/\e2=[(1,.c (.pp [.sl fl 3 (Qn cs)])),(3,Uv n),(4,Uv k)])
      (X.inBlock 0 (X.sq prog RA (Q7 A8 (unK H K))))))) E1 H3:=by
    intro b E1 l1 l3 l4 l5 l42 hb;refine Qh (Qf l42 ?_ ?_)
    ·intro a7;refine Wn ?_;exact retf false _ _ _ (Gp λhu=>by have:=(hu.2.1 k af).1;rw[hq,hb,a7]at this;simp at this) kn ZB
    intro a7;rw[a7]at hb;have aT:=hb;simp only[BD,Jaa,Jr,decide_eq_true_eq]at aT;obtain⟨bR,ib,fE,bk⟩:0<=q.ae/\q.ae<=300/\0<q.blocks.length/\q.blocks.length<=160:=ZA;refine Zc ?_;refine Qa ?_;simp only[go_sem,l1,l3,l4,l5];refine Qe (Qx (λm e1 H1=>∃(j n2:Nat),m=q.blocks.length-j/\j<=q.blocks.length/\n2=n+AL AT (q.blocks.take j)/\n2<=800/\(∀(i:Nat) (hi:i<q.blocks.length),i<j->Bh cs k i q q.blocks[i]=true)/\Kn H H1 [] [(x5,.st [Ui q.params,Ui q.ae,.sl false 5 (Qm q.blocks)])]/\
     e1=[(1,.c (.pp [.sl fl 3 (Qn cs)])),(3,Uv n2),(4,Uv k),(5,Up x5),(6,Uv j)]) q.blocks.length ?_ ?_)
    ·exact⟨0,n,ZA,ZA,rfl,hn,λ_ _ h=>ZA,kn,rfl⟩
    ·rintro m2 e1 H4 ⟨j,n2,eW,hj,wW,gM,eC,kn,rfl⟩;have gf:=kn.l 0 rfl;refine Q1 (Qa ?_);simp only[go_sem,gf,Ql];intro ug;refine Wu ?_ ?_
     ·intro bn;have dq:j<q.blocks.length:=ZR;refine Wj ?_;have nB:=aU _ (Jb af);rw[hq]at nB;have rP:=nB _ (Jb dq);have mW:=DE (f:=AT) dq;have gD:AT q.blocks[j]=q.blocks[j].ins.length+q.blocks[j].ab.length:=rfl;refine AC ?_;simp only[go_sem,gf,dq,Ql,Q9 _ _ dq,BlkD.cells,Bm,Qy];refine⟨Qr,Qr,?_⟩;refine Za ?_;have fin:∀(b3:Bool) (E1:Env) (H5:Heap),(decide (n2+AT q.blocks[j]<=800)&&Bh cs k j q q.blocks[j])=(!b3)->Kn H H5 [] [(x5,.st [Ui q.params,Ui q.ae,.sl false 5 (Qm q.blocks)])]->lk 1 E1=.c (.pp [.sl fl 3 (Qn cs)])->
        lk 3 E1=Uv ((n2+q.blocks[j].ins.length+q.blocks[j].ab.length:Nat):Int)->lk 4 E1=Uv k->lk 5 E1=Up x5->lk 6 E1=Uv j->lk 75 E1=.c (.bool b3)->
        A9 prog Qmr (X.inBlock 3 (X.sq prog Qjs (X.next (λe2 H2=>∃m,m<m2/\∃(j n2:Nat),m=q.blocks.length-j/\j<=q.blocks.length/\n2=n+AL AT (q.blocks.take j)/\n2<=800/\(∀(i:Nat) (hi:i<q.blocks.length),i<j->Bh cs k i q q.blocks[i]=true)/\Kn H H2 [] [(x5,.st [Ui q.params,Ui q.ae,.sl false 5 (Qm q.blocks)])]/\
         e2=[(1,.c (.pp [.sl fl 3 (Qn cs)])),(3,Uv n2),(4,Uv k),(5,Up x5),(6,Uv j)])
         (X.inBlock 2 (X.inBlock 1 (X.sq prog Pe (X.next (λe2 H2=>∃m_1,m_1<m/\∃(k n:Nat),m_1=cs.length-k/\k<=cs.length/\n=AL AI (cs.take k)/\n<=800/\(∀(i:Nat) (hi:i<cs.length),i<k->B5 cs i hi)/\Kn H H2 [] []/\e2=[(1,.c (.pp [.sl fl 3 (Qn cs)])),(3,Uv n),(4,Uv k)])
         (X.inBlock 0 (X.sq prog RA (Q7 A8 (unK H K))))))))))) E1 H5:=by
       intro b3 E1 H5 ot kn l1 l3 l4 l5 l6 l75;refine Qf l75 ?_ ?_
       ·intro dc;refine Wn ?_;refine retf false _ _ _ (Gp λhu=>?_) kn ZB;rw[dc]at ot;have cO:=(hu.2.1 k af).2 j (by rw[hq];exact dq);subst hq;have ta:¬800<n2+AT cs[k].blocks[j]:=λho=>Xm af dq ZA hu;rw[cO]at ot;simp at ot;omega
       ·intro dc;rw[dc]at ot;simp only[Jaa,Jr,decide_eq_true_eq]at ot;refine Zc ?_;refine Qq ?_;simp only[go_sem,X.next,l1,l3,l4,l5,l6];refine⟨Qr,q.blocks.length-(j+1),ZA,j+1,_,rfl,ZA,?_,?_,?_,kn,rfl⟩
        ·rw[mW];omega
        ·omega
        ·intro i hi gC;by_cases xI:i<j
         ·exact eC i hi xI
         ·have:i=j:=ZA;subst this;exact ot.2
      refine⟨λbg=>?_,λbg=>?_⟩
      ·refine Qbky af (by rw[hq];exact dq) (by rw[hq];exact bR) (by rw[hq];exact ib) ZA (by rw[hq];omega) λH5 hu=>?_;have kn:=kn.au hu;simp only[go_sem,R7];refine fin _ _ _ ?_ kn ZB ZB ZB ZB ZB ZJ;subst hq;by_cases ho:n2+AT cs[k].blocks[j]<=800
       ·have fA:¬800<(n2:Int)+cs[k].blocks[j].ins.length+cs[k].blocks[j].ab.length:=(by simp only[AT]at ho;omega);simp[ho,fA]
       ·have fA:800<(n2:Int)+cs[k].blocks[j].ins.length+cs[k].blocks[j].ab.length:=(by simp only[AT]at ho;omega);simp[ho,fA]
      ·replace bg:=Bi bg;simp only[go_sem,R7,bg];exact fin true _ _ (by simp at bg;simp[gD];omega) kn ZB ZB ZB ZB ZB ZB
     ·intro bn;refine Zb ?_;refine Zg ?_;have zI:q.blocks.length<=j:=ZR;have zI:j=q.blocks.length:=ZA;refine⟨Qr,cs.length-(k+1),ZA,k+1,n2,rfl,ZA,?_,gM,?_,kn.drop (A:=[]),rfl⟩
      ·rw[DE af,hq,wW,dv,zI,List.take_length];rfl
      ·intro i hi zM;by_cases xH:i<k
       ·exact b6 i hi xH
       ·have:i=k:=ZA;subst this;subst hq;exact⟨by rw[hb];rfl,λb bk=>eC b bk ZA⟩
   refine⟨λbg=>?_,λbg=>?_⟩
   ·refine B1 ?_;simp only[go_sem,R8,eN,Ql];intro Aa;refine⟨λcx=>?_,λcx=>?_⟩
    ·replace cx:=BM cx;refine B1 ?_;simp only[go_sem,Pf];refine rest _ _ ZB ZB ZB ZB ZJ ?_;simp[BD]
    ·replace cx:=Bi cx;simp only[go_sem,Pf,cx];exact rest true _ ZB ZB ZB ZB ZB (by simp at cx;simp[BD];omega)
   ·replace bg:=Bi bg;simp only[go_sem,R8,Pf,bg,eN,Ql,cond_true];exact rest true _ ZB ZB ZB ZB ZB (by simp at bg;simp[BD];omega)
  ·intro hc;refine Wc ?_;refine Qk ?_;have nR:cs.length<=k:=ZD
   refine retf true _ _ _ (decide_eq_true ⟨ZA,λi hi=>b6 i hi ZA,?_⟩) kn ZB;rw[Jd nR]at dv;omega
theorem Qa4n {cs:List CodeD}{fl:Bool}(aU:∀c∈cs,c.fits)(hK:∀(b:Bool) (H':Heap),(b=true->cs.length<=4/\0<cs.length/\∀c∈cs,c.gd)->Upd H H' []->K (.c (.bool b)) H') :
  Qv prog R5 [.ag [.sl fl 3 (Qn cs)]] H K:=Ho aU λH' hu=>hK _ H' (Pg aU) hu
end Go.AE.Y
