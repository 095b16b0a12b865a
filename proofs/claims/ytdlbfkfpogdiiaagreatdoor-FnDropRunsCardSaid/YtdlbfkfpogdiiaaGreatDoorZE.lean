/- Part 5 of the proof: the engine, codes, walks and plain laws, each named where it stands. -/
import Derived.Test.YtdlbfkfpogdiiaaGreatDoorZD
import Derived.WalkLawsBesides
import Derived.WalkSmall
open Nat (reduceEqDiff reduceAdd reduceLeDiff reduceLT)
set_option linter.unusedVariables false
set_option linter.unusedSimpArgs false
set_option maxRecDepth 4000
set_option maxHeartbeats 8000000
open Bool renaming and_eq_true->J2,false_eq_true->Jap,false_or->Ja3
open Int renaming eq_ofNat_of_zero_le->Js,le_refl->Jaz
open List renaming mem_append_right->Ja,mem_singleton->Jb,mem_append_left->Jc,length_map->Jd,mem_append->Je,length_cons->Jg,length_nil->Ji,map_cons->Jj,mem_cons->Jk,mem_cons_of_mem->Jl,cons_append->Jm,mem_flatMap->Jn,append_assoc->Jo,map_append->Jr,append_nil->Jt,getD_cons_succ->Ju,getD_cons_zero->Jv,nil_append->Jw,getElem_cons_zero->Jx,getD_eq_getElem?_getD->Jy,getElem_mem->Jz,length_append->J0,mem_cons_self->J1,mem_map->J3,drop_eq_getElem_cons->J4,mem_map_of_mem->J5,drop_eq_nil_of_le->J6,getElem_cons_succ->J7,take_of_length_le->J8,getElem_map->J9,length_take->Jaa,map_set->Jad,set_cons_succ->Jae,mem_or_eq_of_mem_set->Jaf,getElem?_eq_getElem->Jag,any_eq_true->Jai,not_mem_nil->Jaj,length_set->Jak,perm_append_comm->Jal,getElem?_of_mem->Jam,mem_iff_getElem->Jan,mem_of_mem_take->Jao,all_cons->Jaq,set_cons_zero->Jar,getElem?_set->Jat,all_nil->Jau,map_nil->Jav,getElem_set->Jaw,take_length->Jax,any_cons->Ja4,map_drop->Ja5,map_take->Ja6
open Nat renaming le_refl->Jf,zero_add->Jp,one_le_two_pow->Jas,le_add_right->Jay,div_le_self->Ja0
open Option renaming isSome_none->Jh,getD_none->Jab,getD_some->Jac,isSome_iff_exists->Jah,map_some->Ja1
open Option.some renaming injEq->Jq,inj->Ja2
namespace Go.AE
variable {H0 H:Heap}{E B Lg:List (Nat×Obj)}{sz:Nat}{rows:List (List C)}{c:C}
def Gt (Lg:List (Nat×Obj))(sz:Nat)(rows:List (List C))(c:C):Prop:=(c=.sl true sz rows∧Lg=[])∨Gr Lg sz rows c
theorem Gt.isOw (h:Gt Lg sz rows c):c.isOw=false:=by
 rcases h with ⟨rfl,_⟩|h
 ·rfl
 ·exact h.isOw
theorem Gt.frz (h:Gt Lg sz rows c)(kn:Kn H0 H E (B++Lg))(hr:∀r∈rows,noOw r=true):FrzC H (un H0) c (.sl false sz rows):=by
 rcases h with ⟨rfl,_⟩|h
 ·exact (Y.FrzR.same hr).sl
 ·exact h.frz kn hr
theorem Kn.growT {K:V→Heap→Prop}{new:List (List C)}{b:C}(kn:Kn H0 H E (B++Lg))(hc:Gt Lg sz rows c)(hb:Slc H sz new b)(hn:new≠[])
  (h0:∀r∈rows,noOw r=true) (h1:∀r∈new,noOw r=true) (h2:rows.length+new.length≤LIM)
  (h:∀t Lg' H',Gr Lg' sz (rows++new) t→t.isOw=false→Kn H0 H' E (B++Lg')→K (.c t) H'):appQ H sz c b K:=by
 rcases hc with ⟨rfl,rfl⟩|hc
 ·refine⟨hb.ok,hb.sz,rfl,.inr (by rw[hb.rows];exact hn),?_,by rw[hb.len];exact h2,fun l hl H' hH'=>?_⟩
  ·rw[hb.rows];intro r hr;rcases Je.1 hr with hr|hr
   ·exact h0 r hr
   ·exact h1 r hr
  ·rw[Jt]at kn;rw[hb.len];refine h _ [(l,.vec sz (rows++new))] H' (.mk l sz _ (by simp)) rfl ?_;have:=kn.al hl hH'
   rwa [hb.rows]at this
 ·exact kn.growR hc hb h1 h2 h
theorem Kn.addNewE {H1:Heap}{L N:List (Nat×Obj)}(kn:Kn H0 H E L)(i:Nat){l:Nat}{o o':Obj}(h:E[i]? = some (l,o))(k2:Kn H H1 [(l,o')] N):Kn H0 H1 (E.set i (l,o')) (L++N):=by
 have hne:∀p∈E++L,H p.1≠.none:=fun p hp=>by obtain⟨a,b⟩:=kn.get p hp;rw[a];exact b
 have hl:H1 l=o'∧o'≠.none:=k2.get (l,o') (by simp);have hu:Upd H H1 [(l,o')]:=⟨fun p hp=>by simp at hp;subst hp;exact hl.1,fun m hm hx=>k2.chg m hm hx⟩;have k3:=kn.callE i h hu hl.2;refine⟨fun p hp=>?_,k3.ext,fun p hp=>?_,k3.dE,?_,k3.chg⟩
 ·rw[←Jo]at hp;rcases Je.1 hp with hp|hp
  ·exact k3.get p hp
  ·exact k2.get p (Ja _ hp)
 ·rcases Je.1 hp with hp|hp
  ·exact kn.loc p hp
  ·exact (kn.newFree (k2.loc p hp)).1
 ·rw[Jr];refine List.nodup_append.2 ⟨kn.dL,k2.dL,fun a ha b hb hab=>?_⟩;obtain⟨p,hp,rfl⟩:=J3.1 ha;obtain⟨q,hq,rfl⟩:=J3.1 hb;exact hne p (Ja _ hp) (by rw[hab];exact k2.loc q hq)
end Go.AE
namespace Go.AE.Y
open Go.Proofs.Tryz
def Ex.ct (x:Ex):List C:=[.int .i64 x.op,.int .i64 x.n,.str x.name,.sl true 4 (Qt x.kids)]
theorem Ex.frzT {H:Heap}{S:Nat→Bool}(x:Ex):FrzV H S (.ag [.int .i64 x.op,.int .i64 x.n,.str x.name,.sl true 4 (Qt x.kids)]) (.ag x.ct):=
 (FrzL.cons (.same _ rfl) (.cons (.same _ rfl) (.cons (.same _ rfl) (.cons (.same _ rfl) .nil)))).ag
theorem Qa64 {R:Rdr}{k:Nat}{fl:Bool}{ss:List (List UInt8)}{H:Heap}{K:V→Heap→Prop}(hH:H R.l=R.o k)(hk:k+2≤2^40)
  (hK:∀(x:Ex) (H':Heap) (k':Nat),k<k'→k'≤k+2→Upd H H' [(R.l,R.o k')]→x.ok→x.size=1→K (.ag x.ct) H') :
  Ql prog Quf [.c (.ptr R.l 0),.c (.sl fl 1 (Q0 ss))] H K:=by
 refine Q5 ?_;refine Qc Qal Qa0t ?_;refine Qa ?_;simp only[go_sem];intro x hx H1 h1;have kn:=(Kn.start1 hH (R.o_ne k)).al hx h1;refine Q6 ?_;refine Qa ?_;simp only[go_sem,Qo];intro hl;have rest:∀(b:Bool) (H2:Heap) (k2:Nat),k≤k2→k2≤k+1→Kn H H2 [(R.l,R.o k2)] [(x,.st [.int .i64 0,.int .i64 0,.str [],.sl true 4 []])]→(b=false→0<ss.length)→
   Q3 prog (s_l2Leaf_2.seq Q8e) (Qp Qm5 (unK H K)) [(0,V.c (C.ptr R.l 0)),(1,V.c (C.sl fl 1 (Q0 ss))),(4,V.c (C.ptr x 0)),(12,V.c (.bool b))] H2:=by
  intro b H2 k2 hk1 hk2 kn hb;refine Qf (Qb rfl ?_ ?_)
  ·intro hb';refine Qa ?_;simp only[go_sem];refine Qo3 (ns:=[0,1,2,3,5,7,15,16,100,255]) (kn.e 0 rfl) (by omega) (by simp) fun v H3 hv hu=>?_;have kn:=kn.callE 0 rfl hu (R.o_ne _);have hx3:=kn.l 0 rfl;simp only[go_sem,Q22,hx3];intro H4 h4;have kn:=kn.stL 0 rfl h4;have hx4:=kn.l 0 rfl;refine Qh ?_;simp only[go_sem,Qp,Q8,Qm5,Jb,forall_eq,RS.op,hx4];refine⟨_,(Ex.mk 1 v [] []).frzT,hK _ _ (k2+1) (by omega) (by omega) kn.fin ?_ ?_⟩
   ·simp[Ex.ok,Qdn]
   ·simp[Ex.size,Qu]
  ·intro hb';refine Qe ?_;simp only[go_sem];refine Qa ?_;simp only[go_sem];refine of_c (kn.e 0 rfl) (by omega) (hb hb') fun v H3 hv hu=>?_;have kn:=kn.callE 0 rfl hu (R.o_ne _);have hx3:=kn.l 0 rfl;simp only[go_sem,Q23,hx3];intro H4 h4;have kn:=kn.stL 0 rfl h4;have hx4:=kn.l 0 rfl;refine Qh ?_;simp only[go_sem,Qp,Q8,Qm5,Jb,forall_eq,RS.op,hx4];refine⟨_,(Ex.mk 2 0 v []).frzT,hK _ _ (k2+1) (by omega) (by omega) kn.fin ?_ ?_⟩
   ·simp[Ex.ok,Qdn]
   ·simp[Ex.size,Qu]
 refine⟨fun hb=>?_,fun hb=>?_⟩
 ·refine Qbx (kn.e 0 rfl) (by omega) fun v H2 hv hu=>?_;have kn:=kn.callE 0 rfl hu (R.o_ne _);simp only[go_sem,Ql4];refine rest _ H2 (k+1) (by omega) (by omega) kn ?_;intro h;have:¬ss.length=0:=by simpa using hb
  omega
 ·have hb2:decide ((ss.length:Int)=0)=true:=by simpa using hb
  simp only[go_sem,Ql4,hb2];exact rest true H1 k (by omega) (by omega) kn (fun h=>by simp at h)
theorem Qa61 {R : Rdr} {fl : Bool} {ss : List (List UInt8)} (d : Nat) {k : Nat} {H : Heap} {K : V → Heap → Prop} (deep : Int) (hd : deep ≤ d) (hH : H R.l = R.o k) (hk : k + 6 * 2^d ≤ 2^40)
    (hK : ∀ (x : Ex) (H' : Heap) (k' : Nat), k < k' → k' + 3 ≤ k + 6 * 2^d → Upd H H' [(R.l, R.o k')] → x.ok → k + x.size ≤ k' → K (.ag x.ct) H') :
    Ql prog Qdr [.c (.ptr R.l 0), .c (.sl fl 1 (Q0 ss)), .c (.int .i64 deep)] H K := by
  have hp1 : 1 ≤ 2^d := Jas;have hp0 : d < 2^d := Nat.lt_two_pow_self;refine Q5 ?_;refine Qc Qal Qa0q ?_;refine Qa ?_;simp only [go_sem];intro x hx H1 h1;have kn := (Kn.start1 hH (R.o_ne k)).al hx h1;refine Q6 ?_;refine Qa ?_;simp only [go_sem];have rest : ∀ (b : Bool) (H2 : Heap) (k2 : Nat), k ≤ k2 → k2 ≤ k + 1 → Kn H H2 [(R.l, R.o k2)] [(x, .st [.int .i64 0, .int .i64 0, .str [], .sl true 4 []])] → (b = false → 2 ≤ deep) →
      Q3 prog (s_l2Expr_2.seq Q2p) (Qp Qqn (unK H K))
       [(0, V.c (C.ptr R.l 0)), (1, V.c (C.sl fl 1 (Q0 ss))), (2, .c (.int .i64 deep)), (6, V.c (C.ptr x 0)), (14, V.c (.bool b))] H2 := by
    intro b H2 k2 hk1 hk2 kn hb;have fin : ∀ (op n : Int) (name : List UInt8) (kids : List Ex) (H3 : Heap) (k3 : Nat) (o : Obj), k < k3 → k3 + 3 ≤ k + 6 * 2^d → Kn H H3 [(R.l, R.o k3)] [(x, .st [.int .i64 op, .int .i64 n, .str name, .sl true 4 (Qt kids)])] →
        (op = 10 → kids.length = 2) → Qdn kids → k + 1 + Qu kids ≤ k3 →
        Q8 Qqn [(6, V.c (C.ptr x 0))] H3 (unK H K) := by
      intro op n name kids H3 k3 o g1 g2 kn g3 g4 g5;have hx3 := kn.l 0 rfl;simp only [go_sem, Q8, Qqn, Jb, forall_eq, RS.op, hx3];refine ⟨_, (Ex.mk op n name kids).frzT, hK _ _ k3 g1 g2 kn.fin ?_ ?_⟩
      · simp only [Ex.ok]; exact ⟨g3, g4⟩
      · simp only [Ex.size]; omega
    refine Qf (Qb rfl ?_ ?_)
    · intro hb';refine Qa ?_;simp only [go_sem];refine Qa64 (kn.e 0 rfl) (by omega) fun y H3 k3 g1 g2 hu hok hsz => ?_;have kn := kn.callE 0 rfl hu (R.o_ne _);have hx3 := kn.l 0 rfl;simp only [go_sem, Q2q, hx3, Ex.ct];intro H4 h4;have kn := kn.stL 0 rfl h4;refine Qh ?_;simp only [go_sem, Qp];refine fin _ _ _ _ _ k3 .none (by omega) (by omega) kn (Ex.ok_and hok) (Ex.ok_kids hok) ?_;have := y.size_kids; omega
    · intro hb';have hdp := hb hb';have hp : 2^d = 2 * 2^(d-1) := (by rw [← Nat.pow_succ']; congr 1; omega);have hp2 : 1 ≤ 2^(d-1) := Jas;have ihd := fun {k H K} => @Q4i R fl ss (d-1) k H K;generalize 2^(d-1) = e at *;refine Qe ?_;simp only [go_sem];refine Q6 ?_;refine Qa ?_;simp only [go_sem];refine Qbx (kn.e 0 rfl) (by omega) fun v H3 hv hu => ?_;have kn := kn.callE 0 rfl hu (R.o_ne _);simp only [go_sem, Q2r];refine Qf (Qb rfl ?_ ?_)
      · intro hc;refine Qa ?_;simp only [go_sem];refine Qo3 (ns := [11, 12, 11]) (kn.e 0 rfl) (by omega) (by simp) fun op H4 hop hu => ?_;have kn := kn.callE 0 rfl hu (R.o_ne _);simp only [go_sem, Q2t];refine ⟨Q1 (by omega) (by omega), ?_⟩;refine ihd (deep - 1) (by omega) (kn.e 0 rfl) (by omega) fun y H5 k5 g1 g2 hu hok hsz => ?_;have kn := kn.callE 0 rfl hu (R.o_ne _);have hx5 := kn.l 0 rfl;simp only [go_sem, Q2s, hx5, y.cells_len];intro H6 h6;have kn := kn.stL 0 rfl h6;refine Qh ?_;simp only [go_sem, Qp];refine fin op 0 [] [y] _ k5 .none (by omega) (by omega) kn (fun h => ?_) ⟨hok, trivial⟩ ?_
        · subst h; simp at hop
        · simp only [Qu]; omega
      · intro hc;refine Qe ?_;simp only [go_sem];refine Qa ?_;simp only [go_sem];refine Qo3 (ns := [3, 3, 4, 5, 6, 7, 8, 9, 10]) (kn.e 0 rfl) (by omega) (by simp) fun op H4 hop hu => ?_;have kn := kn.callE 0 rfl hu (R.o_ne _);simp only [go_sem, Q2u];refine Qa ?_;simp only [go_sem];refine ⟨Q1 (by omega) (by omega), ?_⟩;refine ihd (deep - 1) (by omega) (kn.e 0 rfl) (by omega) fun y H5 k5 g1 g2 hu hok hsz => ?_;have kn := kn.callE 0 rfl hu (R.o_ne _);simp only [go_sem, Q2w];refine ⟨Q1 (by omega) (by omega), ?_⟩;refine ihd (deep - 1) (by omega) (kn.e 0 rfl) (by omega) fun z H6 k6 g3 g4 hu hok2 hsz2 => ?_;have kn := kn.callE 0 rfl hu (R.o_ne _);have hx5 := kn.l 0 rfl;simp only [go_sem, Q2v, hx5, y.cells_len, z.cells_len];intro H7 h7;have kn := kn.stL 0 rfl h7;refine Qh ?_;simp only [go_sem, Qp];refine fin op 0 [] [y, z] _ k6 .none (by omega) (by omega) kn (fun h => rfl) ⟨hok, hok2, trivial⟩ ?_;simp only [Qu]; omega
  refine ⟨fun hb => ?_, fun hb => ?_⟩
  · refine Qbx (kn.e 0 rfl) (by omega) fun v H2 hv hu => ?_;have kn := kn.callE 0 rfl hu (R.o_ne _);simp only [go_sem, Ql1];refine rest _ H2 (k + 1) (by omega) (by omega) kn ?_;intro h;have : ¬ deep < 2 := (by simpa using hb);omega
  · have hb2 : decide (deep < 2) = true := (by simpa using hb);simp only [go_sem, Ql1, hb2];exact rest true H1 k (by omega) (by omega) kn (fun h => by simp at h)
attribute [local go_sem] cond_true cond_false Bool.not_true Bool.not_false
variable {H H0 F:Heap}{K:V→Heap→Prop}{E B Lg:List (Nat×Obj)}
theorem Qaog {R:Rdr}{k:Nat}{deep:Int}(hd:deep≤7)(hH:H R.l=R.o k)(hk:k+2000≤2^38)
  (hK:∀(x:Ex) (t:C) (Lk:List (Nat×Obj)) (H':Heap) (k':Nat),k<k'→k'≤k+1000→Gt Lk 4 (Qt x.kids) t→Kn H H' [(R.l,R.o k')] Lk→x.size≤2000→K (.ag [.int .i64 x.op,.int .i64 x.n,.str x.name,t]) H') :
  Ql prog Qyi [.c (.ptr R.l 0),.c (.int .i64 deep)] H K:=by
 refine Qc Qal Qbhe ?_;refine Qa ?_;simp only[go_sem];intro x4 hx4 H1 h1;have kn:=(Kn.start1 hH (R.o_ne k)).al hx4 h1;refine Qa ?_;simp only[go_sem];refine Qa61 (ss:=[[97],[98],[120],[103,111]]) 7 deep (by omega) (kn.e 0 rfl) (by omega) fun x H2 k2 g1 g2 hu hok hsz=>?_;have kn:=kn.callE 0 rfl hu (R.o_ne _);have hxz:=hsz;simp only[go_sem,Qam9,Ex.ct];intro x5 hx5 H3 h3;have kn:=kn.al hx5 h3;have g5:=kn.l 1 rfl;simp only[go_sem,Qam8,g5];intro H4 h4;have kn:=kn.stL 1 rfl h4;refine Q6 ?_;refine Qa ?_;simp only[go_sem];refine Qbx (kn.e 0 rfl) (by omega) fun v H5 hv hu=>?_;have kn:=kn.callE 0 rfl hu (R.o_ne _);have g5:=kn.l 1 rfl;have g4:=kn.l 0 rfl;simp only[go_sem,Qana];refine Qf (Qb rfl ?_ ?_)
 ·intro hc;refine Qa ?_;simp only[go_sem,g5,g4];intro H6 h6;have kn:=kn.stL 0 rfl h6;have g4:=kn.l 0 rfl;refine Qh ?_;simp only[go_sem,AE.X.next,Qp,Q8,Qm5,Jb,forall_eq,RS.op,g4];exact hK x _ [] _ (k2+1) (by omega) (by omega) (.inl ⟨rfl,rfl⟩) (Kn.drop (A:=[]) kn) (by omega)
 intro hc;refine Qe ?_;try simp only[go_sem]
 refine Qa ?_;simp only[go_sem];refine of_c (ss:=[[102],[103],[97]]) (kn.e 0 rfl) (by omega) (by simp) fun nm H6 hv2 hu=>?_;have kn:=kn.callE 0 rfl hu (R.o_ne _);simp only[go_sem,Qanc];intro x6 hx6 H7 h7;have kn:=kn.al hx6 h7;have g6:=kn.l 2 rfl;simp only[go_sem,Qanb,g6];intro H8 h8;have kn:=kn.stL 2 rfl h8;refine Q6 ?_;refine Qa ?_;simp only[go_sem];refine Qbx (kn.e 0 rfl) (by omega) fun cnt H9 hcnt hu=>?_;have kn:=kn.callE 0 rfl hu (R.o_ne _);rw[if_neg (by omega)]at hcnt;obtain⟨cj,rfl⟩:=Js hcnt.1;simp only[go_sem,Qand];refine Qf (Qd (Qab (fun m e1 H1=>∃(j:Nat) (ks:List Ex) (Lk:List (Nat×Obj)) (t:C) (k3:Nat),m=j∧ks.length+j≤3∧k2+3≤k3∧k3+30 * j≤k2+103∧Gr Lk 4 (Qt ks) t∧Qu ks≤ks.length * 100∧
   Kn H H1 [(R.l,R.o k3)] ([(x4,exO 0 0 [] (.sl true 4 [])),(x5,exO x.op x.n x.name (.sl true 4 (Qt x.kids))),(x6,exO 13 0 nm t)]++Lk)∧
   e1=[(0,.c (.ptr R.l 0)),(4,.c (.ptr x4 0)),(5,.c (.ptr x5 0)),(6,.c (.ptr x6 0)),(7,.c (.int .i64 j))]) cj ?_ ?_))
 ·exact⟨cj,[],[],.sl true 4 [],k2+3,by omega,by simp;omega,by omega,by omega,.nil 4,by simp[Qu],kn,rfl⟩
 ·clear kn g6 g5 g4 h8 h7;rintro m e1 H10 ⟨j,ks,Lk,t,k3,hm,hj,hk3,hk4,hgk,hks,kn,rfl⟩;have hto:=hgk.isOw;have g6:=kn.l 2 rfl;refine Q6 ?_;refine Qa ?_;simp only[go_sem];refine Qf (Qb rfl ?_ ?_)
  ·intro hc2;have hj0:0<j:=by simpa using hc2
   refine Qe ?_;try simp only[go_sem]
   refine Qf (Qd ?_);refine Qel ?_;simp only[go_sem,g6,hto];refine Q4i (ss:=[[97],[98]]) 2 2 (by omega) (kn.e 0 rfl) (by omega) fun y H11 k4 g1 g2 hu hok2 hsz2=>?_;have kn:=kn.callE 0 rfl hu (R.o_ne _);have g6:=kn.l 2 rfl;simp only[go_sem,Qanf,g6,hto,y.cells_len];refine Kn.growR (B:=[_,_,_]) kn hgk (new:=[y.cells]) (.mk' _ true 4 _) (by simpa using y.noOw) (by simp only[Qj,Jg,Ji,LIM];omega) fun t' Lk' H12 hgk' hto' kn=>?_;rw[Qe9]at hgk';have g6:=kn.l 2 rfl;simp only[go_sem,Qane,g6,hto'];intro H13 h13;have kn:=kn.stL 2 rfl h13;try simp only[go_sem,AE.X.next]
   refine Qq ?_;try simp only[go_sem,AE.X.next]
   refine⟨Q1 (by omega) (by omega),j-1,by omega,j-1,ks++[y],Lk',t',k4,rfl,by simp;omega,by omega,by omega,hgk',?_,kn,?_⟩
   ·rw[Qey];simp only[Qu,J0,Jg,Ji];omega
   ·have:((j:Int)-1)=((j-1:Nat):Int):=(by omega);rw[this]
  ·intro hc2;have g4:=kn.l 0 rfl;have g5:=kn.l 1 rfl;refine Q9 ?_;simp only[go_sem,AE.X.next];refine Q6 ?_;refine Qa ?_;simp only[go_sem];refine Qbx (kn.e 0 rfl) (by omega) fun v3 H11 hv3 hu=>?_;have kn:=kn.callE 0 rfl hu (R.o_ne _);have g4:=kn.l 0 rfl;have g5:=kn.l 1 rfl;have g6:=kn.l 2 rfl;simp only[go_sem,Qafl];refine Qf (Qb rfl ?_ ?_)
   ·intro hc3;refine Qa ?_;simp only[go_sem,g6,g4,hto];intro H12 h12;have kn:Kn H H12 [(R.l,R.o (k3+1))] ([(x4,exO 13 0 nm t),(x5,exO x.op x.n x.name (.sl true 4 (Qt x.kids))),(x6,exO 13 0 nm t)]++Lk):=kn.stL 0 rfl h12;have g4:=kn.l 0 rfl;refine Qh ?_;simp only[go_sem,AE.X.next,Qp,Q8,Qm5,Jb,forall_eq,RS.op,g4,hto];refine hK (.mk 13 0 nm ks) t Lk _ (k3+1) (by omega) (by omega) (.inr hgk) (kn.sub (List.sublist_append_right _ _)) ?_;simp only[Ex.size];omega
   ·intro hc3;refine Qe ?_;try simp only[go_sem]
    have f1:FrzC H11 (fun m=>(Lk.map Prod.fst).contains m) t (.sl false 4 (Qt ks)):=Gr.frzm hgk (fun p hp=>⟨(kn.get p (Ja _ (Ja _ hp))).1,Qbgt hp⟩) (FrzR.same (Qa4 _));have o5:=kn.frzS_out (p:=(x5,exO x.op x.n x.name (.sl true 4 (Qt x.kids)))) (by simp);have o6:=kn.frzS_out (p:=(x6,exO 13 0 nm t)) (by simp);have kz:=(kn.frzN.setL 1 (o':=exO x.op x.n x.name (.sl false 4 (Qt x.kids))) rfl (by nofun)).setL 2 (o':=exO 13 0 nm (.sl false 4 (Qt ks))) rfl (by nofun);have hfz:=((Qqi H11 (fun m=>(Lk.map Prod.fst).contains m)).set (o:=exO x.op x.n x.name (.sl false 4 (Qt x.kids))) o5 (by
     show FrzO H11 _ (H11 x5) _;rw[g5];exact FrzKL.st (.same (.same (.same (.cons rfl (FrzR.same (Qa4 _)).sl .nil))))) ).set (o:=exO 13 0 nm (.sl false 4 (Qt ks))) o6 (by
     show FrzO H11 _ (H11 x6) _;rw[g6];exact FrzKL.st (.same (.same (.same (.cons hto f1 .nil)))))
    refine c_gh (Qoz _ (Qa0a ?_) hfz) (e':=[(4,.c (.ptr x4 0)),(5,.c (.ptr x5 0)),(6,.c (.ptr x6 0))]) ?_
    ·intro p hp;simp only[Jk,Jaj,or_false]at hp;rcases hp with rfl|rfl|rfl <;> exact .c _ _ (.same _ rfl)
    have g4:=kz.l 0 rfl;have g5:=kz.l 1 rfl;have g6:=kz.l 2 rfl;refine Qa ?_;simp only[go_sem,g4,g5,g6];intro H12 h12;have kz:=kz.stL 0 rfl h12;have g4:=kz.l 0 rfl;refine Qh ?_;simp only[go_sem,AE.X.next,Qp,Q8,Qm5,Jb,forall_eq,RS.op,g4];refine hK (.mk 3 0 [] [x,.mk 13 0 nm ks]) _ [] _ (k3+1) (by omega) (by omega) (.inl ⟨?_,rfl⟩) (Kn.drop (A:=[]) kz) ?_
    ·show C.sl true 4 _=C.sl true 4 (Qt [x,.mk 13 0 nm ks]);simp only[Qt,Ex.cells_eq];rfl
    ·simp only[Ex.size,Qu];omega
theorem Qbg6 {R:Rdr}{k:Nat}{deep:Int}(hd:deep≤7)(hH:H R.l=R.o k)(hk:k+2000≤2^38)
  (hK:∀(x:Ex) (H':Heap) (k':Nat),k<k'→k'≤k+1000→Upd H H' [(R.l,R.o k')]→x.size≤2000→K (.ag x.cells) H') :
  Ql prog Qyi [.c (.ptr R.l 0),.c (.int .i64 deep)] H K:=by
 refine Q5 (Qaog hd hH hk fun x t Lk H' k' h1 h2 hg kn hsz=>?_);have:=hK x (H'.frz (un H)) k' h1 h2 kn.fin hsz;rw[x.cells_eq]at this;exact⟨_,(FrzL.cons (Qg rfl) (.cons (Qg rfl) (.cons (Qg rfl) (.cons (hg.frz (B:=[]) kn (Qa4 _)) .nil)))).ag,this⟩
theorem Qbcn {R:Rdr}{k:Nat}(hH:H R.l=R.o k)(hk:k+8000≤2^38)
  (hK:∀(x:Ex) (H':Heap) (k':Nat),k<k'→k'≤k+3000→Upd H H' [(R.l,R.o k')]→x.size≤4000→K (.ag x.cells) H') :
  Ql prog Qada [.c (.ptr R.l 0)] H K:=by
 refine Q5 ?_;refine Qc Qal Qbcw ?_;refine Qa ?_;simp only[go_sem];intro x2 hx2 H1 h1;have kn:=(Kn.start1 hH (R.o_ne k)).al hx2 h1;refine Qa ?_;simp only[go_sem];refine Qaog (by omega) (kn.e 0 rfl) (by omega) fun x t Lk H2 k2 g1 g2 hg k2n hsz=>?_;have hto:=hg.isOw;have kn:Kn H H2 [(R.l,R.o k2)] ([(x2,exO 0 0 [] (.sl true 4 []))]++Lk):=kn.addNewE 0 rfl k2n;simp only[go_sem,Qafo,hto];intro x3 hx3 H3 h3;have kn:Kn H H3 [(R.l,R.o k2)] ([(x2,exO 0 0 [] (.sl true 4 [])),(x3,exO 0 0 [] (.sl true 4 []))]++Lk):=(kn.al hx3 h3).perm (.cons _ (Jal (l₁:=Lk)));have g3:=kn.l 1 rfl;simp only[go_sem,Qafn,g3,hto];intro H4 h4;have kn:Kn H H4 [(R.l,R.o k2)] ([(x2,exO 0 0 [] (.sl true 4 [])),(x3,exO x.op x.n x.name t)]++Lk):=kn.stL 1 rfl h4;refine Q6 ?_;refine Qa ?_;simp only[go_sem];refine Qbx (kn.e 0 rfl) (by omega) fun v H5 hv hu=>?_;have kn:Kn H H5 [(R.l,R.o (k2+1))] ([(x2,exO 0 0 [] (.sl true 4 [])),(x3,exO x.op x.n x.name t)]++Lk):=kn.callE 0 rfl hu (R.o_ne _);simp only[go_sem];have fin:∀(y:Ex) (t:C) (Lk:List (Nat×Obj)) (H6:Heap) (e6:Env) (k6:Nat),Gt Lk 4 (Qt y.kids) t→y.size≤4000→k<k6→k6≤k+3000→Kn H H6 [(R.l,R.o k6)] ([(x2,exO 0 0 [] (.sl true 4 [])),(x3,exO y.op y.n y.name t)]++Lk)→lk 2 e6=.c (.ptr x2 0)→lk 3 e6=.c (.ptr x3 0)→
   Q3 prog Qafm (Qp Q9m (unK H K)) e6 H6:=by
  intro y t Lk H6 e6 k6 hg hsz a1 a2 kn f2 f3;have hto:=hg.isOw;have g2:=kn.l 0 rfl;have g3:=kn.l 1 rfl;refine Qa ?_;simp only[go_sem,f2,f3,g2,g3,hto];intro H7 h7;have kn:=kn.stL 0 rfl h7;have g2:=kn.l 0 rfl;refine Qh ?_;simp only[go_sem,Qp,Q8,Q9m,Jb,forall_eq,RS.op,g2,hto];have:=hK y _ k6 a1 a2 kn.fin hsz;rw[y.cells_eq]at this;exact⟨_,(FrzL.cons (Qg rfl) (.cons (Qg rfl) (.cons (Qg rfl) (.cons (hg.frz (B:=[_,_]) kn (Qa4 _)) .nil)))).ag,this⟩
 have hxs:=x.size_kids;refine Qf (Qd ?_);refine Qa ?_;simp only[go_sem];have g3:=kn.l 1 rfl;refine Qb rfl ?_ ?_
 ·intro hc;refine Qq ?_;simp only[go_sem];refine Qo3 (ns:=[-1,256,3]) (kn.e 0 rfl) (by omega) (by simp) fun w H6 hw hu=>?_;have kn:=kn.callE 0 rfl hu (R.o_ne _);have g3:=kn.l 1 rfl;simp only[go_sem,Qafp,g3,hto];intro H7 h7;have kn:=kn.stL 1 rfl h7;try simp only[go_sem,AE.X.next]
  exact fin (.mk x.op w x.name x.kids) t Lk _ _ (k2+1+1) hg (by simp only[Ex.size];omega) (by omega) (by omega) kn rfl rfl
 intro hc;refine Qa ?_;simp only[go_sem];refine Qb rfl ?_ ?_
 ·intro hc;refine Qq ?_;simp only[go_sem];refine of_c (ss:=[[],[100,111],[65],[97,98,99,100,101],[113]]) (kn.e 0 rfl) (by omega) (by simp) fun w H6 hw hu=>?_;have kn:=kn.callE 0 rfl hu (R.o_ne _);have g3:=kn.l 1 rfl;simp only[go_sem,Qafq,g3,hto];intro H7 h7;have kn:=kn.stL 1 rfl h7;try simp only[go_sem,AE.X.next]
  exact fin (.mk x.op x.n w x.kids) t Lk _ _ (k2+1+1) hg (by simp only[Ex.size];omega) (by omega) (by omega) kn rfl rfl
 intro hc;refine Qa ?_;simp only[go_sem];refine Qb rfl ?_ ?_
 ·intro hc;refine Qq ?_;simp only[go_sem];refine Qo3 (ns:=[0,14,-1,5,11]) (kn.e 0 rfl) (by omega) (by simp) fun w H6 hw hu=>?_;have kn:=kn.callE 0 rfl hu (R.o_ne _);have g3:=kn.l 1 rfl;simp only[go_sem,Qafr,g3,hto];intro H7 h7;have kn:=kn.stL 1 rfl h7;try simp only[go_sem,AE.X.next]
  exact fin (.mk w x.n x.name x.kids) t Lk _ _ (k2+1+1) hg (by simp only[Ex.size];omega) (by omega) (by omega) kn rfl rfl
 intro hc;refine Qa ?_;simp only[go_sem];refine Qb rfl ?_ ?_
 ·intro hc;refine Qel ?_;simp only[go_sem,g3,hto];refine Qa0g (ss:=[]) (kn.e 0 rfl) (by omega) fun y H6 k6 b1 b2 hu hok hys=>?_;have kn:=kn.callE 0 rfl hu (R.o_ne _);have g3:=kn.l 1 rfl;have hkl:=Qavw x.kids;simp only[go_sem,Qaft,g3,hto,y.cells_len];refine Kn.growT (B:=[_,_]) kn hg (new:=[y.cells]) (.mk' _ true 4 _) (by simp) (Qa4 _) (by simpa using y.noOw) (by simp only[Qj,Jg,Ji,LIM];omega) fun t' Lk' H7 hg' hto' kn=>?_;rw[Qe9]at hg';have g3:=kn.l 1 rfl;simp only[go_sem,Qafs,g3,hto'];intro H8 h8;have kn:=kn.stL 1 rfl h8;try simp only[go_sem,AE.X.next]
  exact fin (.mk x.op x.n x.name (x.kids++[y])) t' Lk' _ _ k6 (.inr hg') (by simp only[Ex.size,Qey,Qu];omega) (by omega) (by omega) kn rfl rfl
 intro hc;refine Qa ?_;simp only[go_sem];refine Qb rfl ?_ ?_
 ·intro hc;refine Qq ?_;simp only[go_sem];have kn:=Kn.drop (A:=[(x2,exO 0 0 [] (.sl true 4 [])),(x3,exO x.op x.n x.name t)]) kn;refine Qaog (by omega) (kn.e 0 rfl) (by omega) fun y t2 Lk2 H6 k6 b1 b2 hg2 k2n hsz2=>?_;have hto2:=hg2.isOw;have kn:Kn H H6 [(R.l,R.o k6)] ([(x2,exO 0 0 [] (.sl true 4 [])),(x3,exO x.op x.n x.name t)]++Lk2):=kn.addNewE 0 rfl k2n;have g3:=kn.l 1 rfl;simp only[go_sem,Qafu,g3,hto,hto2];intro H7 h7;have kn:Kn H H7 [(R.l,R.o k6)] ([(x2,exO 0 0 [] (.sl true 4 [])),(x3,exO y.op y.n y.name t2)]++Lk2):=kn.stL 1 rfl h7;try simp only[go_sem,AE.X.next]
  exact fin y t2 Lk2 _ _ k6 hg2 (by omega) (by omega) (by omega) kn rfl rfl
 ·intro hc;refine Qe ?_;try simp only[go_sem,AE.X.next]
  exact fin x t Lk _ _ (k2+1) hg (by omega) (by omega) (by omega) kn rfl rfl
end Go.AE.Y
namespace Go.AE
variable {H0 H:Heap}{E B Lg:List (Nat×Obj)}{sz:Nat}{rows rows':List (List C)}{c c':C}{S:Nat→Bool}
def Fz (Lg:List (Nat×Obj))(c c':C):Prop:=c.isOw=false∧∀(H:Heap) (S:Nat→Bool),(∀p∈Lg,H p.1=p.2∧S p.1=true)→FrzC H S c c'
theorem Fz.same (h:c.isOw=false):Fz [] c c:=⟨h,fun H S _=>.same _ h⟩
def PR (rows rows':List (List C)):Prop:=(∀r∈rows,noOw r=true)∧∀(H:Heap) (S:Nat→Bool),Y.FrzR H S rows rows'
theorem PR.app {a b a' b':List (List C)}(h:PR a a')(k:PR b b'):PR (a++b) (a'++b'):=⟨Y.noOw_app h.1 k.1,fun H S=>(h.2 H S).app (k.2 H S)⟩
theorem PR.len (h:PR rows rows'):rows.length=rows'.length:=((h.2 (fun _=>.none) fun _=>false).spec.1).symm
theorem PR.fz (h:PR rows rows')(hg:Gr Lg sz rows c):Fz Lg c (.sl false sz rows'):=⟨hg.isOw,fun H S hm=>Gr.frzm hg hm (h.2 H S)⟩
theorem PR.sl (h:PR rows rows')(fl:Bool):Fz [] (.sl fl sz rows) (.sl false sz rows'):=⟨rfl,fun H S _=>(h.2 H S).sl⟩
theorem Qazs {r r':List C}:∀{rows rows':List (List C)} (i:Nat),Y.FrzR H S rows rows'→FrzL H S r r'→Y.FrzR H S (rows.set i r) (rows'.set i r')
 |_,_,_,.nil,_=>.nil
 |_,_,0,.cons h t,k=>.cons k t
 |_,_,i+1,.cons h t,k=>.cons h (Qazs i t k)
end Go.AE
namespace Go.AE.Y
attribute [local go_sem] cond_true cond_false Bool.not_true Bool.not_false
open Go.Proofs.Tryz
variable {H H0 F:Heap}{K:V→Heap→Prop}{E B Lg:List (Nat×Obj)}
theorem PR.sts (l:List St):PR (Qk l) (Qk l):=⟨Qas l,fun H S=>FrzR.same (Qas l)⟩
theorem Quo:∀(l:List Fn) (i:Nat) (f:Fn),Qs (l.set i f)≤Qs l+Qi f.body
 |[],i,f=>by simp[Qs]
 |x::r,0,f=>by simp only[Jar,Qs];omega
 |x::r,i+1,f=>by have:=Quo r i f;simp only[Jae,Qs];omega
theorem Qa8e {op:Int}{nm:List UInt8}{a:C}{ars:List Ex}(ha:a.isOw=false)(hf:∀(H:Heap) (S:Nat→Bool),FrzC H S a (.sl false 4 (Qt ars))) :
  PR [[.int .i64 op,.str nm,a,.sl true 5 [],.sl true 5 []]] (Qk [.mk op nm ars [] []]):=by
 refine⟨fun r hr=>by simp only[Jb]at hr;subst hr;simp only[noOw,Jaq,Jau,Q4h,Qym,Qadi,ha];rfl,fun H S=>?_⟩;simp only[Qk,St.cells_eq,St.op,St.name,St.args,St.body,St.els];exact .cons (.cons (Qg rfl) (.cons (Qg rfl) (.cons (hf H S) (.cons FrzR.nil.sl (.cons FrzR.nil.sl .nil))))) .nil
abbrev a0C:C:=.sl true 4 [[.int .i64 1,.int .i64 0,.str [],.sl true 4 []]]
theorem Qawi (n:Int)(H:Heap)(S:Nat→Bool):FrzC H S (.sl true 4 [[.int .i64 1,.int .i64 n,.str [],.sl true 4 []]]) (.sl false 4 (Qt [.mk 1 n [] []])):=by
 simp only[Qt,Ex.cells_eq,Ex.op,Ex.n,Ex.name,Ex.kids];exact (FrzR.cons (.cons (Qg rfl) (.cons (Qg rfl) (.cons (Qg rfl) (.cons FrzR.nil.sl .nil)))) .nil).sl
def PS (l:List Fn):Prop:=Qs l≤2^36∧∀f∈l,f.params.length≤9
theorem Qa66 {R:Rdr}{k:Nat}(hH:H R.l=R.o k)(hk:k+7100000≤2^30)
  (hK:∀(l:List Fn) (H':Heap) (k':Nat),k<k'→k'≤k+7010000→Upd H H' [(R.l,R.o k')]→PS l→K (.ag [.sl false 3 (Qy l)]) H') :
  Ql prog Qadc [.c (.ptr R.l 0)] H K:=by
 refine Q5 ?_;refine Qc Qal Qbcz ?_;refine Qa ?_;simp only[go_sem];intro x2 hx2 H1 h1;have kn:=(Kn.start1 hH (R.o_ne k)).al hx2 h1;refine Qa ?_;simp only[go_sem];refine Qaoi (kn.e 0 rfl) (by omega) fun l H2 k2 g1 g2 hu hpr=>?_;have kn:=kn.callE 0 rfl hu (R.o_ne _);have hpos:=hpr.pos;have hl4:=hpr.len;have hsz:=hpr.size;have e1:(l.length:Int)-1=((l.length-1:Nat):Int):=by omega
 have hl1:l.length-1<l.length:=by omega
 obtain⟨f,hfe⟩:∃f,l[l.length-1]=f:=⟨_,rfl⟩;have hfm:f∈l:=by rw[←hfe];exact Jz hl1
 have hfs:=Qa5 hfm;have hfl:=Qan f.body;have hfp:=hpr.par f hfm;simp only[go_sem,Qaf1];intro x3 hx3 H3 h3;have kn:=kn.al hx3 h3;have g3:=kn.l 1 rfl;simp only[go_sem,Qaf0,g3];intro H4 h4;have kn:=kn.stL 1 rfl h4;have g3:=kn.l 1 rfl;refine Qa ?_;simp only[go_sem,g3,e1,hl1,Qw,Qaf _ _ hl1,hfe,Fn.cells];try intro _
 refine⟨Q1 (by omega) (by omega),?_⟩;intro x4 hx4 H5 h5;have kn:=kn.al hx4 h5;have g4:=kn.l 2 rfl;simp only[go_sem,Qaf2,g4];intro H6 h6;have kn:=kn.stL 2 rfl h6;refine Q6 ?_;refine Qa ?_;simp only[go_sem];refine Qbx (kn.e 0 rfl) (by omega) fun v H7 hv hu=>?_;have kn:Kn H H7 [(R.l,R.o (k2+1))] ([(x2,.st [.sl true 3 []]),(x3,.st [.sl false 3 (Qy l)]),(x4,fnO f)]++[]):=kn.callE 0 rfl hu (R.o_ne _);simp only[go_sem];have fin:∀(nm:List UInt8) (ps:List (List UInt8)) (body:List St) (pc bc:C) (Lp Lb:List (Nat×Obj)) (H8:Heap) (e8:Env) (k8:Nat),Fz Lp pc (.sl false 1 (Q0 ps))→Fz Lb bc (.sl false 5 (Qk body))→(Qi body≤Qi f.body+100000∧ps.length≤9)→k<k8→k8≤k+7010000→
   Kn H H8 [(R.l,R.o k8)] ([(x2,.st [.sl true 3 []]),(x3,.st [.sl false 3 (Qy l)]),(x4,.st [.str nm,pc,bc])]++(Lp++Lb))→lk 2 e8=.c (.ptr x2 0)→lk 3 e8=.c (.ptr x3 0)→lk 4 e8=.c (.ptr x4 0)→
   Q3 prog Qafz (Qp Qao2 (unK H K)) e8 H8:=by
  intro nm ps body pc bc Lp Lb H8 e8 k8 hp hb ⟨hbs,hpl⟩ a1 a2 kn f2 f3 f4;have hpo:=hp.1;have hbo:=hb.1;have g3:=kn.l 1 rfl;refine Qa ?_;simp only[go_sem,f2,f3,f4,g3,Qw,hpo,hbo];refine⟨.inl trivial,Qcr _,by simp only[LIM];omega,fun z hz H9 h9=>?_⟩;have kn:Kn H H9 [(R.l,R.o k8)] ([(x2,.st [.sl true 3 []]),(x3,.st [.sl false 3 (Qy l)]),(x4,.st [.str nm,pc,bc]),(z,.vec 3 ([]++Qy l))]++(Lp++Lb)):=(kn.al hz h9).perm (.cons _ (.cons _ (.cons _ (Jal (l₁:=Lp++Lb)))));have gz:=kn.l 3 rfl;have g4:=kn.l 2 rfl;simp only[go_sem,Q98,f2,f3,f4];refine Qa ?_;simp only[go_sem,gz,g4,e1,hl1,hpo,hbo,Qw,Qaf _ _ hl1,hfe,Fn.cells,Jw,Jp];try intro _
  refine⟨Q1 (by omega) (by omega),?_⟩;intro H10 h10;have kn:Kn H H10 [(R.l,R.o k8)] ([(x2,.st [.sl true 3 []]),(x3,.st [.sl false 3 (Qy l)]),(x4,.st [.str nm,pc,bc]),(z,.vec 3 ((Qy l).set (l.length-1) [.str nm,pc,bc]))]++(Lp++Lb)):=kn.stL 3 rfl h10;have g2:=kn.l 0 rfl;have gz:=kn.l 3 rfl;refine Qa ?_;simp only[go_sem,g2];intro H11 h11;have kn:Kn H H11 [(R.l,R.o k8)] ([(x2,.st [.vsl z 3 0 l.length]),(x3,.st [.sl false 3 (Qy l)]),(x4,.st [.str nm,pc,bc]),(z,.vec 3 ((Qy l).set (l.length-1) [.str nm,pc,bc]))]++(Lp++Lb)):=kn.stL 0 rfl h11;have g2:=kn.l 0 rfl;have gz:=kn.l 3 rfl;refine Qh ?_;simp only[go_sem,Qp,Q8,Qao2,Jb,forall_eq,RS.op,g2];have hun:∀p∈Lp++Lb,H11 p.1=p.2∧un H p.1=true:=fun p hp=>⟨(kn.get p (Ja _ (Ja _ hp))).1,Qyc (kn.loc p (Ja _ hp))⟩;have hfr:FrzR H11 (un H) ((Qy l).set (l.length-1) [.str nm,pc,bc]) (Qy (l.set (l.length-1) ⟨nm,ps,body⟩)):=by
   have:Qy (l.set (l.length-1) ⟨nm,ps,body⟩)=(Qy l).set (l.length-1) (Fn.cells ⟨nm,ps,body⟩):=by simp[Qy,Jad]
   rw[this];exact Qazs _ (FrzR.same (Qcr l)) (.cons (Qg rfl) (.cons (hp.2 _ _ fun p hp=>hun p (Jc _ hp)) (.cons (hb.2 _ _ fun p hp=>hun p (Ja _ hp)) .nil)))
  have hps:=Quo l (l.length-1) ⟨nm,ps,body⟩;refine⟨_,(FrzL.cons (FrzR.vsl (Qyc (kn.free 3 rfl)) ?_ ?_ hfr) .nil).ag,hK _ _ k8 a1 a2 kn.fin ?_⟩
  ·exact gz
  ·simp[Qw]
  ·simp only at hps;refine⟨by omega,fun f' hf'=>?_⟩;rcases Jaf hf' with hf'|rfl
   ·have:=hpr.par f' hf';omega
   ·exact hpl
 have fz0:Fz [] (.sl false 1 (Q0 f.params)) (.sl false 1 (Q0 f.params)):=.same rfl;have fzb:Fz [] (.sl false 5 (Qk f.body)) (.sl false 5 (Qk f.body)):=.same rfl;have g4:=kn.l 2 rfl;refine Qf (Qd ?_);refine Qa ?_;simp only[go_sem];refine Qb rfl (fun hc=>?_) (fun hc=>?_)
 ·refine Qq ?_;simp only[go_sem];refine of_c (ss:=[[102],[100,111],[],[103]]) (kn.e 0 rfl) (by omega) (by simp) fun w H8 hw hu=>?_;have kn:=kn.callE 0 rfl hu (R.o_ne _);have g4:=kn.l 2 rfl;simp only[go_sem,Qaf3,g4];intro H9 h9;have kn:=kn.stL 2 rfl h9;try simp only[go_sem,AE.X.next]
  exact fin w f.params f.body _ _ [] [] _ _ (k2+1+1) fz0 fzb (by omega) (by omega) (by omega) kn rfl rfl rfl
 refine Qa ?_;simp only[go_sem];refine Qb rfl (fun hc=>?_) (fun hc=>?_)
 ·refine Qq ?_;simp only[go_sem,g4,Qo];refine⟨.inl trivial,Qaw _,by simp only[LIM];omega,fun z hz H8 h8=>?_⟩;have kn:=kn.al hz h8;have hg0:Gr [(z,.vec 1 ([]++Q0 f.params))] 1 (Q0 f.params) (.vsl z 1 0 (0+f.params.length)):=Gr.mk z 1 (Q0 f.params) (by rw[Qo];omega);generalize C.vsl z 1 0 (0+f.params.length)=cz at hg0⊢;have hczo:=hg0.isOw;simp only[go_sem,Qaf6,hczo];refine of_c (ss:=[[97],[120],[105,102]]) (kn.e 0 rfl) (by omega) (by simp) fun w H9 hw hu=>?_;have kn:Kn H H9 [(R.l,R.o (k2+1+1))] ([(x2,.st [.sl true 3 []]),(x3,.st [.sl false 3 (Qy l)]),(x4,fnO f)]++[(z,.vec 1 ([]++Q0 f.params))]):=kn.callE 0 rfl hu (R.o_ne _);simp only[go_sem,Qaf5,hczo];refine Kn.growR (B:=[_,_,_]) (rows:=Q0 f.params) kn hg0 (new:=[[.str w]]) (.mk' _ true 1 _) (by simp[noOw,C.isOw]) (by simp only[Qo,Jg,Ji,LIM];omega) fun t Lt H10 hgt hto kn=>?_;rw[Q34]at hgt;have g4:=kn.l 2 rfl;simp only[go_sem,Qaf4,g4,hto];intro H11 h11;have kn:=kn.stL 2 rfl h11;try simp only[go_sem,AE.X.next]
  refine fin f.name (f.params++[w]) f.body t _ Lt [] _ _ (k2+1+1) ⟨hto,fun H S hm=>Gr.frzm hgt hm (FrzR.same (Qaw _))⟩ fzb ⟨by omega,by rw[J0,List.length_singleton];omega⟩ (by omega) (by omega) ?_ rfl rfl rfl;rw[Jt];exact kn
 refine Qa ?_;simp only[go_sem];refine Qb rfl (fun hc=>?_) (fun hc=>?_)
 ·refine Qq ?_;simp only[go_sem,g4,Qx];refine⟨.inl trivial,Qas _,by simp only[LIM];omega,fun z hz H8 h8=>?_⟩;have kn:=kn.al hz h8;have hg0:Gr [(z,.vec 5 ([]++Qk f.body))] 5 (Qk f.body) (.vsl z 5 0 (0+f.body.length)):=Gr.mk z 5 (Qk f.body) (by rw[Qx];omega);generalize C.vsl z 5 0 (0+f.body.length)=cz at hg0⊢;have hczo:=hg0.isOw;simp only[go_sem,Qaf9,hczo];refine Qbcn (kn.e 0 rfl) (by omega) fun x H9 k9 b1 b2 hu hxs=>?_;have kn:Kn H H9 [(R.l,R.o k9)] ([(x2,.st [.sl true 3 []]),(x3,.st [.sl false 3 (Qy l)]),(x4,fnO f)]++[(z,.vec 5 ([]++Qk f.body))]):=kn.callE 0 rfl hu (R.o_ne _);simp only[go_sem,Qaf8,x.cells_len,hczo];have hpr:=(PR.sts f.body).app (Qa8e (op:=3) (nm:=[]) (a:=.sl true 4 [x.cells]) (ars:=[x]) rfl fun H S=>by
   simp only[Qt];exact (FrzR.cons (.same x.noOw) .nil).sl)
  refine Kn.growR (B:=[_,_,_]) (rows:=Qk f.body) kn hg0 (new:=[[.int .i64 3,.str [],.sl true 4 [x.cells],.sl true 5 [],.sl true 5 []]]) (.mk' _ true 5 _) (by simp[noOw,C.isOw]) (by simp only[Qx,Jg,Ji,LIM];omega) fun t Lt H10 hgt hto kn=>?_;have g4:=kn.l 2 rfl;simp only[go_sem,Qaf7,g4,hto];intro H11 h11;have kn:=kn.stL 2 rfl h11;try simp only[go_sem,AE.X.next]
  have hfz:=hpr.fz hgt;rw[Qmq]at hfz;exact fin f.name f.params (f.body++[.mk 3 [] [x] [] []]) _ t [] Lt _ _ k9 fz0 hfz (by simp only[Qbf,Qi,St.size,Qu];omega) (by omega) (by omega) kn rfl rfl rfl
 refine Qa ?_;simp only[go_sem];refine Qb rfl (fun hc=>?_) (fun hc=>?_)
 ·refine Qq ?_;simp only[go_sem,g4,Qx];refine⟨.inl trivial,Qas _,by simp only[LIM];omega,fun z hz H8 h8=>?_⟩;have kn:=kn.al hz h8;have hg0:Gr [(z,.vec 5 ([]++Qk f.body))] 5 (Qk f.body) (.vsl z 5 0 (0+f.body.length)):=Gr.mk z 5 (Qk f.body) (by rw[Qx];omega);generalize C.vsl z 5 0 (0+f.body.length)=cz at hg0⊢;have hczo:=hg0.isOw;simp only[go_sem,Q9x,hczo];refine Qbx (kn.e 0 rfl) (by omega) fun op H9 hop hu=>?_;have kn:=kn.callE 0 rfl hu (R.o_ne _);simp only[go_sem,Q9w,hczo];refine of_c (ss:=[[],[97],[122,122]]) (kn.e 0 rfl) (by omega) (by simp) fun w H10 hw hu=>?_;have kn:=kn.callE 0 rfl hu (R.o_ne _);simp only[go_sem,Q9v,hczo];refine Qbg6 (by omega) (kn.e 0 rfl) (by omega) fun x H11 k9 b1 b2 hu hxs=>?_;have kn:Kn H H11 [(R.l,R.o k9)] ([(x2,.st [.sl true 3 []]),(x3,.st [.sl false 3 (Qy l)]),(x4,fnO f)]++[(z,.vec 5 ([]++Qk f.body))]):=kn.callE 0 rfl hu (R.o_ne _);simp only[go_sem,Q9u,x.cells_len,hczo];have hpr:=(PR.sts f.body).app (Qa8e (op:=op) (nm:=w) (a:=.sl true 4 [x.cells]) (ars:=[x]) rfl fun H S=>by
   simp only[Qt];exact (FrzR.cons (.same x.noOw) .nil).sl)
  refine Kn.growR (B:=[_,_,_]) (rows:=Qk f.body) kn hg0 (new:=[[.int .i64 op,.str w,.sl true 4 [x.cells],.sl true 5 [],.sl true 5 []]]) (.mk' _ true 5 _) (by simp[noOw,C.isOw]) (by simp only[Qx,Jg,Ji,LIM];omega) fun t Lt H12 hgt hto kn=>?_;have g4:=kn.l 2 rfl;simp only[go_sem,Q9t,g4,hto];intro H13 h13;have kn:=kn.stL 2 rfl h13;try simp only[go_sem,AE.X.next]
  have hfz:=hpr.fz hgt;rw[Qmq]at hfz;exact fin f.name f.params (f.body++[.mk op w [x] [] []]) _ t [] Lt _ _ k9 fz0 hfz (by simp only[Qbf,Qi,St.size,Qu];omega) (by omega) (by omega) kn rfl rfl rfl
 refine Qa ?_;simp only[go_sem];refine Qb rfl (fun hc=>?_) (fun hc=>?_)
 ·refine Qa ?_;simp only[go_sem];intro x5 hx5 H8 h8;have kn:=kn.al hx5 h8;have g5:=kn.l 3 rfl;simp only[go_sem,Q9y,g5];intro H9 h9;have kn:=kn.stL 3 rfl h9;refine Q6 ?_;refine Qa ?_;simp only[go_sem];refine Qbx (kn.e 0 rfl) (by omega) fun cnt H10 hcnt hu=>?_;have kn:=kn.callE 0 rfl hu (R.o_ne _);rw[if_neg (by omega)]at hcnt;obtain⟨cj,rfl⟩:=Js hcnt.1;simp only[go_sem,Q9z];refine Qf (Qd (Qab (fun m e1 H1=>∃(j:Nat) (op:Int) (b:C) (bl:List St) (k9:Nat),m=j∧j≤4∧k2+2≤k9∧k9+j≤k2+6∧b.isOw=false∧(∀(H:Heap) (S:Nat→Bool),FrzC H S b (.sl false 5 (Qk bl)))∧Qi bl+3 * j≤12∧
   Kn H H1 [(R.l,R.o k9)] [(x2,.st [.sl true 3 []]),(x3,.st [.sl false 3 (Qy l)]),(x4,fnO f),(x5,.st [.int .i64 op,.str [],a0C,b,.sl true 5 []])]∧
   e1=[(0,.c (.ptr R.l 0)),(2,.c (.ptr x2 0)),(3,.c (.ptr x3 0)),(4,.c (.ptr x4 0)),(5,.c (.ptr x5 0)),(6,.c (.int .i64 j))]) cj ?_ ?_))
  ·exact⟨cj,6,.sl true 5 [],[],k2+2,by omega,by omega,by omega,by omega,rfl,fun H S=>FrzR.nil.sl,by simp only[Qi];omega,kn,rfl⟩
  ·clear kn g5 h9 h8;rintro m e1 H11 ⟨j,op,b,bl,k9,hm,hj,hk9,hk10,hbo,hbf,hbs,kn,rfl⟩;have g5:=kn.l 3 rfl;have g4:=kn.l 2 rfl;refine Q6 ?_;refine Qa ?_;simp only[go_sem];have hrowf:∀(H:Heap) (S:Nat→Bool),FrzL H S [.int .i64 op,.str [],a0C,b,.sl true 5 []] (St.mk op [] [.mk 1 0 [] []] bl []).cells:=fun H S=>by
    simp only[St.cells_eq,St.op,St.name,St.args,St.body,St.els];exact .cons (Qg rfl) (.cons (Qg rfl) (.cons (Qawi 0 H S) (.cons (hbf H S) (.cons FrzR.nil.sl .nil))))
   refine Qf (Qb rfl (fun hc2=>?_) (fun hc2=>?_))
   ·have hj0:0<j:=(by simpa using hc2);refine Qe ?_;try simp only[go_sem]
    refine Qf (Qd ?_);refine Qel ?_;simp only[go_sem,g5,hbo];refine Qo3 (ns:=[5,6]) (kn.e 0 rfl) (by omega) (by simp) fun w H12 hw hu=>?_;have kn:=kn.callE 0 rfl hu (R.o_ne _);have g5:=kn.l 3 rfl;simp only[go_sem,Q90,g5,hbo];intro H13 h13;have kn:=kn.stL 3 rfl h13;try simp only[go_sem,AE.X.next]
    refine Qq ?_;try simp only[go_sem,AE.X.next]
    refine⟨Q1 (by omega) (by omega),j-1,by omega,j-1,w,.sl true 5 [[.int .i64 op,.str [],a0C,b,.sl true 5 []]],[.mk op [] [.mk 1 0 [] []] bl []],k9+1,rfl,by omega,by omega,by omega,rfl,fun H S=>?_,?_,kn,?_⟩
    ·simp only[Qk];exact (FrzR.cons (hrowf H S) .nil).sl
    ·simp only[Qi,St.size,Qu,Ex.size];omega
    ·have:((j:Int)-1)=((j-1:Nat):Int):=(by omega);rw[this]
   ·refine Q9 ?_;simp only[go_sem,AE.X.next];refine Qel ?_;simp only[go_sem,g5,g4,hbo,Qx];refine⟨.inl trivial,Qas _,by simp only[LIM];omega,fun z hz H12 h12=>?_⟩;have kn:Kn H H12 [(R.l,R.o k9)] ([(x2,.st [.sl true 3 []]),(x3,.st [.sl false 3 (Qy l)]),(x4,fnO f),(x5,.st [.int .i64 op,.str [],a0C,b,.sl true 5 []])]++[(z,.vec 5 ([]++Qk f.body))]):=kn.al hz h12;have g5:=kn.l 3 rfl;have hg0:Gr [(z,.vec 5 ([]++Qk f.body))] 5 (Qk f.body) (.vsl z 5 0 (0+f.body.length)):=Gr.mk z 5 (Qk f.body) (by rw[Qx];omega);generalize C.vsl z 5 0 (0+f.body.length)=cz at hg0⊢;have hczo:=hg0.isOw;simp only[go_sem,Q92,g5,hbo,hczo];have hpr:PR (Qk f.body++[[.int .i64 op,.str [],a0C,b,.sl true 5 []]]) (Qk f.body++Qk [.mk op [] [.mk 1 0 [] []] bl []]):=(PR.sts f.body).app ⟨fun r hr=>by simp only[Jb]at hr;subst hr;simp only[noOw,Jaq,Jau,Q4h,Qym,Qadi,hbo];rfl,fun H S=>by simp only[Qk];exact .cons (hrowf H S) .nil⟩;refine Kn.growR (B:=[_,_,_,_]) (rows:=Qk f.body) kn hg0 (new:=[[.int .i64 op,.str [],a0C,b,.sl true 5 []]]) (.mk' _ true 5 _) (fun r hr=>by simp only[Jb]at hr;subst hr;simp only[noOw,Jaq,Jau,Q4h,Qym,Qadi,hbo];rfl) (by simp only[Qx,Jg,Ji,LIM];omega) fun t Lt H13 hgt hto kn=>?_;have g4:=kn.l 2 rfl;simp only[go_sem,Q91,g4,hto];intro H14 h14;have kn:=kn.stL 2 rfl h14;try simp only[go_sem,AE.X.next]
    have hfz:=hpr.fz hgt;rw[Qmq]at hfz;refine fin f.name f.params (f.body++[.mk op [] [.mk 1 0 [] []] bl []]) _ t [] Lt _ _ k9 fz0 hfz (by simp only[Qbf,Qi,St.size,Qu,Ex.size];omega) (by omega) (by omega) (kn.sub ?_) rfl rfl rfl;exact .cons_cons _ (.cons_cons _ (.cons_cons _ (.cons _ (List.Sublist.refl _))))
 refine Qa ?_;simp only[go_sem];refine Qb rfl (fun hc=>?_) (fun hc=>?_)
 ·have g2:=kn.l 0 rfl;refine Qa ?_;simp only[go_sem,g2];intro H8 h8;have kn:=kn.stL 0 rfl h8;have g2:=kn.l 0 rfl;refine Qh ?_;simp only[go_sem,AE.X.next,Qp,Q8,Qao2,Jb,forall_eq,RS.op,g2];exact⟨_,(FrzL.cons FrzR.nil.sl .nil).ag,hK [] _ (k2+1) (by omega) (by omega) kn.fin ⟨by simp[Qs],by simp⟩⟩
 refine Qa ?_;simp only[go_sem];refine Qb rfl (fun hc=>?_) (fun hc=>?_)
 ·refine Qa ?_;simp only[go_sem];refine Qo3 (ns:=[20,40,41]) (kn.e 0 rfl) (by omega) (by simp) fun cnt H8 hcnt hu=>?_;have kn:=kn.callE 0 rfl hu (R.o_ne _);have hc41:0≤cnt∧cnt≤41:=by
   simp only[Jk,Jaj,or_false]at hcnt;omega
  obtain⟨cj,rfl⟩:=Js hc41.1;simp only[go_sem,Q93];refine Qd (Qab (fun m e1 H1=>∃(j:Nat) (b:C) (rows:List (List C)) (body:List St) (Lb:List (Nat×Obj)),m=j∧j≤41∧PR rows (Qk body)∧(b=.sl false 5 rows∧Lb=[]∨Gr Lb 5 rows b)∧Qi body+3 * j≤Qi f.body+123∧
   Kn H H1 [(R.l,R.o (k2+1+1))] ([(x2,.st [.sl true 3 []]),(x3,.st [.sl false 3 (Qy l)]),(x4,.st [.str f.name,.sl false 1 (Q0 f.params),b])]++Lb)∧
   e1=[(2,.c (.ptr x2 0)),(3,.c (.ptr x3 0)),(4,.c (.ptr x4 0)),(7,.c (.int .i64 j))]) cj ?_ ?_)
  ·exact⟨cj,.sl false 5 (Qk f.body),Qk f.body,f.body,[],rfl,by omega,PR.sts _,.inl ⟨rfl,rfl⟩,by omega,kn,rfl⟩
  ·clear kn g4;rintro m e1 H9 ⟨j,b,rows,body,Lb,hm,hj,hpr,hb,hbs,kn,rfl⟩;have hbo:b.isOw=false:=by
    rcases hb with ⟨rfl,_⟩|hb
    ·rfl
    ·exact hb.isOw
   have hbl:=Qan body;have hrl:=hpr.len;rw[Qx]at hrl;have hsb:Slc H9 5 rows b:=by
    rcases hb with ⟨rfl,_⟩|hb
    ·exact .mk' _ false 5 _
    ·exact Gr.slc2 hb kn
   have hokb:=eq_true hsb.ok;have hszb:=hsb.sz;have hrwb:=hsb.rows;have hlnb:=hsb.len;have g4:=kn.l 2 rfl;refine Q6 ?_;refine Qa ?_;simp only[go_sem];refine Qf (Qb rfl (fun hc2=>?_) (fun hc2=>?_))
   ·have hj0:0<j:=(by simpa using hc2);refine Qe ?_;try simp only[go_sem]
    refine Qf (Qd ?_);refine Qq ?_;simp only[go_sem,g4,hbo,hokb,hszb,hrwb,hlnb];refine⟨.inl trivial,hpr.1,by simp only[LIM];omega,fun z hz H10 h10=>?_⟩;have kn:=kn.al hz h10;have kn:Kn H H10 [(R.l,R.o (k2+1+1))] ([(x2,.st [.sl true 3 []]),(x3,.st [.sl false 3 (Qy l)]),(x4,.st [.str f.name,.sl false 1 (Q0 f.params),b])]++[(z,.vec 5 ([]++rows))]):=kn.sub (by
     rw[Jo];exact List.Sublist.append (List.Sublist.refl _) (List.sublist_append_right _ _))
    have hg0:Gr [(z,.vec 5 ([]++rows))] 5 (rows) (.vsl z 5 0 (0+rows.length)):=Gr.mk z 5 (rows) (by omega);generalize C.vsl z 5 0 (0+rows.length)=cz at hg0⊢;have hczo:=hg0.isOw;simp only[go_sem,Q95,hczo];have hpr2:=hpr.app (Qa8e (op:=3) (nm:=[]) (a:=.sl true 4 [[.int .i64 1,.int .i64 j,.str [],.sl true 4 []]]) (ars:=[.mk 1 j [] []]) rfl fun H S=>Qawi j H S);rw[Qmq]at hpr2;refine Kn.growR (B:=[_,_,_]) (rows:=rows) kn hg0 (new:=[[.int .i64 3,.str [],.sl true 4 [[.int .i64 1,.int .i64 j,.str [],.sl true 4 []]],.sl true 5 [],.sl true 5 []]]) (.mk' _ true 5 _) (by simp[noOw,C.isOw]) (by simp only[Jg,Ji,LIM];omega) fun t Lt H11 hgt hto kn=>?_;have g4:=kn.l 2 rfl;simp only[go_sem,Q94,g4,hto,hbo,hczo];intro H12 h12;have kn:=kn.stL 2 rfl h12;try simp only[go_sem,AE.X.next]
    refine Qq ?_;try simp only[go_sem,AE.X.next]
    refine⟨Q1 (by omega) (by omega),j-1,by omega,j-1,t,_,body++[.mk 3 [] [.mk 1 j [] []] [] []],Lt,rfl,by omega,hpr2,.inr hgt,?_,kn,?_⟩
    ·simp only[Qbf,Qi,St.size,Qu,Ex.size];omega
    ·have:((j:Int)-1)=((j-1:Nat):Int):=(by omega);rw[this]
   ·refine Q9 ?_;simp only[go_sem,AE.X.next];have hfz:Fz Lb b (.sl false 5 (Qk body)):=by
     rcases hb with ⟨rfl,rfl⟩|hb
     ·exact hpr.sl false
     ·exact hpr.fz hb
    exact fin f.name f.params body _ b [] Lb _ _ (k2+1+1) fz0 hfz (by omega) (by omega) (by omega) kn rfl rfl rfl
 refine Qa ?_;simp only[go_sem];refine Qb rfl (fun hc=>?_) (fun hc=>?_)
 ·have g3:=kn.l 1 rfl;have g2:=kn.l 0 rfl;have h0:(0:Nat)<l.length:=hpos;refine Qa1 ?_;simp only[go_sem,g3,h0,Jaz,Qw,Qaf _ _ h0,Fn.take3,Fn.allOw,Fn.cells_len];refine⟨.inl trivial,Qcr _,by simp only[LIM];omega,fun z hz H8 h8=>?_⟩;have kn:Kn H H8 [(R.l,R.o (k2+1))] ([(x2,.st [.sl true 3 []]),(x3,.st [.sl false 3 (Qy l)]),(x4,fnO f)]++[(z,.vec 3 ([]++Qy l))]):=kn.al hz h8;have g3:=kn.l 1 rfl;have hg0:Gr [(z,.vec 3 ([]++Qy l))] 3 (Qy l) (.vsl z 3 0 (0+l.length)):=Gr.mk z 3 (Qy l) (by rw[Qw];omega);generalize C.vsl z 3 0 (0+l.length)=cz at hg0⊢;have hczo:=hg0.isOw;simp only[go_sem,Q97,g3,h0,Jaz,hczo,Qw,Qaf _ _ h0,Fn.take3,Fn.allOw,Fn.cells_len];refine Kn.growR (B:=[_,_,_]) (rows:=Qy l) kn hg0 (new:=[l[0].cells]) (.mk' _ true 3 _) (by simp[Fn.noOw]) (by simp only[Qw,Jg,Ji,LIM];omega) fun t Lt H9 hgt hto kn=>?_;rw[Qyk]at hgt;have g2:=kn.l 0 rfl;simp only[go_sem,Q96,g2,hto,hczo];intro H10 h10;have kn:=kn.stL 0 rfl h10;have g2:=kn.l 0 rfl;refine Qh ?_;simp only[go_sem,AE.X.next,Qp,Q8,Qao2,Jb,forall_eq,RS.op,g2,hto];refine⟨_,(FrzL.cons (hgt.frz (B:=[_,_,_]) kn (Qcr _)) .nil).ag,hK (l++[l[0]]) _ (k2+1) (by omega) (by omega) kn.fin ?_⟩;have:=Qa5 (Jz h0);refine⟨by simp only[Qkt,Qs];omega,fun f' hf'=>?_⟩;have hm:f'∈l:=by
   rcases Je.1 hf' with hf'|hf'
   ·exact hf'
   ·rw[Jb.1 hf'];exact Jz h0
  have:=hpr.par f' hm;omega
 ·refine Qe ?_;try simp only[go_sem,AE.X.next]
  exact fin f.name f.params f.body _ _ [] [] _ _ (k2+1) fz0 fzb (by omega) (by omega) (by omega) kn rfl rfl rfl
end Go.AE.Y
namespace Go.AE.Y
open Go.Proofs.Tryz
def Qanj:List Item:=[sJ 1 3 8]
def Qank:List Item:=eI 3 (.alloc [.sl true 3 []])::Qanj
def Qanl:List Item:=[cJ 11 .gtr 10 2]
def Qa9m:SC:=cT 11 (sR [tJ 12 1 3,sJ 1 2 12] [2] .ret) .skip
def Qanm:List Item:=[cJ 15 .eql 14 0]
def Qann:List Item:=[sJ 1 2 17]
def Qa9n:SC:=cT 15 (sR (mJ 16 0::aJ 17 Qadc [.t 16]::Qann) [2] .ret) .skip
def Qano:List Item:=[sJ 1 3 19]
def Qanp:List Item:=[hJ 21 20,iJ 27 3 21 26,mJ 4 27]
def Qa9o:SC:=cT 33 (sR [tJ 34 1 3,sJ 1 2 34] [2] .ret) .skip
def Qahl:List Item:=[hJ 38 37,iJ 46 5 38 45,mJ 5 46]
def Qahm:List Item:=[sJ 4 6 50]
def Qahn:List Item:=fI 50 (.bld [.int .i64 0,.int .i64 0,.str [],.sl true 4 []] [(0,1,kI 2),(2,1,.t 49)])::eI 6 (.alloc [.int .i64 0,.int .i64 0,.str [],.sl true 4 []])::Qahm
def Qaho:List Item:=[fI 58 (.bld [.int .i64 0,.int .i64 0,.str [],.sl true 4 []] [(0,1,kI 1),(1,1,kI 1)]),fI 59 (.bsl 4 [.t 58]),fI 60 (.bld [.int .i64 0,.int .i64 0,.str [],.sl true 4 []] [(0,1,kI 13),(2,1,.t 57),(3,1,.t 59)]),sJ 4 6 60]
def Qahp:List Item:=[kJ 72 68,fJ 73 1 72,sJ 1 73 71]
def Qa4c:SC:=cT 67 (.reg (mJ 68 5::mJ 69 0::fI 70 (.bsl 1 [.k (.c (.str [97])),.k (.c (.str [98])),.k (.c (.str [122,122])),.k (.c (.str [99])),.k (.c (.str [100]))])::aJ 71 Qbd [.t 69,.t 70]::Qahp) [2,3]) .skip
def Qa4d:SC:=sR [tJ 74 1 3,sJ 1 2 74] [2] .ret
def Qahq:List Item:=[kJ 89 77,fJ 90 2 89,sJ 1 90 88]
def Qahr:List Item:=hJ 81 80::xJ 88 5 81 87::Qahq
def Qa4e:SC:=sR [tJ 91 1 3,sJ 1 2 91] [2] .ret
def Qa4f:SC:=cT 75 (.seq (.dreg 15 [0,1,2,3,4,5,6,7,8,9,10,4,11,12,13,14] ( mJ 77 4::mJ 78 4::kJ 79 78::fJ 80 2 79::lJ 81 80::mJ 82 4::kJ 83 82::fJ 84 2 83::lJ 85 84::fI 86 (.sli 5 (.t 85) none (some (kI 1)))::aJ 87 Qhg [.t 86]::Qahr) [2,3]) Qa4e) .skip
def Qa4g:SC:=cT 61 (.seq (sR [mJ 63 5,kJ 64 63,fJ 65 1 64,lJ 66 65,fI 67 (.bin 0 .neq (.t 66) (.k (.c (.str []))))] [0,2,3,5,67] Qa4c) Qa4d) (sR [cJ 76 .eql 52 2,mJ 75 76] [2,3,4,5,6,75] Qa4f)
def Qa4h:SC:=cT 53 (.reg (mJ 55 0::fI 56 (.bsl 1 [.k (.c (.str [102])),.k (.c (.str [103])),.k (.c (.str [109])),.k (.c (.str [113]))])::aJ 57 Qbd [.t 55,.t 56]::Qaho) [2,3,5,6]) (sR [cJ 62 .eql 52 1,mJ 61 62] [0,2,3,4,5,6,52,61] Qa4g)
def Qa4i:SC:=.block 0 (sR [cJ 54 .eql 52 0,mJ 53 54] [0,2,3,4,5,6,52,53] Qa4h)
def Qa4j:SC:=cT 96 (.dreg 7 [0,1,2,3,4,5,6] ( mJ 97 5::kJ 98 97::fJ 99 2 98::lJ 100 99::tJ 101 4 6::fI 102 (.iad 4 (.t 100) (kI 0))::sJ 4 102 101::[]) [2,3]) .skip
def Qa4k:SC:=sR [tJ 103 1 3,sJ 1 2 103] [2] .ret
def Qani:SC:=.seq (.seq (.seq .gh (.reg [mJ 92 5,kJ 93 92,fJ 94 0 93,lJ 95 94,cJ 96 .neq 95 8] [2,3,5,6,96])) Qa4j) Qa4k
def Qa4l:SC:=.seq (sR [mJ 51 0,aJ 52 Qz [.t 51,kI 4]] [0,2,3,4,5,6,52] Qa4i) Qani
def Qa4m:SC:=sR (mJ 47 0::fI 48 (.bsl 1 [.k (.c (.str [122,122])),.k (.c (.str [97])),.k (.c (.str [98])),.k (.c (.str [99])),.k (.c (.str [100]))])::aJ 49 Qbd [.t 47,.t 48]::Qahn) [0,2,3,4,5,6] Qa4l
def Qa4n:SC:=.seq (.dreg 13 [0,1,2,3,4,5,6,7,8,9,10,3,11,12] ( mJ 35 4::kJ 36 35::fJ 37 2 36::lJ 38 37::mJ 39 0::mJ 40 4::kJ 41 40::fJ 42 2 41::lJ 43 42::nJ 44 43::aJ 45 Qz [.t 39,.t 44]::Qahl) [0,2,3,4,5]) Qa4m
def Qa4o:SC:=.seq (sR [mJ 28 4,kJ 29 28,fJ 30 2 29,lJ 31 30,nJ 32 31,cJ 33 .eql 32 0] [0,2,3,4,33] Qa9o) Qa4n
def Qa4p:SC:=.seq (.dreg 9 [0,1,2,3,4,5,6,1,7,8] ( fJ 20 0 3::lJ 21 20::mJ 22 0::fJ 23 0 3::lJ 24 23::nJ 25 24::aJ 26 Qz [.t 22,.t 25]::Qanp) [0,2,3,4]) Qa4o
def Qa4q:SC:=sR (tJ 18 1 3::aJ 19 Qadd [.t 18]::Qano) [0,2,3] Qa4p
def Qa4r:SC:=.seq (sR (mJ 13 0::aJ 14 Qz [.t 13,kI 6]::Qanm) [0,2,3,15] Qa9n) Qa4q
def Qa4s:SC:=.seq (sR (mJ 9 0::aJ 10 Qz [.t 9,kI 5]::Qanl) [0,2,3,11] Qa9m) Qa4r
def Qa4t:SC:=sR (mJ 7 0::aJ 8 Qug [.t 7]::Qank) [0,2,3] Qa4s
def Qbhy:SC:=sR [eI 2 (.alloc [.sl true 3 []])] [0,2] Qa4t
theorem Qbhf:mFn prog Qadf 1 104 Qbhy Qao2=true:=by kernel_rfl
end Go.AE.Y
namespace Go.AE
variable {H0 H H':Heap}{E L:List (Nat×Obj)}
theorem Kn.neM (kn:Kn H0 H E L){a b:Nat}{oa ob:Obj}(h1:(a,oa)∈L)(h2:(b,ob)∈L)(h:oa≠ob):a≠b:=fun e=>by
 subst e;exact h ((kn.get _ (Ja _ h1)).1.symm.trans (kn.get _ (Ja _ h2)).1)
theorem Kn.upd1 (kn:Kn H0 H E L){x:Nat}{o o':Obj}(hm:(x,o)∈L)(h1:H'=H.set x o')(ho:o'≠.none:=by nofun):∃L',Kn H0 H' E L'∧(x,o')∈L'∧∀p∈L,p.1≠x→p∈L':=by
 obtain⟨i,hi⟩:=Jam hm;refine⟨L.set i (x,o'),kn.stL i hi h1 ho,?_,fun p hp hne=>?_⟩
 ·have hlt:=(List.getElem?_eq_some_iff.1 hi).1;exact List.mem_iff_getElem?.2 ⟨i,by rw[Jat];simp[hlt]⟩
 ·obtain⟨j,hj⟩:=Jam hp;refine List.mem_iff_getElem?.2 ⟨j,?_⟩;rw[Jat];have:i≠j:=fun e=>by
   subst e;rw[hi]at hj;exact hne (by rw[←Ja2 hj])
  rw[if_neg this];exact hj
theorem Kn.stMid {P A B Q:List (Nat×Obj)}{x:Nat}{o o':Obj}(kn:Kn H0 H E ((P++(A++(x,o)::B))++Q))(h1:H'=H.set x o')(ho:o'≠.none:=by nofun):Kn H0 H' E ((P++(A++(x,o')::B))++Q):=by
 have e:∀o,(P++(A++(x,o)::B))++Q=(P++A)++(x,o)::(B++Q):=fun o=>by simp
 rw[e]at kn⊢;exact kn.stM h1 ho
theorem Kn.lastM {A B:List (Nat×Obj)}{x:Nat×Obj}(kn:Kn H0 H E (A++x::B)):Kn H0 H E ((A++B)++[x]):=
 kn.perm (List.perm_middle.trans (List.perm_append_singleton x (A++B)).symm)
theorem Kn.getL (kn:Kn H0 H E L){x:Nat}{o:Obj}(hm:(x,o)∈L):H x=o:=(kn.get _ (Ja _ hm)).1
end Go.AE
namespace Go.AE.Y
attribute [local go_sem] cond_true cond_false Bool.not_true Bool.not_false
open Go.Proofs.Tryz
variable {H H0 F:Heap}{K:V→Heap→Prop}{E B Lg:List (Nat×Obj)}
theorem Gr.vec {sz:Nat}{rows:List (List C)}{c:C}(h:Gr Lg sz rows c):∀p∈Lg,∃z r,p.2=Obj.vec z r:=by
 rcases h with ⟨_,_,rfl⟩|⟨y,_,rfl⟩
 ·simp
 ·intro p hp;simp only[Jb]at hp;subst hp;exact⟨_,_,rfl⟩
theorem OFn.vec {u:OFn}(h:u.ok):∀p∈u.lg,∃z r,p.2=Obj.vec z r:=by
 intro p hp;rcases Je.1 hp with hp|hp
 ·exact Gr.vec h.p p hp
 ·rcases Je.1 hp with hp|hp
  ·obtain⟨o,ho,hp⟩:=Jn.1 hp;exact Gr.vec (h.o o ho) p hp
  ·exact Gr.vec h.b p hp
theorem Qa6n {α:Type}{l:List α}{i:Nat}(h:i<l.length)(d:α):l.getD i d=l[i]:=by simp[Jy,h]
theorem Qac3:∀(l:List Ex) (i:Nat) (x:Ex),Qu (l.set i x)≤Qu l+x.size
 |[],i,x=>by simp[Qu]
 |y::r,0,x=>by simp only[Jar,Qu];omega
 |y::r,i+1,x=>by have:=Qac3 r i x;simp only[Jae,Qu];omega
def obU (z:Nat)(us:List OFn):List (Nat×Obj):=us.flatMap OFn.lg++[(z,.vec 3 (us.map OFn.row))]
theorem Qbhl {z:Nat}{us:List OFn}(h:∀u∈us,u.ok):∀p∈obU z us,∃s r,p.2=Obj.vec s r:=by
 intro p hp;rcases Je.1 hp with hp|hp
 ·obtain⟨u,hu,hp⟩:=Jn.1 hp;exact OFn.vec (h u hu) p hp
 ·simp only[Jb]at hp;subst hp;exact⟨_,_,rfl⟩
theorem Qau8 {α:Type}{l:List α}{i:Nat}(h:i<l.length){a:α}(ha:l[i]=a):∃l1 l2,l=l1++a::l2∧l1.length=i:=by
 refine⟨l.take i,l.drop (i+1),?_,by rw[Jaa];omega⟩;rw[←ha,List.getElem_cons_drop,List.take_append_drop]
theorem Qbak {α:Type}(l1 l2:List α)(a b:α){i:Nat}(hi:l1.length=i):(l1++a::l2).set i b=l1++b::l2:=by
 subst hi;simp
theorem Qad6 (z:Nat)(us1 us2:List OFn)(u:OFn):obU z (us1++u::us2)=us1.flatMap OFn.lg++(u.lg++(us2.flatMap OFn.lg++[(z,.vec 3 (us1.map OFn.row++u.row::us2.map OFn.row))])):=by
 simp[obU]
theorem Qa7d (u:OFn)(o1 o2:List OSt)(o:OSt)(h:u.os=o1++o::o2):u.lg=u.pl++(o1.flatMap OSt.al++(o.al++(o2.flatMap OSt.al++u.bl))):=by
 simp[OFn.lg,h]
theorem Qa69 {R:Rdr}{k:Nat}(hH:H R.l=R.o k)(hk:k+15000000≤2^30)
  (hK:∀(l:List Fn) (H':Heap) (k':Nat),k<k'→k'≤k+15000000→Upd H H' [(R.l,R.o k')]→PS l→K (.ag [.sl false 3 (Qy l)]) H') :
  Ql prog Qadf [.c (.ptr R.l 0)] H K:=by
 refine Q5 ?_;refine Qc Qal Qbhf ?_;refine Qa ?_;simp only[go_sem];intro x2 hx2 H1 h1;have kn:=(Kn.start1 hH (R.o_ne k)).al hx2 h1;refine Qa ?_;simp only[go_sem];refine Qaoi (kn.e 0 rfl) (by omega) fun l H2 k2 g1 g2 hu hpr=>?_;have kn:=kn.callE 0 rfl hu (R.o_ne _);have hpos:=hpr.pos;have hl4:=hpr.len;have hsz:=hpr.size;simp only[go_sem,Qank];intro x3 hx3 H3 h3;have kn:=kn.al hx3 h3;have g3:=kn.l 1 rfl;simp only[go_sem,Qanj,g3];intro H4 h4;have kn:=kn.stL 1 rfl h4;refine Q6 ?_;refine Qa ?_;simp only[go_sem];refine Qbx (kn.e 0 rfl) (by omega) fun v H5 hv hu=>?_;have kn:=kn.callE 0 rfl hu (R.o_ne _);have g3:=kn.l 1 rfl;have g2':=kn.l 0 rfl;simp only[go_sem,Qanl];refine Qf (Qb rfl (fun hc=>?_) (fun hc=>?_))
 ·refine Qa ?_;simp only[go_sem,g3,g2'];intro H6 h6;have kn:=kn.stL 0 rfl h6;have g2':=kn.l 0 rfl;refine Qh ?_;simp only[go_sem,AE.X.next,Qp,Q8,Qao2,Jb,forall_eq,RS.op,g2'];exact⟨_,(FrzL.cons (FrzR.same (Qcr _)).sl .nil).ag,hK l _ (k2+1) (by omega) (by omega) kn.fin ⟨by omega,fun f hf=>by have:=hpr.par f hf;omega⟩⟩
 refine Qe ?_;try simp only[go_sem]
 refine Q6 ?_;refine Qa ?_;simp only[go_sem];refine Qbx (kn.e 0 rfl) (by omega) fun v2 H6 hv2 hu=>?_;have kn:=kn.callE 0 rfl hu (R.o_ne _);simp only[go_sem,Qanm];refine Qf (Qb rfl (fun hc=>?_) (fun hc=>?_))
 ·refine Qa ?_;simp only[go_sem];refine Qa66 (kn.e 0 rfl) (by omega) fun l2 H7 k7 b1 b2 hu hs2=>?_;have kn:=kn.callE 0 rfl hu (R.o_ne _);have g2':=kn.l 0 rfl;simp only[go_sem,Qann,g2'];intro H8 h8;have kn:=kn.stL 0 rfl h8;have g2':=kn.l 0 rfl;refine Qh ?_;simp only[go_sem,AE.X.next,Qp,Q8,Qao2,Jb,forall_eq,RS.op,g2'];exact⟨_,(FrzL.cons (FrzR.same (Qcr _)).sl .nil).ag,hK l2 _ k7 (by omega) (by omega) kn.fin hs2⟩
 refine Qe ?_;try simp only[go_sem]
 have g3:=kn.l 1 rfl;refine Qa ?_;simp only[go_sem,g3];refine Qa68 (l:=l) rfl (.mk' _ false 3 _) (by omega) (fun f hf=>by have:=hpr.par f hf;omega) fun us t Lz H7 hux huo hz hto k2n=>?_;have hul:us.length=l.length:=by rw[←hux,Jd]
 obtain⟨z,rfl,rfl⟩:∃z,t=.vsl z 3 0 us.length∧Lz=[(z,.vec 3 (us.map OFn.row))]:=by
  rcases hz with ⟨_,h,_⟩|⟨y,h1,h2⟩
  ·have:=congrArg List.length h;rw[Jd,Ji]at this;omega
  ·exact⟨y,by rw[h1,Jd],h2⟩
 have kn:=kn.addNew k2n;have g3:=kn.l 1 rfl;simp only[go_sem,Qano,g3];intro H8 h8;have kn:Kn H H8 [(R.l,R.o (k2+1+1))] ([(x2,.st [.sl true 3 []]),(x3,.st [.vsl z 3 0 us.length])]++obU z us):=kn.stL 1 rfl h8;have fin:∀(us':List OFn) (L8:List (Nat×Obj)) (H8 H9:Heap) (k8:Nat),(∀u∈us',u.ok)→us'.length=us.length→PS (us'.map OFn.f)→(k<k8∧k8≤k+15000000)→Kn H H8 [(R.l,R.o k8)] L8→(x2,.st [.sl true 3 []])∈L8→(∀p∈obU z us',p∈L8)→H9=H8.set x2 (.st [.vsl z 3 0 us.length])→
   Qp Qao2 (unK H K) .ret [(2,.c (.ptr x2 0))] H9:=by
  intro us' L8 H8 H9 k8 hu' hl' hs' hkk kn hm2 hmem h9;obtain⟨L9,kn9,hx29,hoth⟩:=kn.upd1 hm2 h9;have g2:=kn9.getL hx29;simp only[go_sem,Qp,Q8,Qao2,Jb,forall_eq,RS.op,g2];have hin:∀p∈obU z us',p∈L9:=fun p hp=>hoth p (hmem p hp) fun e=>by
   obtain⟨s,r,he⟩:=Qbhl hu' p hp;obtain⟨p1,p2⟩:=p;simp only at he e;exact kn.neM (hmem _ hp) hm2 (by rw[he];nofun) e
  have hf:=Qbda (H:=H9) (S:=un H) hu' (Gr.mk (n:=us.length) z 3 (us'.map OFn.row) (by rw[Jd];omega)) fun p hp=>⟨(kn9.get p (Ja _ (hin p hp))).1,Qyc (kn9.loc p (hin p hp))⟩;exact⟨_,(FrzL.cons hf .nil).ag,hK _ _ k8 hkk.1 hkk.2 kn9.fin hs'⟩
 have gz:H8 z=.vec 3 (us.map OFn.row):=kn.getL (by simp[obU]);have g3:=kn.l 1 rfl;refine Qa1 ?_;simp only[go_sem,g3,gz,Jd,Jp,Jf];try intro _
 refine Qbx (kn.e 0 rfl) (by omega) fun iv H9 hiv hu=>?_;have kn:Kn H H9 [(R.l,R.o (k2+1+1+1))] ([(x2,.st [.sl true 3 []]),(x3,.st [.vsl z 3 0 us.length])]++obU z us):=kn.callE 0 rfl hu (R.o_ne _);rw[if_neg (by omega)]at hiv;obtain⟨i,rfl⟩:=Js hiv.1;have hi:i<us.length:=by omega
 have gz:H9 z=.vec 3 (us.map OFn.row):=kn.getL (by simp[obU]);have g3:=kn.l 1 rfl;have htk:(us.map OFn.row).take us.length=us.map OFn.row:=J8 (by rw[Jd];exact Jf _);obtain⟨u,hue⟩:∃u,us[i]=u:=⟨_,rfl⟩;have hum:u∈us:=by rw[←hue];exact Jz hi
 have hur:=huo u hum;have hpo:=hur.p.isOw;have hbo:=hur.b.isOw;have hrow:(us.map OFn.row).getD i []=[.str u.f.name,u.pc,u.bc]:=by rw[Qa6n (by rw[Jd];exact hi),J9,hue];rfl
 simp only[go_sem,Qanp,g3,gz,hi,Jd,Jp,Jf];have hsb:Slc H9 5 (u.os.map OSt.row) u.bc:=by
  have hm:∀p∈u.bl,H9 p.1=p.2:=fun p hp=>kn.getL (Ja _ (Jc _ (Jn.2 ⟨u,hum,Ja _ (Ja _ hp)⟩)));have hb:=hur.b;refine⟨?_,hb.elemSz,?_,hb.lenC⟩
  ·rcases hb with ⟨h1,h2,h3⟩|⟨y,h1,h2⟩
   ·rw[h1];trivial
   ·have:=hm (y,.vec 5 (u.os.map OSt.row)) (by rw[h2];simp);rw[h1];simp only[okSl];simp only[this];simp
  ·rcases hb with ⟨h1,h2,h3⟩|⟨y,h1,h2⟩
   ·rw[h1,h2];rfl
   ·have:=hm (y,.vec 5 (u.os.map OSt.row)) (by rw[h2];simp);rw[h1];simp only[rowsOf];simp only[this,List.drop_zero,Jax]
 have hokb:=eq_true hsb.ok;have hlnb:=hsb.len;rw[Jd]at hlnb;refine Q6 ?_;refine Qa ?_;simp only[go_sem,gz,hi,htk,hrow,hpo,hbo,hokb,hlnb,Jd,Jp,Jf];try intro hlim
 have hsz1:∀us':List OFn,us'.map OFn.f=l→PS (us'.map OFn.f):=fun us' h=>by
  rw[h];exact⟨by omega,fun f hf=>by have:=hpr.par f hf;omega⟩
 refine Qf (Qb rfl (fun hc=>?_) (fun hc=>?_))
 ·have g2:=kn.l 0 rfl;refine Qa ?_;simp only[go_sem,g3,g2];intro H10 h10;refine Qh ?_;try simp only[go_sem,AE.X.next]
  exact fin us _ _ _ (k2+1+1+1) huo rfl (hsz1 us hux) (by omega) kn (by simp) (fun p hp=>Ja _ hp) h10
 have hone:0<u.os.length:=by
  have h:¬((u.os.length:Int)=0):=by simpa using hc
  omega
 obtain⟨y,hbc,hbl⟩:∃y,u.bc=.vsl y 5 0 u.os.length∧u.bl=[(y,.vec 5 (u.os.map OSt.row))]:=by
  rcases hur.b with ⟨_,h,_⟩|⟨y,h1,h2⟩
  ·have:=congrArg List.length h;rw[Jd,Ji]at this;omega
  ·exact⟨y,by rw[h1,Jd],h2⟩
 have hym:(y,Obj.vec 5 (u.os.map OSt.row))∈obU z us:=Jc _ (Jn.2 ⟨u,hum,Ja _ (Ja _ (by rw[hbl];simp))⟩);have hrowb:=hrow;rw[hbc]at hrow;refine Qe ?_;try simp only[go_sem]
 have gy:H9 y=.vec 5 (u.os.map OSt.row):=kn.getL (Ja _ hym);refine Qa1 ?_;simp only[go_sem,gz,gy,hi,htk,hrow,hpo,Jd,Jp,Jf];try intro _
 refine Qbx (kn.e 0 rfl) (by omega) fun jv H10 hjv hu=>?_;have kn:Kn H H10 [(R.l,R.o (k2+1+1+1+1))] ([(x2,.st [.sl true 3 []]),(x3,.st [.vsl z 3 0 us.length])]++obU z us):=kn.callE 0 rfl hu (R.o_ne _);rw[if_neg (by omega)]at hjv;obtain⟨j,rfl⟩:=Js hjv.1;have hj:j<u.os.length:=by omega
 have gz:H10 z=.vec 3 (us.map OFn.row):=kn.getL (by simp[obU]);have gy:H10 y=.vec 5 (u.os.map OSt.row):=kn.getL (Ja _ hym);have htky:(u.os.map OSt.row).take u.os.length=u.os.map OSt.row:=J8 (by rw[Jd];exact Jf _);obtain⟨o,hoe⟩:∃o,u.os[j]=o:=⟨_,rfl⟩;have hom:o∈u.os:=by rw[←hoe];exact Jz hj
 have hook:=hur.o o hom;have hao:=Gr.isOw hook;have horow:(u.os.map OSt.row).getD j []=[.int .i64 o.x.op,.str o.x.name,o.ac,.sl false 5 (Qk o.x.body),.sl false 5 (Qk o.x.els)]:=by rw[Qa6n (by rw[Jd];exact hj),J9,hoe];rfl
 simp only[go_sem,Qahl,gz,gy,hi,hj,htk,hrow,hpo,Jd,Jp,Jf];refine Qa ?_;simp only[go_sem];refine of_c (ss:=[[122,122],[97],[98],[99],[100]]) (kn.e 0 rfl) (by omega) (by simp) fun w H11 hw hu=>?_;have kn:Kn H H11 [(R.l,R.o (k2+1+1+1+1+1))] ([(x2,.st [.sl true 3 []]),(x3,.st [.vsl z 3 0 us.length])]++obU z us):=kn.callE 0 rfl hu (R.o_ne _);simp only[go_sem,Qahn];intro x6 hx6 H12 h12;have kn:=kn.al hx6 h12;have g6:H12 x6=.st [.int .i64 0,.int .i64 0,.str [],.sl true 4 []]:=kn.getL (by simp);simp only[go_sem,Qahm,g6];intro H13 h13;have kn:Kn H H13 [(R.l,R.o (k2+1+1+1+1+1))] (([(x2,.st [.sl true 3 []]),(x3,.st [.vsl z 3 0 us.length])]++obU z us)++(x6,.st [.int .i64 2,.int .i64 0,.str w,.sl true 4 []])::[]):=by
  refine Kn.stM (A:=[(x2,.st [.sl true 3 []]),(x3,.st [.vsl z 3 0 us.length])]++obU z us) kn h13
 refine Q6 ?_;refine Qa ?_;simp only[go_sem];refine Qbx (kn.e 0 rfl) (by omega) fun q H14 hq hu=>?_;have kn:Kn H H14 [(R.l,R.o (k2+1+1+1+1+1+1))] (([(x2,.st [.sl true 3 []]),(x3,.st [.vsl z 3 0 us.length])]++obU z us)++(x6,.st [.int .i64 2,.int .i64 0,.str w,.sl true 4 []])::[]):=kn.callE 0 rfl hu (R.o_ne _);simp only[go_sem];have hfl:∀f':Fn,Qs ((us.map OFn.f).set i f')≤2^34+Qi f'.body:=fun f'=>by
  have:=Quo (us.map OFn.f) i f';rw[hux]at this⊢;omega
 have hub:Qi u.f.body≤2^34:=by
  have:u.f∈l:=by rw[←hux];exact J5 hum
  have:=Qa5 this;omega
 have hobs:o.x.size≤Qi u.f.body:=by
  have:o.x∈u.f.body:=by rw[←hur.x];exact J5 hom
  exact Qa3 this
 obtain⟨us1,us2,hus,hi1⟩:=Qau8 hi hue;obtain⟨o1,o2,hos,hj1⟩:=Qau8 hj hoe;have hP:Qs (us1.map OFn.f)+Qi u.f.body+Qs (us2.map OFn.f)≤2^34:=by
  have h1:l=us1.map OFn.f++u.f::us2.map OFn.f:=by rw[←hux,hus];simp
  rw[h1,Qkt]at hsz;simp only[Qs]at hsz;omega
 have hSz:Qi (o1.map OSt.x)+o.x.size+Qi (o2.map OSt.x)=Qi u.f.body:=by
  have h1:u.f.body=o1.map OSt.x++o.x::o2.map OSt.x:=by rw[←hur.x,hos];simp
  rw[h1,Qbf];simp only[Qi];omega
 have hok':∀u':OFn,u'.ok→∀v∈us1++u'::us2,v.ok:=by
  intro u' hu' v hv;rcases Je.1 hv with hv|hv
  ·exact huo v (by rw[hus];exact Jc _ hv)
  ·rcases Jk.1 hv with rfl|hv
   ·exact hu'
   ·exact huo v (by rw[hus];exact Ja _ (Jl _ hv))
 have hlen':∀u':OFn,(us1++u'::us2).length=us.length:=fun u'=>by rw[hus];simp
 have hps':∀u':OFn,u'.f.params=u.f.params→Qi u'.f.body≤2^35→PS ((us1++u'::us2).map OFn.f):=fun u' hpp h=>by
  refine⟨by
   rw[Jr,Jj,Qkt];simp only[Qs];omega,fun f hf=>?_⟩
  have h1:l=us1.map OFn.f++u.f::us2.map OFn.f:=by rw[←hux,hus];simp
  rw[Jr,Jj]at hf;rcases Je.1 hf with hf|hf
  ·have:=hpr.par f (by rw[h1];exact Jc _ hf);omega
  ·rcases Jk.1 hf with rfl|hf
   ·rw[hpp];have:=hpr.par u.f (by rw[h1];exact Ja _ J1);omega
   ·have:=hpr.par f (by rw[h1];exact Ja _ (Jl _ hf));omega
 have hoo:∀v∈o1++o2,v.ok:=fun v hv=>hur.o v (by
  rw[hos];rcases Je.1 hv with hv|hv
  ·exact Jc _ hv
  ·exact Ja _ (Jl _ hv))
 have hargs:0<o.x.args.length:=by
  have h1:o.x∈u.f.body:=by rw[←hur.x];exact J5 hom
  have h2:u.f∈l:=by rw[←hux];exact J5 hum
  have:=Qbaw (hpr.ok _ h2) _ h1;rw[St.ok_eq]at this;exact this.1
 have last:∀(op n:Int) (nm:List UInt8) (ks:C) (kk:List Ex) (H14:Heap) (e14:Env) (k14:Nat),(k<k14∧k14≤k+15000000)→Kn H H14 [(R.l,R.o k14)] (([(x2,.st [.sl true 3 []]),(x3,.st [.vsl z 3 0 us.length])]++obU z us)++(x6,.st [.int .i64 op,.int .i64 n,.str nm,ks])::[])→ks.isOw=false→
   (∀(H:Heap) (S:Nat→Bool),FrzC H S ks (.sl false 4 (Qt kk)))→Qu kk≤10→
   lk 2 e14=.c (.ptr x2 0)→lk 3 e14=.c (.ptr x3 0)→lk 5 e14=.c (.ep (.vsl y 5 0 u.os.length) 5 j 0)→lk 6 e14=.c (.ptr x6 0)→Q3 prog Qani (Qp Qao2 (unK H K)) e14 H14:=by
  intro op n nm ks kk H14 e14 k14 hk14 kn hko hkf hks f2 f3 f5 f6;have g6:H14 x6=.st [.int .i64 op,.int .i64 n,.str nm,ks]:=kn.getM;have kz:=Kn.frzN (Lg:=[]) (B:=([(x2,.st [.sl true 3 []]),(x3,.st [.vsl z 3 0 us.length])]++obU z us)++(x6,.st [.int .i64 op,.int .i64 n,.str nm,ks])::[]) (by rw[Jt];exact kn);have kz:=kz.stM (o':=.st [.int .i64 op,.int .i64 n,.str nm,.sl false 4 (Qt kk)]) rfl;have hfz:=(Qqi H14 (fun m=>(([]:List (Nat×Obj)).map Prod.fst).contains m)).set (l:=x6) (o:=.st [.int .i64 op,.int .i64 n,.str nm,.sl false 4 (Qt kk)]) rfl (by
   rw[g6];exact FrzKL.st (.same (.same (.same (.cons hko (hkf _ _) .nil)))))
  obtain⟨H15,hH15⟩:∃H15,((H14.frz (fun m=>(([]:List (Nat×Obj)).map Prod.fst).contains m)).set x6 (.st [.int .i64 op,.int .i64 n,.str nm,.sl false 4 (Qt kk)]))=H15:=⟨_,rfl⟩;rw[hH15]at kz hfz;refine Q6 ?_;refine Q6 ?_;refine c_gh (Qoz _ (Qa0a ?_) hfz) (e':=[(2,.c (.ptr x2 0)),(3,.c (.ptr x3 0)),(5,.c (.ep (.vsl y 5 0 u.os.length) 5 j 0)),(6,.c (.ptr x6 0))]) ?_
  ·intro p hp;simp only[Jk,Jaj,or_false]at hp;rcases hp with rfl|rfl|rfl|rfl
   ·simp only[f2];exact .c _ _ (.same _ rfl)
   ·simp only[f3];exact .c _ _ (.same _ rfl)
   ·simp only[f5];exact .c _ _ (.same _ rfl)
   ·simp only[f6];exact .c _ _ (.same _ rfl)
  have gy:H15 y=.vec 5 (u.os.map OSt.row):=kz.getL (Jc _ (Ja _ hym));have g6:H15 x6=.st [.int .i64 op,.int .i64 n,.str nm,.sl false 4 (Qt kk)]:=kz.getM;have g2:=kz.l 0 rfl;have g3:=kz.l 1 rfl;refine Qa ?_;simp only[go_sem,gy,hj,htky,horow,hao,Jd,Jp,Jf];refine Qf (Qb rfl (fun hc=>?_) (fun hc=>?_))
  ·obtain⟨ya,hac,hal⟩:∃ya,o.ac=.vsl ya 4 0 o.x.args.length∧o.al=[(ya,.vec 4 (Qt o.x.args))]:=by
    rcases (show Gr o.al 4 (Qt o.x.args) o.ac from hook)with ⟨_,h,_⟩|⟨y,h1,h2⟩
    ·have:=congrArg List.length h;rw[Qj,Ji]at this;omega
    ·exact⟨y,by rw[h1,Qj],h2⟩
   have hA:obU z us=(us1.flatMap OFn.lg++(u.pl++o1.flatMap OSt.al))++(ya,.vec 4 (Qt o.x.args))::((o2.flatMap OSt.al++u.bl)++(us2.flatMap OFn.lg++[(z,.vec 3 (us1.map OFn.row++u.row::us2.map OFn.row))])):=by
    conv=>lhs;rw[hus]
    rw[Qad6,Qa7d u o1 o2 o hos,hal];simp only[Jo,Jm,Jw]
   have gya:H15 ya=.vec 4 (Qt o.x.args):=kz.getL (Jc _ (Ja _ (by rw[hA];simp)));have hg0:=Qr o.x.args 0 hargs;rw[Ex.cells_eq]at hg0;rw[hac]at horow;refine Qel ?_;simp only[go_sem,gy,g6,gya,hj,htky,horow,hac,hargs,hg0,Qj,Jd,Jaz,Jp,Jf];intro H16 h16;try simp only[go_sem,AE.X.next]
   obtain⟨x',hx'⟩:∃x':St,x'=.mk o.x.op o.x.name (o.x.args.set 0 (.mk op n nm kk)) o.x.body o.x.els:=⟨_,rfl⟩;obtain⟨o',ho'⟩:∃o':OSt,o'=⟨x',o.ac,[(ya,.vec 4 (Qt x'.args))]⟩:=⟨_,rfl⟩;obtain⟨u',hu'⟩:∃u':OFn,u'=⟨⟨u.f.name,u.f.params,o1.map OSt.x++x'::o2.map OSt.x⟩,u.pc,u.pl,o1++o'::o2,u.bc,u.bl⟩:=⟨_,rfl⟩;have hxs:Qt x'.args=(Qt o.x.args).set 0 [.int .i64 op,.int .i64 n,.str nm,.sl false 4 (Qt kk)]:=by
    rw[hx'];simp only[St.args,Qt8,Jad,Ex.cells_eq,Ex.op,Ex.n,Ex.name,Ex.kids]
   have hrow':o'.row=o.row:=by rw[ho',hx'];rfl
   have hok0:o'.ok:=by
    rw[ho'];show Gr _ 4 (Qt x'.args) o.ac;rw[hac];exact Gr.mk (n:=o.x.args.length) ya 4 (Qt x'.args) (by rw[hxs,Jak,Qj])
   have huok:u'.ok:=by
    rw[hu'];refine⟨hur.p,fun v hv=>?_,?_,by rw[Jr,Jj,ho']⟩
    ·rcases Je.1 hv with hv|hv
     ·exact hoo v (Jc _ hv)
     ·rcases Jk.1 hv with rfl|hv
      ·exact hok0
      ·exact hoo v (Ja _ hv)
    ·have hb:=hur.b;rw[hos]at hb;show Gr u.bl 5 ((o1++o'::o2).map OSt.row) u.bc;rw[Jr,Jj,hrow'];rw[Jr,Jj]at hb;exact hb
   have hA2:obU z (us1++u'::us2)=(us1.flatMap OFn.lg++(u.pl++o1.flatMap OSt.al))++(ya,.vec 4 (Qt x'.args))::((o2.flatMap OSt.al++u.bl)++(us2.flatMap OFn.lg++[(z,.vec 3 (us1.map OFn.row++u.row::us2.map OFn.row))])):=by
    rw[Qad6,Qa7d u' o1 o2 o' (by rw[hu']),ho',hu'];simp only[Jo,Jm,Jw,OFn.row]
   have kz2:Kn H H16 [(R.l,R.o k14)] (([(x2,.st [.sl true 3 []]),(x3,.st [.vsl z 3 0 us.length])]++obU z (us1++u'::us2))++(x6,.st [.int .i64 op,.int .i64 n,.str nm,.sl false 4 (Qt kk)])::[]):=by
    rw[hA2,hxs];rw[hA]at kz;exact kz.stMid h16
   have g2:=kz2.l 0 rfl;have g3:=kz2.l 1 rfl;refine Qa ?_;simp only[go_sem,g2,g3];intro H17 h17;refine Qh ?_;refine fin (us1++u'::us2) _ _ _ k14 (hok' u' huok) (hlen' u') (hps' u' (by rw[hu']) ?_) hk14 kz2 (by simp) (fun p hp=>Jc _ (Ja _ hp)) h17;have he:=Qac3 o.x.args 0 (.mk op n nm kk);have hse:=o.x.size_eq;rw[hu'];simp only[Qbf,Qi];rw[hx'];simp only[St.size,Ex.size]at he⊢;omega
  ·refine Qe ?_;try simp only[go_sem,AE.X.next]
   refine Qa ?_;simp only[go_sem,g2,g3];intro H17 h17;refine Qh ?_;exact fin us _ _ _ k14 huo rfl (hsz1 us hux) hk14 kz (by simp) (fun p hp=>Jc _ (Ja _ hp)) h17
 have gz:H14 z=.vec 3 (us.map OFn.row):=kn.getL (by simp[obU]);have gy:H14 y=.vec 5 (u.os.map OSt.row):=kn.getL (Jc _ (Ja _ hym));have g2:=kn.l 0 rfl;have g3:=kn.l 1 rfl;refine Qf (Qd ?_);refine Qa ?_;simp only[go_sem];refine Qb rfl (fun hc0=>?_) (fun hc0=>?_)
 ·refine Qq ?_;simp only[go_sem];refine of_c (ss:=[[102],[103],[109],[113]]) (kn.e 0 rfl) (by omega) (by simp) fun w2 H15 hw2 hu=>?_;have kn:Kn H H15 [(R.l,R.o (k2+1+1+1+1+1+1+1))] (([(x2,.st [.sl true 3 []]),(x3,.st [.vsl z 3 0 us.length])]++obU z us)++(x6,.st [.int .i64 2,.int .i64 0,.str w,.sl true 4 []])::[]):=kn.callE 0 rfl hu (R.o_ne _);have g6:H15 x6=.st [.int .i64 2,.int .i64 0,.str w,.sl true 4 []]:=kn.getM;simp only[go_sem,Qaho,g6];intro H16 h16;have kn:=kn.stM h16;try simp only[go_sem,AE.X.next]
  exact last 13 0 w2 _ [.mk 1 1 [] []] _ _ _ (by omega) kn rfl (Qawi 1) (by simp[Qu,Ex.size]) rfl rfl rfl rfl
 refine Qa ?_;simp only[go_sem];refine Qb rfl (fun hc1=>?_) (fun hc1=>?_)
 ·refine Q6 ?_;refine Qa ?_;simp only[go_sem,gy,hj,htky,horow,hao,Jd,Jp,Jf];refine Qf (Qb rfl (fun hcn=>?_) (fun hcn=>?_))
  ·refine Qq ?_;simp only[go_sem];refine of_c (ss:=[[97],[98],[122,122],[99],[100]]) (kn.e 0 rfl) (by omega) (by simp) fun w2 H15 hw2 hu=>?_;have kn:Kn H H15 [(R.l,R.o (k2+1+1+1+1+1+1+1))] (([(x2,.st [.sl true 3 []]),(x3,.st [.vsl z 3 0 us.length])]++obU z us)++(x6,.st [.int .i64 2,.int .i64 0,.str w,.sl true 4 []])::[]):=kn.callE 0 rfl hu (R.o_ne _);have gy:H15 y=.vec 5 (u.os.map OSt.row):=kn.getL (Jc _ (Ja _ hym));simp only[go_sem,Qahp,gy,hj,htky,horow,hao,Jd,Jp,Jf];intro H16 h16;try simp only[go_sem,AE.X.next]
   obtain⟨x',hx'⟩:∃x':St,x'=.mk o.x.op w2 o.x.args o.x.body o.x.els:=⟨_,rfl⟩;obtain⟨o',ho'⟩:∃o':OSt,o'=⟨x',o.ac,o.al⟩:=⟨_,rfl⟩;obtain⟨u',hu'⟩:∃u':OFn,u'=⟨⟨u.f.name,u.f.params,o1.map OSt.x++x'::o2.map OSt.x⟩,u.pc,u.pl,o1++o'::o2,u.bc,[(y,.vec 5 ((o1++o'::o2).map OSt.row))]⟩:=⟨_,rfl⟩;have hrow':o'.row=[.int .i64 o.x.op,.str w2,o.ac,.sl false 5 (Qk o.x.body),.sl false 5 (Qk o.x.els)]:=by rw[ho',hx'];rfl
   have hok0:o'.ok:=by
    rw[ho',hx'];exact hook
   have hrs:(u.os.map OSt.row).set j [.int .i64 o.x.op,.str w2,o.ac,.sl false 5 (Qk o.x.body),.sl false 5 (Qk o.x.els)]=(o1++o'::o2).map OSt.row:=by
    rw[←hrow',←Jad,hos,Qbak o1 o2 o o' hj1]
   have huok:u'.ok:=by
    rw[hu'];refine⟨hur.p,fun v hv=>?_,?_,by rw[Jr,Jj,ho']⟩
    ·rcases Je.1 hv with hv|hv
     ·exact hoo v (Jc _ hv)
     ·rcases Jk.1 hv with rfl|hv
      ·exact hok0
      ·exact hoo v (Ja _ hv)
    ·show Gr [(y,.vec 5 ((o1++o'::o2).map OSt.row))] 5 ((o1++o'::o2).map OSt.row) u.bc;rw[hbc];exact Gr.mk (n:=u.os.length) y 5 _ (by rw[hos];simp)
   have hA:obU z us=(us1.flatMap OFn.lg++(u.pl++u.os.flatMap OSt.al))++(y,.vec 5 (u.os.map OSt.row))::(us2.flatMap OFn.lg++[(z,.vec 3 (us1.map OFn.row++u.row::us2.map OFn.row))]):=by
    conv=>lhs;rw[hus]
    rw[Qad6,OFn.lg,hbl];simp only[Jo,Jm,Jw]
   have hal:(o1++o'::o2).flatMap OSt.al=u.os.flatMap OSt.al:=by
    rw[hos,ho'];simp
   have hA2:obU z (us1++u'::us2)=(us1.flatMap OFn.lg++(u.pl++u.os.flatMap OSt.al))++(y,.vec 5 ((o1++o'::o2).map OSt.row))::(us2.flatMap OFn.lg++[(z,.vec 3 (us1.map OFn.row++u.row::us2.map OFn.row))]):=by
    rw[Qad6,hu'];simp only[OFn.lg,OFn.row,hal,Jo,Jm,Jw]
   have kz2:Kn H H16 [(R.l,R.o (k2+1+1+1+1+1+1+1))] (([(x2,.st [.sl true 3 []]),(x3,.st [.vsl z 3 0 us.length])]++obU z (us1++u'::us2))++(x6,.st [.int .i64 2,.int .i64 0,.str w,.sl true 4 []])::[]):=by
    rw[hA2,←hrs];rw[hA]at kn;exact kn.stMid h16
   have g2:=kz2.l 0 rfl;have g3:=kz2.l 1 rfl;refine Qa ?_;simp only[go_sem,g2,g3];intro H17 h17;refine Qh ?_;try simp only[go_sem,AE.X.next]
   refine fin (us1++u'::us2) _ _ _ _ (hok' u' huok) (hlen' u') (hps' u' (by rw[hu']) ?_) (by omega) kz2 (by simp) (fun p hp=>Jc _ (Ja _ hp)) h17;have hse:=o.x.size_eq;rw[hu'];simp only[Qbf,Qi];rw[hx'];simp only[St.size];omega
  ·refine Qe ?_;try simp only[go_sem,AE.X.next]
   refine Qa ?_;simp only[go_sem,g2,g3];intro H17 h17;refine Qh ?_;try simp only[go_sem,AE.X.next]
   exact fin us _ _ _ _ huo rfl (hsz1 us hux) (by omega) kn (by simp) (fun p hp=>Jc _ (Ja _ hp)) h17
 refine Qa ?_;simp only[go_sem];refine Qb rfl (fun hc2=>?_) (fun hc2=>?_)
 ·have hsl:sliC none (some 1) u.bc=.vsl y 5 0 1:=by rw[hbc];simp[sliC]
  have hokb:okSl H14 u.bc=True:=by rw[hbc];simp[okSl,gy]
  have hszb:u.bc.elemSz=5:=by rw[hbc];rfl
  have h1m:((1:Int)≤(u.os.length:Int))=True:=eq_true (by omega);refine Qa1 ?_;simp only[go_sem,gz,hi,htk,hrowb,hpo,hbo,hokb,hlnb,hszb,hsl,h1m,bnds,Option.map_none,Ja1,Jab,Jac,Jd,Jp,Jf];have hbx:(u.os.take 1).map OSt.x=u.f.body.take 1:=by rw[←hur.x,Ja6]
  have hrx:(u.os.map OSt.row).take 1=(u.os.take 1).map OSt.row:=by rw[Ja6]
  have hsz1':=Qbl u.f.body 1;have hsl1:Slc H14 5 ((u.os.take 1).map OSt.row) (.vsl y 5 0 1):=by
   rw[←hrx];refine⟨by simp only[okSl,gy,Jd];exact⟨trivial,by omega⟩,rfl,by simp[rowsOf,gy],?_⟩;simp only[Qa0k,Jaa,Jd];omega
  have hrd:SRd H14 ((u.os.take 1).map OSt.row) ((u.os.take 1).map OSt.x):=SRd.os (fun v hv=>hur.o v (Jao hv)) fun p hp=>by
   obtain⟨v,hv,hp⟩:=Jn.1 hp;exact kn.getL (Jc _ (Ja _ (Jc _ (Jn.2 ⟨u,hum,Ja _ (Jc _ (Jn.2 ⟨v,Jao hv,hp⟩))⟩))))
  refine⟨⟨by omega,by omega⟩,?_⟩;refine Qbkj (Qi ((u.os.take 1).map OSt.x)) ((u.os.take 1).map OSt.x) _ (.vsl y 5 0 1) H14 _ (Jf _) (by rw[hbx];omega) rfl hsl1 hrd fun os2 t2 Lb H15 hx2 ho2 hz2 k2n=>?_;have hlen2:os2.length≤1:=by
   have:=congrArg List.length hx2;rw[Jd,Jd,Jaa]at this;omega
  have hto2:=hz2.isOw;have hA:obU z us=(us1.flatMap OFn.lg++(u.pl++u.os.flatMap OSt.al))++(y,.vec 5 (u.os.map OSt.row))::(us2.flatMap OFn.lg++[(z,.vec 3 (us.map OFn.row))]):=by
   conv=>lhs;rw[hus]
   rw[Qad6,OFn.lg,hbl];have:us.map OFn.row=us1.map OFn.row++u.row::us2.map OFn.row:=by rw[hus];simp
   rw[this];simp only[Jo,Jm,Jw]
  have kn:=kn.addNew k2n;have gz:H15 z=.vec 3 (us.map OFn.row):=kn.getL (by simp[obU]);rw[hA]at kn;have kn:Kn H H15 [(R.l,R.o (k2+1+1+1+1+1+1))] ((([(x2,.st [.sl true 3 []]),(x3,.st [.vsl z 3 0 us.length])]++(us1.flatMap OFn.lg++(u.pl++u.os.flatMap OSt.al)))++(us2.flatMap OFn.lg++(z,.vec 3 (us.map OFn.row))::((x6,.st [.int .i64 2,.int .i64 0,.str w,.sl true 4 []])::(os2.flatMap OSt.al++Lb))))++u.bl):=by
   rw[hbl];refine Kn.lastM ?_;simpa only[Jo,Jm,Jw]using kn
  simp only[go_sem,Qahr,gz,hi,htk,hrowb,hpo,hbo,Jd,Jp,Jf];have hubl:u.os.length≤Qi u.f.body:=by
   have:=Qan u.f.body;rw[←hur.x,Jd]at this;rw[←hur.x];exact this
  refine kn.growR hur.b (Gr.slc2 hz2 k2n) (fun r hr=>by
   obtain⟨v,hv,rfl⟩:=J3.1 hr;exact OSt.noOw (ho2 v hv)) (by simp only[Jd,LIM];omega) fun t3 L3 H16 hg3 hto3 kn=>?_
  have gz:H16 z=.vec 3 (us.map OFn.row):=kn.getL (by simp);simp only[go_sem,Qahq,gz,hi,htk,hrowb,hpo,hto3,Jd,Jp,Jf];intro H17 h17;try simp only[go_sem,AE.X.next]
  obtain⟨u',hu'⟩:∃u':OFn,u'=⟨⟨u.f.name,u.f.params,u.f.body++u.f.body.take 1⟩,u.pc,u.pl,u.os++os2,t3,L3⟩:=⟨_,rfl⟩;have huok:u'.ok:=by
   rw[hu'];refine⟨hur.p,fun v hv=>?_,?_,by rw[Jr,hur.x,hx2,hbx]⟩
   ·rcases Je.1 hv with hv|hv
    ·exact hur.o v hv
    ·exact ho2 v hv
   ·show Gr L3 5 ((u.os++os2).map OSt.row) t3;rw[Jr];exact hg3
  have hrs:(us.map OFn.row).set i [.str u.f.name,u.pc,t3]=(us1++u'::us2).map OFn.row:=by
   have:[.str u.f.name,u.pc,t3]=u'.row:=by rw[hu'];rfl
   rw[this,←Jad]
   conv=>lhs;rw[hus,Qbak us1 us2 u u' hi1]
  rw[hrs]at h17;have kn:Kn H H16 [(R.l,R.o (k2+1+1+1+1+1+1))] (([(x2,.st [.sl true 3 []]),(x3,.st [.vsl z 3 0 us.length])]++((us1.flatMap OFn.lg++(u.pl++u.os.flatMap OSt.al))++us2.flatMap OFn.lg))++(z,.vec 3 (us.map OFn.row))::((x6,.st [.int .i64 2,.int .i64 0,.str w,.sl true 4 []])::((os2.flatMap OSt.al++Lb)++L3))):=by
   simpa only[Jo,Jm,Jw]using kn
  have kn:=kn.stM h17;have g2:=kn.l 0 rfl;have g3:=kn.l 1 rfl;refine Qa ?_;simp only[go_sem,g2,g3];intro H18 h18;refine Qh ?_;try simp only[go_sem,AE.X.next]
  refine fin (us1++u'::us2) _ _ _ _ (hok' u' huok) (hlen' u') (hps' u' (by rw[hu']) ?_) (by omega) kn (by simp) (fun p hp=>?_) h18
  ·rw[hu'];simp only[Qbf];omega
  ·rcases Je.1 hp with hp|hp
   ·obtain⟨v,hv,hpv⟩:=Jn.1 hp;rcases Je.1 hv with hv|hv
    ·have:p∈us1.flatMap OFn.lg:=Jn.2 ⟨v,hv,hpv⟩;simp[this]
    ·rcases Jk.1 hv with rfl|hv
     ·rw[hu']at hpv;simp only[OFn.lg,List.flatMap_append,Je]at hpv;rcases hpv with h|(h|h)|h
      ·simp only[Je,Jk,h,true_or,or_true]
      ·simp only[Je,Jk,h,true_or,or_true]
      ·simp only[Je,Jk,h,true_or,or_true]
      ·simp only[Je,Jk,h,true_or,or_true]
     ·have:p∈us2.flatMap OFn.lg:=Jn.2 ⟨v,hv,hpv⟩;simp only[Je,Jk,this,true_or,or_true]
   ·simp only[Jb]at hp;subst hp;simp
 ·refine Qe ?_;try simp only[go_sem,AE.X.next]
  exact last 2 0 w _ [] _ _ _ (by omega) kn rfl (fun H S=>FrzR.nil.sl) (by simp[Qu]) rfl rfl rfl rfl
end Go.AE.Y
namespace Go.AE.Y
def arN (op:Int)(a b:Nat):Option Nat:=
 if op=3 then some ((a+b) % 256)else if op=4 then some ((a+256-b) % 256)else if op=5 then some (a * b % 256)
 else if op=6 then (if b=0 then none else some (a / b))else if op=7 then (if b=0 then none else some (a % b))
 else if op=8 then some (if a<b then 1 else 0)else some (if a=b then 1 else 0)
theorem Qbio {op:Int}{a b z:Nat}(ha:a<256)(hb:b<256)(h:arN op a b=some z):z<256:=by
 unfold arN at h;split at h
 ·simp only[Jq]at h;omega
 split at h
 ·simp only[Jq]at h;omega
 split at h
 ·simp only[Jq]at h;omega
 split at h
 ·split at h
  ·cases h
  ·simp only[Jq]at h;have:=Ja0 a b;omega
 split at h
 ·split at h
  ·cases h
  ·simp only[Jq]at h;have:=Nat.mod_le a b;omega
 split at h
 ·simp only[Jq]at h;split at h <;> omega
 ·simp only[Jq]at h;split at h <;> omega
structure Ms where
 u:Nat
 s:List Nat
 c:List Nat
def setB (s:List UInt8)(n:Nat):List (List UInt8×Nat)→List (List UInt8×Nat)
 |[]=>[]
 |p::r=>if p.1=s then (s,n)::r else p::setB s n r
def setV (s:List UInt8)(n:Nat):Vars→Vars
 |[]=>[]
 |b::v=>if (b.any fun p=>decide (p.1=s))=true then setB s n b::v else b::setV s n v
inductive Tk where
 |ex (e:Ex) (v:Vars)
 |exs (l:List Ex) (v:Vars)
 |call (f:Fn) (l:List Nat)
 |blk (l:List St) (v:Vars)
 |st (x:St) (v:Vars)
 |lp (x:St) (v:Vars)
inductive Rt where
 |dn (e:Nat)
 |val (n:Nat)
 |vals (l:List Nat)
 |env (b:Option Nat) (v:Vars)
def parE (ps:List (List UInt8))(ns:List Nat):Vars:=[(ps.zip ns).reverse]
def Rt.pop:Rt→Rt
 |.env b v=>.env b v.tail
 |r=>r
def Rt.ret:Rt→Rt
 |.env (some n) _=>.val n
 |.env none _=>.val 0
 |r=>r
inductive Ev (fns:List Fn)(S:Nat):Nat→Tk→Ms→Rt→Ms→Prop
 |num {e v m}:e.op=1→0≤e.n→e.n≤255→Ev fns S 0 (.ex e v) m (.val e.n.toNat) m
 |var {e v m n}:e.op=2→v.find e.name=some n→Ev fns S 0 (.ex e v) m (.val n) m
 |call {e v m j ns m1 r m2 a b} (hj:j<fns.length):e.op=13→Qi1 fns e.name=some j→fns[j].params.length=e.kids.length→Ev fns S a (.exs e.kids v) m (.vals ns) m1→Ev fns S b (.call fns[j] ns) m1 r m2→Ev fns S (a+b+1) (.ex e v) m r m2
 |callS {e v m z m1 a j} (hj:j<fns.length):e.op=13→Qi1 fns e.name=some j→fns[j].params.length=e.kids.length→Ev fns S a (.exs e.kids v) m (.dn z) m1→Ev fns S (a+1) (.ex e v) m (.dn z) m1
 |kidS {e v m z m1 a k l}:3≤e.op→e.op≤12→e.kids=k::l→(e.op≤10→l≠[])→Ev fns S a (.ex k v) m (.dn z) m1→Ev fns S (a+1) (.ex e v) m (.dn z) m1
 |not {e v m x m1 a k}:e.op=11→e.kids=[k]→Ev fns S a (.ex k v) m (.val x) m1→Ev fns S (a+1) (.ex e v) m (.val (if x=0 then 1 else 0)) m1
 |at_ {e v m x m1 a k}:e.op=12→e.kids=[k]→Ev fns S a (.ex k v) m (.val x) m1→x<16→Ev fns S (a+1) (.ex e v) m (.val (m1.c.getD x 0)) m1
 |atS {e v m x m1 a k}:e.op=12→e.kids=[k]→Ev fns S a (.ex k v) m (.val x) m1→16≤x→Ev fns S (a+1) (.ex e v) m (.dn 2) m1
 |and0 {e v m m1 a k l}:e.op=10→e.kids=[k,l]→Ev fns S a (.ex k v) m (.val 0) m1→Ev fns S (a+1) (.ex e v) m (.val 0) m1
 |and1 {e v m x m1 y m2 a b k l}:e.op=10→e.kids=[k,l]→Ev fns S a (.ex k v) m (.val x) m1→x≠0→Ev fns S b (.ex l v) m1 (.val y) m2→Ev fns S (a+b+1) (.ex e v) m (.val (if y=0 then 0 else 1)) m2
 |andS {e v m x m1 z m2 a b k l}:e.op=10→e.kids=[k,l]→Ev fns S a (.ex k v) m (.val x) m1→x≠0→Ev fns S b (.ex l v) m1 (.dn z) m2→Ev fns S (a+b+1) (.ex e v) m (.dn z) m2
 |ar {e v m x m1 y m2 w a b k l}:3≤e.op→e.op≤9→e.kids=[k,l]→Ev fns S a (.ex k v) m (.val x) m1→Ev fns S b (.ex l v) m1 (.val y) m2→arN e.op x y=some w→Ev fns S (a+b+1) (.ex e v) m (.val w) m2
 |arD {e v m x m1 y m2 a b k l}:3≤e.op→e.op≤9→e.kids=[k,l]→Ev fns S a (.ex k v) m (.val x) m1→Ev fns S b (.ex l v) m1 (.val y) m2→arN e.op x y=none→Ev fns S (a+b+1) (.ex e v) m (.dn 1) m2
 |arS {e v m x m1 z m2 a b k l}:3≤e.op→e.op≤9→e.kids=[k,l]→Ev fns S a (.ex k v) m (.val x) m1→Ev fns S b (.ex l v) m1 (.dn z) m2→Ev fns S (a+b+1) (.ex e v) m (.dn z) m2
 |nil {v m}:Ev fns S 0 (.exs [] v) m (.vals []) m
 |cons {x l v m n m1 ns m2 a b}:Ev fns S a (.ex x v) m (.val n) m1→Ev fns S b (.exs l v) m1 (.vals ns) m2→Ev fns S (a+b+1) (.exs (x::l) v) m (.vals (n::ns)) m2
 |consS {x l v m z m1 a}:Ev fns S a (.ex x v) m (.dn z) m1→Ev fns S (a+1) (.exs (x::l) v) m (.dn z) m1
 |consS2 {x l v m n m1 z m2 a b}:Ev fns S a (.ex x v) m (.val n) m1→Ev fns S b (.exs l v) m1 (.dn z) m2→Ev fns S (a+b+1) (.exs (x::l) v) m (.dn z) m2
 |body {f ns m r m1 a}:Ev fns S a (.blk f.body (parE f.params ns)) m r m1→Ev fns S (a+1) (.call f ns) m r.ret m1
 |done {v m}:Ev fns S 0 (.blk [] v) m (.env none v) m
 |fuel {x l v m}:m.u=S→Ev fns S 0 (.blk (x::l) v) m (.dn 3) m
 |next {x l v m v1 m1 r m2 a b}:m.u<S→Ev fns S a (.st x v) ⟨m.u+1,m.s,m.c⟩ (.env none v1) m1→Ev fns S b (.blk l v1) m1 r m2→Ev fns S (a+b+1) (.blk (x::l) v) m r m2
 |back {x l v m n v1 m1 a}:m.u<S→Ev fns S a (.st x v) ⟨m.u+1,m.s,m.c⟩ (.env (some n) v1) m1→Ev fns S (a+1) (.blk (x::l) v) m (.env (some n) v1) m1
 |stS {x l v m z m1 a}:m.u<S→Ev fns S a (.st x v) ⟨m.u+1,m.s,m.c⟩ (.dn z) m1→Ev fns S (a+1) (.blk (x::l) v) m (.dn z) m1
 |loop {x v m r m1 a}:x.op=6→Ev fns S a (.lp x v) m r m1→Ev fns S (a+1) (.st x v) m r m1
 |argS {x v m z m1 a k l}:x.op≠6→x.args=k::l→(x.op=4→l≠[])→Ev fns S a (.ex k v) m (.dn z) m1→Ev fns S (a+1) (.st x v) m (.dn z) m1
 |let_ {x v m n m1 a k}:x.op=1→x.args=[k]→Ev fns S a (.ex k v) m (.val n) m1→Ev fns S (a+1) (.st x v) m (.env none (Qa8 v x.name n)) m1
 |set {x v m n m1 a k}:x.op=2→x.args=[k]→(v.find x.name).isSome=true→Ev fns S a (.ex k v) m (.val n) m1→Ev fns S (a+1) (.st x v) m (.env none (setV x.name n v)) m1
 |say {x v m n m1 a k}:x.op=3→x.args=[k]→Ev fns S a (.ex k v) m (.val n) m1→Ev fns S (a+1) (.st x v) m (.env none v) ⟨m1.u,m1.s++[n],m1.c⟩
 |put {x v m n m1 y m2 a b k l}:x.op=4→x.args=[k,l]→Ev fns S a (.ex k v) m (.val n) m1→Ev fns S b (.ex l v) m1 (.val y) m2→n<16→Ev fns S (a+b+1) (.st x v) m (.env none v) ⟨m2.u,m2.s,m2.c.set n y⟩
 |putC {x v m n m1 y m2 a b k l}:x.op=4→x.args=[k,l]→Ev fns S a (.ex k v) m (.val n) m1→Ev fns S b (.ex l v) m1 (.val y) m2→16≤n→Ev fns S (a+b+1) (.st x v) m (.dn 2) m2
 |putS {x v m n m1 z m2 a b k l}:x.op=4→x.args=[k,l]→Ev fns S a (.ex k v) m (.val n) m1→Ev fns S b (.ex l v) m1 (.dn z) m2→Ev fns S (a+b+1) (.st x v) m (.dn z) m2
 |ift {x v m n m1 r m2 a b k}:x.op=5→x.args=[k]→Ev fns S a (.ex k v) m (.val n) m1→n≠0→Ev fns S b (.blk x.body ([]::v)) m1 r m2→Ev fns S (a+b+1) (.st x v) m r.pop m2
 |iff_ {x v m m1 r m2 a b k}:x.op=5→x.args=[k]→Ev fns S a (.ex k v) m (.val 0) m1→Ev fns S b (.blk x.els ([]::v)) m1 r m2→Ev fns S (a+b+1) (.st x v) m r.pop m2
 |bck {x v m n m1 a k}:x.op=7→x.args=[k]→Ev fns S a (.ex k v) m (.val n) m1→Ev fns S (a+1) (.st x v) m (.env (some n) v) m1
 |do_ {x v m n m1 a k}:x.op=8→x.args=[k]→Ev fns S a (.ex k v) m (.val n) m1→Ev fns S (a+1) (.st x v) m (.env none v) m1
 |lpS {x v m z m1 a k}:x.args=[k]→Ev fns S a (.ex k v) m (.dn z) m1→Ev fns S (a+1) (.lp x v) m (.dn z) m1
 |lp0 {x v m m1 a k}:x.args=[k]→Ev fns S a (.ex k v) m (.val 0) m1→Ev fns S (a+1) (.lp x v) m (.env none v) m1
 |lpB {x v m n m1 z v1 m2 a b k}:x.args=[k]→Ev fns S a (.ex k v) m (.val n) m1→n≠0→Ev fns S b (.blk x.body ([]::v)) m1 (.env (some z) v1) m2→Ev fns S (a+b+1) (.lp x v) m (.env (some z) v1.tail) m2
 |lpD {x v m n m1 z m2 a b k}:x.args=[k]→Ev fns S a (.ex k v) m (.val n) m1→n≠0→Ev fns S b (.blk x.body ([]::v)) m1 (.dn z) m2→Ev fns S (a+b+1) (.lp x v) m (.dn z) m2
 |lpF {x v m n m1 v1 m2 a b k}:x.args=[k]→Ev fns S a (.ex k v) m (.val n) m1→n≠0→Ev fns S b (.blk x.body ([]::v)) m1 (.env none v1) m2→m2.u=S→Ev fns S (a+b+1) (.lp x v) m (.dn 3) m2
 |lpN {x v m n m1 v1 m2 r m3 a b c k}:x.args=[k]→Ev fns S a (.ex k v) m (.val n) m1→n≠0→Ev fns S b (.blk x.body ([]::v)) m1 (.env none v1) m2→m2.u<S→Ev fns S c (.lp x v1.tail) ⟨m2.u+1,m2.s,m2.c⟩ r m3→Ev fns S (a+b+c+1) (.lp x v) m r m3
variable {fns:List Fn}{S:Nat}
def vBy (v:Vars):Prop:=∀p∈v.flatten,p.2<256
def Tk.by:Tk→Prop
 |.ex _ v=>vBy v
 |.exs _ v=>vBy v
 |.call _ l=>∀x∈l,x<256
 |.blk _ v=>vBy v
 |.st _ v=>vBy v
 |.lp _ v=>vBy v
def Tk.sl:Tk→Nat
 |.st _ _=>1
 |_=>0
def Rt.by:Rt→Prop
 |.dn e=>1≤e∧e≤3
 |.val n=>n<256
 |.vals l=>∀x∈l,x<256
 |.env b v=>(∀z,b=some z→z<256)∧vBy v
structure Ms.by (m:Ms):Prop where
 c:m.c.length=16
 cb:∀x∈m.c,x<256
 sb:∀x∈m.s,x<256
theorem vBy.find {v:Vars}(h:vBy v){s:List UInt8}{n:Nat}(hf:v.find s=some n):n<256:=by
 rw[Vars.find,Option.map_eq_some_iff]at hf;obtain⟨p,hp,rfl⟩:=hf;exact h p (List.mem_of_find?_eq_some hp)
theorem vBy.put {v:Vars}(h:vBy v)(s:List UInt8){n:Nat}(hn:n<256):vBy (Qa8 v s n):=by
 intro p hp;simp only[Qa8,List.flatten_cons,Jm,Jk,Je]at hp;rcases hp with rfl|hp|hp
 ·exact hn
 ·cases v with
  |nil=>simp at hp
  |cons b v=>exact h p (by simp only[List.headD_cons]at hp;simp[hp])
 ·cases v with
  |nil=>simp at hp
  |cons b v=>exact h p (by rw[List.flatten_cons];exact Ja _ hp)
theorem Qa1d {s:List UInt8}{n:Nat}:∀{b:List (List UInt8×Nat)} {p:List UInt8×Nat},p∈setB s n b→p∈b∨p.2=n
 |[],p,h=>by simp[setB]at h
 |q::r,p,h=>by
  simp only[setB]at h;split at h
  ·rcases Jk.1 h with rfl|h
   ·exact .inr rfl
   ·exact .inl (Jl _ h)
  ·rcases Jk.1 h with rfl|h
   ·exact .inl J1
   ·rcases Qa1d h with h|h
    ·exact .inl (Jl _ h)
    ·exact .inr h
theorem Qa1e {s:List UInt8}{n:Nat}:∀{v:Vars} {p:List UInt8×Nat},p∈(setV s n v).flatten→p∈v.flatten∨p.2=n
 |[],p,h=>by simp[setV]at h
 |b::v,p,h=>by
  simp only[setV]at h;split at h
  ·rw[List.flatten_cons]at h⊢;rcases Je.1 h with h|h
   ·rcases Qa1d h with h|h
    ·exact .inl (Jc _ h)
    ·exact .inr h
   ·exact .inl (Ja _ h)
  ·rw[List.flatten_cons]at h⊢;rcases Je.1 h with h|h
   ·exact .inl (Jc _ h)
   ·rcases Qa1e h with h|h
    ·exact .inl (Ja _ h)
    ·exact .inr h
theorem vBy.set {v:Vars}(h:vBy v)(s:List UInt8){n:Nat}(hn:n<256):vBy (setV s n v):=fun p hp=>by
 rcases Qa1e hp with h1|h1
 ·exact h p h1
 ·omega
theorem vBy.push {v:Vars}(h:vBy v):vBy ([]::v):=by simpa[vBy]using h
theorem vBy.pop {v:Vars}(h:vBy v):vBy v.tail:=by
 cases v with
 |nil=>exact h
 |cons b v=>exact fun p hp=>h p (by rw[List.flatten_cons];exact Ja _ hp)
theorem Rt.by.pop {r:Rt}(h:r.by):r.pop.by:=by
 cases r with
 |env b v=>exact⟨h.1,h.2.pop⟩
 |_=>exact h
theorem Rt.by.ret {r:Rt}(h:r.by):r.ret.by:=by
 cases r with
 |env b v=>
  cases b with
  |none=>show 0<256;omega
  |some z=>exact h.1 z rfl
 |_=>exact h
theorem Qaox {ps:List (List UInt8)}{ns:List Nat}(h:∀x∈ns,x<256):vBy (parE ps ns):=by
 intro p hp;simp only[parE,List.flatten_cons,List.flatten_nil,Jt,List.mem_reverse]at hp;exact h _ (List.of_mem_zip hp).2
theorem Ms.by.tick {m:Ms}(h:m.by)(n:Nat):Ms.by ⟨n,m.s,m.c⟩:=⟨h.c,h.cb,h.sb⟩
theorem Ev.by {h:Nat}{t:Tk}{m:Ms}{r:Rt}{m':Ms}(hev:Ev fns S h t m r m'):t.by→m.by→r.by∧m'.by∧m.u≤m'.u∧m'.s.length+m.u≤m.s.length+m'.u+t.sl∧(m.u≤S→m'.u≤S):=by
 induction hev with
 |num h1 h2 h3=>exact fun ht hm=>⟨by show _<256;omega,hm,Jf _,by simp only[Tk.sl];omega,id⟩
 |var h1 h2=>exact fun ht hm=>⟨vBy.find ht h2,hm,Jf _,by simp only[Tk.sl];omega,id⟩
 |call hj h1 h2 h3 e1 e2 i1 i2=>
  intro ht hm;obtain⟨a1,a2,a3,a4,a5⟩:=i1 ht hm;obtain⟨b1,b2,b3,b4,b5⟩:=i2 a1 a2;simp only[Tk.sl]at *;exact⟨b1,b2,by omega,by omega,fun h=>b5 (a5 h)⟩
 |callS hj h1 h2 h3 e1 i1=>exact i1
 |kidS h1 h2 h3 h4 e1 i1=>exact i1
 |not h1 h2 e1 i1=>
  intro ht hm;obtain⟨a1,a2,a3,a4,a5⟩:=i1 ht hm;exact⟨by show (if _ then 1 else 0)<256;split <;> omega,a2,a3,a4,a5⟩
 |at_ h1 h2 e1 h3 i1=>
  intro ht hm;obtain⟨a1,a2,a3,a4,a5⟩:=i1 ht hm;refine⟨?_,a2,a3,a4,a5⟩;show List.getD _ _ 0<256;have hc:=a2.c;rw[Jy,Jag (by omega),Jac];exact a2.cb _ (Jz _)
 |atS h1 h2 e1 h3 i1=>
  intro ht hm;obtain⟨a1,a2,a3,a4,a5⟩:=i1 ht hm;exact⟨⟨by omega,by omega⟩,a2,a3,a4,a5⟩
 |and0 h1 h2 e1 i1=>exact i1
 |and1 h1 h2 e1 h3 e2 i1 i2=>
  intro ht hm;obtain⟨a1,a2,a3,a4,a5⟩:=i1 ht hm;obtain⟨b1,b2,b3,b4,b5⟩:=i2 ht a2;simp only[Tk.sl]at *;exact⟨by show (if _ then 0 else 1)<256;split <;> omega,b2,by omega,by omega,fun h=>b5 (a5 h)⟩
 |andS h1 h2 e1 h3 e2 i1 i2=>
  intro ht hm;obtain⟨a1,a2,a3,a4,a5⟩:=i1 ht hm;obtain⟨b1,b2,b3,b4,b5⟩:=i2 ht a2;simp only[Tk.sl]at *;exact⟨b1,b2,by omega,by omega,fun h=>b5 (a5 h)⟩
 |ar h1 h2 h3 e1 e2 h4 i1 i2=>
  intro ht hm;obtain⟨a1,a2,a3,a4,a5⟩:=i1 ht hm;obtain⟨b1,b2,b3,b4,b5⟩:=i2 ht a2;simp only[Tk.sl]at *;exact⟨Qbio a1 b1 h4,b2,by omega,by omega,fun h=>b5 (a5 h)⟩
 |arD h1 h2 h3 e1 e2 h4 i1 i2=>
  intro ht hm;obtain⟨a1,a2,a3,a4,a5⟩:=i1 ht hm;obtain⟨b1,b2,b3,b4,b5⟩:=i2 ht a2;simp only[Tk.sl]at *;exact⟨⟨by omega,by omega⟩,b2,by omega,by omega,fun h=>b5 (a5 h)⟩
 |arS h1 h2 h3 e1 e2 i1 i2=>
  intro ht hm;obtain⟨a1,a2,a3,a4,a5⟩:=i1 ht hm;obtain⟨b1,b2,b3,b4,b5⟩:=i2 ht a2;simp only[Tk.sl]at *;exact⟨b1,b2,by omega,by omega,fun h=>b5 (a5 h)⟩
 |nil=>exact fun ht hm=>⟨by simp[Rt.by],hm,Jf _,by simp only[Tk.sl];omega,id⟩
 |cons e1 e2 i1 i2=>
  intro ht hm;obtain⟨a1,a2,a3,a4,a5⟩:=i1 ht hm;obtain⟨b1,b2,b3,b4,b5⟩:=i2 ht a2;simp only[Tk.sl]at *;refine⟨fun x hx=>?_,b2,by omega,by omega,fun h=>b5 (a5 h)⟩;rcases Jk.1 hx with rfl|hx
  ·exact a1
  ·exact b1 x hx
 |consS e1 i1=>exact i1
 |consS2 e1 e2 i1 i2=>
  intro ht hm;obtain⟨a1,a2,a3,a4,a5⟩:=i1 ht hm;obtain⟨b1,b2,b3,b4,b5⟩:=i2 ht a2;simp only[Tk.sl]at *;exact⟨b1,b2,by omega,by omega,fun h=>b5 (a5 h)⟩
 |body e1 i1=>
  intro ht hm;obtain⟨a1,a2,a3,a4,a5⟩:=i1 (Qaox ht) hm;exact⟨a1.ret,a2,a3,a4,a5⟩
 |done=>exact fun ht hm=>⟨⟨by simp,ht⟩,hm,Jf _,by simp only[Tk.sl];omega,id⟩
 |fuel h1=>exact fun ht hm=>⟨⟨by omega,by omega⟩,hm,Jf _,by simp only[Tk.sl];omega,id⟩
 |next h1 e1 e2 i1 i2=>
  intro ht hm;obtain⟨a1,a2,a3,a4,a5⟩:=i1 ht (hm.tick _);obtain⟨b1,b2,b3,b4,b5⟩:=i2 a1.2 a2;simp only[Tk.sl]at *;exact⟨b1,b2,by omega,by omega,fun h=>b5 (a5 (by omega))⟩
 |back h1 e1 i1=>
  intro ht hm;obtain⟨a1,a2,a3,a4,a5⟩:=i1 ht (hm.tick _);simp only[Tk.sl]at *;exact⟨a1,a2,by omega,by omega,fun h=>a5 (by omega)⟩
 |stS h1 e1 i1=>
  intro ht hm;obtain⟨a1,a2,a3,a4,a5⟩:=i1 ht (hm.tick _);simp only[Tk.sl]at *;exact⟨a1,a2,by omega,by omega,fun h=>a5 (by omega)⟩
 |loop h1 e1 i1=>
  intro ht hm;obtain⟨a1,a2,a3,a4,a5⟩:=i1 ht hm;simp only[Tk.sl]at *;exact⟨a1,a2,a3,by omega,a5⟩
 |argS h1 h2 h3 e1 i1=>
  intro ht hm;obtain⟨a1,a2,a3,a4,a5⟩:=i1 ht hm;simp only[Tk.sl]at *;exact⟨a1,a2,a3,by omega,a5⟩
 |let_ h1 h2 e1 i1=>
  intro ht hm;obtain⟨a1,a2,a3,a4,a5⟩:=i1 ht hm;simp only[Tk.sl]at *;exact⟨⟨by simp,vBy.put ht _ a1⟩,a2,a3,by omega,a5⟩
 |set h1 h2 h3 e1 i1=>
  intro ht hm;obtain⟨a1,a2,a3,a4,a5⟩:=i1 ht hm;simp only[Tk.sl]at *;exact⟨⟨by simp,vBy.set ht _ a1⟩,a2,a3,by omega,a5⟩
 |say h1 h2 e1 i1=>
  intro ht hm;obtain⟨a1,a2,a3,a4,a5⟩:=i1 ht hm;simp only[Tk.sl]at *;refine⟨⟨by simp,ht⟩,⟨a2.c,a2.cb,fun x hx=>?_⟩,a3,by simp only[J0,Jg,Ji];omega,a5⟩;rcases Je.1 hx with hx|hx
  ·exact a2.sb x hx
  ·simp only[Jb]at hx;subst hx;exact a1
 |put h1 h2 e1 e2 h3 i1 i2=>
  intro ht hm;obtain⟨a1,a2,a3,a4,a5⟩:=i1 ht hm;obtain⟨b1,b2,b3,b4,b5⟩:=i2 ht a2;simp only[Tk.sl]at *;refine⟨⟨by simp,ht⟩,⟨by simp[b2.c],fun x hx=>?_,b2.sb⟩,by omega,by omega,fun h=>b5 (a5 h)⟩;rcases Jaf hx with hx|rfl
  ·exact b2.cb x hx
  ·exact b1
 |putC h1 h2 e1 e2 h3 i1 i2=>
  intro ht hm;obtain⟨a1,a2,a3,a4,a5⟩:=i1 ht hm;obtain⟨b1,b2,b3,b4,b5⟩:=i2 ht a2;simp only[Tk.sl]at *;exact⟨⟨by omega,by omega⟩,b2,by omega,by omega,fun h=>b5 (a5 h)⟩
 |putS h1 h2 e1 e2 i1 i2=>
  intro ht hm;obtain⟨a1,a2,a3,a4,a5⟩:=i1 ht hm;obtain⟨b1,b2,b3,b4,b5⟩:=i2 ht a2;simp only[Tk.sl]at *;exact⟨b1,b2,by omega,by omega,fun h=>b5 (a5 h)⟩
 |ift h1 h2 e1 h3 e2 i1 i2=>
  intro ht hm;obtain⟨a1,a2,a3,a4,a5⟩:=i1 ht hm;obtain⟨b1,b2,b3,b4,b5⟩:=i2 (vBy.push ht) a2;simp only[Tk.sl]at *;exact⟨b1.pop,b2,by omega,by omega,fun h=>b5 (a5 h)⟩
 |iff_ h1 h2 e1 e2 i1 i2=>
  intro ht hm;obtain⟨a1,a2,a3,a4,a5⟩:=i1 ht hm;obtain⟨b1,b2,b3,b4,b5⟩:=i2 (vBy.push ht) a2;simp only[Tk.sl]at *;exact⟨b1.pop,b2,by omega,by omega,fun h=>b5 (a5 h)⟩
 |bck h1 h2 e1 i1=>
  intro ht hm;obtain⟨a1,a2,a3,a4,a5⟩:=i1 ht hm;simp only[Tk.sl]at *;exact⟨⟨fun z hz=>by cases hz;exact a1,ht⟩,a2,a3,by omega,a5⟩
 |do_ h1 h2 e1 i1=>
  intro ht hm;obtain⟨a1,a2,a3,a4,a5⟩:=i1 ht hm;simp only[Tk.sl]at *;exact⟨⟨by simp,ht⟩,a2,a3,by omega,a5⟩
 |lpS h1 e1 i1=>exact i1
 |lp0 h1 e1 i1=>
  intro ht hm;obtain⟨a1,a2,a3,a4,a5⟩:=i1 ht hm;exact⟨⟨by simp,ht⟩,a2,a3,a4,a5⟩
 |lpB h1 e1 h2 e2 i1 i2=>
  intro ht hm;obtain⟨a1,a2,a3,a4,a5⟩:=i1 ht hm;obtain⟨b1,b2,b3,b4,b5⟩:=i2 (vBy.push ht) a2;simp only[Tk.sl]at *;exact⟨⟨b1.1,b1.2.pop⟩,b2,by omega,by omega,fun h=>b5 (a5 h)⟩
 |lpD h1 e1 h2 e2 i1 i2=>
  intro ht hm;obtain⟨a1,a2,a3,a4,a5⟩:=i1 ht hm;obtain⟨b1,b2,b3,b4,b5⟩:=i2 (vBy.push ht) a2;simp only[Tk.sl]at *;exact⟨b1,b2,by omega,by omega,fun h=>b5 (a5 h)⟩
 |lpF h1 e1 h2 e2 h3 i1 i2=>
  intro ht hm;obtain⟨a1,a2,a3,a4,a5⟩:=i1 ht hm;obtain⟨b1,b2,b3,b4,b5⟩:=i2 (vBy.push ht) a2;simp only[Tk.sl]at *;exact⟨⟨by omega,by omega⟩,b2,by omega,by omega,fun h=>b5 (a5 h)⟩
 |lpN h1 e1 h2 e2 h3 e3 i1 i2 i3=>
  intro ht hm;obtain⟨a1,a2,a3,a4,a5⟩:=i1 ht hm;obtain⟨b1,b2,b3,b4,b5⟩:=i2 (vBy.push ht) a2;obtain⟨c1,c2,c3,c4,c5⟩:=i3 b1.2.pop (b2.tick _);simp only[Tk.sl]at *;exact⟨c1,c2,by omega,by omega,fun h=>c5 (by omega)⟩
def nm (v:Vars):List (List (List UInt8)):=v.map fun b=>b.map Prod.fst
theorem Qa6h (v:Vars)(s:List UInt8):(v.find s).isSome=true↔s∈(nm v).flatten:=by
 rw[Vars.find,Option.isSome_map,List.find?_isSome];simp only[nm,List.mem_flatten,J3,decide_eq_true_eq];constructor
 ·rintro⟨p,⟨b,hb,hp⟩,rfl⟩;exact⟨_,⟨b,hb,rfl⟩,J3.2 ⟨p,hp,rfl⟩⟩
 ·rintro⟨_,⟨b,hb,rfl⟩,hs⟩;obtain⟨p,hp,rfl⟩:=J3.1 hs;exact⟨p,⟨b,hb,hp⟩,rfl⟩
theorem Qaz8 {v w:Vars}(h:nm v=nm w){s:List UInt8}(hf:(v.find s).isSome=true):(w.find s).isSome=true:=by
 rw[Qa6h]at hf⊢;rw[←h];exact hf
theorem Qa73 (v:Vars)(s:List UInt8)(n:Nat):nm (Qa8 v s n)=(s::(nm v).headD [])::(nm v).tail:=by
 cases v <;> rfl
theorem Qa74 (s:List UInt8)(n:Nat):∀b:List (List UInt8×Nat),(setB s n b).map Prod.fst=b.map Prod.fst
 |[]=>rfl
 |p::r=>by
  simp only[setB];split
  ·rename_i h;simp[h]
  ·rw[Jj,Jj,Qa74 s n r]
theorem Qa75 (s:List UInt8)(n:Nat):∀v:Vars,nm (setV s n v)=nm v
 |[]=>rfl
 |b::v=>by
  simp only[setV];split
  ·simp only[nm,Jj,Qa74]
  ·have:=Qa75 s n v;simp only[nm,Jj]at this⊢;rw[this]
theorem Qa76 (v:Vars):nm v.tail=(nm v).tail:=by cases v <;> rfl
theorem Qbjr {v w:Vars}(h:nm v=nm w)(hw:w≠[]):v≠[]:=by
 rintro rfl
 cases w with
 |nil=>exact hw rfl
 |cons b w=>simp[nm]at h
def Tot (fns:List Fn)(S:Nat)(t:Tk)(m:Ms)(P:Rt→Prop):Prop:=∃h r m',Ev fns S h t m r m'∧m.u≤m'.u∧m'.u≤S∧P r
def isV (r:Rt):Prop:=(∃z,r=.val z)∨∃z,r=.dn z
def CalT (fns:List Fn)(S:Nat)(l:List Ex):Prop:=∀e∈l,e.op=13→∃j,∃hj:j<fns.length,Qi1 fns e.name=some j∧fns[j].params.length=e.kids.length∧
 ∀ns m,ns.length=fns[j].params.length→m.u≤S→Tot fns S (.call fns[j] ns) m isV
theorem CalT.sub {l l':List Ex}(h:CalT fns S l)(hs:∀e∈l',e∈l):CalT fns S l':=fun e he=>h e (hs e he)
theorem Qa6l {op n:Int}{name:List UInt8}{kids:List Ex}{d:Int}(h:(Ex.mk op n name kids).form d=true) :
  Qhc kids (d-1)=true∧(op=1∨op=2→kids=[])∧(3≤op→op≤10→kids.length=2)∧(op=11∨op=12→kids.length=1)∧(0≤n∧n≤255)∧1≤op∧op≤13:=by
 simp only[Ex.form,Qac1,J2,decide_eq_true_eq]at h;obtain⟨⟨_,⟨⟨⟨⟨⟨h1,h2⟩,_⟩,_⟩,h5⟩,_⟩⟩,h3⟩:=h;refine⟨h3,fun ho=>?_,fun h3 h10=>?_,fun ho=>?_,h5,h1.1,h1.2⟩
 ·simp only[Qdi,ho,if_true]at h2;exact List.length_eq_zero_iff.1 (by omega)
 ·simp only[Qdi,Qdv]at h2;rw[if_neg (by omega),if_neg (by omega),if_neg (by omega),if_neg (by omega),if_neg (by omega)]at h2;omega
 ·simp only[Qdi,Qdv]at h2;rw[if_neg (by omega),if_pos ho,if_neg (by omega),if_pos ho]at h2;omega
mutual
theorem Ex.tot:∀(x:Ex) (d:Int) (v:Vars) (m:Ms),x.form d=true→AllV v x.pre→CalT fns S x.pre→m.u≤S→Tot fns S (.ex x v) m isV
 |.mk op n name kids,d,v,m,hf,hv,hc,hm=>by
  obtain⟨f1,f2,f3,f4,f5,f6⟩:=Qa6l hf;have hvk:AllV v (Qac kids):=fun e he=>hv e (Jl _ he);have hck:CalT fns S (Qac kids):=hc.sub fun e he=>Jl _ he;by_cases h1:op=1
  ·exact⟨_,_,_,.num h1 f5.1 f5.2,Jf _,hm,.inl ⟨_,rfl⟩⟩
  by_cases h2:op=2
  ·obtain⟨z,hz⟩:=Jah.1 (hv _ J1 h2);exact⟨_,_,_,.var h2 hz,Jf _,hm,.inl ⟨_,rfl⟩⟩
  by_cases h13:op=13
  ·obtain⟨j,hj,hix,hpl,hcall⟩:=hc _ J1 h13;obtain⟨a,r,m1,e1,u1,s1,hr⟩:=Qbe1 kids (d-1) v m f1 hvk hck hm;rcases hr with ⟨ns,rfl,hnl⟩|⟨z,rfl⟩
   ·obtain⟨b,r2,m2,e2,u2,s2,hr2⟩:=hcall ns m1 (by rw[hpl];exact hnl) s1;exact⟨_,_,_,.call hj h13 hix hpl e1 e2,by omega,s2,hr2⟩
   ·exact⟨_,_,_,.callS hj h13 hix hpl e1,u1,s1,.inr ⟨_,rfl⟩⟩
  match kids,f1,f2,f3,f4,hvk,hck with
  |[],_,f2,f3,f4,_,_=>
   exfalso;by_cases h10:op≤10
   ·have:=f3 (by omega) h10;simp at this
   ·have:=f4 (by omega);simp at this
  |k::l,f1,f2,f3,f4,hvk,hck=>
   simp only[Qhc,J2]at f1;simp only[Qac]at hvk hck;obtain⟨a,r,m1,e1,u1,s1,hr⟩:=Ex.tot k (d-1) v m f1.1 hvk.app.1 (hck.sub fun e he=>Jc _ he) hm;rcases hr with ⟨x,rfl⟩|⟨z,rfl⟩
   ·match l,f1,f3,f4,hvk,hck with
    |[],f1,f3,f4,hvk,hck=>
     by_cases h11:op=11
     ·exact⟨_,_,_,.not h11 rfl e1,u1,s1,.inl ⟨_,rfl⟩⟩
     by_cases h12:op=12
     ·by_cases hx:x<16
      ·exact⟨_,_,_,.at_ h12 rfl e1 hx,u1,s1,.inl ⟨_,rfl⟩⟩
      ·exact⟨_,_,_,.atS h12 rfl e1 (by omega),u1,s1,.inr ⟨_,rfl⟩⟩
     have:=f3 (by omega) (by omega);simp at this
    |[k2],f1,f3,f4,hvk,hck=>
     have h10:op≤10:=by
      by_cases h:op≤10
      ·exact h
      ·have:=f4 (by omega);simp at this
     simp only[Qhc,J2]at f1;simp only[Qac]at hvk hck;have ih2:=fun m hm=>Ex.tot k2 (d-1) v m f1.2.1 hvk.app.2.app.1 (hck.sub fun e he=>Ja _ (Jc _ he)) hm;by_cases h:op=10
     ·by_cases hx:x=0
      ·subst hx;exact⟨_,_,_,.and0 h rfl e1,u1,s1,.inl ⟨_,rfl⟩⟩
      ·obtain⟨b,r2,m2,e2,u2,s2,hr2⟩:=ih2 m1 s1;rcases hr2 with ⟨y,rfl⟩|⟨z,rfl⟩
       ·exact⟨_,_,_,.and1 h rfl e1 hx e2,by omega,s2,.inl ⟨_,rfl⟩⟩
       ·exact⟨_,_,_,.andS h rfl e1 hx e2,by omega,s2,.inr ⟨_,rfl⟩⟩
     ·obtain⟨b,r2,m2,e2,u2,s2,hr2⟩:=ih2 m1 s1;have h3:3≤op:=(by omega);have h9:op≤9:=(by omega);rcases hr2 with ⟨y,rfl⟩|⟨z,rfl⟩
      ·cases hw:arN op x y with
       |none=>exact⟨_,_,_,.arD h3 h9 rfl e1 e2 hw,by omega,s2,.inr ⟨_,rfl⟩⟩
       |some w=>exact⟨_,_,_,.ar h3 h9 rfl e1 e2 hw,by omega,s2,.inl ⟨_,rfl⟩⟩
      ·exact⟨_,_,_,.arS h3 h9 rfl e1 e2,by omega,s2,.inr ⟨_,rfl⟩⟩
    |_::_::_,f1,f3,f4,hvk,hck=>
     exfalso;by_cases h10:op≤10
     ·have:=f3 (by omega) h10;simp at this
     ·have:=f4 (by omega);simp at this
   ·exact⟨_,_,_,.kidS (show 3≤op by omega) (show op≤12 by omega) rfl (fun h=>by rintro rfl;have:=f3 (by omega) h;simp at this) e1,u1,s1,.inr ⟨_,rfl⟩⟩
theorem Qbe1:∀(l:List Ex) (d:Int) (v:Vars) (m:Ms),Qhc l d=true→AllV v (Qac l)→CalT fns S (Qac l)→m.u≤S→Tot fns S (.exs l v) m fun r=>(∃ns,r=.vals ns∧ns.length=l.length)∨∃z,r=.dn z
 |[],d,v,m,hf,hv,hc,hm=>⟨_,_,_,.nil,Jf _,hm,.inl ⟨[],rfl,rfl⟩⟩
 |x::l,d,v,m,hf,hv,hc,hm=>by
  simp only[Qhc,J2]at hf;simp only[Qac]at hv hc;obtain⟨a,r,m1,e1,u1,s1,hr⟩:=Ex.tot x d v m hf.1 hv.app.1 (hc.sub fun e he=>Jc _ he) hm;rcases hr with ⟨n,rfl⟩|⟨z,rfl⟩
  ·obtain⟨b,r2,m2,e2,u2,s2,hr2⟩:=Qbe1 l d v m1 hf.2 hv.app.2 (hc.sub fun e he=>Ja _ he) s1;rcases hr2 with ⟨ns,rfl,hnl⟩|⟨z,rfl⟩
   ·exact⟨_,_,_,.cons e1 e2,by omega,s2,.inl ⟨_,rfl,by simp[hnl]⟩⟩
   ·exact⟨_,_,_,.consS2 e1 e2,by omega,s2,.inr ⟨_,rfl⟩⟩
  ·exact⟨_,_,_,.consS e1,u1,s1,.inr ⟨_,rfl⟩⟩
end
def isE (v:Vars)(w:Vars)(r:Rt):Prop:=(∃z,r=.dn z)∨(∃v',r=.env none v'∧nm v'=nm w)∨∃b v',r=.env (some b) v'∧(nm v').tail=(nm v).tail
def BlkT (fns:List Fn)(S k d:Nat):Prop:=∀(l:List St) (dp:Int) (v w:Vars) (n:Nat) (m:Ms),S-m.u≤d→m.u≤S→Qax l dp=true→(Qam fns k l ⟨w,0,n⟩).c=0→w≠[]→nm v=nm w→CalT fns S (Qat l)→
 Tot fns S (.blk l v) m (fun r=>(∃z,r=.dn z)∨∃b v',r=.env b v'∧(nm v').tail=(nm v).tail)
def LpT (fns:List Fn)(S k d:Nat):Prop:=∀(a:Ex) (op:Int) (name:List UInt8) (body els:List St) (dp:Int) (v w:Vars) (n:Nat) (m:Ms),S-m.u≤d→m.u≤S→a.valid=true→AllV v a.pre→Qax body dp=true→(Qam fns k body ⟨[]::w,0,n⟩).c=0→nm v=nm w→CalT fns S (a.pre++Qat body)→
 Tot fns S (.lp (.mk op name [a] body els) v) m (fun r=>(∃z,r=.dn z)∨∃b v',r=.env b v'∧nm v'=nm v)
theorem AllV.nm {v w:Vars}(h:nm v=nm w){l:List Ex}(ha:AllV v l):AllV w l:=fun e he ho=>Qaz8 h (ha e he ho)
theorem Qyq {a:Ex}(h:a.valid=true):a.form 6=true:=by
 rw[Ex.valid,J2]at h;exact h.1
theorem Qbji {k d:Nat}(hB:BlkT fns S k d)(hL:∀d',d'<d→LpT fns S k d'):LpT fns S k d:=by
 intro a op name body els dp v w n m hd hm hav hv hf hck hnm hc;obtain⟨x,r,m1,e1,u1,s1,hr⟩:=Ex.tot a 6 v m (Qyq hav) hv (hc.sub fun e he=>Jc _ he) hm;rcases hr with ⟨z,rfl⟩|⟨z,rfl⟩
 ·by_cases hz:z=0
  ·subst hz;exact⟨_,_,_,.lp0 rfl e1,u1,s1,.inr ⟨_,_,rfl,rfl⟩⟩
  ·obtain⟨y,r2,m2,e2,u2,s2,hr2⟩:=hB body dp ([]::v) ([]::w) n m1 (by omega) s1 hf hck (by simp) (by simp only[nm,Jj]at hnm⊢;rw[hnm]) (hc.sub fun e he=>Ja _ he);rcases hr2 with ⟨z,rfl⟩|⟨b,v',rfl,hv'⟩
   ·exact⟨_,_,_,.lpD rfl e1 hz e2,by omega,s2,.inl ⟨_,rfl⟩⟩
   ·have hvt:nm v'.tail=nm v:=by rw[Qa76,hv'];rfl
    cases b with
    |some q=>exact⟨_,_,_,.lpB rfl e1 hz e2,by omega,s2,.inr ⟨_,_,rfl,hvt⟩⟩
    |none=>
     by_cases hu:m2.u=S
     ·exact⟨_,_,_,.lpF rfl e1 hz e2 hu,by omega,s2,.inl ⟨_,rfl⟩⟩
     ·obtain⟨t,r3,m3,e3,u3,s3,hr3⟩:=hL (S-(m2.u+1)) (by omega) a op name body els dp v'.tail w n ⟨m2.u+1,m2.s,m2.c⟩ (Jf _) (by simp only;omega) hav (hv.nm hvt.symm) hf hck (hvt.trans hnm) hc;simp only at u3;refine⟨_,_,_,.lpN rfl e1 hz e2 (by omega) e3,by omega,s3,?_⟩;rcases hr3 with ⟨z,rfl⟩|⟨b,v2,rfl,h2⟩
      ·exact .inl ⟨_,rfl⟩
      ·exact .inr ⟨_,_,rfl,h2.trans hvt⟩
 ·exact⟨_,_,_,.lpS rfl e1,u1,s1,.inl ⟨_,rfl⟩⟩
theorem Qa0x {v v':Vars}{b:List (List UInt8×Nat)}(h:(nm v').tail=(nm (b::v)).tail):nm v'.tail=nm v:=by rw[Qa76,h];rfl
theorem Qbl1 {k d:Nat}(hB:BlkT fns S k d)(hL:LpT fns S k d):∀(x:St) (dp:Int) (v w:Vars) (n:Nat) (m:Ms),S-m.u≤d→m.u≤S→x.form dp=true→(x.ck fns k ⟨w,0,n⟩).c=0→w≠[]→nm v=nm w→CalT fns S x.pre→
  Tot fns S (.st x v) m (isE v (if x.op=1 then Qa8 w x.name n else w))
 |.mk op name args body els,dp,v,w,n,m,hd,hm,hf,hck,hw,hnm,hc=>by
  obtain⟨f1,f2,f3,f4,f5,f6,f7⟩:=Qa2c hf;obtain⟨c1,c2,c3,c4,c5⟩:=Qazz hck;have hv1:AllV v (Qac args):=c1.nm hnm.symm;simp only[St.pre]at hc;have hcA:CalT fns S (Qac args):=hc.sub fun e he=>Jc _ (Jc _ he);have hcB:CalT fns S (Qat body):=hc.sub fun e he=>Jc _ (Ja _ he);have hcE:CalT fns S (Qat els):=hc.sub fun e he=>Ja _ he;show Tot fns S (.st (.mk op name args body els) v) m (isE v (if op=1 then Qa8 w name n else w))
  match args,f5,f6,c1,hv1,hcA with
  |[],f5,_,_,_,_=>exfalso;simp only[argN,Ji]at f5;split at f5 <;> omega
  |[a],f5,f6,c1,hv1,hcA=>
   have h4:¬op=4:=by rintro rfl;simp[argN]at f5
   have hav:=f6 a (by simp);have hva:AllV v a.pre:=by simp only[Qac,Jt]at hv1;exact hv1
   have hca:CalT fns S a.pre:=by simp only[Qac,Jt]at hcA;exact hcA
   by_cases h6:op=6
   ·rw[if_neg (by omega:¬op=1)]at c3;rw[if_neg (by omega:¬op=1)]at c3;obtain⟨y,r,m1,e1,u1,s1,hr⟩:=hL a op name body els (dp-1) v w n m hd hm hav hva f1 c3 hnm (fun e he=>by
     rcases Je.1 he with he|he
     ·exact hca e he
     ·exact hcB e he)
    refine⟨_,_,_,.loop h6 e1,u1,s1,?_⟩;rcases hr with ⟨z,rfl⟩|⟨b,v',rfl,h⟩
    ·exact .inl ⟨_,rfl⟩
    ·cases b with
     |none=>exact .inr (.inl ⟨_,rfl,by rw[if_neg (by omega:¬op=1)];exact h.trans hnm⟩)
     |some b=>exact .inr (.inr ⟨_,_,rfl,by rw[h]⟩)
   obtain⟨y,r,m1,e1,u1,s1,hr⟩:=Ex.tot a 6 v m (Qyq hav) hva hca hm;rcases hr with ⟨x,rfl⟩|⟨z,rfl⟩
   ·by_cases h1:op=1
    ·refine⟨_,_,_,.let_ h1 rfl e1,u1,s1,.inr (.inl ⟨_,rfl,?_⟩)⟩;rw[if_pos h1,Qa73,Qa73,hnm];rfl
    ·rw[if_neg h1];rw[if_neg h1]at c3 c4;rw[if_neg h1]at c3 c4;by_cases h2:op=2
     ·exact⟨_,_,_,.set h2 rfl (Qaz8 hnm.symm (c2 h2)) e1,u1,s1,.inr (.inl ⟨_,rfl,by rw[Qa75];exact hnm⟩)⟩
     by_cases h3:op=3
     ·exact⟨_,_,_,.say h3 rfl e1,u1,s1,.inr (.inl ⟨_,rfl,hnm⟩)⟩
     by_cases h5:op=5
     ·by_cases hx:x=0
      ·subst hx;obtain⟨y2,r2,m2,e2,u2,s2,hr2⟩:=hB els (dp-1) ([]::v) ([]::w) _ m1 (by omega) s1 f2 c4 (by simp) (by simp only[nm,Jj]at hnm⊢;rw[hnm]) hcE;refine⟨_,_,_,.iff_ h5 rfl e1 e2,by omega,s2,?_⟩;rcases hr2 with ⟨z,rfl⟩|⟨b,v',rfl,h⟩
       ·exact .inl ⟨_,rfl⟩
       ·cases b with
        |none=>exact .inr (.inl ⟨_,rfl,(Qa0x h).trans hnm⟩)
        |some b=>exact .inr (.inr ⟨_,_,rfl,by rw[Qa0x h]⟩)
      ·obtain⟨y2,r2,m2,e2,u2,s2,hr2⟩:=hB body (dp-1) ([]::v) ([]::w) _ m1 (by omega) s1 f1 c3 (by simp) (by simp only[nm,Jj]at hnm⊢;rw[hnm]) hcB;refine⟨_,_,_,.ift h5 rfl e1 hx e2,by omega,s2,?_⟩;rcases hr2 with ⟨z,rfl⟩|⟨b,v',rfl,h⟩
       ·exact .inl ⟨_,rfl⟩
       ·cases b with
        |none=>exact .inr (.inl ⟨_,rfl,(Qa0x h).trans hnm⟩)
        |some b=>exact .inr (.inr ⟨_,_,rfl,by rw[Qa0x h]⟩)
     by_cases h7:op=7
     ·exact⟨_,_,_,.bck h7 rfl e1,u1,s1,.inr (.inr ⟨_,_,rfl,rfl⟩)⟩
     have h8:op=8:=(by omega);exact⟨_,_,_,.do_ h8 rfl e1,u1,s1,.inr (.inl ⟨_,rfl,hnm⟩)⟩
   ·exact⟨_,_,_,.argS h6 rfl (fun h=>absurd h h4) e1,u1,s1,.inl ⟨_,rfl⟩⟩
  |[a,b],f5,f6,c1,hv1,hcA=>
   have h4:op=4:=by
    by_cases h:op=4
    ·exact h
    ·simp[argN,h]at f5
   have hav:=f6 a (by simp);have hbv:=f6 b (by simp);simp only[Qac,Jt]at hv1 hcA;obtain⟨y,r,m1,e1,u1,s1,hr⟩:=Ex.tot a 6 v m (Qyq hav) hv1.app.1 (hcA.sub fun e he=>Jc _ he) hm;rcases hr with ⟨x,rfl⟩|⟨z,rfl⟩
   ·obtain⟨y2,r2,m2,e2,u2,s2,hr2⟩:=Ex.tot b 6 v m1 (Qyq hbv) hv1.app.2 (hcA.sub fun e he=>Ja _ he) s1;rcases hr2 with ⟨x2,rfl⟩|⟨z,rfl⟩
    ·by_cases hx:x<16
     ·exact⟨_,_,_,.put h4 rfl e1 e2 hx,by simp only;omega,s2,.inr (.inl ⟨_,rfl,by rw[if_neg (by omega:¬op=1)];exact hnm⟩)⟩
     ·exact⟨_,_,_,.putC h4 rfl e1 e2 (by omega),by omega,s2,.inl ⟨_,rfl⟩⟩
    ·exact⟨_,_,_,.putS h4 rfl e1 e2,by omega,s2,.inl ⟨_,rfl⟩⟩
   ·exact⟨_,_,_,.argS (show op≠6 by omega) rfl (fun _=>by simp) e1,u1,s1,.inl ⟨_,rfl⟩⟩
  |_::_::_::_,f5,_,_,_,_=>exfalso;simp only[argN,Jg]at f5;split at f5 <;> omega
theorem blkT {k:Nat}:∀d,BlkT fns S k d∧LpT fns S k d:=by
 intro d
 induction d using Nat.strongRecOn with
 |_ d ih=>
 have hB:BlkT fns S k d:=by
  intro l dp v w n m hd hm hf hck hw hnm hc
  cases l with
  |nil=>exact⟨_,_,_,.done,Jf _,hm,.inr ⟨_,_,rfl,rfl⟩⟩
  |cons x l=>
   by_cases hu:m.u=S
   ·exact⟨_,_,_,.fuel hu,Jf _,hm,.inl ⟨_,rfl⟩⟩
   ·simp only[Qax,J2]at hf;obtain⟨c1,c2⟩:=Qbel hck;simp only[Qat]at hc;have hlt:S-(m.u+1)<d:=(by omega);obtain⟨y,r,m1,e1,u1,s1,hr⟩:=Qbl1 (ih _ hlt).1 (ih _ hlt).2 x dp v w n ⟨m.u+1,m.s,m.c⟩ (Jf _) (by simp only;omega) hf.1 c1 hw hnm (hc.sub fun e he=>Jc _ he);simp only at u1;have hlu:m.u<S:=(by omega);rcases hr with ⟨z,rfl⟩|⟨v',rfl,h⟩|⟨b,v',rfl,h⟩
    ·exact⟨_,_,_,.stS hlu e1,by omega,s1,.inl ⟨_,rfl⟩⟩
    ·obtain⟨y2,r2,m2,e2,u2,s2,hr2⟩:=(ih _ hlt).1 l dp v' _ _ m1 (by omega) s1 hf.2 c2 (by split <;> simp[Qa8,hw]) h (hc.sub fun e he=>Ja _ he);refine⟨_,_,_,.next hlu e1 e2,by omega,s2,?_⟩;have ht:(nm v').tail=(nm v).tail:=by
      rw[h,hnm];split
      ·rw[Qa73];rfl
      ·rfl
     rcases hr2 with ⟨z,rfl⟩|⟨b,v2,rfl,h2⟩
     ·exact .inl ⟨_,rfl⟩
     ·exact .inr ⟨_,_,rfl,h2.trans ht⟩
    ·exact⟨_,_,_,.back hlu e1,by omega,s1,.inr ⟨_,_,rfl,h⟩⟩
 exact⟨hB,Qbji hB fun d' h=>(ih d' h).2⟩
theorem Qbe8 (ps:List (List UInt8)):nm (parV ps).1=[ps.reverse]:=by
 have:∀(l:List (List UInt8)) (b:List (List UInt8×Nat)) (n:Nat),nm (l.foldl (fun s p=>(Qa8 s.1 p s.2,s.2+1)) (([b]:Vars),n)).1=[l.reverse++b.map Prod.fst]:=by
  intro l
  induction l with
  |nil=>intro b n;rfl
  |cons a l ih=>intro b n;rw[List.foldl_cons];show nm (l.foldl _ (([(a,n)::b]:Vars),n+1)).1=_;rw[ih];simp
 rw[parV,this];simp
theorem Qa72 {ps:List (List UInt8)}{ns:List Nat}(h:ns.length=ps.length):nm (parE ps ns)=[ps.reverse]:=by
 simp only[nm,parE,Jj,Jav,List.map_reverse];rw[List.map_fst_zip (by omega)]
theorem Qbf3 (h:FineP fns):∀k (hk:k<fns.length) (ns:List Nat) (m:Ms),ns.length=fns[k].params.length→m.u≤S→Tot fns S (.call fns[k] ns) m isV:=by
 intro k
 induction k using Nat.strongRecOn with
 |_ k ih=>
 intro hk ns m hn hm;obtain⟨_,_,h3,_,_,_,h7⟩:=h.fn hk;have hc:CalT fns S (Qat fns[k].body):=fun e he ho=>by
  obtain⟨j,hj,hl,h1,h2⟩:=h.call hk he ho;exact⟨j,hl,by rw[←h1];exact h.ix j hl,h2,fun ns m hn hm=>ih j hj hl ns m hn hm⟩
 obtain⟨y,r,m1,e1,u1,s1,hr⟩:=(blkT (fns:=fns) (S:=S) (k:=k) (S-m.u)).1 fns[k].body 4 (parE fns[k].params ns) (parV fns[k].params).1 _ m (Jf _) hm h7 h3 (Qbjr (v:=(parV fns[k].params).1) (w:=parE fns[k].params ns) (by rw[Qbe8,Qa72 hn]) (by simp[parE])) (by rw[Qbe8,Qa72 hn]) hc;refine⟨_,_,_,.body e1,u1,s1,?_⟩;rcases hr with ⟨z,rfl⟩|⟨b,v',rfl,h⟩
 ·exact .inr ⟨_,rfl⟩
 ·cases b with
  |none=>exact .inl ⟨_,rfl⟩
  |some b=>exact .inl ⟨_,rfl⟩
end Go.AE.Y
namespace Go.AE.Y
variable {fns gns:List Fn}{S:Nat}
def CalD (fns gns:List Fn)(P:Fn→Prop)(e:Ex):Prop:=∀j (hj:j<fns.length),Qi1 fns e.name=some j→∃j',∃hj':j'<gns.length,Qi1 gns e.name=some j'∧gns[j']=fns[j]∧P fns[j]
def CalL (fns gns:List Fn)(P:Fn→Prop)(l:List Ex):Prop:=∀e∈l,e.op=13→CalD fns gns P e
theorem CalL.app {P:Fn→Prop}{a b:List Ex}(h:CalL fns gns P (a++b)):CalL fns gns P a∧CalL fns gns P b:=⟨fun e he=>h e (Jc _ he),fun e he=>h e (Ja _ he)⟩
def Tk.parts:Tk→List Ex
 |.ex x _=>x.pre
 |.exs l _=>Qac l
 |.call f _=>Qat f.body
 |.blk l _=>Qat l
 |.st x _=>x.pre
 |.lp x _=>x.pre
theorem Qcf {e:Ex}{l:List Ex}(h:e.kids=l){P:Fn→Prop}(hc:CalL fns gns P e.pre):CalL fns gns P (Qac l):=by
 rw[e.pre_eq,h]at hc;exact fun x hx=>hc x (Jl _ hx)
theorem Qay {x:St}{l:List Ex}(h:x.args=l){P:Fn→Prop}(hc:CalL fns gns P x.pre):CalL fns gns P (Qac l)∧CalL fns gns P (Qat x.body)∧CalL fns gns P (Qat x.els):=by
 rw[x.pre_eq,h]at hc;exact⟨hc.app.1.app.1,hc.app.1.app.2,hc.app.2⟩
theorem Qbt {P:Fn→Prop}{k:Ex}(h:CalL fns gns P (Qac [k])):CalL fns gns P k.pre:=by simpa[Qac]using h
theorem Qbv {P:Fn→Prop}{k:Ex}{l:List Ex}(h:CalL fns gns P (Qac (k::l))):CalL fns gns P k.pre∧CalL fns gns P (Qac l):=by simp only[Qac]at h;exact h.app
theorem Ev.to {P:Fn→Prop}(hP:∀f,P f→CalL fns gns P (Qat f.body)){h:Nat}{t:Tk}{m:Ms}{r:Rt}{m':Ms}(hev:Ev fns S h t m r m'):CalL fns gns P t.parts→Ev gns S h t m r m':=by
 induction hev with
 |num h1 h2 h3=>exact fun _=>.num h1 h2 h3
 |var h1 h2=>exact fun _=>.var h1 h2
 |@call e v m j ns m1 r m2 a b hj h1 h2 h3 e1 e2 i1 i2=>
  intro hc;obtain⟨j',hj',a1,a2,a3⟩:=hc e (by rw[Tk.parts,e.pre_eq];exact J1) h1 j hj h2;have e2':=i2 (hP _ a3);rw[←a2]at e2' h3;exact .call hj' h1 a1 h3 (i1 (Qcf rfl hc)) e2'
 |@callS e v m z m1 a j hj h1 h2 h3 e1 i1=>
  intro hc;obtain⟨j',hj',a1,a2,a3⟩:=hc e (by rw[Tk.parts,e.pre_eq];exact J1) h1 j hj h2;rw[←a2]at h3;exact .callS hj' h1 a1 h3 (i1 (Qcf rfl hc))
 |kidS h1 h2 h3 h4 e1 i1=>exact fun hc=>.kidS h1 h2 h3 h4 (i1 (Qbv (Qcf h3 hc)).1)
 |not h1 h2 e1 i1=>exact fun hc=>.not h1 h2 (i1 (Qbt (Qcf h2 hc)))
 |at_ h1 h2 e1 h3 i1=>exact fun hc=>.at_ h1 h2 (i1 (Qbt (Qcf h2 hc))) h3
 |atS h1 h2 e1 h3 i1=>exact fun hc=>.atS h1 h2 (i1 (Qbt (Qcf h2 hc))) h3
 |and0 h1 h2 e1 i1=>exact fun hc=>.and0 h1 h2 (i1 (Qbv (Qcf h2 hc)).1)
 |and1 h1 h2 e1 h3 e2 i1 i2=>exact fun hc=>.and1 h1 h2 (i1 (Qbv (Qcf h2 hc)).1) h3 (i2 (Qbt (Qbv (Qcf h2 hc)).2))
 |andS h1 h2 e1 h3 e2 i1 i2=>exact fun hc=>.andS h1 h2 (i1 (Qbv (Qcf h2 hc)).1) h3 (i2 (Qbt (Qbv (Qcf h2 hc)).2))
 |ar h1 h2 h3 e1 e2 h4 i1 i2=>exact fun hc=>.ar h1 h2 h3 (i1 (Qbv (Qcf h3 hc)).1) (i2 (Qbt (Qbv (Qcf h3 hc)).2)) h4
 |arD h1 h2 h3 e1 e2 h4 i1 i2=>exact fun hc=>.arD h1 h2 h3 (i1 (Qbv (Qcf h3 hc)).1) (i2 (Qbt (Qbv (Qcf h3 hc)).2)) h4
 |arS h1 h2 h3 e1 e2 i1 i2=>exact fun hc=>.arS h1 h2 h3 (i1 (Qbv (Qcf h3 hc)).1) (i2 (Qbt (Qbv (Qcf h3 hc)).2))
 |nil=>exact fun _=>.nil
 |cons e1 e2 i1 i2=>exact fun hc=>.cons (i1 (Qbv hc).1) (i2 (Qbv hc).2)
 |consS e1 i1=>exact fun hc=>.consS (i1 (Qbv hc).1)
 |consS2 e1 e2 i1 i2=>exact fun hc=>.consS2 (i1 (Qbv hc).1) (i2 (Qbv hc).2)
 |body e1 i1=>exact fun hc=>.body (i1 hc)
 |done=>exact fun _=>.done
 |fuel h1=>exact fun _=>.fuel h1
 |next h1 e1 e2 i1 i2=>
  intro hc;simp only[Tk.parts,Qat]at hc;exact .next h1 (i1 hc.app.1) (i2 hc.app.2)
 |back h1 e1 i1=>
  intro hc;simp only[Tk.parts,Qat]at hc;exact .back h1 (i1 hc.app.1)
 |stS h1 e1 i1=>
  intro hc;simp only[Tk.parts,Qat]at hc;exact .stS h1 (i1 hc.app.1)
 |loop h1 e1 i1=>exact fun hc=>.loop h1 (i1 hc)
 |argS h1 h2 h3 e1 i1=>exact fun hc=>.argS h1 h2 h3 (i1 (Qbv (Qay h2 hc).1).1)
 |let_ h1 h2 e1 i1=>exact fun hc=>.let_ h1 h2 (i1 (Qbt (Qay h2 hc).1))
 |set h1 h2 h3 e1 i1=>exact fun hc=>.set h1 h2 h3 (i1 (Qbt (Qay h2 hc).1))
 |say h1 h2 e1 i1=>exact fun hc=>.say h1 h2 (i1 (Qbt (Qay h2 hc).1))
 |put h1 h2 e1 e2 h3 i1 i2=>exact fun hc=>.put h1 h2 (i1 (Qbv (Qay h2 hc).1).1) (i2 (Qbt (Qbv (Qay h2 hc).1).2)) h3
 |putC h1 h2 e1 e2 h3 i1 i2=>exact fun hc=>.putC h1 h2 (i1 (Qbv (Qay h2 hc).1).1) (i2 (Qbt (Qbv (Qay h2 hc).1).2)) h3
 |putS h1 h2 e1 e2 i1 i2=>exact fun hc=>.putS h1 h2 (i1 (Qbv (Qay h2 hc).1).1) (i2 (Qbt (Qbv (Qay h2 hc).1).2))
 |ift h1 h2 e1 h3 e2 i1 i2=>exact fun hc=>.ift h1 h2 (i1 (Qbt (Qay h2 hc).1)) h3 (i2 (Qay h2 hc).2.1)
 |iff_ h1 h2 e1 e2 i1 i2=>exact fun hc=>.iff_ h1 h2 (i1 (Qbt (Qay h2 hc).1)) (i2 (Qay h2 hc).2.2)
 |bck h1 h2 e1 i1=>exact fun hc=>.bck h1 h2 (i1 (Qbt (Qay h2 hc).1))
 |do_ h1 h2 e1 i1=>exact fun hc=>.do_ h1 h2 (i1 (Qbt (Qay h2 hc).1))
 |lpS h1 e1 i1=>exact fun hc=>.lpS h1 (i1 (Qbt (Qay h1 hc).1))
 |lp0 h1 e1 i1=>exact fun hc=>.lp0 h1 (i1 (Qbt (Qay h1 hc).1))
 |lpB h1 e1 h2 e2 i1 i2=>exact fun hc=>.lpB h1 (i1 (Qbt (Qay h1 hc).1)) h2 (i2 (Qay h1 hc).2.1)
 |lpD h1 e1 h2 e2 i1 i2=>exact fun hc=>.lpD h1 (i1 (Qbt (Qay h1 hc).1)) h2 (i2 (Qay h1 hc).2.1)
 |lpF h1 e1 h2 e2 h3 i1 i2=>exact fun hc=>.lpF h1 (i1 (Qbt (Qay h1 hc).1)) h2 (i2 (Qay h1 hc).2.1) h3
 |lpN h1 e1 h2 e2 h3 e3 i1 i2 i3=>exact fun hc=>.lpN h1 (i1 (Qbt (Qay h1 hc).1)) h2 (i2 (Qay h1 hc).2.1) h3 (i3 hc)
def Qmt (fns:List Fn):Fn:=fnAt fns (fns.length-1)
structure Oc where
 e:Nat
 v:Nat
 s:List Nat
 c:List Nat
 u:Nat
def ocOf (r:Rt)(m:Ms):Oc:=match r with
 |.val n=>⟨0,n,m.s,m.c,m.u⟩
 |.dn z=>⟨z,0,m.s,m.c,m.u⟩
 |_=>⟨0,0,m.s,m.c,m.u⟩
def ms0:Ms:=⟨0,[],List.replicate 16 0⟩
def RunR (fns:List Fn)(S:Nat)(l:List Nat)(o:Oc):Prop:=∃h r m',Ev fns S h (.call (Qmt fns) l) ms0 r m'∧isV r∧o=ocOf r m'
theorem Qbjw (h:FineP fns){l:List Nat}(hl:l.length=(Qmt fns).params.length):∃o,RunR fns S l o:=by
 have h0:=h.len.1;have hk:fns.length-1<fns.length:=by omega
 rw[Qmt,Qfm hk]at hl;obtain⟨y,r,m',e,_,_,hr⟩:=Qbf3 (S:=S) h _ hk l ms0 hl (Nat.zero_le _);exact⟨_,y,r,m',by rw[Qmt,Qfm hk];exact e,hr,rfl⟩
theorem Qaq4 (h:FineP fns):Qmt (Qbm fns)=Qmt fns:=by
 obtain⟨n1,n2⟩:=Qad4 h;have hl:(Qbm fns).length-1<(Qbm fns).length:=by rw[Qcb];omega
 obtain⟨_,hk,he⟩:=Qkm h hl;have h2:=n2 (by omega);have e1:(Qct fns)[(Qbm fns).length-1]'(by rw[Qcb];omega)=fns.length-1:=by
  have:(Qbm fns).length-1=(Qct fns).length-1:=by rw[Qcb]
  simp only[this];exact h2
 rw[Qmt,Qmt,Qfm hl,he];have h0:=h.len.1;rw[Qfm (by omega)];simp only[e1]
theorem Qamn (h:FineP fns){k:Nat}(hn:NdF fns k):CalL fns (Qbm fns) (fun f=>∃k,∃hk:k<fns.length,NdF fns k∧f=fns[k]) (Qat (fns[k]'(h.nd_lt hn)).body):=by
 intro e he ho j hj hix;have hk:=h.nd_lt hn;obtain⟨hj',hnm,_⟩:=Qt9 hix;have hc:Cls fns k j:=⟨hk,hj,e,he,ho,hnm.symm⟩;have hnj:NdF fns j:=.to hn hc;obtain⟨i,hi,hij⟩:=Jan.1 (h.need_mem.2 hnj);have hil:i<(Qbm fns).length:=by rw[Qcb];exact hi
 obtain⟨_,hk2,he2⟩:=Qkm h hil;have hg:(Qbm fns)[i]=fns[j]:=by rw[he2];simp only[hij]
 refine⟨i,hil,?_,hg,j,hj,hnj,rfl⟩;have:=(Q6c h).ix i hil;rw[hg,hnm]at this;exact this
theorem Qbbj (h:FineP fns){l:List Nat}{o:Oc}(hr:RunR fns S l o):RunR (Qbm fns) S l o:=by
 obtain⟨y,r,m',e,h1,h2⟩:=hr;have h0:=h.len.1;have hk:fns.length-1<fns.length:=by omega
 refine⟨y,r,m',?_,h1,h2⟩;rw[Qaq4 h];refine e.to (P:=fun f=>∃k,∃hk:k<fns.length,NdF fns k∧f=fns[k]) (fun f hf=>?_) ?_
 ·obtain⟨k,hk,hn,rfl⟩:=hf;exact Qamn h hn
 ·have:=Qamn h (k:=fns.length-1) .top;rw[Tk.parts,Qmt,Qfm hk];exact this
end Go.AE.Y
namespace Go.AE.Y
variable {fns:List Fn}{S:Nat}
theorem Qa1c (s:List UInt8)(n:Nat):∀b:List (List UInt8×Nat),(setB s n b).length=b.length
 |[]=>rfl
 |p::r=>by
  simp only[setB];split
  ·rfl
  ·rw[Jg,Jg,Qa1c s n r]
def Qgv (v:Vars):List Nat:=v.map List.length
theorem Qa0l (s:List UInt8)(n:Nat):∀v:Vars,Qgv (setV s n v)=Qgv v
 |[]=>rfl
 |b::v=>by
  simp only[setV];split
  ·simp only[Qgv,Jj,Qa1c]
  ·have:=Qa0l s n v;simp only[Qgv,Jj]at this⊢;rw[this]
theorem Qa7b (v:Vars):Qgv v.tail=(Qgv v).tail:=by cases v <;> rfl
theorem Qbcu (v:Vars)(s:List UInt8)(n:Nat):(Qgv (Qa8 v s n)).tail=(Qgv v).tail:=by
 cases v <;> rfl
theorem Qyg (v:Vars):v.flatten.length=(Qgv v).sum:=List.length_flatten
theorem Qbct {v w:Vars}(h:Qgv v=Qgv w)(hw:w≠[]):v≠[]:=by
 rintro rfl
 cases w with
 |nil=>exact hw rfl
 |cons b w=>simp[Qgv]at h
def Tk.shp:Tk→Rt→Prop
 |.blk l v,.env _ v'=>v≠[]→v'≠[]∧(Qgv v').tail=(Qgv v).tail∧(Qgv v).headD 0≤(Qgv v').headD 0∧(Qgv v').headD 0≤(Qgv v).headD 0+l.length
 |.st _ v,.env _ v'=>v≠[]→v'≠[]∧(Qgv v').tail=(Qgv v).tail∧(Qgv v).headD 0≤(Qgv v').headD 0∧(Qgv v').headD 0≤(Qgv v).headD 0+1
 |.lp _ v,.env _ v'=>Qgv v'=Qgv v
 |_,_=>True
theorem Q50 (n:Nat)(v:Vars):v≠[]→v≠[]∧(Qgv v).tail=(Qgv v).tail∧(Qgv v).headD 0≤(Qgv v).headD 0∧(Qgv v).headD 0≤(Qgv v).headD 0+n:=fun h=>⟨h,rfl,Jf _,Jay _ _⟩
theorem Qacn {v w:Vars}(h:Qgv w=Qgv v):v≠[]→w≠[]∧(Qgv w).tail=(Qgv v).tail∧(Qgv v).headD 0≤(Qgv w).headD 0∧(Qgv w).headD 0≤(Qgv v).headD 0+1:=fun hv=>⟨Qbct h hv,by rw[h],by rw[h];exact Jf _,by rw[h];exact Jay _ _⟩
theorem Qajb {v v':Vars}(h:(Qgv v').tail=(Qgv ([]::v)).tail):Qgv v'.tail=Qgv v:=by rw[Qa7b,h];rfl
theorem Ev.shp {h:Nat}{t:Tk}{m:Ms}{r:Rt}{m':Ms}(hev:Ev fns S h t m r m'):t.shp r:=by
 induction hev with
 |@body f ns m r m1 a e1 i1=>
  cases r with
  |env b v=>cases b <;> trivial
  |_=>trivial
 |done=>exact Q50 _ _
 |@next x l v m v1 m1 r m2 a b h1 e1 e2 i1 i2=>
  cases r with
  |env b v2=>
   intro hv;obtain⟨a1,a2,a3,a4⟩:=i1 hv;obtain⟨b1,b2,b3,b4⟩:=i2 a1;exact⟨b1,b2.trans a2,Nat.le_trans a3 b3,by rw[Jg];omega⟩
  |_=>trivial
 |back h1 e1 i1=>exact fun hv=>⟨(i1 hv).1,(i1 hv).2.1,(i1 hv).2.2.1,by have:=(i1 hv).2.2.2;rw[Jg];omega⟩
 |@loop x v m r m1 a h1 e1 i1=>
  cases r with
  |env b v2=>exact Qacn i1
  |_=>trivial
 |@let_ x v m n m1 a k h1 h2 e1 i1=>
  intro hv;refine⟨by simp[Qa8],Qbcu _ _ _,?_⟩
  cases v with
  |nil=>exact absurd rfl hv
  |cons b v=>exact⟨(show b.length≤((x.name,n)::b).length by simp),(show ((x.name,n)::b).length≤b.length+1 by simp)⟩
 |@set x v m n m1 a k h1 h2 h3 e1 i1=>exact Qacn (Qa0l _ _ _)
 |say h1 h2 e1 i1=>exact Q50 _ _
 |put h1 h2 e1 e2 h3 i1 i2=>exact Q50 _ _
 |@ift x v m n m1 r m2 a b k h1 h2 e1 h3 e2 i1 i2=>
  cases r with
  |env b v2=>exact Qacn (Qajb (i2 (by simp)).2.1)
  |_=>trivial
 |@iff_ x v m m1 r m2 a b k h1 h2 e1 e2 i1 i2=>
  cases r with
  |env b v2=>exact Qacn (Qajb (i2 (by simp)).2.1)
  |_=>trivial
 |bck h1 h2 e1 i1=>exact Q50 _ _
 |do_ h1 h2 e1 i1=>exact Q50 _ _
 |lp0 h1 e1 i1=>rfl
 |lpB h1 e1 h2 e2 i1 i2=>exact Qajb (i2 (by simp)).2.1
 |@lpN x v m n m1 v1 m2 r m3 a b c k h1 e1 h2 e2 h3 e3 i1 i2 i3=>
  cases r with
  |env b v2=>
   have:Qgv v2=Qgv v1.tail:=i3;exact this.trans (Qajb (i2 (by simp)).2.1)
  |_=>trivial
 |_=>trivial
theorem Qac7 {v v':Vars}(hv':v'≠[])(h:(Qgv v').tail=Qgv v):v'.flatten.drop (v'.flatten.length-v.flatten.length)=v'.tail.flatten:=by
 cases v' with
 |nil=>exact absurd rfl hv'
 |cons t w=>
  have:w.flatten.length=v.flatten.length:=by rw[Qyg,Qyg];rw[show Qgv w=Qgv v from h]
  rw[List.flatten_cons,J0,this,Nat.add_sub_cancel,List.drop_left,List.tail_cons]
theorem Qau5 {s:List UInt8}{n:Nat}:∀{v:Vars},(setV s n v).flatten=setB s n v.flatten
 |[]=>rfl
 |b::v=>by
  have key:∀(b r:List (List UInt8×Nat)),setB s n (b++r)=if (b.any fun p=>decide (p.1=s))=true then setB s n b++r else b++setB s n r:=by
   intro b r
   induction b with
   |nil=>simp
   |cons p b ih=>
    simp only[Jm,setB,Ja4];by_cases h:p.1=s
    ·simp[h]
    ·simp only[if_neg h,decide_eq_false h,Ja3,ih];split <;> simp
  simp only[setV];rw[List.flatten_cons,key];split
  ·rw[List.flatten_cons]
  ·rw[List.flatten_cons,Qau5]
theorem Qaqv (v:Vars)(s:List UInt8):v.find s=(v.flatten.find? fun p=>decide (p.1=s)).map Prod.snd:=rfl
theorem Qa1f {v v':Vars}{n:Nat}(hv:v≠[])(h:v'≠[]∧(Qgv v').tail=(Qgv v).tail∧(Qgv v).headD 0≤(Qgv v').headD 0∧(Qgv v').headD 0≤(Qgv v).headD 0+n):v.flatten.length≤v'.flatten.length∧v'.flatten.length≤v.flatten.length+n:=by
 obtain⟨h1,h2,h3,h4⟩:=h
 cases v with
 |nil=>exact absurd rfl hv
 |cons b v=>
  cases v' with
  |nil=>exact absurd rfl h1
  |cons b' v'=>
   have e:Qgv v'=Qgv v:=h2;have:v'.flatten.length=v.flatten.length:=by rw[Qyg,Qyg,e]
   have h3:b.length≤b'.length:=h3;have h4:b'.length≤b.length+n:=h4;rw[List.flatten_cons,List.flatten_cons,J0,J0];omega
end Go.AE.Y
namespace Go.AE.Y
def trI (b:Prop) [Decidable b]:Int:=if b then 1 else 0
def arR (op a b:Int):Option Int:=
 if op=3 then some ((a+b) % 256)else if op=4 then some ((a-b+256) % 256)else if op=5 then some (a * b % 256)
 else if op=6 then (if b=0 then none else some (a / b))else if op=7 then (if b=0 then none else some (a % b))
 else if op=8 then some (trI (a<b))else if op=9 then some (trI (a=b))else some (trI (a=0))
def byI (v:Int):Prop:=0≤v∧v≤255
open Go.Proofs.Tryz
def Qlu:List Item:=[pF 30 24 29,mJ 4 30]
def Qlv:List Item:=mJ 10 9::gTf 11 10 1 2::gTl 12 10 11::gTf 13 10 1 3::gTl 14 10 13::gT 15 10 (.bin 0 .eql (.t 12) (.t 14))::pF 16 10 15::mJ 17 16::gTf 18 17 2 2::gTl 19 17 18::gTf 20 17 2 3::gTl 21 17 20::gT 22 17 (.bin 0 .eql (.t 19) (.t 21))::pF 23 17 22::mJ 24 23::gTf 25 24 3 2::gTl 26 24 25::gTf 27 24 3 3::gTl 28 24 27::.e (some 29) (some (24,true)) (.call Qqg [.t 26,.t 28])::Qlu
def Q4x:SC:=sR (fJ 5 0 2::lJ 6 5::fJ 7 0 3::lJ 8 7::aJ 9 Qqg [.t 6,.t 8]::Qlv) [4] .ret
def Qaa0:SC:=sR [vJ 2 0,vJ 3 1,fB 4 false] [2,3] Q4x
theorem Qaau:mFn prog Qhe 2 31 Qaa0 Qm4=true:=by kernel_rfl
def Qlx:List Item:=[gT 12 9 (.not (.t 11)),pF 13 9 12,mJ 4 13]
def Qajy:SC:=sR (mJ 5 0::nJ 6 5::mJ 7 1::bJ 8 .eql 6 7::mJ 9 8::gTm 10 9 0::.e (some 11) (some (9,true)) (.call Qfw [.t 10,.k (.c (.fn Qi2 []))])::Qlx) [4] .ret
def Qasn:SC:=sR [fB 4 false] [0,1] Qajy
theorem Qara:mFn prog Qp3 2 14 Qasn Qm4=true:=by kernel_rfl
def Qnf:List Item:=[oJ 5 4,mJ 2 5]
def Q7g:SC:=sR (mJ 3 0::aJ 4 Qh4 [.t 3]::Qnf) [2] .ret
def Qae2:SC:=sR [fB 2 false] [0] Q7g
theorem Qadq:mFn prog Qi2 1 6 Qae2 Qcu=true:=by kernel_rfl
def Qasf:SC:=cT 29 .skip (.reg [cJ 31 .eql 9 7,mJ 29 31] [0,1,2,8,9,29])
def Qasg:SC:=cT 33 (sR [zJ 6 0,fB 7 false] [6,7] .ret) .skip
def Qash:SC:=cT 35 (sR [mJ 36 1,mJ 37 2,bJ 38 .quo 36 37,mJ 6 38,fB 7 true] [6,7] .ret) .skip
def Qasi:SC:=sR [mJ 39 1,mJ 40 2,bJ 41 .rem 39 40,mJ 6 41,fB 7 true] [6,7] .ret
def Qasj:SC:=.seq (sR [mJ 34 0,cJ 35 .eql 34 6] [1,2,35] Qash) Qasi
def Q40:List Item:=[mJ 6 48,fB 7 true]
def Q41:List Item:=[mJ 6 55,fB 7 true]
def Q42:List Item:=[mJ 6 65,fB 7 true]
def Qask:SC:=cT 56 (sR (mJ 58 8::mJ 59 1::cJ 60 .neq 59 0::mJ 61 60::gTm 62 61 2::gT 63 61 (.bin 0 .neq (.t 62) (kI 0))::pF 64 61 63::eI 65 (.callv (.t 58) [.t 64])::Q42) [6,7] .ret) .skip
def Qasl:SC:=cT 49 (sR (mJ 51 8::mJ 52 1::mJ 53 2::bJ 54 .eql 52 53::eI 55 (.callv (.t 51) [.t 54])::Q41) [6,7] .ret) (sR [cJ 57 .eql 9 10,mJ 56 57] [1,2,8,56] Qask)
def Qao9:SC:=cT 42 (sR (mJ 44 8::mJ 45 1::mJ 46 2::bJ 47 .lss 45 46::eI 48 (.callv (.t 44) [.t 47])::Q40) [6,7] .ret) (sR [cJ 50 .eql 9 9,mJ 49 50] [1,2,8,9,49] Qasl)
def Q4y:SC:=cT 29 (.seq (sR [mJ 32 2,cJ 33 .eql 32 0] [0,1,2,33] Qasg) Qasj) (sR [cJ 43 .eql 9 8,mJ 42 43] [1,2,8,9,42] Qao9)
def Qapa:SC:=cT 23 (sR [mJ 25 1,mJ 26 2,bJ 27 .mul 25 26,cJ 28 .rem 27 256,mJ 6 28,fB 7 true] [6,7] .ret) (.seq (sR [cJ 30 .eql 9 6,mJ 29 30] [0,1,2,8,9,29] Qasf) Q4y)
def Qapb:SC:=cT 16 (sR [mJ 18 1,mJ 19 2,bJ 20 .sub 18 19,cJ 21 .add 20 256,cJ 22 .rem 21 256,mJ 6 22,fB 7 true] [6,7] .ret) (sR [cJ 24 .eql 9 5,mJ 23 24] [0,1,2,8,9,23] Qapa)
def Qapc:SC:=cT 10 (sR [mJ 12 1,mJ 13 2,bJ 14 .add 12 13,cJ 15 .rem 14 256,mJ 6 15,fB 7 true] [6,7] .ret) (sR [cJ 17 .eql 9 4,mJ 16 17] [0,1,2,8,9,16] Qapb)
def Qapd:SC:=.block 0 (sR [cJ 11 .eql 9 3,mJ 10 11] [0,1,2,8,9,10] Qapc)
def Q04:List Item:=[mJ 6 69,fB 7 true]
def Q4z:SC:=sR (mJ 66 8::mJ 67 1::cJ 68 .eql 67 0::eI 69 (.callv (.t 66) [.t 68])::Q04) [6,7] .ret
def Qape:SC:=.seq (sR [mJ 9 0] [0,1,2,8,9] Qapd) Q4z
def Qapf:SC:=sR [fI 8 (.mv (.k (.c (.fn Qhw []))))] [0,1,2,8] Qape
def Qa2x:SC:=sR [zJ 6 0,fB 7 false] [0,1,2] Qapf
def Qk9:List RS:=[.tmp 6,.tmp 7]
theorem Q6n:mFn prog Qez 3 70 Qa2x Qk9=true:=by kernel_rfl
def Qaey:SC:=cT 3 (sR [zJ 2 1] [2] .ret) .skip
def Qaez:SC:=sR [zJ 2 0] [2] .ret
def Qae0:SC:=.seq (sR [mJ 3 0] [3] Qaey) Qaez
def Qapg:SC:=sR [zJ 2 0] [0] Qae0
theorem Qaop:mFn prog Qhw 1 4 Qapg Qcu=true:=by kernel_rfl
end Go.AE.Y
namespace Go.AE.Y
attribute [local go_sem] cond_true cond_false Bool.not_true Bool.not_false
open Go.Proofs.Tryz
variable {H:Heap}{K:V→Heap→Prop}
theorem Qaqi {b:Bool}(hK:K (.c (.int .i64 (trI (b=true)))) H):Ql prog Qhw [.c (.bool b)] H K:=by
 refine Qc Qal Qaop ?_;refine Qa ?_;simp only[go_sem];refine Q6 ?_;refine Qa ?_;simp only[go_sem];refine Qf (Qb rfl ?_ ?_)
 ·intro hc;subst hc;refine Qa ?_;simp only[go_sem];refine Qh ?_;simp only[go_sem,Qp,Q8,Qcu,Jb,forall_eq,RS.op];exact hK
 ·intro hc;subst hc;refine Qe ?_;try simp only[go_sem]
  refine Qa ?_;simp only[go_sem];refine Qh ?_;simp only[go_sem,Qp,Q8,Qcu,Jb,forall_eq,RS.op];exact hK
theorem Qaqh {p:Prop} [Decidable p]:trI (decide p=true)=trI p:=by simp[trI]
def arP (op a b:Int):Int×Bool:=match arR op a b with
 |some v=>(v,true)
 |none=>(0,false)
theorem Qa1i {a b:Int}(h:0≤a):a.tmod b=a % b:=Int.tmod_eq_emod_of_nonneg h
theorem Qbfi {a b:Int}(h:0≤a):a.tdiv b=a / b:=Int.tdiv_eq_ediv_of_nonneg h
theorem Qbfv {op a b:Int}(ha:byI a)(hb:byI b)(h3:3≤op)(h9:op≤9)(hK:K (.tup [.c (.int .i64 (arP op a b).1),.c (.bool (arP op a b).2)]) H) :
  Ql prog Qez [.c (.int .i64 op),.c (.int .i64 a),.c (.int .i64 b)] H K:=by
 obtain⟨a0,a1⟩:=ha;obtain⟨b0,b1⟩:=hb;refine Qc Qal Q6n ?_;have retf:∀(v:Int) (t:Bool) (e:Env),arP op a b=(v,t)→lk 6 e=.c (.int .i64 v)→lk 7 e=.c (.bool t)→Qp Qk9 K .ret e H:=by
  intro v t e h1 h2 h3;simp only[go_sem,Qp,Q8,Qk9,RS.op,h2,h3];rw[h1]at hK;exact hK
 refine Qa ?_;simp only[go_sem];refine Qa ?_;simp only[go_sem];refine Q6 ?_;refine Qa ?_;simp only[go_sem];refine Qf (Qd ?_);refine Qa ?_;simp only[go_sem];refine Qb rfl ?_ ?_
 ·intro hc;have ho:op=3:=of_decide_eq_true hc;subst ho;refine Qa ?_;simp only[go_sem];refine⟨Q1 (by omega) (by omega),by omega,?_⟩;refine Qh ?_;simp only[go_sem];refine retf _ _ _ ?_ rfl rfl;rw[Qa1i (by omega)];rfl
 intro hc;have n3:=of_decide_eq_false hc;refine Qa ?_;simp only[go_sem];refine Qb rfl ?_ ?_
 ·intro hc;have ho:op=4:=of_decide_eq_true hc;subst ho;refine Qa ?_;simp only[go_sem];refine⟨Q1 (by omega) (by omega),Q1 (by omega) (by omega),by omega,?_⟩;refine Qh ?_;simp only[go_sem];refine retf _ _ _ ?_ rfl rfl;rw[Qa1i (by omega)];rfl
 intro hc;have n4:=of_decide_eq_false hc;refine Qa ?_;simp only[go_sem];refine Qb rfl ?_ ?_
 ·intro hc;have ho:op=5:=of_decide_eq_true hc;subst ho;have hab:0≤a * b:=Int.mul_nonneg a0 b0;have hab2:a * b≤255 * 255:=Int.mul_le_mul a1 b1 b0 (by omega);refine Qa ?_;simp only[go_sem];refine⟨Q1 (by omega) (by omega),by omega,?_⟩;refine Qh ?_;simp only[go_sem];refine retf _ _ _ ?_ rfl rfl;rw[Qa1i hab];rfl
 intro hc;have n5:=of_decide_eq_false hc;refine Q6 ?_;refine Qa ?_;simp only[go_sem];have h67:∀(t:Bool),(t=decide (op=6∨op=7))→Q3 prog Q4y (X.inBlock 0 (X.sq prog Q4z (Qp Qk9 K))) [(0,.c (.int .i64 op)),(1,.c (.int .i64 a)),(2,.c (.int .i64 b)),(8,.c (.fn Qhw [])),(9,.c (.int .i64 op)),(29,.c (.bool t))] H:=by
  intro t ht;refine Qb rfl ?_ ?_
  ·intro h;have h67:op=6∨op=7:=by rw[ht]at h;exact of_decide_eq_true h
   refine Q6 ?_;refine Qa ?_;simp only[go_sem];refine Qf (Qb rfl ?_ ?_)
   ·intro hc;have hb:b=0:=of_decide_eq_true hc;subst hb;refine Qa ?_;simp only[go_sem];refine Qh ?_;simp only[go_sem];refine retf _ _ _ ?_ rfl rfl;rcases h67 with rfl|rfl <;> rfl
   intro hc;have hb:¬b=0:=of_decide_eq_false hc;refine Qe ?_;try simp only[go_sem]
   refine Q6 ?_;refine Qa ?_;simp only[go_sem];refine Qf (Qb rfl ?_ ?_)
   ·intro hc;have ho:op=6:=of_decide_eq_true hc;subst ho;have hd1:0≤a / b:=Int.ediv_nonneg a0 b0;have hd2:a / b≤a:=Int.ediv_le_self _ a0;refine Qa ?_;simp only[go_sem];refine⟨⟨hb,by rw[Qbfi a0];exact Q1 (by omega) (by omega)⟩,?_⟩;refine Qh ?_;simp only[go_sem];refine retf _ _ _ ?_ rfl rfl;rw[Qbfi a0,arP,arR];simp[hb]
   ·intro hc;have ho:op=7:=(by have:=of_decide_eq_false hc;omega);subst ho;refine Qe ?_;try simp only[go_sem]
    refine Qa ?_;simp only[go_sem];refine⟨hb,?_⟩;refine Qh ?_;simp only[go_sem];refine retf _ _ _ ?_ rfl rfl;rw[Qa1i a0,arP,arR];simp[hb]
  ·intro h;have h67:¬(op=6∨op=7):=by rw[ht]at h;exact of_decide_eq_false h
   refine Qa ?_;simp only[go_sem];refine Qb rfl ?_ ?_
   ·intro hc;have ho:op=8:=of_decide_eq_true hc;subst ho;refine Qa ?_;simp only[go_sem];refine Qaqi ?_;rw[Qaqh];simp only[go_sem,Q40];refine Qh ?_;simp only[go_sem];exact retf _ _ _ rfl rfl rfl
   intro hc;have n8:=of_decide_eq_false hc;have ho:op=9:=by omega
   subst ho;refine Qa ?_;simp only[go_sem];refine Qb rfl ?_ (fun h=>by simp at h);intro _;refine Qa ?_;simp only[go_sem];refine Qaqi ?_;rw[Qaqh];simp only[go_sem,Q41];refine Qh ?_;simp only[go_sem];exact retf _ _ _ rfl rfl rfl
 refine Qf (Qb rfl ?_ ?_)
 ·intro hc;have ho:op=6:=of_decide_eq_true hc;refine Qe ?_;simp only[go_sem];exact h67 _ (by rw[hc];simp[ho])
 ·intro hc;have n6:=of_decide_eq_false hc;refine Qq ?_;simp only[go_sem];exact h67 _ (by simp[n6])
theorem Qa1v {a:Int}(hK:K (.tup [.c (.int .i64 (trI (a=0))),.c (.bool true)]) H) :
  Ql prog Qez [.c (.int .i64 11),.c (.int .i64 a),.c (.int .i64 0)] H K:=by
 refine Qc Qal Q6n ?_;refine Qa ?_;simp only[go_sem];refine Qa ?_;simp only[go_sem];refine Q6 ?_;refine Qa ?_;simp only[go_sem];refine Qf (Qd ?_);refine Qa ?_;simp only[go_sem];refine Qb rfl (fun h=>by simp at h) fun _=>?_;refine Qa ?_;simp only[go_sem];refine Qb rfl (fun h=>by simp at h) fun _=>?_;refine Qa ?_;simp only[go_sem];refine Qb rfl (fun h=>by simp at h) fun _=>?_;refine Q6 ?_;refine Qa ?_;simp only[go_sem];refine Qf (Qb rfl (fun h=>by simp at h) fun _=>?_);refine Qq ?_;simp only[go_sem];refine Qb rfl (fun h=>by simp at h) fun _=>?_;refine Qa ?_;simp only[go_sem];refine Qb rfl (fun h=>by simp at h) fun _=>?_;refine Qa ?_;simp only[go_sem];refine Qb rfl (fun h=>by simp at h) fun _=>?_;refine Qa ?_;simp only[go_sem];refine Qb rfl (fun h=>by simp at h) fun _=>?_;refine Qe ?_;simp only[go_sem];refine Qa ?_;simp only[go_sem];refine Qaqi ?_;rw[Qaqh];simp only[go_sem,Q04];refine Qh ?_;simp only[go_sem,Qp,Q8,Qk9,RS.op];exact hK
theorem Qa1u {b:Int}(hK:K (.tup [.c (.int .i64 (trI (b≠0))),.c (.bool true)]) H) :
  Ql prog Qez [.c (.int .i64 10),.c (.int .i64 1),.c (.int .i64 b)] H K:=by
 refine Qc Qal Q6n ?_;refine Qa ?_;simp only[go_sem];refine Qa ?_;simp only[go_sem];refine Q6 ?_;refine Qa ?_;simp only[go_sem];refine Qf (Qd ?_);refine Qa ?_;simp only[go_sem];refine Qb rfl (fun h=>by simp at h) fun _=>?_;refine Qa ?_;simp only[go_sem];refine Qb rfl (fun h=>by simp at h) fun _=>?_;refine Qa ?_;simp only[go_sem];refine Qb rfl (fun h=>by simp at h) fun _=>?_;refine Q6 ?_;refine Qa ?_;simp only[go_sem];refine Qf (Qb rfl (fun h=>by simp at h) fun _=>?_);refine Qq ?_;simp only[go_sem];refine Qb rfl (fun h=>by simp at h) fun _=>?_;refine Qa ?_;simp only[go_sem];refine Qb rfl (fun h=>by simp at h) fun _=>?_;refine Qa ?_;simp only[go_sem];refine Qb rfl (fun h=>by simp at h) fun _=>?_;refine Qa ?_;simp only[go_sem];refine Qb rfl (fun _=>?_) (fun h=>by simp at h);refine Qa ?_;simp only[go_sem];refine Qaqi ?_;try rw[Qaqh]
 simp only[go_sem,Q42];refine Qh ?_;simp only[go_sem,Qp,Q8,Qk9,RS.op];have e:trI ((bif !decide ((1:Int)=0)then !decide (b=0)else false)=true)=trI (b≠0):=by simp[trI]
 first|exact hK|(rw[e];exact hK)
end Go.AE.Y
namespace Go.AE
variable {P:Program}{H:Heap}{e:Env}
theorem Qbhn {Q:X→Env→Heap→Prop}{v:Value}:X.panK Q v H=Q (.pan v) [] H:=rfl
theorem Qbkc {b:SC}{Q:X→Env→Heap→Prop}{v:Value}:X.sq P b Q (.pan v) e H=Q (.pan v) e H:=rfl
theorem Qbi7 {i:Nat}{Q:X→Env→Heap→Prop}{v:Value}:X.inBlock i Q (.pan v) e H=Q (.pan v) e H:=rfl
theorem Qbc9 {K:Env→Heap→Prop}{Q:X→Env→Heap→Prop}{v:Value}:X.next K Q (.pan v) e H=Q (.pan v) e H:=rfl
theorem Qbbs {rs:List RS}{K:V→Heap→Prop}{v:Value}:Qp rs K (.pan v) e H=K (.pn v) H:=rfl
attribute [go_sem] Qbhn Qbkc Qbi7 Qbc9 Qbbs
end Go.AE
namespace Go.AE.Y
open Go.Proofs.Tryz
def Qaa8:SC:=cT 25 (sR [mJ 26 0,mJ 4 26] [4] .ret) .skip
def Qaa9:SC:=sR [mJ 25 6] [0,1,25] Qaa8
def Qaba:SC:=.reg [mJ 12 0,kJ 13 12,fJ 14 1 13,lJ 15 14,mJ 0 15] [0,1]
def Qabb:SC:=.seq (.block 1 (sR [mJ 17 0,kJ 18 17,fJ 19 0 18,lJ 20 19,mJ 21 1,fI 22 (.lup2 1 (.c (.int .i64 0)) (.t 20) (.t 21)),mJ 16 22,fI 23 (.ext (.t 16) 0),fI 24 (.ext (.t 16) 1),mJ 5 23,mJ 6 24] [0,1,6] Qaa9)) Qaba
def Q7s:SC:=.seq (sR [mJ 7 0,kJ 8 7,fJ 9 1 8,lJ 10 9,fI 11 (.bin 2 .neq (.t 10) (.k (.c .pnil)))] [0,1,11] (cT 11 .skip (.exit 0))) Qabb
def Qabc:SC:=sR [mJ 27 0,mJ 4 27] [4] .ret
def Qake:SC:=sR [fI 4 (.mv (.k (.c .pnil)))] [0,1] (.seq (bL 0 Q7s) Qabc)
theorem Qajr:mFn prog Qfu 2 28 Qake Qm4=true:=by kernel_rfl
def Q2c:SC:=cT 6 (.reg [aJ 7 Qou [kI 2]] [0,1]) .skip
def Q2d:SC:=sR [mJ 8 0,mJ 9 1,kJ 10 8,fJ 11 4 10,fI 12 (.iaa 1 16 (.t 11) (.t 9)),mJ 4 12] [4] .ret
def Q2e:SC:=.seq (sR [mJ 5 1,cJ 6 .geq 5 16] [0,1,6] Q2c) Q2d
def Q7v:SC:=sR [fI 4 (.mv (.k (.c .pnil)))] [0,1] Q2e
theorem Q6r:mFn prog Qdf 2 13 Q7v Qm4=true:=by kernel_rfl
def Qj6:List Item:=[hJ 32 31,kJ 28 27,fJ 29 0 28,lJ 30 29,fI 33 (.lup 1 (.c (.int .i64 0)) (.t 30) (.t 32)),mJ 6 33]
def Qco:List Item:=[cJ 43 .eql 42 0]
def Q2f:SC:=cT 43 (sR [zJ 6 0] [6] .ret) .skip
def Qj7:List Item:=[mJ 44 52,fI 53 (.ext (.t 44) 0),fI 54 (.ext (.t 44) 1),mJ 7 53,mJ 8 54]
def Qj8:List Item:=aJ 52 Qez [kI 10,kI 1,.t 51]::Qj7
def Q2g:SC:=sR [mJ 55 7,mJ 6 55] [6] .ret
def Qly:SC:=sR (mJ 45 0::fJ 46 3 4::lJ 47 46::fI 48 (.iad 4 (.t 47) (kI 1))::tJ 49 4 48::mJ 50 2::aJ 51 Qae [.t 45,.t 49,.t 50]::Qj8) [7] Q2g
def Qj9:List Item:=[kJ 67 66,lJ 68 67,mJ 6 68]
def Qeg:List Item:=aJ 66 Qdf [.t 58,.t 65]::Qj9
def Qka:List Item:=[sJ 4 11 77]
def Qik:List Item:=[mJ 9 84]
def Qil:List Item:=fI 83 (.bsl 1 [.t 82])::xJ 84 1 78 83::Qik
def Qz0:SC:=.reg (mJ 78 9::mJ 79 0::tJ 80 4 11::mJ 81 2::aJ 82 Qae [.t 79,.t 80,.t 81]::Qil) [0,2,4,9,72,73,74]
def Qz1:SC:=.reg [cJ 85 .add 74 1,mJ 74 85] [0,2,4,9,72,73,74]
def Qz2:SC:=.seq (.block 2 (sR (iJ 76 4 72 74::tJ 77 4 76::eI 11 (.alloc [.int .i64 0,.int .i64 0,.str [],.sl true 4 []])::Qka) [0,2,4,9,11,72,73,74] Qz0)) Qz1
def Qvu:SC:=sR [bJ 75 .lss 74 73] [0,2,4,9,72,73,74,75] (cX 75 1 Qz2)
def Qim:List Item:=[mJ 6 95]
def Qin:List Item:=aJ 95 Qde [.t 86,.t 93,.t 94]::Qim
def Qj1:SC:=.seq (.dreg 11 [0,1,2,3,4,5,6,8,7,9,10] ( mJ 86 0::mJ 87 0::kJ 88 87::fJ 89 0 88::tJ 90 1 89::fJ 91 2 4::lJ 92 91::mJ 94 9::aJ 93 Qk2 [.t 90,.t 92]::Qin) [6]) .ret
def Qj2:SC:=.seq (sR [fJ 71 3 4,lJ 72 71,nJ 73 72,zJ 74 0] [0,2,4,9,72,73,74] (bL 1 Qvu)) Qj1
def Qz3:SC:=cT 69 (sR [fI 9 (.mv (.k (.c (.sl true 1 []))))] [0,2,4,9] Qj2) .skip
def Qz4:SC:=cT 56 (sR (mJ 58 0::mJ 59 0::fJ 60 3 4::lJ 61 60::fI 62 (.iad 4 (.t 61) (kI 0))::tJ 63 4 62::mJ 64 2::aJ 65 Qae [.t 59,.t 63,.t 64]::Qeg) [6] .ret) (sR [cJ 70 .eql 17 13,mJ 69 70] [0,2,4,69] Qz3)
def Qz5:SC:=cT 34 (.seq (sR (mJ 36 0::fJ 37 3 4::lJ 38 37::fI 39 (.iad 4 (.t 38) (kI 0))::tJ 40 4 39::mJ 41 2::aJ 42 Qae [.t 36,.t 40,.t 41]::Qco) [0,2,4,43] Q2f) Qly) (sR [cJ 57 .eql 17 12,mJ 56 57] [0,2,4,17,56] Qz4)
def Qz6:SC:=cT 22 (.seq (.dreg 11 [0,1,2,7,8,3,8,4,5,6,9,10] ( mJ 24 2::fJ 25 2 4::lJ 26 25::fJ 31 2 4::lJ 32 31::aJ 27 Qfu [.t 24,.t 26]::Qj6) [6]) .ret) (sR [cJ 35 .eql 17 10,mJ 34 35] [0,2,4,17,34] Qz5)
def Qz7:SC:=cT 18 (sR [fJ 20 1 4,lJ 21 20,mJ 6 21] [6] .ret) (sR [cJ 23 .eql 17 2,mJ 22 23] [0,2,4,17,22] Qz6)
def Qz8:SC:=.block 0 (sR [cJ 19 .eql 17 1,mJ 18 19] [0,2,4,17,18] Qz7)
def Qbk:List Item:=[mJ 12 102,zJ 13 0]
def Qio:List Item:=[mJ 13 113]
def Qz9:SC:=cT 106 (.reg (mJ 107 0::fJ 108 3 4::lJ 109 108::fI 110 (.iad 4 (.t 109) (kI 1))::tJ 111 4 110::mJ 112 2::aJ 113 Qae [.t 107,.t 111,.t 112]::Qio) [4,12,13]) .skip
def Qcg:List Item:=[mJ 114 119,fI 120 (.ext (.t 114) 0),fI 121 (.ext (.t 114) 1),mJ 14 120,mJ 15 121]
def Q0a:SC:=cT 123 (.reg [aJ 124 Qou [kI 1]] [14]) .skip
def Q0b:SC:=sR [mJ 125 14,mJ 6 125] [6] .ret
def Qj3:SC:=.seq (sR [mJ 122 15,oJ 123 122] [14,123] Q0a) Q0b
def Qj4:SC:=sR (fJ 115 0 4::lJ 116 115::mJ 117 12::mJ 118 13::aJ 119 Qez [.t 116,.t 117,.t 118]::Qcg) [14,15] Qj3
def Qj5:SC:=.seq (sR [fJ 103 3 4,lJ 104 103,nJ 105 104,cJ 106 .gtr 105 1] [0,2,4,12,13,106] Qz9) Qj4
def Qef:SC:=sR (mJ 96 0::fJ 97 3 4::lJ 98 97::fI 99 (.iad 4 (.t 98) (kI 0))::tJ 100 4 99::mJ 101 2::aJ 102 Qae [.t 96,.t 100,.t 101]::Qbk) [0,2,4,12,13] Qj5
def Q0c:SC:=.seq (sR [fJ 16 0 4,lJ 17 16] [0,2,4,17] Qz8) Qef
def Q7w:SC:=sR [vJ 4 1,zJ 6 0] [0,2,4] Q0c
theorem Q6s:mFn prog Qae 3 126 Q7w Qbe9=true:=by kernel_rfl
def Qjz:List Item:=[fI 12 (.bld [.mnil,.pnil] [(0,1,.t 11)]),vJ 13 12,mJ 7 13]
def Q15:SC:=.dreg 10 [0,1,2,3,4,5,6,7,8,9] ( mJ 29 7::kJ 30 29::fJ 31 0 30::lJ 32 31::mJ 33 9::mJ 34 2::mJ 35 8::iJ 36 1 34 35::lJ 37 36::.e none none (.upd 1 (.t 32) (.t 33) (.t 37))::[]) [0,1,2,7,22,23,24]
def Q16:SC:=.reg [cJ 38 .add 24 1,mJ 24 38] [0,1,2,7,22,23,24]
def Q17:SC:=.seq (.block 1 (sR [mJ 26 24,iJ 27 1 22 24,lJ 28 27,mJ 8 26,mJ 9 28] [0,1,2,7,8,9,22,23,24] Q15)) Q16
def Qzz:SC:=sR [bJ 25 .lss 24 23] [0,1,2,7,22,23,24,25] (cX 25 0 Q17)
def Qj0:List Item:=[mJ 10 50]
def Q18:SC:=cT 52 (sR [mJ 53 10,kJ 54 53,fJ 55 0 54,lJ 56 55,mJ 6 56] [6] .ret) .skip
def Q19:SC:=sR [mJ 51 10,fI 52 (.bin 2 .neq (.t 51) (.k (.c .pnil)))] [10,52] Q18
def Q2a:SC:=sR [zJ 6 0] [6] .ret
def Q2b:SC:=.seq (sR (mJ 39 0::mJ 40 0::kJ 41 40::fJ 42 0 41::fJ 43 0 42::lJ 44 43::mJ 45 1::iJ 46 3 44 45::fJ 47 2 46::lJ 48 47::mJ 49 7::aJ 50 Qbc [.t 39,.t 48,.t 49]::Qj0) [10] Q19) Q2a
def Qzx:SC:=.seq (sR [mJ 14 0,kJ 15 14,fJ 16 0 15,fJ 17 0 16,lJ 18 17,mJ 19 1,iJ 20 3 18 19,fJ 21 1 20,lJ 22 21,nJ 23 22,zJ 24 0] [0,1,2,7,22,23,24] (bL 0 Qzz)) Q2b
def Qzy:SC:=sR (eI 11 (.mkm)::Qjz) [0,1,2,7] Qzx
def Q7u:SC:=sR [zJ 6 0] [0,1,2] Qzy
theorem Q6q:mFn prog Qde 3 57 Q7u Qbe9=true:=by kernel_rfl
def Qij:List Item:=[sJ 5 8 15]
def Qd2:List Item:=[mJ 9 21]
def Qzq:SC:=cT 23 (sR [mJ 24 9,mJ 6 24] [6] .ret) .skip
def Qzr:SC:=sR [mJ 22 9,fI 23 (.bin 2 .neq (.t 22) (.k (.c .pnil)))] [0,2,9,10,11,12,23] Qzq
def Qzs:SC:=sR (mJ 18 0::tJ 19 5 8::mJ 20 2::aJ 21 Qdg [.t 18,.t 19,.t 20]::Qd2) [0,2,9,10,11,12] Qzr
def Qzt:SC:=sR [mJ 16 0,aJ 17 Qdh [.t 16]] [0,2,8,10,11,12] Qzs
def Qzu:SC:=.reg [cJ 25 .add 12 1,mJ 12 25] [0,2,10,11,12]
def Qzv:SC:=.seq (.block 1 (sR (iJ 14 5 10 12::tJ 15 5 14::eI 8 (.alloc [.int .i64 0,.str [],.sl true 4 [],.sl true 5 [],.sl true 5 []])::Qij) [0,2,8,10,11,12] Qzt)) Qzu
def Qvt:SC:=sR [bJ 13 .lss 12 11] [0,2,10,11,12,13] (cX 13 0 Qzv)
def Qzw:SC:=sR [fI 6 (.mv (.k (.c .pnil)))] [6] .ret
def Qvs:SC:=.seq (sR [mJ 10 1,nJ 11 10,zJ 12 0] [0,2,10,11,12] (bL 0 Qvt)) Qzw
def Q49:SC:=sR [fI 6 (.mv (.k (.c .pnil)))] [0,1,2] Qvs
theorem Q4n:mFn prog Qbc 3 26 Q49 Qbe9=true:=by kernel_rfl
def Q2n:SC:=cT 10 (.reg [aJ 11 Qou [kI 3]] [0]) .skip
def Q2o:SC:=.reg [mJ 12 0,kJ 13 12,fJ 14 2 13,lJ 15 14,cJ 16 .add 15 1,kJ 17 12,fJ 18 2 17,sJ 1 18 16] []
def Q7y:SC:=.seq (.seq (.dreg 9 [0,1,2,3,4,5,6,7,8] ( mJ 2 0::kJ 3 2::fJ 4 2 3::lJ 5 4::mJ 6 0::kJ 7 6::fJ 8 1 7::lJ 9 8::bJ 10 .eql 5 9::[]) [0,10]) Q2n) Q2o
theorem Q6u:mFn prog Qdh 1 19 Q7y Qasa=true:=by kernel_rfl
def Qkd:List Item:=[cJ 20 .neq 19 0]
def Qke:List Item:=[mJ 7 26]
def Qkf:List Item:=hJ 23 22::aJ 26 Qbc [.t 21,.t 23,.t 25]::Qke
def Q2h:SC:=cT 28 (sR [mJ 29 7,mJ 6 29] [6] .ret) .skip
def Q2i:SC:=sR [mJ 27 7,fI 28 (.bin 2 .neq (.t 27) (.k (.c .pnil)))] [0,2,4,7,28] Q2h
def Q2j:SC:=.reg [mJ 30 0,aJ 31 Qdh [.t 30]] [0,2,4]
def Q2k:SC:=.block 1 (.seq (.seq (.dreg 7 [0,1,2,3,4,2,5,6] ( mJ 21 0::fJ 22 3 4::lJ 23 22::mJ 24 2::aJ 25 Qlf [.t 24]::Qkf) [0,2,4,7]) Q2i) Q2j)
def Q0o:SC:=.seq (sR (mJ 13 0::fJ 14 2 4::lJ 15 14::fI 16 (.iad 4 (.t 15) (kI 0))::tJ 17 4 16::mJ 18 2::aJ 19 Qae [.t 13,.t 17,.t 18]::Qkd) [0,2,4,20] (cT 20 .skip (.exit 0))) Q2k
def Q2l:SC:=sR [fI 6 (.mv (.k (.c .pnil)))] [6] .ret
def Q2m:SC:=cT 12 (.seq (bL 0 Q0o) Q2l) .skip
def Qip:List Item:=[mJ 8 38]
def Qiq:List Item:=[hJ 60 59,kJ 56 55,fJ 57 0 56,lJ 58 57,.e none none (.upd 1 (.t 58) (.t 60) (.t 61))]
def Qir:List Item:=[kJ 72 64,fJ 73 3 72,sJ 1 73 71]
def Qd3:List Item:=[mJ 9 82]
def Qis:List Item:=[mJ 86 9,kJ 87 85,sJ 1 87 86]
def Q0d:SC:=.reg (mJ 83 0::mJ 84 8::aJ 85 Qdf [.t 83,.t 84]::Qis) []
def Qit:List Item:=[mJ 6 97]
def Qiu:List Item:=hJ 94 93::aJ 97 Qbc [.t 92,.t 94,.t 96]::Qit
def Q0e:SC:=cT 91 (.seq (.dreg 7 [0,1,2,3,4,2,5,6] ( mJ 92 0::fJ 93 3 4::lJ 94 93::mJ 95 2::aJ 96 Qlf [.t 95]::Qiu) [6]) .ret) .skip
def Qiv:List Item:=[mJ 6 103]
def Qiw:List Item:=hJ 100 99::aJ 103 Qbc [.t 98,.t 100,.t 102]::Qiv
def Q0f:SC:=.seq (.dreg 7 [0,1,2,3,4,2,5,6] ( mJ 98 0::fJ 99 4 4::lJ 100 99::mJ 101 2::aJ 102 Qlf [.t 101]::Qiw) [6]) .ret
def Q0g:SC:=cT 104 (sR [mJ 106 8,fI 107 (.bld [.int .i64 0] [(0,1,.t 106)]),vJ 108 107,mJ 6 108] [6] .ret) .skip
def Q0h:SC:=cT 88 (.seq (sR [mJ 90 8,cJ 91 .neq 90 0] [0,2,4,91] Q0e) Q0f) (sR [cJ 105 .eql 40 7,mJ 104 105] [8,104] Q0g)
def Q0i:SC:=cT 74 (sR (mJ 76 0::fJ 77 2 4::lJ 78 77::fI 79 (.iad 4 (.t 78) (kI 1))::tJ 80 4 79::mJ 81 2::aJ 82 Qae [.t 76,.t 80,.t 81]::Qd3) [0,8,9] Q0d) (sR [cJ 89 .eql 40 5,mJ 88 89] [0,2,4,8,40,88] Q0h)
def Q0j:SC:=cT 62 (.reg (mJ 64 0::mJ 65 0::kJ 66 65::fJ 67 3 66::lJ 68 67::mJ 69 8::fI 70 (.bsl 1 [.t 69])::xJ 71 1 68 70::Qir) []) (sR [cJ 75 .eql 40 4,mJ 74 75] [0,2,4,8,40,74] Q0i)
def Q0k:SC:=cT 50 (.dreg 11 [0,1,2,7,8,9,3,8,4,5,6,10] ( mJ 52 2::fJ 53 1 4::lJ 54 53::fJ 59 1 4::lJ 60 59::mJ 61 8::aJ 55 Qfu [.t 52,.t 54]::Qiq) []) (sR [cJ 63 .eql 40 3,mJ 62 63] [0,2,4,8,40,62] Q0j)
def Q0l:SC:=cT 41 (.dreg 8 [0,1,2,3,4,5,6,7] ( mJ 43 2::kJ 44 43::fJ 45 0 44::lJ 46 45::fJ 47 1 4::lJ 48 47::mJ 49 8::.e none none (.upd 1 (.t 46) (.t 48) (.t 49))::[]) []) (sR [cJ 51 .eql 40 2,mJ 50 51] [0,2,4,8,40,50] Q0k)
def Qkb:SC:=.block 2 (sR [cJ 42 .eql 40 1,mJ 41 42] [0,2,4,8,40,41] Q0l)
def Qeh:SC:=sR [fI 6 (.mv (.k (.c .pnil)))] [6] .ret
def Q0m:SC:=.seq (sR [fJ 39 0 4,lJ 40 39] [0,2,4,8,40] Qkb) Qeh
def Qkc:SC:=sR (mJ 32 0::fJ 33 2 4::lJ 34 33::fI 35 (.iad 4 (.t 34) (kI 0))::tJ 36 4 35::mJ 37 2::aJ 38 Qae [.t 32,.t 36,.t 37]::Qip) [0,2,4,8] Q0m
def Q0n:SC:=.seq (sR [fJ 10 0 4,lJ 11 10,cJ 12 .eql 11 6] [0,2,4,12] Q2m) Qkc
def Q7x:SC:=sR [vJ 4 1,fI 6 (.mv (.k (.c .pnil)))] [0,2,4] Q0n
theorem Q6t:mFn prog Qdg 3 109 Q7x Qbe9=true:=by kernel_rfl
def Q47:List Item:=[mJ 4 0,fI 5 (.bld [.mnil,.pnil] [(0,1,.t 3),(1,1,.t 4)]),vJ 6 5,mJ 2 6]
def Qasr:SC:=sR (eI 3 (.mkm)::Q47) [2] .ret
def Qa2y:SC:=sR [fI 2 (.mv (.k (.c .pnil)))] [0] Qasr
theorem Qa2j:mFn prog Qlf 1 7 Qa2y Qcu=true:=by kernel_rfl
def Qon:List Item:=[pF 20 7 19,mJ 4 20]
def Qoo:List Item:=mJ 7 6::gTm 8 7 1::gTf 9 7 0 2::gTl 10 7 9::gTf 11 7 0 2::gTl 12 7 11::gT 13 7 (.len (.t 12))::gT 14 7 (.bin 0 .sub (.t 13) (kI 1))::gT 15 7 (.iad 3 (.t 10) (.t 14))::gTf 16 7 1 15::gTl 17 7 16::gT 18 7 (.len (.t 17))::.e (some 19) (some (7,true)) (.call Qp3 [.t 8,.t 18])::Qon
def Qaph:SC:=sR (tJ 5 1 2::aJ 6 Qot [.t 5]::Qoo) [4] .ret
def Qawr:SC:=sR [vJ 2 0,fB 4 false] [1,2] Qaph
theorem Qawc:mFn prog Qua 2 21 Qawr Qm4=true:=by kernel_rfl
def Qni:List Item:=[zJ 7 0]
def Qnj:List Item:=[sJ 1 8 13]
def Qnk:List Item:=eI 8 (.alloc [.pnil])::Qnj
def Qgj:List Item:=[fJ 16 1 9,sJ 1 16 15]
def Qnl:List Item:=[fJ 27 3 9,sJ 1 27 25]
def Qnm:List Item:=hJ 17 8::hJ 20 19::sJ 1 26 20::Qnl
def Qnn:List Item:=[hJ 29 8,hJ 32 31,mJ 7 32]
def Q71:SC:=.seq (.dreg 7 [0,1,2,3,4,5,1,4,6] ( tJ 28 4 9::lJ 29 8::kJ 30 29::fJ 31 2 30::lJ 32 31::sJ 4 6 28::Qnn) [6,7]) .ret
def Q72:SC:=.seq (.seq .gh (.dreg 13 [0,1,2,3,4,5,6,7,9,8,0,3,10,11,12] ( lJ 17 8::kJ 18 17::fJ 19 3 18::lJ 20 19::lJ 21 8::kJ 22 21::fJ 23 4 22::fI 24 (.aslp 16 (.t 23) none)::fJ 26 0 9::aJ 25 Q1g [.t 24]::Qnm) [6,8,9])) Q71
def Q73:SC:=sR (fI 14 (.mkf Qe1 [.t 8,.t 3,.t 4,.t 9])::aJ 15 Qub [.t 14]::Qgj) [6,8,9] Q72
def Q5a:SC:=sR [eI 9 (.alloc [.sl true 1 [],.int .i64 0,.int .i64 0,.sl true 1 []])] [3,4,6,8,9] Q73
def Q5b:SC:=sR (tJ 10 1 3::mJ 11 2::fI 12 (.bld [.sl true 3 [],.int .i64 0,.int .i64 0,.sl true 1 [],.int .i64 0,.int .i64 0,.int .i64 0,.int .i64 0,.int .i64 0,.int .i64 0,.int .i64 0,.int .i64 0,.int .i64 0,.int .i64 0,.int .i64 0,.int .i64 0,.int .i64 0,.int .i64 0,.int .i64 0,.int .i64 0] [(0,1,.t 10),(1,1,.t 11)])::eI 13 (.boxm (.t 12))::Qnk) [3,4,6,8] Q5a
def Qafh:SC:=sR (vJ 3 0::vJ 4 1::eI 6 (.alloc [.sl true 1 [],.int .i64 0,.int .i64 0,.sl true 1 []])::Qni) [2,3,4,6] Q5b
def Quv:List RS:=[.cell 6 4 true,.tmp 7]
theorem Qadv:mFn prog Qi4 3 33 Qafh Quv=true:=by kernel_rfl
def Qix:List Item:=[fJ 11 2 3,sJ 1 11 10]
def Q5c:SC:=.reg (lJ 4 0::fJ 5 0 1::lJ 6 5::nJ 7 6::cJ 8 .sub 7 1::lJ 9 2::aJ 10 Qde [.t 4,.t 8,.t 9]::Qix) []
theorem Q4o:mFn prog Qe1 4 12 Q5c Qasa=true:=by kernel_rfl
def Qm8:List Item:=[fB 7 false]
def Qdj:List Item:=[gF 17 14 (.not (.t 16)),pT 18 14 17]
def Qgg:List Item:=oJ 13 12::mJ 14 13::gFm 15 14 2::.e (some 16) (some (14,false)) (.call Qcx [.t 15,kI 0,kI 4000])::Qdj
def Qm9:List Item:=[fB 7 false]
def s_im_RunProgram_4:SC:=cT 18 (sR (fI 19 (.bld [.sl true 1 [],.int .i64 0,.int .i64 0,.sl true 1 []] [])::sJ 4 6 19::Qm9) [6,7] .ret) .skip
def Qna:List Item:=[mJ 9 26]
def Qnb:List Item:=sJ 4 8 25::Qna
def Qnc:List Item:=mJ 20 24::fI 25 (.ext (.t 20) 0)::fI 26 (.ext (.t 20) 1)::eI 8 (.alloc [.sl true 1 [],.int .i64 0,.int .i64 0,.sl true 1 []])::Qnb
def Qnd:List Item:=[fB 7 true]
def Q7e:SC:=sR (tJ 27 4 8::sJ 4 6 27::Qnd) [6,7] .ret
def Qm7:SC:=sR (tJ 21 1 3::mJ 22 1::mJ 23 2::aJ 24 Qi4 [.t 21,.t 22,.t 23]::Qnc) [6,8] Q7e
def Q4w:SC:=.seq (sR (tJ 10 1 3::mJ 11 1::aJ 12 Qua [.t 10,.t 11]::Qgg) [1,2,3,6,18] s_im_RunProgram_4) Qm7
def Qaeq:SC:=sR (vJ 3 0::eI 6 (.alloc [.sl true 1 [],.int .i64 0,.int .i64 0,.sl true 1 []])::Qm8) [1,2,3,6] Q4w
theorem Qado:mFn prog Qes 3 28 Qaeq Quv=true:=by kernel_rfl
variable {H:Heap}{K:V→Heap→Prop}
def endV (n:Int):Value:=.iface 234 (.int .i64 n)
theorem Qbej (n:Int)(w:World):Calls prog Qou #[.int .i64 n] w fun e w'=>e=.panicked [{ v:=endV n,recovered:=false }]∧w'=w:=by
 go_enter Go.Proofs.Tryz.func201,Go.Proofs.Tryz.ntmps201
 go_wp2
 exact⟨rfl,rfl,rfl⟩
theorem Qbat {n:Int}(hK:K (.pn (endV n)) H):Ql prog Qou [.c (.int .i64 n)] H K:=by
 refine⟨by kernel_rfl,fun g w vs hs hl hv=>?_⟩;obtain⟨v,rfl⟩:∃v,vs=[v]:=by
  match vs,hl with
  |[v],_=>exact⟨v,rfl⟩
 have hr:=hv 0 _ v rfl rfl
 cases hr with
 |c _ _ hr=>
  cases hr;refine (Qbej n w).mono fun e w'=>?_;rintro⟨rfl,rfl⟩;exact .inr ⟨_,H,g,rfl,hK,.refl hs⟩
end Go.AE.Y
namespace Go.AE.Y
attribute [local go_sem] cond_true cond_false Bool.not_true Bool.not_false
open Go.Proofs.Tryz
variable {H H' H0:Heap}{K:V→Heap→Prop}{E A B:List (Nat×Obj)}
def Q9d (l:List Nat):List C:=l.map fun n=>.int .i64 (n:Nat)
structure Mn where
 l:Nat
 fl:Bool
 fns:List Fn
 S:Nat
structure Ma where
 m:Ms
 sc:C
 so:List (Nat×Obj)
def Mn.o (X:Mn)(a:Ma):Obj:=.st (.sl X.fl 3 (Qy X.fns)::.int .i64 X.S::.int .i64 (a.m.u:Nat)::a.sc::Q9d a.m.c)
def Mn.F (X:Mn)(a:Ma)(sd:ScD)(B:List (Nat×Obj)):List (Nat×Obj):=[(X.l,X.o a)]++(a.so++(sd.ob++B))
structure Ma.ok (X:Mn)(a:Ma):Prop where
 g:Gr a.so 1 (Qn a.m.s) a.sc
 b:a.m.by
 l:a.m.s.length≤a.m.u
 u:a.m.u≤X.S
 S:X.S≤60000
variable {X:Mn}{a a':Ma}{sd:ScD}
theorem mF_o (k:Kn H0 H E (X.F a sd B)):H X.l=.st (.sl X.fl 3 (Qy X.fns)::.int .i64 X.S::.int .i64 (a.m.u:Nat)::a.sc::Q9d a.m.c):=k.l 0 rfl
theorem mF_s (k:Kn H0 H E (X.F a sd B)):Kn H0 H E (([(X.l,X.o a)]++(sd.ob++B))++a.so):=k.perm (Qaa fun f hf h0 hc hp=>by simp only[Mn.F,hf];omega)
theorem Qblc {so:List (Nat×Obj)}(hs:a'.so=so)(k:Kn H0 H E (([(X.l,X.o a')]++(sd.ob++B))++so)):Kn H0 H E (X.F a' sd B):=k.perm (Qaa fun f hf h0 hc hp=>by simp only[Mn.F,hf,hs];omega)
theorem Qa7g {p:Nat×Obj}(k:Kn H0 H E (X.F a sd B++[p])):Kn H0 H E (X.F a sd (p::B)):=k.perm (Qaa fun f hf h0 hc hp=>by rw[hf];simp only[Mn.F,hf];rw[hc p B];omega)
theorem Qaol {l n:Nat}{es:List (C×V)}(k:Kn H0 H E (X.F a sd B++[(l,.map n es)])):Kn H0 H E (X.F a ((l,n,es)::sd) B):=k.perm (Qaa fun f hf h0 hc hp=>by
 have:ScD.ob ((l,n,es)::sd)=[(l,.map n es)]++sd.ob:=rfl;rw[hf];simp only[Mn.F,hf,this];omega)
theorem Qa0o {x:Nat×Nat×List (C×V)}(k:Kn H0 H E (X.F a (x::sd) B)):Kn H0 H E (X.F a sd B):=k.sub (by
 refine List.Sublist.append (List.Sublist.refl _) (List.Sublist.append (List.Sublist.refl _) ?_);exact .cons _ (List.Sublist.refl _))
theorem Quj {A:List (Nat×Obj)}(k:Kn H0 H E (X.F a sd (A++B))):Kn H0 H E (X.F a sd B):=k.sub (by
 refine List.Sublist.append (List.Sublist.refl _) (List.Sublist.append (List.Sublist.refl _) (List.Sublist.append (List.Sublist.refl _) ?_));exact List.sublist_append_right _ _)
theorem Qadk (k:Kn H0 H E (X.F a sd B)):Kn H0 H E (X.F a [] B):=k.sub (by
 refine List.Sublist.append (List.Sublist.refl _) (List.Sublist.append (List.Sublist.refl _) ?_);exact List.Sublist.append (List.nil_sublist _) (List.Sublist.refl _))
theorem mF_B (k:Kn H0 H E (X.F a sd (A++B))):Kn H0 H E (([(X.l,X.o a)]++(a.so++(sd.ob++B)))++A):=k.perm (Qaa fun f hf h0 hc hp=>by simp only[Mn.F,hf];omega)
theorem Qblb (k:Kn H0 H E (([(X.l,X.o a)]++(a.so++(sd.ob++B)))++A)):Kn H0 H E (X.F a sd (A++B)):=k.perm (Qaa fun f hf h0 hc hp=>by simp only[Mn.F,hf];omega)
theorem Qbcv {p q:ScD}{l n:Nat}{es:List (C×V)}(k:Kn H0 H E (X.F a (p++(l,n,es)::q) B)):H l=.map n es:=
 (k.get (l,.map n es) (by simp[Mn.F,ScD.ob])).1
theorem Qa7h {p q:ScD}{l n n':Nat}{es es':List (C×V)}(k:Kn H0 H E (X.F a (p++(l,n,es)::q) B))(h:H'=H.set l (.map n' es')):Kn H0 H' E (X.F a (p++(l,n',es')::q) B):=by
 have k2:Kn H0 H E (([(X.l,X.o a)]++(a.so++p.ob))++(l,.map n es)::(q.ob++B)):=by
  have e:X.F a (p++(l,n,es)::q) B=([(X.l,X.o a)]++(a.so++p.ob))++(l,.map n es)::(q.ob++B):=by simp[Mn.F,ScD.ob]
  rw[←e];exact k
 have k3:=k2.stM h;have e:X.F a (p++(l,n',es')::q) B=([(X.l,X.o a)]++(a.so++p.ob))++(l,.map n' es')::(q.ob++B):=by simp[Mn.F,ScD.ob]
 rw[e];exact k3
theorem Ma.ok.len (h:a.ok X):(Q9d a.m.c).length=16:=by rw[Q9d,Jd];exact h.b.c
theorem Ma.ok.tick (h:a.ok X)(hu:a.m.u<X.S):Ma.ok X ⟨⟨a.m.u+1,a.m.s,a.m.c⟩,a.sc,a.so⟩:=⟨h.g,h.b.tick _,Nat.le_succ_of_le h.l,hu,h.S⟩
theorem Qbe0 {a b c d:C}{m:List C}{j:Nat}:(a::b::c::d::m).drop (4+j)=m.drop j:=by rw[Nat.add_comm];rfl
theorem Qbkm {a b c d:C}{m:List C}{j:Nat}:(a::b::c::d::m).take (4+j)=a::b::c::d::m.take j:=by rw[Nat.add_comm];rfl
theorem Qbc6 {c:List Nat}{j:Nat}(hj:j<c.length):((Q9d c).drop j).take 1=[.int .i64 (c.getD j 0:Nat)]:=by
 have hj':j<(Q9d c).length:=by rw[Q9d,Jd];exact hj
 rw[J4 hj',List.take_succ_cons,List.take_zero];simp[Q9d,Jy,hj]
theorem Qbc7 {c:List Nat}{j:Nat}(hj:j<c.length)(v:Nat):(Q9d c).take j++[.int .i64 (v:Nat)]++(Q9d c).drop (j+1)=Q9d (c.set j v):=by
 have hj':j<(Q9d c).length:=by rw[Q9d,Jd];exact hj
 rw[Q9d,Q9d,Jad,List.set_eq_take_append_cons_drop,if_pos (by simpa using hj)];simp
theorem Qa7i (kn:Kn H0 H E (X.F a sd B))(ha:a.ok X)
  (hK:∀H',a.m.u<X.S→Kn H0 H' E (X.F ⟨⟨a.m.u+1,a.m.s,a.m.c⟩,a.sc,a.so⟩ sd B)→Ma.ok X ⟨⟨a.m.u+1,a.m.s,a.m.c⟩,a.sc,a.so⟩→K (.tup []) H')
  (hP:a.m.u=X.S→K (.pn (endV 3)) H):Ql prog Qdh [.c (.ptr X.l 0)] H K:=by
 refine Qc Qal Q6u ?_;have hmt:=ha.len;have hX:=mF_o kn;have hS:=ha.S;have huS:=ha.u;refine Q6 ?_;refine Qa1 ?_;simp only[go_sem,hX,hmt];refine Qf (Qb rfl ?_ ?_)
 ·intro hc;have hu:a.m.u=X.S:=by
   have:=of_decide_eq_true hc;omega
  refine Qq ?_;simp only[go_sem];refine Qbat ?_;simp only[go_sem];exact hP hu
 ·intro hc;have hu:a.m.u<X.S:=by
   have:=of_decide_eq_false hc;omega
  refine Qe ?_;try simp only[go_sem]
  refine Qq ?_;simp only[go_sem,hX,hmt];refine⟨Q1 (by omega) (by omega),fun H' h'=>?_⟩;have kn':Kn H0 H' E (X.F ⟨⟨a.m.u+1,a.m.s,a.m.c⟩,a.sc,a.so⟩ sd B):=kn.stL 0 rfl h';simp only[go_sem,Qp,Q8,Qasa];exact hK H' hu kn' (ha.tick hu)
theorem Qaok {l n:Nat}(hK:n<16→K (.c (.ptr l (4+n))) H)(hP:16≤n→K (.pn (endV 2)) H) :
  Ql prog Qdf [.c (.ptr l 0),.c (.int .i64 (n:Nat))] H K:=by
 refine Qc Qal Q6r ?_;refine Qa ?_;simp only[go_sem];refine Q6 ?_;refine Qa ?_;simp only[go_sem];refine Qf (Qb rfl ?_ ?_)
 ·intro hc;have h16:16≤n:=by have:=of_decide_eq_true hc;omega
  refine Qq ?_;simp only[go_sem];refine Qbat ?_;simp only[go_sem];exact hP h16
 ·intro hc;have h16:n<16:=by have:=of_decide_eq_false hc;omega
  refine Qe ?_;try simp only[go_sem]
  refine Qa ?_;simp only[go_sem];refine⟨by omega,?_⟩;refine Qh ?_;simp only[go_sem,Qp,Q8,Qm4,Jb,forall_eq,RS.op];have:=hK h16;simpa using this
theorem Qbkw {op:Int}{x y:Nat}(hx:x<256)(hy:y<256)(ho:3≤op)(ho9:op≤9):arP op x y=match arN op x y with
  |some z=>((z:Int),true)
  |none=>(0,false):=by
 unfold arP arR arN;by_cases h3:op=3
 ·simp only[if_pos h3];congr 1
 by_cases h4:op=4
 ·simp only[if_neg h3,if_pos h4];congr 1;omega
 by_cases h5:op=5
 ·simp only[if_neg h3,if_neg h4,if_pos h5];congr 1
 by_cases h6:op=6
 ·simp only[if_neg h3,if_neg h4,if_neg h5,if_pos h6];by_cases hb:y=0
  ·simp[hb]
  ·rw[if_neg (by omega),if_neg hb];rfl
 by_cases h7:op=7
 ·simp only[if_neg h3,if_neg h4,if_neg h5,if_neg h6,if_pos h7];by_cases hb:y=0
  ·simp[hb]
  ·rw[if_neg (by omega),if_neg hb];rfl
 by_cases h8:op=8
 ·simp only[if_neg h3,if_neg h4,if_neg h5,if_neg h6,if_neg h7,if_pos h8,trI];by_cases hb:x<y
  ·rw[if_pos (by omega),if_pos hb];rfl
  ·rw[if_neg (by omega),if_neg hb];rfl
 simp only[if_neg h3,if_neg h4,if_neg h5,if_neg h6,if_neg h7,if_neg h8,if_pos (show op=9 by omega),trI];by_cases hb:x=y
 ·rw[if_pos (by omega),if_pos hb];rfl
 ·rw[if_neg (by omega),if_neg hb];rfl
theorem Qa0n {op:Int}{x y:Nat}(hx:x<256)(hy:y<256)(h3:3≤op)(h9:op≤9)(hK:∀z,arN op x y=some z→K (.tup [.c (.int .i64 (z:Nat)),.c (.bool true)]) H)(hD:arN op x y=none→K (.tup [.c (.int .i64 0),.c (.bool false)]) H) :
  Ql prog Qez [.c (.int .i64 op),.c (.int .i64 (x:Nat)),.c (.int .i64 (y:Nat))] H K:=by
 refine Qbfv ⟨by omega,by omega⟩ ⟨by omega,by omega⟩ h3 h9 ?_;rw[Qbkw hx hy h3 h9]
 cases h:arN op x y with
 |none=>exact hD h
 |some z=>exact hK z h
end Go.AE.Y
namespace Go.AE.Y
open Go.Proofs.Tryz
def Q5n:List Item:=[oJ 15 14]
def Qaul:SC:=cT 15 (sR [fB 2 false] [2] .ret) .skip
def Qaum:SC:=.reg [mJ 8 3,cJ 9 .add 8 1,mJ 3 9] [0,3]
def Qaun:SC:=.seq (.block 1 (sR (mJ 10 0::mJ 11 3::iJ 12 1 10 11::lJ 13 12::aJ 14 Qp9 [.t 13,kI 0,kI 255]::Q5n) [0,3,15] Qaul)) Qaum
def Qap7:SC:=.seq (sR [mJ 4 3,mJ 5 0,nJ 6 5,bJ 7 .lss 4 6] [0,3,7] (cT 7 .skip (.exit 0))) Qaun
def Qauo:SC:=sR [fB 2 true] [2] .ret
def Qaup:SC:=.seq (sR [zJ 3 0] [0,3] (bL 0 Qap7)) Qauo
def Qa46:SC:=sR [fB 2 false] [0] Qaup
theorem Qa2m:mFn prog Q1f 1 16 Qa46 Qcu=true:=by kernel_rfl
def Qre:List Item:=[pF 10 7 9,mJ 11 10,gTm 12 11 1,gT 13 11 (.len (.t 12)),gTf 14 11 0 2,gTl 15 11 14,gTf 16 11 0 2,gTl 17 11 16,gT 18 11 (.len (.t 17)),gT 19 11 (.bin 0 .sub (.t 18) (kI 1)),gT 20 11 (.iad 3 (.t 15) (.t 19)),gTf 21 11 1 20,gTl 22 11 21,gT 23 11 (.len (.t 22)),gT 24 11 (.bin 0 .eql (.t 13) (.t 23)),pF 25 11 24,mJ 4 25]
def Q27:List Item:=mJ 7 6::gTm 8 7 1::.e (some 9) (some (7,true)) (.call Q1f [.t 8])::Qre
def Qa4u:SC:=sR (tJ 5 1 2::aJ 6 Qade [.t 5]::Q27) [4] .ret
def Qbd2:SC:=sR [vJ 2 0,fB 4 false] [1,2] Qa4u
theorem Qbc4:mFn prog Qadg 2 26 Qbd2 Qm4=true:=by kernel_rfl
def Qat1:List Item:=[zJ 7 0]
def Qat2:List Item:=[mJ 8 17]
def Qat3:List Item:=.chk 11 none (.ld 1 true (.t 3))::fI 15 (.bld [.sl true 1 [],.int .i64 0,.int .i64 0,.sl true 1 []] [(0,1,.t 13),(3,1,.t 14)])::fI 16 (.bld [.sl true 3 [],.sl true 1 [],.int .i64 0,.int .i64 0,.sl true 1 [],.int .i64 0,.bool false] [(0,1,.t 11),(5,1,.t 12),(1,4,.t 15)])::eI 17 (.boxm (.t 16))::Qat2
def Qat4:List Item:=[sJ 3 9 25]
def Qat5:List Item:=[mJ 10 34]
def Qat6:List Item:=fI 33 (.bld [.sl true 1 [],.sl true 1 [],.bool false,.int .i64 0] [(0,1,.t 29),(1,1,.t 32)])::eI 34 (.boxm (.t 33))::Qat5
def Qat7:List Item:=fI 30 (.bsl 1 [])::mJ 31 1::xJ 32 1 30 31::Qat6
def Qbd1:SC:=cT 44 (.reg [mJ 45 8,mJ 46 10,kJ 47 46,fJ 48 3 47,lJ 49 48,kJ 50 45,fJ 51 1 50,fJ 52 2 51,sJ 1 52 49] [6,8]) .skip
def Qat8:List Item:=[hJ 60 59,mJ 7 60]
def Qa1a:SC:=.seq (.dreg 10 [0,1,2,3,4,5,6,7,8,7,9] ( mJ 53 8::kJ 54 53::fJ 55 1 54::tJ 56 4 55::mJ 57 8::kJ 58 57::fJ 59 5 58::lJ 60 59::sJ 4 6 56::Qat8) [6,7]) .ret
def Qa9q:SC:=.seq (sR [mJ 40 8,kJ 41 40,fJ 42 6 41,lJ 43 42,oJ 44 43] [6,8,10,44] Qbd1) Qa1a
def Qa9r:SC:=sR [mJ 35 8,fJ 36 2 9,lJ 37 36,mJ 38 10,aJ 39 Qbw [.t 35,.t 37,.t 38]] [6,8,10] Qa9q
def Qa9s:SC:=sR (fI 26 (.bsl 1 [])::fJ 27 1 9::lJ 28 27::xJ 29 1 26 28::Qat7) [6,8,9,10] Qa9r
def Qa9t:SC:=sR (fJ 18 0 3::lJ 19 18::fJ 20 0 3::lJ 21 20::nJ 22 21::cJ 23 .sub 22 1::iJ 24 3 19 23::tJ 25 3 24::eI 9 (.alloc [.str [],.sl true 1 [],.sl true 5 []])::Qat4) [1,6,8,9] Qa9s
def Qa9u:SC:=.seq (.dreg 8 [0,1,2,3,0,4,5,6,7] ( tJ 11 1 3::mJ 12 2::fI 13 (.bsl 1 [])::eI 14 (.mks 1 [.int .i64 0] (kI 16))::Qat3) [1,3,6,8]) Qa9t
def Qbj3:SC:=sR (vJ 3 0::eI 6 (.alloc [.sl true 1 [],.int .i64 0,.int .i64 0,.sl true 1 []])::Qat1) [1,2,3,6] Qa9u
theorem Qbjn:mFn prog Qav0 3 61 Qbj3 Quv=true:=by kernel_rfl
def Qaix:SC:=cT 39 (.reg [mJ 40 0,mJ 41 1,mJ 42 7,iJ 43 5 41 42,tJ 44 5 43,mJ 45 2,aJ 46 Qkq [.t 40,.t 44,.t 45]] [0,1,2,6,7]) .skip
def Qaiy:SC:=sR [mJ 35 0,kJ 36 35,fJ 37 6 36,lJ 38 37,oJ 39 38] [0,1,2,6,7,39] Qaix
def Qxl:SC:=.reg [mJ 31 7,cJ 32 .add 31 1,mJ 7 32] [0,1,2,6,7]
def Qaiz:SC:=.seq (.block 1 (sR [mJ 33 0,aJ 34 Qkr [.t 33]] [0,1,2,6,7] Qaiy)) Qxl
def Qab4:SC:=.seq (sR [mJ 13 7,mJ 14 1,nJ 15 14,bJ 16 .lss 13 15,mJ 17 16,gTm 18 17 0,gT 19 17 (.nck (.t 18)),gTf 20 17 6 19,gTl 21 17 20,gT 22 17 (.not (.t 21)),pF 23 17 22,mJ 24 23,gTm 25 24 2,gT 26 24 (.nck (.t 25)),gTf 27 24 2 26,gTl 28 24 27,gT 29 24 (.not (.t 28)),pF 30 24 29] [0,1,2,6,7,30] (cT 30 .skip (.exit 0))) Qaiz
def Qai0:SC:=.reg [mJ 56 2,mJ 57 2,kJ 58 57,fJ 59 1 58,lJ 60 59,mJ 61 6,fI 62 (.sli 1 (.t 60) none (some (.t 61))),kJ 63 56,fJ 64 1 63,sJ 1 64 62] []
def Qd4:SC:=sR [mJ 47 2,mJ 48 2,kJ 49 48,fJ 50 0 49,lJ 51 50,mJ 52 6,fI 53 (.sli 1 (.t 51) none (some (.t 52))),kJ 54 47,fJ 55 0 54,sJ 1 55 53] [2,6] Qai0
def Qai1:SC:=.seq (sR [zJ 7 0] [0,1,2,6,7] (bL 0 Qab4)) Qd4
def Qap6:SC:=sR [mJ 8 2,kJ 9 8,fJ 10 0 9,lJ 11 10,nJ 12 11,mJ 6 12] [0,1,2,6] Qai1
theorem Q4p:mFn prog Qbw 3 65 Qap6 Qasa=true:=by kernel_rfl
def Qal4:SC:=cT 6 (sR [mJ 7 0,aJ 8 Qc1 [.t 7,kI 3]] [] .ret) .skip
def Qal5:SC:=.reg [mJ 9 0,mJ 10 0,kJ 11 10,fJ 12 5 11,lJ 13 12,cJ 14 .sub 13 1,kJ 15 9,fJ 16 5 15,sJ 1 16 14] []
def Qauk:SC:=.seq (sR [mJ 2 0,kJ 3 2,fJ 4 5 3,lJ 5 4,cJ 6 .eql 5 0] [0,6] Qal4) Qal5
theorem Qart:mFn prog Qkr 1 17 Qauk Qasa=true:=by kernel_rfl
def Qmb:List Item:=[mJ 6 14]
def Qgs:List Item:=[mJ 7 24]
def Qaly:SC:=cT 17 (.reg (mJ 18 0::fJ 19 2 4::lJ 20 19::fI 21 (.iad 4 (.t 20) (kI 1))::tJ 22 4 21::mJ 23 2::aJ 24 Qa2 [.t 18,.t 22,.t 23]::Qgs) [0,2,4,6,7]) .skip
def Qxh:List Item:=[kJ 42 33,fJ 43 0 42,sJ 1 43 41]
def Qxi:List Item:=[kJ 52 44,fJ 53 1 52,sJ 1 53 51]
def Qalz:SC:=.reg (mJ 44 2::mJ 45 2::kJ 46 45::fJ 47 1 46::lJ 48 47::mJ 49 6::fI 50 (.bsl 1 [.t 49])::xJ 51 1 48 50::Qxi) []
def Qxj:List Item:=[hJ 59 58,iJ 68 1 59 66,sJ 1 68 67]
def Qxk:List Item:=[kJ 80 71,fJ 81 1 80,fJ 82 0 81,sJ 1 82 79]
def Qal0:SC:=cT 86 (sR [mJ 87 0,aJ 88 Qc1 [.t 87,kI 2]] [] .ret) .skip
def Qal1:SC:=.reg [mJ 89 0,kJ 90 89,fJ 91 1 90,fJ 92 3 91,lJ 93 92,mJ 94 6,mJ 95 7,iJ 96 1 93 94,sJ 1 96 95] []
def Qaik:SC:=cT 100 (.reg [mJ 101 0,fJ 102 3 4,lJ 103 102,mJ 104 2,aJ 105 Qbw [.t 101,.t 103,.t 104]] []) (.reg [mJ 106 0,fJ 107 4 4,lJ 108 107,mJ 109 2,aJ 110 Qbw [.t 106,.t 108,.t 109]] [])
def Qail:SC:=.reg [mJ 123 2,mJ 124 6,kJ 125 123,fJ 126 3 125,sJ 1 126 124] []
def Qaim:SC:=cT 118 (sR [mJ 120 2,kJ 121 120,fJ 122 2 121,.e none none (.sto 1 (.t 122) (.k (.c (.bool true))))] [2,6] Qail) .skip
def Qain:SC:=cT 111 (.reg [mJ 113 0,tJ 114 5 4,mJ 115 6,mJ 116 2,aJ 117 Qqe [.t 113,.t 114,.t 115,.t 116]] []) (sR [cJ 119 .eql 30 7,mJ 118 119] [2,6,118] Qaim)
def Qaio:SC:=cT 97 (sR [mJ 99 6,cJ 100 .neq 99 0] [0,2,4,100] Qaik) (sR [cJ 112 .eql 30 6,mJ 111 112] [0,2,4,6,30,111] Qain)
def Qaip:SC:=cT 83 (.seq (sR [mJ 85 6,cJ 86 .geq 85 16] [0,6,7,86] Qal0) Qal1) (sR [cJ 98 .eql 30 5,mJ 97 98] [0,2,4,6,30,97] Qaio)
def Qaiq:SC:=cT 69 (.reg (mJ 71 0::mJ 72 0::kJ 73 72::fJ 74 1 73::fJ 75 0 74::lJ 76 75::mJ 77 6::fI 78 (.bsl 1 [.t 77])::xJ 79 1 76 78::Qxk) []) (sR [cJ 84 .eql 30 4,mJ 83 84] [0,2,4,6,7,30,83] Qaip)
def Qair:SC:=cT 54 (.dreg 14 [0,1,2,3,4,5,6,7,8,9,11,10,3,12,13] ( mJ 56 2::kJ 57 56::fJ 58 1 57::lJ 59 58::mJ 60 2::kJ 61 60::fJ 62 0 61::lJ 63 62::fJ 64 1 4::lJ 65 64::mJ 67 6::aJ 66 Qack [.t 63,.t 65]::Qxj) []) (sR [cJ 70 .eql 30 3,mJ 69 70] [0,2,4,6,7,30,69] Qaiq)
def Qais:SC:=cT 31 (.seq (.dreg 12 [0,1,2,3,4,5,6,7,8,9,10,11] ( mJ 33 2::mJ 34 2::kJ 35 34::fJ 36 0 35::lJ 37 36::fJ 38 1 4::lJ 39 38::fI 40 (.bsl 1 [.t 39])::xJ 41 1 37 40::Qxh) [2,6]) Qalz) (sR [cJ 55 .eql 30 2,mJ 54 55] [0,2,4,6,7,30,54] Qair)
def Qgr:SC:=.block 0 (sR [cJ 32 .eql 30 1,mJ 31 32] [0,2,4,6,7,30,31] Qais)
def Qait:SC:=sR [fJ 29 0 4,lJ 30 29] [0,2,4,6,7,30] Qgr
def Qxg:SC:=.seq (sR [mJ 25 0,kJ 26 25,fJ 27 6 26,lJ 28 27] [0,2,4,6,7,28] (cT 28 .ret .skip)) Qait
def Qaiu:SC:=.seq (sR [fJ 15 0 4,lJ 16 15,cJ 17 .eql 16 4] [0,2,4,6,7,17] Qaly) Qxg
def Qaiv:SC:=sR [zJ 7 0] [0,2,4,6,7] Qaiu
def Qaiw:SC:=sR (mJ 8 0::fJ 9 2 4::lJ 10 9::fI 11 (.iad 4 (.t 10) (kI 0))::tJ 12 4 11::mJ 13 2::aJ 14 Qa2 [.t 8,.t 12,.t 13]::Qmb) [0,2,4,6] Qaiv
def Qaam:SC:=sR [vJ 4 1] [0,2,4] Qaiw
theorem Qars:mFn prog Qkq 3 127 Qaam Qasa=true:=by kernel_rfl
def Qal2:SC:=.reg [mJ 14 0,kJ 15 14,fJ 16 6 15,.e none none (.sto 1 (.t 16) (.k (.c (.bool true))))] []
def Qal3:SC:=cT 8 (sR [mJ 9 0,mJ 10 1,kJ 11 9,fJ 12 1 11,fJ 13 1 12,sJ 1 13 10] [0] Qal2) .skip
def Qauj:SC:=sR [mJ 4 0,kJ 5 4,fJ 6 6 5,lJ 7 6,oJ 8 7] [0,1,8] Qal3
theorem Q9c:mFn prog Qc1 2 17 Qauj Qasa=true:=by kernel_rfl
def Qalo:SC:=cT 14 (sR [zJ 6 0] [6] .ret) .skip
def Qxe:List Item:=[hJ 26 25,iJ 34 1 26 33,lJ 35 34,mJ 6 35]
def Ql9:List Item:=[mJ 6 41]
def Qalp:SC:=cT 36 (sR (mJ 38 0::tJ 39 4 4::mJ 40 2::aJ 41 Qqd [.t 38,.t 39,.t 40]::Ql9) [6] .ret) .skip
def Qalq:SC:=cT 21 (.seq (.dreg 14 [0,1,2,3,4,5,6,7,8,9,10,3,11,12,13] ( mJ 23 2::kJ 24 23::fJ 25 1 24::lJ 26 25::mJ 27 2::kJ 28 27::fJ 29 0 28::lJ 30 29::fJ 31 2 4::lJ 32 31::aJ 33 Qack [.t 30,.t 32]::Qxe) [6]) .ret) (sR [cJ 37 .eql 16 13,mJ 36 37] [0,2,4,36] Qalp)
def Qalr:SC:=cT 17 (sR [fJ 19 1 4,lJ 20 19,mJ 6 20] [6] .ret) (sR [cJ 22 .eql 16 2,mJ 21 22] [0,2,4,16,21] Qalq)
def Qals:SC:=.block 0 (sR [cJ 18 .eql 16 1,mJ 17 18] [0,2,4,16,17] Qalr)
def Qma:List Item:=[mJ 7 48]
def Qxf:List Item:=[mJ 6 55]
def Qalt:SC:=sR [zJ 6 0] [6] .ret
def Qah6:SC:=cT 59 (sR [mJ 60 0,aJ 61 Qc1 [.t 60,kI 2]] [] Qalt) .skip
def Qah7:SC:=sR [mJ 62 0,kJ 63 62,fJ 64 1 63,fJ 65 3 64,lJ 66 65,mJ 67 7,iJ 68 1 66 67,lJ 69 68,mJ 6 69] [6] .ret
def Qah8:SC:=cT 73 (sR [zJ 6 0] [6] .ret) .skip
def Qev:List Item:=[mJ 6 82]
def Qew:List Item:=cJ 81 .neq 80 0::aJ 82 Qk5 [.t 81]::Qev
def Qgo:SC:=sR (mJ 74 0::fJ 75 3 4::lJ 76 75::fI 77 (.iad 4 (.t 76) (kI 1))::tJ 78 4 77::mJ 79 2::aJ 80 Qa2 [.t 74,.t 78,.t 79]::Qew) [6] .ret
def Qah9:SC:=cT 70 (.seq (sR [mJ 72 7,cJ 73 .eql 72 0] [0,2,4,73] Qah8) Qgo) .skip
def Qaia:SC:=cT 56 (.seq (sR [mJ 58 7,cJ 59 .geq 58 16] [0,7,59] Qah6) Qah7) (sR [cJ 71 .eql 50 10,mJ 70 71] [0,2,4,7,70] Qah9)
def Qaib:SC:=cT 51 (sR (mJ 53 7::cJ 54 .eql 53 0::aJ 55 Qk5 [.t 54]::Qxf) [6] .ret) (sR [cJ 57 .eql 50 12,mJ 56 57] [0,2,4,7,50,56] Qaia)
def Qaic:SC:=.block 1 (sR [cJ 52 .eql 50 11,mJ 51 52] [0,2,4,7,50,51] Qaib)
def Qex:List Item:=[mJ 8 89]
def Qaid:SC:=cT 93 (sR [zJ 6 0] [6] .ret) .skip
def Qsq:List Item:=[mJ 94 99,fI 100 (.ext (.t 94) 0),fI 101 (.ext (.t 94) 1),mJ 9 100,mJ 10 101]
def Qaie:SC:=cT 103 (.reg [mJ 104 0,mJ 105 10,aJ 106 Qc1 [.t 104,.t 105]] [9]) .skip
def Qaif:SC:=sR [mJ 107 9,mJ 6 107] [6] .ret
def Qaig:SC:=.seq (sR [mJ 102 10,cJ 103 .neq 102 0] [0,9,10,103] Qaie) Qaif
def Ql8:SC:=sR (fJ 95 0 4::lJ 96 95::mJ 97 7::mJ 98 8::aJ 99 Qan8 [.t 96,.t 97,.t 98]::Qsq) [0,9,10] Qaig
def Qxc:SC:=.seq (sR [mJ 90 0,kJ 91 90,fJ 92 6 91,lJ 93 92] [0,4,7,8,93] Qaid) Ql8
def Qb4:SC:=sR (mJ 83 0::fJ 84 3 4::lJ 85 84::fI 86 (.iad 4 (.t 85) (kI 1))::tJ 87 4 86::mJ 88 2::aJ 89 Qa2 [.t 83,.t 87,.t 88]::Qex) [0,4,7,8] Qxc
def Qgp:SC:=.seq (sR [fJ 49 0 4,lJ 50 49] [0,2,4,7,50] Qaic) Qb4
def Qxd:SC:=sR (mJ 42 0::fJ 43 3 4::lJ 44 43::fI 45 (.iad 4 (.t 44) (kI 0))::tJ 46 4 45::mJ 47 2::aJ 48 Qa2 [.t 42,.t 46,.t 47]::Qma) [0,2,4,7] Qgp
def Qaih:SC:=.seq (sR [fJ 15 0 4,lJ 16 15] [0,2,4,16] Qals) Qxd
def Qaii:SC:=.seq (sR [mJ 11 0,kJ 12 11,fJ 13 6 12,lJ 14 13] [0,2,4,14] Qalo) Qaih
def Qauh:SC:=sR [vJ 4 1,zJ 6 0] [0,2,4] Qaii
theorem Q9b:mFn prog Qa2 3 108 Qauh Qbe9=true:=by kernel_rfl
def Qbac:SC:=cT 18 (sR [mJ 19 5,mJ 4 19] [4] .ret) .skip
def Qbad:SC:=.reg [mJ 11 5,cJ 12 .sub 11 1,mJ 5 12] [0,1,5]
def Qbae:SC:=.seq (.block 1 (sR [mJ 13 0,mJ 14 5,iJ 15 1 13 14,lJ 16 15,mJ 17 1,bJ 18 .eql 16 17] [0,1,5,18] Qbac)) Qbad
def Qa47:SC:=.seq (sR [mJ 9 5,cJ 10 .geq 9 0] [0,1,5,10] (cT 10 .skip (.exit 0))) Qbae
def Qbaf:SC:=sR [zJ 4 (-1)] [4] .ret
def Qbag:SC:=.seq (sR [mJ 6 0,nJ 7 6,cJ 8 .sub 7 1,mJ 5 8] [0,1,5] (bL 0 Qa47)) Qbaf
def Qbh0:SC:=sR [zJ 4 0] [0,1] Qbag
theorem Qbhh:mFn prog Qack 2 20 Qbh0 Qm4=true:=by kernel_rfl
def Qgq:List Item:=[mJ 2 40]
def Qalu:SC:=.reg (mJ 34 0::fJ 35 2 5::lJ 36 35::fI 37 (.iad 4 (.t 36) (kI 0))::tJ 38 4 37::mJ 39 3::aJ 40 Qa2 [.t 34,.t 38,.t 39]::Qgq) [0,2,3,5]
def Qalv:SC:=sR [mJ 32 0,aJ 33 Qkr [.t 32]] [0,3,5] Qalu
def Qalw:SC:=.seq (sR [mJ 22 0,kJ 23 22,fJ 24 6 23,lJ 25 24,mJ 26 25,gFm 27 26 3,gF 28 26 (.nck (.t 27)),gFf 29 26 2 28,gFl 30 26 29,pT 31 26 30] [0,3,5,31] (cT 31 .ret .skip)) Qalv
def Qalx:SC:=.block 1 (sR [mJ 17 0,fJ 18 3 5,lJ 19 18,mJ 20 3,aJ 21 Qbw [.t 17,.t 19,.t 20]] [0,3,5] Qalw)
def Qaij:SC:=.seq (sR [mJ 8 2,cJ 9 .neq 8 0,mJ 10 9,gTm 11 10 0,gT 12 10 (.nck (.t 11)),gTf 13 10 6 12,gTl 14 10 13,gT 15 10 (.not (.t 14)),pF 16 10 15] [0,3,5,16] (cT 16 .skip (.exit 0))) Qalx
def Qaui:SC:=sR [vJ 5 1] [0,2,3,5] (bL 0 Qaij)
theorem Qarr:mFn prog Qqe 4 41 Qaui Qasa=true:=by kernel_rfl
def Qw8:List Item:=[hJ 14 13,.chk 18 none (.ld 1 true (.t 17)),hJ 20 19,.chk 22 none (.iad 3 (.t 14) (.t 21)),.chk 23 none (.ld 3 true (.t 22)),sJ 3 7 23]
def Qw9:List Item:=hJ 14 13::iJ 22 3 14 21::tJ 23 3 22::eI 7 (.alloc [.str [],.sl true 1 [],.sl true 5 []])::Qw8
def Qxa:List Item:=[mJ 8 29]
def Qxb:List Item:=fI 28 (.bld [.sl true 1 [],.sl true 1 [],.bool false,.int .i64 0] [(0,1,.t 27)])::eI 29 (.boxm (.t 28))::Qxa
def Qgm:List Item:=[kJ 52 37,fJ 53 1 52,sJ 1 53 51]
def Qgn:List Item:=hJ 41 40::fI 50 (.bsl 1 [.t 49])::xJ 51 1 41 50::Qgm
def Qall:SC:=.reg [mJ 35 9,cJ 36 .add 35 1,mJ 9 36] [0,2,4,7,8,9]
def Qalm:SC:=.seq (.block 1 (.dreg 18 [0,1,2,3,4,5,6,7,8,9,10,11,12,4,13,14,15,16,17] ( mJ 37 8::mJ 38 8::kJ 39 38::fJ 40 1 39::lJ 41 40::mJ 42 0::fJ 43 3 4::lJ 44 43::mJ 45 9::iJ 46 4 44 45::tJ 47 4 46::mJ 48 2::aJ 49 Qa2 [.t 42,.t 47,.t 48]::Qgn) [0,2,4,7,8,9])) Qall
def Qah5:SC:=.seq (sR [mJ 30 9,fJ 31 3 4,lJ 32 31,nJ 33 32,bJ 34 .lss 30 33] [0,2,4,7,8,9,34] (cT 34 .skip (.exit 0))) Qalm
def Qaln:SC:=cT 62 (sR [zJ 6 0] [6] .ret) .skip
def Qah2:SC:=sR [mJ 63 8,kJ 64 63,fJ 65 3 64,lJ 66 65,mJ 6 66] [6] .ret
def Qw5:SC:=.seq (sR [mJ 59 0,kJ 60 59,fJ 61 6 60,lJ 62 61] [8,62] Qaln) Qah2
def Qw6:SC:=sR [mJ 54 0,fJ 55 2 7,lJ 56 55,mJ 57 8,aJ 58 Qbw [.t 54,.t 56,.t 57]] [0,8] Qw5
def Qw7:SC:=.seq (sR [zJ 9 0] [0,2,4,7,8,9] (bL 0 Qah5)) Qw6
def Qah3:SC:=sR (fI 24 (.bsl 1 [])::fJ 25 1 7::lJ 26 25::xJ 27 1 24 26::Qxb) [0,2,4,7,8] Qw7
def Qah4:SC:=.seq (.dreg 14 [0,1,2,3,4,5,6,7,8,9,10,11,4,12,13,14,4,8,10,12,13,15] ( mJ 10 0::kJ 11 10::fJ 12 0 11::fJ 13 0 12::lJ 14 13::mJ 15 0::kJ 16 15::fJ 17 0 16::tJ 18 1 17::fJ 19 2 4::lJ 20 19::aJ 21 Qox [.t 18,.t 20]::Qw9) [0,2,4,7]) Qah3
def Qaug:SC:=sR [vJ 4 1,zJ 6 0] [0,2,4] Qah4
theorem Qarq:mFn prog Qqd 3 67 Qaug Qbe9=true:=by kernel_rfl
def Qanq:List Item:=[mJ 6 33,zJ 7 0]
def Qanr:List Item:=[mJ 6 39,zJ 7 0]
def Qa94:SC:=cT 34 (sR (mJ 36 1::mJ 37 2::bJ 38 .eql 36 37::aJ 39 Qk5 [.t 38]::Qanr) [6,7] .ret) .skip
def Qa95:SC:=cT 28 (sR (mJ 30 1::mJ 31 2::bJ 32 .lss 30 31::aJ 33 Qk5 [.t 32]::Qanq) [6,7] .ret) (sR [cJ 35 .eql 8 9,mJ 34 35] [0,1,2,34] Qa94)
def Qa96:SC:=cT 22 (sR [mJ 24 1,mJ 25 2,bJ 26 .mul 24 25,cJ 27 .rem 26 256,mJ 6 27,zJ 7 0] [6,7] .ret) (sR [cJ 29 .eql 8 8,mJ 28 29] [0,1,2,8,28] Qa95)
def Qa97:SC:=cT 15 (sR [mJ 17 1,mJ 18 2,bJ 19 .sub 17 18,cJ 20 .add 19 256,cJ 21 .rem 20 256,mJ 6 21,zJ 7 0] [6,7] .ret) (sR [cJ 23 .eql 8 5,mJ 22 23] [0,1,2,8,22] Qa96)
def Qa98:SC:=cT 9 (sR [mJ 11 1,mJ 12 2,bJ 13 .add 11 12,cJ 14 .rem 13 256,mJ 6 14,zJ 7 0] [6,7] .ret) (sR [cJ 16 .eql 8 4,mJ 15 16] [0,1,2,8,15] Qa97)
def Qa99:SC:=.block 0 (sR [cJ 10 .eql 8 3,mJ 9 10] [0,1,2,8,9] Qa98)
def Qbaa:SC:=cT 41 (sR [zJ 6 0,zJ 7 1] [6,7] .ret) .skip
def Qbab:SC:=cT 43 (sR [mJ 44 1,mJ 45 2,bJ 46 .quo 44 45,mJ 6 46,zJ 7 0] [6,7] .ret) .skip
def Qa42:SC:=sR [mJ 47 1,mJ 48 2,bJ 49 .rem 47 48,mJ 6 49,zJ 7 0] [6,7] .ret
def Qa43:SC:=.seq (sR [mJ 42 0,cJ 43 .eql 42 6] [1,2,43] Qbab) Qa42
def Qa44:SC:=.seq (sR [mJ 40 2,cJ 41 .eql 40 0] [0,1,2,41] Qbaa) Qa43
def Qa45:SC:=.seq (sR [mJ 8 0] [0,1,2,8] Qa99) Qa44
def Qbhz:SC:=sR [zJ 6 0,zJ 7 0] [0,1,2] Qa45
theorem Qbhg:mFn prog Qan8 3 50 Qbhz Qk9=true:=by kernel_rfl
def Qn2:List Item:=[fB 7 false]
def Qdk:List Item:=[gF 17 14 (.not (.t 16)),pT 18 14 17]
def Qgu:List Item:=oJ 13 12::mJ 14 13::gFm 15 14 2::.e (some 16) (some (14,false)) (.call Qp9 [.t 15,kI 0,kI 4000])::Qdk
def Qn3:List Item:=[fB 7 false]
def s_sp_RunProgram_4:SC:=cT 18 (sR (fI 19 (.bld [.sl true 1 [],.int .i64 0,.int .i64 0,.sl true 1 []] [])::sJ 4 6 19::Qn3) [6,7] .ret) .skip
def Qn4:List Item:=[mJ 9 26]
def Qn5:List Item:=sJ 4 8 25::Qn4
def Qn6:List Item:=mJ 20 24::fI 25 (.ext (.t 20) 0)::fI 26 (.ext (.t 20) 1)::eI 8 (.alloc [.sl true 1 [],.int .i64 0,.int .i64 0,.sl true 1 []])::Qn5
def Qn7:List Item:=[fB 7 true]
def Q83:SC:=sR (tJ 27 4 8::sJ 4 6 27::Qn7) [6,7] .ret
def Qn1:SC:=sR (tJ 21 1 3::mJ 22 1::mJ 23 2::aJ 24 Qav0 [.t 21,.t 22,.t 23]::Qn6) [6,8] Q83
def Q5y:SC:=.seq (sR (tJ 10 1 3::mJ 11 1::aJ 12 Qadg [.t 10,.t 11]::Qgu) [1,2,3,6,18] s_sp_RunProgram_4) Qn1
def Qaja:SC:=sR (vJ 3 0::eI 6 (.alloc [.sl true 1 [],.int .i64 0,.int .i64 0,.sl true 1 []])::Qn2) [1,2,3,6] Q5y
theorem Qad1:mFn prog Qi5 3 28 Qaja Quv=true:=by kernel_rfl
def Qmo:List Item:=[pF 30 24 29,mJ 4 30]
def Qmp:List Item:=mJ 10 9::gTf 11 10 1 2::gTl 12 10 11::gTf 13 10 1 3::gTl 14 10 13::gT 15 10 (.bin 0 .eql (.t 12) (.t 14))::pF 16 10 15::mJ 17 16::gTf 18 17 2 2::gTl 19 17 18::gTf 20 17 2 3::gTl 21 17 20::gT 22 17 (.bin 0 .eql (.t 19) (.t 21))::pF 23 17 22::mJ 24 23::gTf 25 24 3 2::gTl 26 24 25::gTf 27 24 3 3::gTl 28 24 27::.e (some 29) (some (24,true)) (.call Q4e [.t 26,.t 28])::Qmo
def Q5z:SC:=sR (fJ 5 0 2::lJ 6 5::fJ 7 0 3::lJ 8 7::aJ 9 Q4e [.t 6,.t 8]::Qmp) [4] .ret
def Qacd:SC:=sR [vJ 2 0,vJ 3 1,fB 4 false] [2,3] Q5z
theorem Qaav:mFn prog Qd6 2 31 Qacd Qm4=true:=by kernel_rfl
def Qbd3:SC:=cT 12 (.reg [fJ 13 0 3,lJ 14 13,fJ 15 0 3,lJ 16 15,nJ 17 16,cJ 18 .sub 17 1,iJ 19 3 14 18,fJ 20 1 19,lJ 21 20,nJ 22 21,mJ 6 22] [0,5,6]) .skip
def Qaub:List Item:=[mJ 5 35]
def Qauc:List Item:=fI 34 (.bsl 1 [.t 33])::xJ 35 1 28 34::Qaub
def Qaud:List Item:=fI 32 (.bsl 1 [kI 0,kI 1,kI 2,kI 3,kI 7,kI 16,kI 255,.t 31])::aJ 33 Qak [.t 29,.t 32]::Qauc
def Qbd4:SC:=.reg [mJ 26 7,cJ 27 .add 26 1,mJ 7 27] [0,5,6,7]
def Qbd5:SC:=.seq (.block 1 (.reg (mJ 28 5::mJ 29 0::mJ 30 0::aJ 31 Qz [.t 30,kI 256]::Qaud) [0,5,6,7])) Qbd4
def Qa92:SC:=.seq (sR [mJ 23 7,mJ 24 6,bJ 25 .lss 23 24] [0,5,6,7,25] (cT 25 .skip (.exit 0))) Qbd5
def Qaue:List Item:=[mJ 5 42]
def Qauf:List Item:=[fI 52 (.iad 1 (.t 48) (kI 0)),sJ 1 52 51]
def Qbd6:SC:=cT 47 (.reg (mJ 48 5::mJ 49 0::fI 50 (.bsl 1 [kI (-1),kI 256])::aJ 51 Qak [.t 49,.t 50]::Qauf) [5]) .skip
def Qa9v:SC:=cT 43 (sR [mJ 45 5,nJ 46 45,cJ 47 .gtr 46 0] [0,5,47] Qbd6) .skip
def Qa9w:SC:=cT 38 (.reg (mJ 40 5::fI 41 (.bsl 1 [kI 0])::xJ 42 1 40 41::Qaue) [5]) (sR [cJ 44 .eql 37 1,mJ 43 44] [0,5,43] Qa9v)
def Qa9x:SC:=.block 2 (sR [cJ 39 .eql 37 0,mJ 38 39] [0,5,37,38] Qa9w)
def Qat9:SC:=sR [mJ 53 5,mJ 4 53] [4] .ret
def Qa9y:SC:=.seq (sR [mJ 36 0,aJ 37 Qz [.t 36,kI 40]] [0,5,37] Qa9x) Qat9
def Qaua:SC:=.seq (sR [zJ 7 0] [0,5,6,7] (bL 0 Qa92)) Qa9y
def Qa9z:SC:=.seq (sR [fJ 9 0 3,lJ 10 9,nJ 11 10,cJ 12 .gtr 11 0] [0,3,5,6,12] Qbd3) Qaua
def Qa90:SC:=sR [zJ 6 0] [0,3,5,6] Qa9z
def Qa91:SC:=sR [fI 8 (.bsl 1 []),mJ 5 8] [0,3,5] Qa90
def Qbj4:SC:=sR [vJ 3 1,fI 4 (.mv (.k (.c (.sl true 1 []))))] [0,3] Qa91
theorem Qbjo:mFn prog Qav1 2 54 Qbj4 Qm4=true:=by kernel_rfl
def Qg1:List Item:=[fI 3 (.mv (.k (.c (.sl true 1 [])))),zJ 4 0]
def Qg2:List Item:=[mJ 5 8]
def Qg3:List Item:=[sJ 1 6 10]
def Qg4:List Item:=eI 6 (.alloc [.sl true 3 []])::Qg3
def Qg5:List Item:=[cJ 13 .eql 12 0]
def Qg6:List Item:=[sJ 1 6 15]
def Qx1:SC:=cT 13 (.reg (mJ 14 5::aJ 15 Qadf [.t 14]::Qg6) [2,5,6]) .skip
def Qg7:List Item:=[mJ 3 19,mJ 4 22]
def Qg8:List Item:=.chk 16 none (.ld 1 true (.t 6))::sJ 1 2 16::Qg7
def Qg9:List Item:=.chk 16 none (.ld 1 true (.t 6))::aJ 22 Qak [.t 20,.t 21]::Qg8
def Qg0:SC:=.seq (.dreg 10 [0,1,2,4,5,3,0,6,0,7,8,9] ( tJ 16 1 6::mJ 17 5::tJ 18 1 6::mJ 20 5::fI 21 (.bsl 1 [kI 400,kI 400,kI 1000,kI 20,kI 5,kI 1,kI 0,kI 4000,kI (-1),kI 4001])::aJ 19 Qav1 [.t 17,.t 18]::Qg9) [2,3,4]) .ret
def Qt2:SC:=.seq (sR (mJ 11 5::aJ 12 Qz [.t 11,kI 12]::Qg5) [2,5,6,13] Qx1) Qg0
def Qt3:SC:=sR (mJ 9 5::aJ 10 Qug [.t 9]::Qg4) [2,5,6] Qt2
def Qt4:SC:=sR (mJ 7 0::aJ 8 Q6e [.t 7]::Qg2) [2,5] Qt3
def Q3v:SC:=sR (eI 2 (.alloc [.sl true 3 []])::Qg1) [0,2] Qt4
def Qe4:List RS:=[.cell 2 1 true,.tmp 3,.tmp 4]
theorem Q1j:mFn prog Qeb 1 23 Q3v Qe4=true:=by kernel_rfl
def Q8v:SC:=cT 16 (sR [fB 2 true] [2] .ret) .skip
def Qns:List Item:=[mJ 4 21,mJ 5 22]
def Qnt:List Item:=sJ 1 3 20::Qns
def Qnu:List Item:=mJ 17 19::fI 20 (.ext (.t 17) 0)::fI 21 (.ext (.t 17) 1)::fI 22 (.ext (.t 17) 2)::eI 3 (.alloc [.sl true 3 []])::Qnt
def Qnv:List Item:=[mJ 7 29]
def Qnw:List Item:=sJ 4 6 28::Qnv
def Qnx:List Item:=mJ 23 27::fI 28 (.ext (.t 23) 0)::fI 29 (.ext (.t 23) 1)::eI 6 (.alloc [.sl true 1 [],.int .i64 0,.int .i64 0,.sl true 1 []])::Qnw
def Qny:List Item:=[mJ 9 36]
def Qnz:List Item:=sJ 4 8 35::Qny
def Qn0:List Item:=mJ 30 34::fI 35 (.ext (.t 30) 0)::fI 36 (.ext (.t 30) 1)::eI 8 (.alloc [.sl true 1 [],.int .i64 0,.int .i64 0,.sl true 1 []])::Qnz
def Qe8:List Item:=[gF 44 40 (.not (.t 43)),pT 45 40 44,mJ 46 45,gFm 47 46 7,gF 48 46 (.not (.t 47)),pT 49 46 48]
def Qmc:List Item:=[pF 57 53 56,mJ 2 57]
def Q5o:SC:=cT 49 (sR (mJ 50 7::mJ 51 9::fI 52 (.bin 1 .eql (.t 50) (.t 51))::mJ 53 52::gT 54 53 (.ld 4 true (.t 6))::gT 55 53 (.ld 4 true (.t 8))::.e (some 56) (some (53,true)) (.call Qd6 [.t 54,.t 55])::Qmc) [2] .ret) .skip
def Qmd:List Item:=[mJ 11 62]
def Qme:List Item:=sJ 1 10 61::Qmd
def Qmf:List Item:=mJ 58 60::fI 61 (.ext (.t 58) 0)::fI 62 (.ext (.t 58) 1)::eI 10 (.alloc [.sl true 3 []])::Qme
def Qmg:List Item:=[mJ 13 69]
def Qmh:List Item:=sJ 4 12 68::Qmg
def Qmi:List Item:=mJ 63 67::fI 68 (.ext (.t 63) 0)::fI 69 (.ext (.t 63) 1)::eI 12 (.alloc [.sl true 1 [],.int .i64 0,.int .i64 0,.sl true 1 []])::Qmh
def Qmj:List Item:=[pF 78 74 77,mJ 2 78]
def Q5p:SC:=sR (mJ 70 11::mJ 71 70::gTm 72 71 13::pF 73 71 72::mJ 74 73::gT 75 74 (.ld 4 true (.t 12))::gT 76 74 (.ld 4 true (.t 6))::.e (some 77) (some (74,true)) (.call Qhe [.t 75,.t 76])::Qmj) [2] .ret
def Q5q:SC:=sR (tJ 64 1 10::mJ 65 4::mJ 66 5::aJ 67 Qes [.t 64,.t 65,.t 66]::Qmi) [6,11,12,13] Q5p
def Q5r:SC:=sR (tJ 59 1 3::aJ 60 Qfo [.t 59]::Qmf) [4,5,6,10,11] Q5q
def Q5s:SC:=.seq (sR (mJ 37 7::mJ 38 9::fI 39 (.bin 1 .neq (.t 37) (.t 38))::mJ 40 39::gF 41 40 (.ld 4 true (.t 6))::gF 42 40 (.ld 4 true (.t 8))::.e (some 43) (some (40,false)) (.call Qd6 [.t 41,.t 42])::Qe8) [3,4,5,6,7,8,9,49] Q5o) Q5r
def Q5t:SC:=sR (tJ 31 1 3::mJ 32 4::mJ 33 5::aJ 34 Qi5 [.t 31,.t 32,.t 33]::Qn0) [3,4,5,6,7,8,9] Q5s
def Q5u:SC:=sR (tJ 24 1 3::mJ 25 4::mJ 26 5::aJ 27 Qes [.t 24,.t 25,.t 26]::Qnx) [3,4,5,6,7] Q5t
def Q5v:SC:=sR (mJ 18 0::aJ 19 Qeb [.t 18]::Qnu) [3,4,5] Q5u
def Q5w:SC:=.seq (sR [mJ 14 0,nJ 15 14,cJ 16 .gtr 15 1048576] [0,16] Q8v) Q5v
def Qai2:SC:=sR [fB 2 false] [0] Q5w
theorem Qadz:mFn prog Qru 1 79 Qai2 Qcu=true:=by kernel_rfl
end Go.AE.Y
namespace Go.AE.Y
attribute [local go_sem] cond_true cond_false Bool.not_true Bool.not_false
open Go.Proofs.Tryz
variable {H H' H0:Heap}{K:V→Heap→Prop}{E A B:List (Nat×Obj)}
structure Sn where
 l:Nat
 y:Nat
 fl:Bool
 fns:List Fn
 S:Nat
def Sn.o (X:Sn)(a:Ma)(e:Option Nat):Obj:=.st [.sl X.fl 3 (Qy X.fns),a.sc,.int .i64 (e.getD 0:Nat),.int .i64 0,.vsl X.y 1 0 16,.int .i64 (X.S-a.m.u:Nat),.bool e.isSome]
def Sn.G (X:Sn)(a:Ma)(e:Option Nat)(B:List (Nat×Obj)):List (Nat×Obj):=[(X.l,X.o a e)]++(a.so++([(X.y,.vec 1 (Qn a.m.c))]++B))
structure Ma.sok (X:Sn)(a:Ma):Prop where
 g:Gr a.so 1 (Qn a.m.s) a.sc
 b:a.m.by
 l:a.m.s.length≤a.m.u
 u:a.m.u≤X.S
 S:X.S≤60000
structure Se where
 l:Nat
 F:List (List UInt8×Nat)
 nc:C
 nl:List (Nat×Obj)
 vc:C
 vl:List (Nat×Obj)
def Se.nms (v:Se):List (List UInt8):=(v.F.map Prod.fst).reverse
def Se.vals (v:Se):List Nat:=(v.F.map Prod.snd).reverse
def Se.o (v:Se)(b:Option Nat):Obj:=.st [v.nc,v.vc,.bool b.isSome,.int .i64 (b.getD 0:Nat)]
def Se.ob (v:Se)(b:Option Nat):List (Nat×Obj):=[(v.l,v.o b)]++(v.nl++v.vl)
structure Se.ok (v:Se):Prop where
 n:Gp v.nl 1 (Q0 v.nms) v.nc
 v:Gp v.vl 1 (Qn v.vals) v.vc
variable {X:Sn}{a a':Ma}{e e':Option Nat}{sv:Se}{b:Option Nat}
theorem sG_o (k:Kn H0 H E (X.G a e B)):H X.l=.st [.sl X.fl 3 (Qy X.fns),a.sc,.int .i64 (e.getD 0:Nat),.int .i64 0,.vsl X.y 1 0 16,.int .i64 (X.S-a.m.u:Nat),.bool e.isSome]:=k.l 0 rfl
theorem sG_y (k:Kn H0 H E (X.G a e B)):H X.y=.vec 1 (Qn a.m.c):=(k.get (X.y,.vec 1 (Qn a.m.c)) (by simp[Sn.G])).1
theorem sG_v (k:Kn H0 H E (X.G a e (sv.ob b++B))):H sv.l=.st [sv.nc,sv.vc,.bool b.isSome,.int .i64 (b.getD 0:Nat)]:=(k.get (sv.l,sv.o b) (by simp[Sn.G,Se.ob])).1
theorem sG_n (k:Kn H0 H E (X.G a e (sv.ob b++B)))(h:sv.ok):Slc H 1 (Q0 sv.nms) sv.nc:=h.n.slc fun p hp=>(k.get p (by simp[Sn.G,Se.ob,hp])).1
theorem sG_w (k:Kn H0 H E (X.G a e (sv.ob b++B)))(h:sv.ok):Slc H 1 (Qn sv.vals) sv.vc:=h.v.slc fun p hp=>(k.get p (by simp[Sn.G,Se.ob,hp])).1
theorem Qbfc (k:Kn H0 H E (X.G a e B))(h:H'=H.set X.l (X.o a' e'))(hs:a'.so=a.so)(hc:a'.m.c=a.m.c):Kn H0 H' E (X.G a' e' B):=by
 have k2:=k.stL 0 rfl h;have:X.G a' e' B=[(X.l,X.o a' e')]++(a.so++([(X.y,.vec 1 (Qn a.m.c))]++B)):=by rw[Sn.G,hs,hc]
 rw[this];exact k2
theorem Qu2 {x:Nat}{o o':Obj}(k:Kn H0 H E (X.G a e (A++(x,o)::B)))(h:H'=H.set x o')(ho:o'≠.none:=by nofun):Kn H0 H' E (X.G a e (A++(x,o')::B)):=by
 have k2:Kn H0 H E (([(X.l,X.o a e)]++(a.so++([(X.y,.vec 1 (Qn a.m.c))]++A)))++(x,o)::B):=by simpa[Sn.G]using k
 simpa[Sn.G]using k2.stM h ho
theorem Qdz {x:Nat}{o:Obj}(k:Kn H0 H E (X.G a e (A++(x,o)::B))):H x=o:=(k.get (x,o) (by simp[Sn.G])).1
theorem Qawo {p:Nat×Obj}(k:Kn H0 H E (X.G a e B++[p])):Kn H0 H E (X.G a e (p::B)):=k.perm (Qaa fun f hf h0 hc hp=>by rw[hf];simp only[Sn.G,hf];rw[hc p B];omega)
theorem Qbhr (k:Kn H0 H E (X.G a e (A++B))):Kn H0 H E (X.G a e B):=k.sub (by
 refine List.Sublist.append (List.Sublist.refl _) (List.Sublist.append (List.Sublist.refl _) (List.Sublist.append (List.Sublist.refl _) ?_));exact List.sublist_append_right _ _)
theorem Qyo {b:Bool}(hK:K (.c (.int .i64 (if b=true then 1 else 0:Nat))) H):Ql prog Qk5 [.c (.bool b)] H K:=by
 refine Qc Qal Qa7s ?_;refine Qa ?_;simp only[go_sem];refine Q6 ?_;refine Qa ?_;simp only[go_sem];refine Qf (Qb rfl ?_ ?_)
 ·intro hc;subst hc;refine Qa ?_;simp only[go_sem];refine Qh ?_;simp only[go_sem,Qp,Q8,Qcu,Jb,forall_eq,RS.op];exact hK
 ·intro hc;subst hc;refine Qe ?_;try simp only[go_sem]
  refine Qa ?_;simp only[go_sem];refine Qh ?_;simp only[go_sem,Qp,Q8,Qcu,Jb,forall_eq,RS.op];exact hK
theorem Qao5 {z:Nat}(kn:Kn H0 H E (X.G a none B))(hK:∀H',Kn H0 H' E (X.G a (some z) B)→K (.tup []) H'):Ql prog Qc1 [.c (.ptr X.l 0),.c (.int .i64 (z:Nat))] H K:=by
 refine Qc Qal Q9c ?_;have hX:=sG_o kn;refine Qa ?_;simp only[go_sem,hX,Jh];refine Qb rfl (fun _=>?_) (fun h=>by simp at h);refine Qa ?_;simp only[go_sem,hX,Jh];intro H1 h1;have hX1:H1 X.l=.st [.sl X.fl 3 (Qy X.fns),a.sc,.int .i64 (z:Nat),.int .i64 0,.vsl X.y 1 0 16,.int .i64 (X.S-a.m.u:Nat),.bool false]:=by rw[h1];exact Heap.set_same _ _ _
 refine Qq ?_;simp only[go_sem,hX1];intro H2 h2;simp only[go_sem,Qp,Q8,Qasa];exact hK H2 (Qbfc kn (a':=a) (e':=some z) (by rw[h2,h1,Heap.set_set];rfl) rfl rfl)
theorem Qa8m (kn:Kn H0 H E (X.G a none B))(ha:a.sok X)
  (hK:∀H',a.m.u<X.S→Kn H0 H' E (X.G ⟨⟨a.m.u+1,a.m.s,a.m.c⟩,a.sc,a.so⟩ none B)→Ma.sok X ⟨⟨a.m.u+1,a.m.s,a.m.c⟩,a.sc,a.so⟩→K (.tup []) H')
  (hP:∀H',a.m.u=X.S→Kn H0 H' E (X.G a (some 3) B)→K (.tup []) H'):Ql prog Qkr [.c (.ptr X.l 0)] H K:=by
 refine Qc Qal Qart ?_;have hX:=sG_o kn;have huS:=ha.u;have hS:=ha.S;refine Q6 ?_;refine Qa ?_;simp only[go_sem,hX];refine Qf (Qb rfl (fun hc=>?_) (fun hc=>?_))
 ·have hu:a.m.u=X.S:=by
   have:=of_decide_eq_true hc;omega
  refine Qa ?_;simp only[go_sem];refine Qao5 (z:=3) kn fun H1 kn=>?_;simp only[go_sem];refine Qh ?_;simp only[go_sem,Qp,Q8,Qasa];exact hP H1 hu kn
 ·have hu:a.m.u<X.S:=by
   have:=of_decide_eq_false hc;omega
  refine Qe ?_;try simp only[go_sem]
  refine Qq ?_;simp only[go_sem,hX];refine⟨Q1 (by omega) (by omega),fun H' h'=>?_⟩;simp only[go_sem,Qp,Q8,Qasa];refine hK H' hu (Qbfc kn (a':=⟨⟨a.m.u+1,a.m.s,a.m.c⟩,a.sc,a.so⟩) (e':=none) ?_ rfl rfl) ⟨ha.g,ha.b.tick _,Nat.le_succ_of_le ha.l,hu,ha.S⟩;rw[h',Sn.o];congr 3;simp only[Jab,Jh];have:((X.S-a.m.u:Nat):Int)-1=((X.S-(a.m.u+1):Nat):Int):=by omega
  rw[this]
theorem Qaem {z:Nat}{x:Ex}{c:C}(how:c.isOw=false)(kn:Kn H0 H E (X.G a (some z) B))(hK:K (.c (.int .i64 0)) H):Ql prog Qa2 [.c (.ptr X.l 0),.ag x.cells,.c c] H K:=by
 refine Qc Qal Q9b ?_;have hX:=sG_o kn;refine Qa ?_;simp only[go_sem,x.cells_eq,how];refine Q6 ?_;refine Qa ?_;simp only[go_sem,hX,how,Option.isSome_some];refine Qf (Qb rfl (fun _=>?_) (fun h=>by simp at h));refine Qa ?_;simp only[go_sem];refine Qh ?_;simp only[go_sem,Qp,Q8,Qbe9,Jb,forall_eq,RS.op];exact hK
end Go.AE.Y
namespace Go.AE.Y
attribute [local go_sem] cond_true cond_false Bool.not_true Bool.not_false
open Go.Proofs.Tryz
variable {H H' H0:Heap}{K:V→Heap→Prop}{E A B:List (Nat×Obj)}
def twN (op:Int)(x y:Nat):Nat×Nat:=match arN op x y with
 |some z=>(z,0)
 |none=>(0,1)
theorem Qbjx {op:Int}{x y:Nat}(hx:x<256)(hy:y<256)(h3:3≤op)(h9:op≤9)(hK:K (.tup [.c (.int .i64 ((twN op x y).1:Nat)),.c (.int .i64 ((twN op x y).2:Nat))]) H) :
  Ql prog Qan8 [.c (.int .i64 op),.c (.int .i64 (x:Nat)),.c (.int .i64 (y:Nat))] H K:=by
 refine Qc Qal Qbhg ?_;have retf:∀(v t:Int) (e:Env),v=((twN op x y).1:Nat)→t=((twN op x y).2:Nat)→lk 6 e=.c (.int .i64 v)→lk 7 e=.c (.int .i64 t)→Qp Qk9 K .ret e H:=by
  intro v t e h1 h2 h3 h4;simp only[go_sem,Qp,Q8,Qk9,RS.op,h3,h4];rw[h1,h2];exact hK
 refine Qa ?_;simp only[go_sem];refine Q6 ?_;refine Qa ?_;simp only[go_sem];refine Qf (Qd ?_);refine Qa ?_;simp only[go_sem];refine Qb rfl (fun hc=>?_) (fun hc=>?_)
 ·have ho:op=3:=of_decide_eq_true hc;subst ho;refine Qa ?_;simp only[go_sem];refine⟨Q1 (by omega) (by omega),by omega,?_⟩;refine Qh ?_;simp only[go_sem];refine retf _ _ _ ?_ rfl rfl rfl;rw[Int.tmod_eq_emod_of_nonneg (by omega)];rfl
 have n3:=of_decide_eq_false hc;refine Qa ?_;simp only[go_sem];refine Qb rfl (fun hc=>?_) (fun hc=>?_)
 ·have ho:op=4:=of_decide_eq_true hc;subst ho;refine Qa ?_;simp only[go_sem];refine⟨Q1 (by omega) (by omega),Q1 (by omega) (by omega),by omega,?_⟩;refine Qh ?_;simp only[go_sem];refine retf _ _ _ ?_ rfl rfl rfl;rw[Int.tmod_eq_emod_of_nonneg (by omega)];show ((x:Int)-y+256) % 256=(((x+256-y) % 256:Nat):Int);omega
 have n4:=of_decide_eq_false hc;refine Qa ?_;simp only[go_sem];refine Qb rfl (fun hc=>?_) (fun hc=>?_)
 ·have ho:op=5:=of_decide_eq_true hc;subst ho;have hab2:x * y≤255 * 255:=Nat.mul_le_mul (by omega) (by omega);have hab3:((x:Int) * y)=((x * y:Nat):Int):=by simp
  refine Qa ?_;simp only[go_sem,hab3];refine⟨Q1 (by omega) (by omega),by omega,?_⟩;refine Qh ?_;simp only[go_sem];refine retf _ _ _ ?_ rfl rfl rfl;rw[Int.tmod_eq_emod_of_nonneg (by omega)];rfl
 have n5:=of_decide_eq_false hc;refine Qa ?_;simp only[go_sem];refine Qb rfl (fun hc=>?_) (fun hc=>?_)
 ·have ho:op=8:=of_decide_eq_true hc;subst ho;refine Qa ?_;simp only[go_sem];refine Qyo ?_;simp only[go_sem,Qanq];refine Qh ?_;simp only[go_sem];refine retf _ _ _ ?_ rfl rfl rfl;show _=((if x<y then 1 else 0:Nat):Int);simp
 have n8:=of_decide_eq_false hc;refine Qa ?_;simp only[go_sem];refine Qb rfl (fun hc=>?_) (fun hc=>?_)
 ·have ho:op=9:=of_decide_eq_true hc;subst ho;refine Qa ?_;simp only[go_sem];refine Qyo ?_;simp only[go_sem,Qanr];refine Qh ?_;simp only[go_sem];refine retf _ _ _ ?_ rfl rfl rfl;show _=((if x=y then 1 else 0:Nat):Int);by_cases h:x=y
  ·simp[h]
  ·have:¬(x:Int)=y:=by omega
   simp[h,this]
 have n9:=of_decide_eq_false hc;refine Qe ?_;try simp only[go_sem,AE.X.next]
 have h67:op=6∨op=7:=by omega
 refine Q6 ?_;refine Qa ?_;simp only[go_sem];refine Qf (Qb rfl (fun hc=>?_) (fun hc=>?_))
 ·have hb:y=0:=by have:=of_decide_eq_true hc;omega
  subst hb;refine Qa ?_;simp only[go_sem];refine Qh ?_;simp only[go_sem];rcases h67 with rfl|rfl <;> exact retf _ _ _ rfl rfl rfl rfl
 have hb:¬y=0:=by have:=of_decide_eq_false hc;omega
 refine Qe ?_;try simp only[go_sem]
 refine Q6 ?_;refine Qa ?_;simp only[go_sem];refine Qf (Qb rfl (fun hc=>?_) (fun hc=>?_))
 ·have ho:op=6:=of_decide_eq_true hc;subst ho;have hd2:x / y≤x:=Ja0 _ _;have hd3:(x:Int).tdiv y=((x / y:Nat):Int):=by rw[Int.tdiv_eq_ediv_of_nonneg (by omega)];rfl
  have ht:twN 6 x y=(x / y,0):=by simp[twN,arN,hb]
  refine Qa ?_;simp only[go_sem];refine⟨⟨by omega,(by
   obtain⟨q,hq⟩:∃q,x / y=q:=⟨_,rfl⟩;rw[hd3,hq];rw[hq]at hd2;exact Q1 (by omega) (by omega))⟩,?_⟩
  refine Qh ?_;simp only[go_sem];exact retf _ _ _ (by rw[hd3,ht]) (by rw[ht];rfl) rfl rfl
 ·have ho:op=7:=by have:=of_decide_eq_false hc;omega
  subst ho;have hd3:(x:Int).tmod y=((x % y:Nat):Int):=by rw[Int.tmod_eq_emod_of_nonneg (by omega)];rfl
  have ht:twN 7 x y=(x % y,0):=by simp[twN,arN,hb]
  refine Qe ?_;try simp only[go_sem]
  refine Qa ?_;simp only[go_sem];refine⟨by omega,?_⟩;refine Qh ?_;try simp only[go_sem]
  exact retf _ _ _ (by rw[hd3,ht]) (by rw[ht];rfl) rfl rfl
theorem Qa09 {α:Type}{l:List α}{k:Nat}(h:k<l.length)(d:α):l.reverse.getD (l.length-1-k) d=l[k]:=by
 have:l.length-1-k<l.reverse.length:=by rw[List.length_reverse];omega
 rw[Jy,Jag this,Jac,List.getElem_reverse];congr 1;omega
theorem Qbhq {α:Type}{l:List α}{k:Nat}(h:k<l.length)(d:α):l.reverse.set (l.length-1-k) d=(l.set k d).reverse:=by
 apply List.ext_getElem
 ·simp
 ·intro i h1 h2;simp only[Jak,List.length_reverse]at h1;rw[Jaw,List.getElem_reverse,List.getElem_reverse,Jaw];simp only[Jak];by_cases e:l.length-1-k=i
  ·rw[if_pos e,if_pos (by omega)]
  ·rw[if_neg e,if_neg (by omega)]
theorem Qbaj {s:List UInt8}{n:Nat}:∀{F:List (List UInt8×Nat)} {k:Nat} (h:k<F.length),F[k].1=s→(∀i (hi:i<k),F[i].1≠s)→setB s n F=F.set k (s,n)
 |p::F,0,_,h1,_=>by simp only[Jx]at h1;simp[setB,h1]
 |p::F,k+1,h,h1,h2=>by
  have h0:p.1≠s:=h2 0 (by omega);simp only[setB,if_neg h0,Jae];rw[Qbaj (k:=k) (by simpa using h) (by simpa using h1) fun i hi=>by simpa using h2 (i+1) (by omega)]
theorem Qaz7 {s:List UInt8}:∀{F:List (List UInt8×Nat)} {k:Nat} (h:k<F.length),F[k].1=s→(∀i (hi:i<k),F[i].1≠s)→(F.find? fun p=>decide (p.1=s))=some F[k]
 |p::F,0,_,h1,_=>by simp only[Jx]at h1⊢;rw[List.find?_cons,decide_eq_true h1]
 |p::F,k+1,h,h1,h2=>by
  have h0:p.1≠s:=h2 0 (by omega);rw[List.find?_cons,decide_eq_false h0,J7];exact Qaz7 (k:=k) (by simpa using h) (by simpa using h1) fun i hi=>by simpa using h2 (i+1) (by omega)
theorem Qbfd {F:List (List UInt8×Nat)}{c:C}{s:List UInt8}(hs:Slc H 1 (Q0 (F.map Prod.fst).reverse) c)(how:c.isOw=false)(hf:(F.find? fun p=>decide (p.1=s)).isSome=true)
  (hK:∀k (hk:k<F.length),F[k].1=s→(∀i (hi:i<k),F[i].1≠s)→K (.c (.int .i64 (F.length-1-k:Nat))) H):Ql prog Qack [.c c,.c (.str s)] H K:=by
 have hok:=eq_true hs.ok;have hlen:=hs.len;have hsz:=hs.sz;have hrw:=hs.rows;have hF0:0<F.length:=by
  cases F with
  |nil=>simp at hf
  |cons=>simp
 refine Qc Qal Qbhh ?_;refine Qa ?_;simp only[go_sem,how];refine Q6 ?_;refine Qa ?_;simp only[go_sem,how,hok,hlen,Qo,List.length_reverse,Jd];intro hl;simp only[LIM]at hl;refine⟨Q1 (by omega) (by omega),?_⟩;refine Qf (Qd (Qab (fun m e1 H1=>∃(k:Nat),m=F.length-k∧k<F.length∧H1=H∧(∀i (hi:i<k),∀hl:i<F.length,F[i].1≠s)∧e1=[(0,.c c),(1,.c (.str s)),(5,.c (.int .i64 (F.length-1-k:Nat)))]) F.length ?_ ?_))
 ·exact⟨0,by omega,hF0,rfl,fun i hi=>by omega,by
   have:((F.length:Int)-1)=((F.length-1-0:Nat):Int):=by omega
   rw[this]⟩
 ·rintro m e1 H1 ⟨k,hm,hk,rfl,hno,rfl⟩;have hix:F.length-1-k<(F.map Prod.fst).reverse.length:=by rw[List.length_reverse,Jd];omega
  have hgd:(F.map Prod.fst).reverse.getD (F.length-1-k) []=F[k].1:=by
   have:=Qa09 (l:=F.map Prod.fst) (k:=k) (by rw[Jd];exact hk) [];simp only[Jd,J9]at this;exact this
  have hix2:F.length-1-k<F.length:=by omega
  refine Q6 ?_;refine Qa ?_;simp only[go_sem,how];refine Qf (Qb rfl (fun _=>?_) (fun h=>by simp at h));refine Qe ?_;try simp only[go_sem]
  refine Qf (Qd ?_);refine Qa ?_;simp only[go_sem,how,hok,hlen,hsz,hrw,Qo,List.length_reverse,Jd,hix2,Qbo _ _ hix,hgd];refine Qb rfl (fun hc=>?_) (fun hc=>?_)
  ·have hv:F[k].1=s:=by simpa using hc
   refine Qa ?_;simp only[go_sem];refine Qh ?_;simp only[go_sem,AE.X.next,Qp,Q8,Qm4,Jb,forall_eq,RS.op];exact hK k hk hv fun i hi=>hno i hi (by omega)
  ·have hv:¬F[k].1=s:=by simpa using hc
   have hk1:k+1<F.length:=by
    by_cases h:k+1<F.length
    ·exact h
    ·exfalso;obtain⟨x,hx⟩:=Jah.1 hf;have hm1:=List.mem_of_find?_eq_some hx;have hm2:=List.find?_some hx;obtain⟨i,hi,rfl⟩:=Jan.1 hm1;have hi2:F[i].1=s:=(by simpa using hm2);by_cases hik:i<k
     ·exact hno i hik hi hi2
     ·have:i=k:=(by omega);subst this;exact hv hi2
   refine Qe ?_;try simp only[go_sem]
   refine Qq ?_;simp only[go_sem,AE.X.next,how];refine⟨Q1 (by omega) (by omega),F.length-(k+1),by omega,k+1,rfl,hk1,fun i hi hl=>?_,?_⟩
   ·by_cases hik:i<k
    ·exact hno i hik hl
    ·have:i=k:=(by omega);subst this;exact hv
   ·have:((F.length-1-k:Nat):Int)-1=((F.length-1-(k+1):Nat):Int):=(by omega);rw[this]
end Go.AE.Y
namespace Go.AE.Y
attribute [local go_sem] cond_true cond_false Bool.not_true Bool.not_false
open Go.Proofs.Tryz
variable {H H' H0:Heap}{K:V→Heap→Prop}{E A B:List (Nat×Obj)}{X:Sn}
def ExRf (f:Nat)(X:Sn)(h:Nat)(x:Ex):Prop:=∀(v:Vars) (m:Ms) (r:Rt) (m':Ms) (H0 H:Heap) (E B:List (Nat×Obj)) (a:Ma) (sv:Se) (K:V→Heap→Prop),
 Ev X.fns X.S h (.ex x v) m r m'→a.m=m→a.sok X→sv.ok→sv.F=v.flatten→vBy v→Kn H0 H E (X.G a none (sv.ob none++B))→
 (∀z a' H',r=.val z→a'.m=m'→a'.sok X→Kn H0 H' E (X.G a' none (sv.ob none++B))→K (.c (.int .i64 (z:Nat))) H')→
 (∀(z w:Nat) a' H',r=.dn z→a'.m=m'→a'.sok X→Kn H0 H' E (X.G a' (some z) (sv.ob none++B))→K (.c (.int .i64 (w:Nat))) H')→
 Ql prog f [.c (.ptr X.l 0),.ag x.cells,.c (.ptr sv.l 0)] H K
def ExR (X:Sn)(h:Nat):Prop:=∀x,ExRf Qa2 X h x
def Qbij (X:Sn)(h:Nat):Prop:=∀x,x.op=13→ExRf Qqd X h x
def BlkR (X:Sn)(h:Nat):Prop:=∀(l:List St) (fl:Bool) (v:Vars) (m:Ms) (r:Rt) (m':Ms) (H0 H:Heap) (E B:List (Nat×Obj)) (a:Ma) (sv:Se) (K:V→Heap→Prop),
 Ev X.fns X.S h (.blk l v) m r m'→a.m=m→a.sok X→sv.ok→sv.F=v.flatten→v≠[]→vBy v→sv.F.length+l.length≤2^37→Qi l+sv.F.length≤2^36→Kn H0 H E (X.G a none (sv.ob none++B))→
 (∀b v' a' (sv':Se) H',r=.env b v'→a'.m=m'→a'.sok X→sv'.ok→sv'.l=sv.l→sv'.F=v'.flatten.drop (v'.flatten.length-v.flatten.length)→Kn H0 H' E (X.G a' none (sv'.ob b++B))→K (.tup []) H')→
 (∀(z:Nat) a' (sv':Se) H',r=.dn z→a'.m=m'→a'.sok X→sv'.ok→sv'.l=sv.l→sv'.F.length=sv.F.length→Kn H0 H' E (X.G a' (some z) (sv'.ob none++B))→K (.tup []) H')→
 Ql prog Qbw [.c (.ptr X.l 0),.c (.sl fl 5 (Qk l)),.c (.ptr sv.l 0)] H K
def StR (X:Sn)(h:Nat):Prop:=∀(x:St) (v:Vars) (m:Ms) (r:Rt) (m':Ms) (H0 H:Heap) (E B:List (Nat×Obj)) (a:Ma) (sv:Se) (K:V→Heap→Prop),
 Ev X.fns X.S h (.st x v) m r m'→a.m=m→a.sok X→a.m.s.length<a.m.u→sv.ok→sv.F=v.flatten→v≠[]→vBy v→x.size+sv.F.length≤2^36→Kn H0 H E (X.G a none (sv.ob none++B))→
 (∀b v' a' (sv':Se) H',r=.env b v'→a'.m=m'→a'.sok X→sv'.ok→sv'.l=sv.l→sv'.F=v'.flatten→Kn H0 H' E (X.G a' none (sv'.ob b++B))→K (.tup []) H')→
 (∀(z:Nat) a' (sv':Se) H',r=.dn z→a'.m=m'→a'.sok X→sv'.ok→sv'.l=sv.l→sv'.F.length=sv.F.length→Kn H0 H' E (X.G a' (some z) (sv'.ob none++B))→K (.tup []) H')→
 Ql prog Qkq [.c (.ptr X.l 0),.ag x.cells,.c (.ptr sv.l 0)] H K
theorem Qbde {a:Ma}{z:Nat}{n:Int}(kn:Kn H0 H E (X.G a (some z) B))(hK:K (.tup []) H):Ql prog Qc1 [.c (.ptr X.l 0),.c (.int .i64 n)] H K:=by
 refine Qc Qal Q9c ?_;have hX:=sG_o kn;refine Qa ?_;simp only[go_sem,hX,Option.isSome_some];refine Qb rfl (fun h=>by simp at h) (fun _=>?_);refine Qe ?_;simp only[go_sem,Qp,Q8,Qasa];exact hK
theorem Qbes {op:Int}{x y z:Nat}(h:arN op x y=some z):twN op x y=(z,0):=by rw[twN,h]
theorem Qber {op:Int}{x y:Nat}(h:arN op x y=none):twN op x y=(0,1):=by rw[twN,h]
theorem Qbi4 {h:Nat}(hE:∀h',h'<h→ExR X h')(hC:Qbij X h):ExR X h:=by
 intro x v m r m' H0 H E B a sv K hev ham ha hok hF hv kn hK hP;subst ham;refine Qc Qal Q9b ?_;have retK:∀(z:Nat) (a':Ma) (H':Heap) (e:Env),r=.val z→a'.m=m'→a'.sok X→Kn H0 H' E (X.G a' none (sv.ob none++B))→lk 6 e=.c (.int .i64 (z:Nat))→Qp Qbe9 K .ret e H':=by
  intro z a' H' e h1 h2 h3 h4 h5;simp only[go_sem,Qp,Q8,Qbe9,Jb,forall_eq,RS.op,h5];exact hK z a' H' h1 h2 h3 h4
 have retP:∀(z w:Nat) (a':Ma) (H':Heap) (e:Env),r=.dn z→a'.m=m'→a'.sok X→Kn H0 H' E (X.G a' (some z) (sv.ob none++B))→lk 6 e=.c (.int .i64 (w:Nat))→Qp Qbe9 K .ret e H':=by
  intro z w a' H' e h1 h2 h3 h4 h5;simp only[go_sem,Qp,Q8,Qbe9,Jb,forall_eq,RS.op,h5];exact hP z w a' H' h1 h2 h3 h4
 have ev0:∀(k:Ex) (h1:Nat) (r1:Rt) (m1:Ms) (K1:V→Heap→Prop) (a1:Ma) (H1:Heap),h1<h→Ev X.fns X.S h1 (.ex k v) a1.m r1 m1→a1.sok X→Kn H0 H1 E (X.G a1 none (sv.ob none++B))→
   (∀(z:Nat) (a2:Ma) (H1:Heap),r1=.val z→a2.m=m1→a2.sok X→Kn H0 H1 E (X.G a2 none (sv.ob none++B))→K1 (.c (.int .i64 (z:Nat))) H1)→
   (∀(z w:Nat) (a':Ma) H',r1=.dn z→a'.m=m1→a'.sok X→Kn H0 H' E (X.G a' (some z) (sv.ob none++B))→K1 (.c (.int .i64 (w:Nat))) H')→
   Ql prog Qa2 [.c (.ptr X.l 0),.ag [.int .i64 k.op,.int .i64 k.n,.str k.name,.sl false 4 (Qt k.kids)],.c (.ptr sv.l 0)] H1 K1:=by
  intro k h1 r1 m1 K1 a1 H1 hh1 e1 ha1 kn hA hB;have hh:=hE h1 hh1 k v a1.m r1 m1 H0 H1 E B a1 sv K1 e1 rfl ha1 hok hF hv kn;rw[k.cells_eq]at hh;exact hh hA hB
 have hX:=sG_o kn;refine Qa ?_;simp only[go_sem,x.cells_eq];refine Q6 ?_;refine Qa ?_;simp only[go_sem,hX,Jh];refine Qf (Qb rfl (fun h=>by simp at h) (fun _=>?_));refine Qe ?_;try simp only[go_sem]
 refine Q6 ?_;refine Qa ?_;simp only[go_sem];refine Qf (Qd ?_);refine Qa ?_;simp only[go_sem];refine Qb rfl (fun hc=>?_) (fun hc=>?_)
 ·have h1:x.op=1:=by simpa using hc
  cases hev with
  |num _ h2 h3=>
   refine Qa ?_;simp only[go_sem];refine Qh ?_;try simp only[go_sem,AE.X.next]
   exact retK x.n.toNat a _ _ rfl rfl ha kn (by simp[lk];omega)
  |_=>exfalso;omega
 have n1:¬x.op=1:=by simpa using hc
 refine Qa ?_;simp only[go_sem];refine Qb rfl (fun hc=>?_) (fun hc=>?_)
 ·have h2:x.op=2:=by simpa using hc
  cases hev with
  |var _ hf=>
   rw[Qaqv,←hF]at hf;have hvv:=sG_v kn;have hno:=hok.n.isOw;have hvo:=hok.v.isOw;have hs:=sG_n kn hok;have hw:=sG_w kn hok;have hok2:=eq_true hw.ok;have hlen2:=hw.len;have hsz2:=hw.sz;have hrw2:=hw.rows;refine Qa1 ?_;simp only[go_sem,hvv,hno,hvo];refine Qbfd (F:=sv.F) hs hno (by
    cases hq:sv.F.find? fun p=>decide (p.1=x.name)with
    |none=>rw[hq]at hf;simp at hf
    |some y=>rfl) (fun k hk hk1 hk2=>?_)
   rw[Qaz7 hk hk1 hk2]at hf;simp only[Ja1,Jq]at hf;have hvl:sv.vals.length=sv.F.length:=by simp[Se.vals]
   have hlt:sv.F.length-1-k<sv.vals.length:=by omega
   have hgd:sv.vals.getD (sv.F.length-1-k) 0=sv.F[k].2:=by
    have:=Qa09 (l:=sv.F.map Prod.snd) (k:=k) (by rw[Jd];exact hk) 0;simp only[Jd,J9]at this;exact this
   simp only[go_sem,Qxe,hvv,hno,hvo,hok2,hlen2,hsz2,hrw2,Qah,hlt,Qdw _ _ hlt,hgd];refine Qh ?_;try simp only[go_sem,AE.X.next]
   exact retK _ a _ _ rfl rfl ha kn (by simp[lk,←hf])
  |_=>exfalso;omega
 have n2:¬x.op=2:=by simpa using hc
 refine Qa ?_;simp only[go_sem];refine Qb rfl (fun hc=>?_) (fun hc=>?_)
 ·have h13:x.op=13:=by simpa using hc
  have hh:=fun K1=>hC x h13 v a.m r m' H0 H E B a sv K1 hev rfl ha hok hF hv kn;rw[x.cells_eq]at hh;refine Qa ?_;simp only[go_sem];refine hh _ (fun z a2 H2 hz hm2 ha2 kn=>?_) (fun z w a2 H2 hz hm2 ha2 kn=>?_)
  ·simp only[go_sem,Ql9];refine Qh ?_;try simp only[go_sem,AE.X.next]
   exact retK z a2 H2 _ hz hm2 ha2 kn rfl
  ·simp only[go_sem,Ql9];refine Qh ?_;try simp only[go_sem,AE.X.next]
   exact retP z w a2 H2 _ hz hm2 ha2 kn rfl
 have n13:¬x.op=13:=by simpa using hc
 refine Qe ?_;try simp only[go_sem,AE.X.next]
 have t29:∀(w:Nat) (a1:Ma) (e1:Option Nat) (H1:Heap),Kn H0 H1 E (X.G a1 e1 (sv.ob none++B))→a1.sok X→
   (x.op=11→∀e',lk 6 e'=.c (.int .i64 (if w=0 then 1 else 0:Nat))→Qp Qbe9 K .ret e' H1)→
   (x.op=12→16≤w→e1=none→∀H2 e',Kn H0 H2 E (X.G a1 (some 2) (sv.ob none++B))→lk 6 e'=.c (.int .i64 (0:Nat))→Qp Qbe9 K .ret e' H2)→
   (x.op=12→16≤w→e1≠none→∀e',lk 6 e'=.c (.int .i64 (0:Nat))→Qp Qbe9 K .ret e' H1)→
   (x.op=12→w<16→∀e',lk 6 e'=.c (.int .i64 (a1.m.c.getD w 0:Nat))→Qp Qbe9 K .ret e' H1)→
   (x.op=10→w=0→∀e',lk 6 e'=.c (.int .i64 (0:Nat))→Qp Qbe9 K .ret e' H1)→
   (x.op=10→w≠0→Q3 prog Qgo (AE.X.inBlock 1 (AE.X.sq prog Qb4 (Qp Qbe9 K))) [(0,.c (.ptr X.l 0)),(2,.c (.ptr sv.l 0)),(4,.c (.pp [.int .i64 x.op,.int .i64 x.n,.str x.name,.sl false 4 (Qt x.kids)])),(73,.c (.bool false))] H1)→
   (x.op≤9→∀e',lk 0 e'=.c (.ptr X.l 0)→lk 2 e'=.c (.ptr sv.l 0)→lk 4 e'=.c (.pp [.int .i64 x.op,.int .i64 x.n,.str x.name,.sl false 4 (Qt x.kids)])→lk 7 e'=.c (.int .i64 (w:Nat))→Q3 prog Qb4 (Qp Qbe9 K) e' H1)→
   x.op≤12→
   Q3 prog Qgp (Qp Qbe9 K) [(0,.c (.ptr X.l 0)),(2,.c (.ptr sv.l 0)),(4,.c (.pp [.int .i64 x.op,.int .i64 x.n,.str x.name,.sl false 4 (Qt x.kids)])),(7,.c (.int .i64 (w:Nat)))] H1:=by
  intro w a1 e1 H1 kn ha1 q11 q12a q12b q12c q10a q10b q9 hle;refine Q6 ?_;refine Qa ?_;simp only[go_sem];refine Qf (Qd ?_);refine Qa ?_;simp only[go_sem];refine Qb rfl (fun hc=>?_) (fun hc=>?_)
  ·have h11:x.op=11:=by simpa using hc
   refine Qa ?_;simp only[go_sem];refine Qyo ?_;simp only[go_sem,Qxf];refine Qh ?_;try simp only[go_sem,AE.X.next]
   refine q11 h11 _ ?_;by_cases hw0:w=0
   ·subst hw0;simp[lk]
   ·have:¬(w:Int)=0:=(by omega);simp[lk,hw0,this]
  have n11:¬x.op=11:=by simpa using hc
  refine Qa ?_;simp only[go_sem];refine Qb rfl (fun hc=>?_) (fun hc=>?_)
  ·have h12:x.op=12:=by simpa using hc
   refine Q6 ?_;refine Qa ?_;simp only[go_sem];refine Qf (Qb rfl (fun hc=>?_) (fun hc=>?_))
   ·have h16:16≤w:=(by have:=of_decide_eq_true hc;omega);refine Qa ?_;simp only[go_sem]
    cases e1 with
    |none=>
     refine Qao5 (z:=2) kn fun H2 kn=>?_;simp only[go_sem];refine Qa ?_;simp only[go_sem];refine Qh ?_;try simp only[go_sem,AE.X.next]
     exact q12a h12 h16 rfl H2 _ kn rfl
    |some z=>
     refine Qbde kn ?_;simp only[go_sem];refine Qa ?_;simp only[go_sem];refine Qh ?_;try simp only[go_sem,AE.X.next]
     exact q12b h12 h16 (by simp) _ rfl
   ·have h16:w<16:=(by have:=of_decide_eq_false hc;omega);have hX:=sG_o kn;have hy:=sG_y kn;have hcl:=ha1.b.c;have hwl:w<a1.m.c.length:=(by omega);refine Qe ?_;try simp only[go_sem]
    have htk:List.take 16 (Qn a1.m.c)=Qn a1.m.c:=J8 (by rw[Qah,hcl];exact Jf _);refine Qa ?_;simp only[go_sem,hX,hy,htk,Qah,hcl,Qdw _ _ hwl,h16];refine Qh ?_;try simp only[go_sem,AE.X.next]
    exact q12c h12 h16 _ rfl
  have n12:¬x.op=12:=by simpa using hc
  refine Qa ?_;simp only[go_sem];refine Qb rfl (fun hc=>?_) (fun hc=>?_)
  ·have h10:x.op=10:=by simpa using hc
   refine Q6 ?_;refine Qa ?_;simp only[go_sem];refine Qf (Qb rfl (fun hc=>?_) (fun hc=>?_))
   ·have hw0:w=0:=(by have:=of_decide_eq_true hc;omega);refine Qa ?_;simp only[go_sem];refine Qh ?_;try simp only[go_sem,AE.X.next]
    exact q10a h10 hw0 _ rfl
   ·have hw0:w≠0:=(by have:=of_decide_eq_false hc;omega);have hwd:decide ((w:Int)=0)=false:=(by simpa using hw0);refine Qe ?_;try simp only[go_sem]
    simp only[hwd];exact q10b h10 hw0
  have n10:¬x.op=10:=by simpa using hc
  refine Qe ?_;try simp only[go_sem,AE.X.next]
  exact q9 (by omega) _ rfl rfl rfl rfl
 have t15:∀(k l:Ex) (h2:Nat) (r2:Rt) (m2:Ms) (a1:Ma) (H1:Heap) (e:Env),x.kids=[k,l]→h2<h→Ev X.fns X.S h2 (.ex l v) a1.m r2 m2→a1.sok X→Kn H0 H1 E (X.G a1 none (sv.ob none++B))→
   (∀(z:Nat) (a2:Ma) (H2:Heap),r2=.val z→a2.m=m2→a2.sok X→Kn H0 H2 E (X.G a2 none (sv.ob none++B))→∀e',lk 6 e'=.c (.int .i64 (if z=0 then 0 else 1:Nat))→Qp Qbe9 K .ret e' H2)→
   (∀(z w:Nat) (a':Ma) H',r2=.dn z→a'.m=m2→a'.sok X→Kn H0 H' E (X.G a' (some z) (sv.ob none++B))→∀e',lk 6 e'=.c (.int .i64 (w:Nat))→Qp Qbe9 K .ret e' H')→
   lk 0 e=.c (.ptr X.l 0)→lk 2 e=.c (.ptr sv.l 0)→lk 4 e=.c (.pp [.int .i64 x.op,.int .i64 x.n,.str x.name,.sl false 4 (Qt x.kids)])→
   Q3 prog Qgo (AE.X.inBlock 1 (AE.X.sq prog Qb4 (Qp Qbe9 K))) e H1:=by
  intro k l h2 r2 m2 a1 H1 e hk hh2 e2 ha1 kn hA hB l0 l2 l4;have hkl:1<x.kids.length:=by rw[hk];simp
  have hx1:x.kids[1]=l:=by simp only[hk,J7,Jx]
  have tr:∀z:Nat,((if (!decide ((z:Int)=0))=true then 1 else 0:Nat):Int)=((if z=0 then 0 else 1:Nat):Int):=by
   intro z;by_cases hz0:z=0
   ·subst hz0;simp
   ·have:¬(z:Int)=0:=(by omega);simp[hz0,this]
  refine Qa ?_;simp only[go_sem,l0,l2,l4,hkl,Qj,Qr _ _ hkl,hx1,l.cells_eq];refine⟨by omega,ev0 l h2 r2 m2 _ a1 H1 hh2 e2 ha1 kn (fun z a2 H2 hz hm2 ha2 kn=>?_) (fun z w a2 H2 hz hm2 ha2 kn=>?_)⟩
  ·simp only[go_sem,Qew];refine Qyo ?_;rw[tr];simp only[go_sem,Qev];refine Qh ?_;try simp only[go_sem,AE.X.next]
   exact hA z a2 H2 hz hm2 ha2 kn _ rfl
  ·simp only[go_sem,Qew];refine Qyo ?_;rw[tr];simp only[go_sem,Qev];refine Qh ?_;try simp only[go_sem,AE.X.next]
   exact hB z _ a2 H2 hz hm2 ha2 kn _ rfl
 have t15o:∀(z:Nat) (a1:Ma) (H1:Heap) (e:Env),1<x.kids.length→Kn H0 H1 E (X.G a1 (some z) (sv.ob none++B))→
   (∀e',lk 6 e'=.c (.int .i64 (0:Nat))→Qp Qbe9 K .ret e' H1)→
   lk 0 e=.c (.ptr X.l 0)→lk 2 e=.c (.ptr sv.l 0)→lk 4 e=.c (.pp [.int .i64 x.op,.int .i64 x.n,.str x.name,.sl false 4 (Qt x.kids)])→
   Q3 prog Qgo (AE.X.inBlock 1 (AE.X.sq prog Qb4 (Qp Qbe9 K))) e H1:=by
  intro z a1 H1 e hkl kn hA l0 l2 l4;obtain⟨l,hl⟩:∃l,x.kids[1]=l:=⟨_,rfl⟩;have ho:=fun K1 hK1=>Qaem (K:=K1) (x:=l) (c:=.ptr sv.l 0) rfl kn hK1;rw[l.cells_eq]at ho;refine Qa ?_;simp only[go_sem,l0,l2,l4,hkl,Qj,Qr _ _ hkl,hl,l.cells_eq];refine⟨by omega,ho _ ?_⟩;simp only[go_sem,Qew];refine Qyo ?_;simp only[go_sem,Qev];refine Qh ?_;try simp only[go_sem,AE.X.next]
  exact hA _ (by simp[lk])
 have t27o:∀(z:Nat) (a1:Ma) (H1:Heap) (e:Env),Kn H0 H1 E (X.G a1 (some z) (sv.ob none++B))→
   (∀e',lk 6 e'=.c (.int .i64 (0:Nat))→Qp Qbe9 K .ret e' H1)→lk 0 e=.c (.ptr X.l 0)→Q3 prog Qxc (Qp Qbe9 K) e H1:=by
  intro z a1 H1 e kn hA l0;have hX:=sG_o kn;refine Q6 ?_;refine Qa ?_;simp only[go_sem,l0,hX,Option.isSome_some];refine Qf (Qb rfl (fun _=>?_) (fun h=>by simp[lk]at h));refine Qa ?_;simp only[go_sem];refine Qh ?_;exact hA _ rfl
 have t28o:∀(z:Nat) (a1:Ma) (H1:Heap) (e:Env),1<x.kids.length→Kn H0 H1 E (X.G a1 (some z) (sv.ob none++B))→
   (∀e',lk 6 e'=.c (.int .i64 (0:Nat))→Qp Qbe9 K .ret e' H1)→
   lk 0 e=.c (.ptr X.l 0)→lk 2 e=.c (.ptr sv.l 0)→lk 4 e=.c (.pp [.int .i64 x.op,.int .i64 x.n,.str x.name,.sl false 4 (Qt x.kids)])→
   Q3 prog Qb4 (Qp Qbe9 K) e H1:=by
  intro z a1 H1 e hkl kn hA l0 l2 l4;obtain⟨l,hl⟩:∃l,x.kids[1]=l:=⟨_,rfl⟩;have ho:=fun K1 hK1=>Qaem (K:=K1) (x:=l) (c:=.ptr sv.l 0) rfl kn hK1;rw[l.cells_eq]at ho;refine Qa ?_;simp only[go_sem,l0,l2,l4,hkl,Qj,Qr _ _ hkl,hl,l.cells_eq];refine⟨by omega,ho _ ?_⟩;simp only[go_sem,Qex,l0,l4];exact t27o z a1 H1 _ kn hA rfl
 have t28:∀(k l:Ex) (x1:Nat) (h2:Nat) (r2:Rt) (m2:Ms) (a1:Ma) (H1:Heap) (e:Env),x.kids=[k,l]→h2<h→Ev X.fns X.S h2 (.ex l v) a1.m r2 m2→a1.sok X→Kn H0 H1 E (X.G a1 none (sv.ob none++B))→
   (∀(z:Nat) (a2:Ma) (H2:Heap),r2=.val z→a2.m=m2→a2.sok X→Kn H0 H2 E (X.G a2 none (sv.ob none++B))→
    Q3 prog Ql8 (Qp Qbe9 K) [(0,.c (.ptr X.l 0)),(4,.c (.pp [.int .i64 x.op,.int .i64 x.n,.str x.name,.sl false 4 (Qt x.kids)])),(7,.c (.int .i64 (x1:Nat))),(8,.c (.int .i64 (z:Nat))),(93,.c (.bool false))] H2)→
   (∀(z:Nat) (a':Ma) H',r2=.dn z→a'.m=m2→a'.sok X→Kn H0 H' E (X.G a' (some z) (sv.ob none++B))→∀e',lk 6 e'=.c (.int .i64 (0:Nat))→Qp Qbe9 K .ret e' H')→
   lk 0 e=.c (.ptr X.l 0)→lk 2 e=.c (.ptr sv.l 0)→lk 4 e=.c (.pp [.int .i64 x.op,.int .i64 x.n,.str x.name,.sl false 4 (Qt x.kids)])→lk 7 e=.c (.int .i64 (x1:Nat))→
   Q3 prog Qb4 (Qp Qbe9 K) e H1:=by
  intro k l x1 h2 r2 m2 a1 H1 e hk hh2 e2 ha1 kn hA hB l0 l2 l4 l7;have hkl:1<x.kids.length:=by rw[hk];simp
  have hx1:x.kids[1]=l:=by simp only[hk,J7,Jx]
  refine Qa ?_;simp only[go_sem,l0,l2,l4,l7,hkl,Qj,Qr _ _ hkl,hx1,l.cells_eq];refine⟨by omega,ev0 l h2 r2 m2 _ a1 H1 hh2 e2 ha1 kn (fun z a2 H2 hz hm2 ha2 kn=>?_) (fun z w a2 H2 hz hm2 ha2 kn=>?_)⟩
  ·have hX:=sG_o kn;simp only[go_sem,Qex,l0,l2,l4,l7];refine Q6 ?_;refine Qa ?_;simp only[go_sem,hX,Jh];refine Qf (Qb rfl (fun h=>by simp[lk]at h) (fun _=>?_));refine Qe ?_;try simp only[go_sem]
   exact hA z a2 H2 hz hm2 ha2 kn
  ·simp only[go_sem,Qex,l0,l2,l4,l7];exact t27o z a2 H2 _ kn (hB z a2 H2 hz hm2 ha2 kn) rfl
 have first:∀(k:Ex) (l:List Ex) (h1:Nat) (r1:Rt) (m1:Ms),x.kids=k::l→h1<h→Ev X.fns X.S h1 (.ex k v) a.m r1 m1→
   (∀(z:Nat) (a2:Ma) (H1:Heap),r1=.val z→a2.m=m1→a2.sok X→Kn H0 H1 E (X.G a2 none (sv.ob none++B))→
    Q3 prog Qgp (Qp Qbe9 K) [(0,.c (.ptr X.l 0)),(2,.c (.ptr sv.l 0)),(4,.c (.pp [.int .i64 x.op,.int .i64 x.n,.str x.name,.sl false 4 (Qt x.kids)])),(7,.c (.int .i64 (z:Nat)))] H1)→
   (∀(z w:Nat) (a':Ma) H1,r1=.dn z→a'.m=m1→a'.sok X→Kn H0 H1 E (X.G a' (some z) (sv.ob none++B))→
    Q3 prog Qgp (Qp Qbe9 K) [(0,.c (.ptr X.l 0)),(2,.c (.ptr sv.l 0)),(4,.c (.pp [.int .i64 x.op,.int .i64 x.n,.str x.name,.sl false 4 (Qt x.kids)])),(7,.c (.int .i64 (w:Nat)))] H1)→
   Q3 prog Qxd (Qp Qbe9 K) [(0,.c (.ptr X.l 0)),(2,.c (.ptr sv.l 0)),(4,.c (.pp [.int .i64 x.op,.int .i64 x.n,.str x.name,.sl false 4 (Qt x.kids)])),(36,.c (.bool (decide (x.op=13))))] H:=by
  intro k l h1 r1 m1 hk hh1 e1 hA hB;have hkl:0<x.kids.length:=by rw[hk];simp
  have hx0:x.kids[0]=k:=by simp only[hk,Jx]
  refine Qa ?_;simp only[go_sem,hkl,Qj,Qr _ _ hkl,hx0,k.cells_eq];refine⟨by omega,ev0 k h1 r1 m1 _ a H hh1 e1 ha kn (fun z a2 H2 hz hm2 ha2 kn=>?_) (fun z w a2 H2 hz hm2 ha2 kn=>?_)⟩
  ·simp only[go_sem,Qma];exact hA z a2 H2 hz hm2 ha2 kn
  ·simp only[go_sem,Qma];exact hB z w a2 H2 hz hm2 ha2 kn
 have t26:∀(x1 z:Nat) (a2:Ma) (H2:Heap),x1<256→z<256→3≤x.op→x.op≤9→a2.m=m'→a2.sok X→Kn H0 H2 E (X.G a2 none (sv.ob none++B))→(∀w,arN x.op x1 z=some w→r=.val w)→(arN x.op x1 z=none→r=.dn 1)→
   Q3 prog Ql8 (Qp Qbe9 K) [(0,.c (.ptr X.l 0)),(4,.c (.pp [.int .i64 x.op,.int .i64 x.n,.str x.name,.sl false 4 (Qt x.kids)])),(7,.c (.int .i64 (x1:Nat))),(8,.c (.int .i64 (z:Nat))),(93,.c (.bool false))] H2:=by
  intro x1 z a2 H2 hx1 hz h3 h9 hm2 ha2 kn hA hB;refine Qa ?_;simp only[go_sem];refine Qbjx hx1 hz h3 h9 ?_;simp only[go_sem,Qsq,Jv,Ju];refine Q6 ?_;refine Qa ?_;simp only[go_sem]
  cases hw:arN x.op x1 z with
  |none=>
   rw[Qber hw];refine Qf (Qb rfl (fun _=>?_) (fun h=>by simp[lk]at h));refine Qq ?_;simp only[go_sem];refine Qao5 (z:=1) kn fun H3 kn=>?_;simp only[go_sem];refine Qa ?_;simp only[go_sem];refine Qh ?_;exact retP 1 0 a2 H3 _ (hB hw) hm2 ha2 kn rfl
  |some w=>
   rw[Qbes hw];refine Qf (Qb rfl (fun h=>by simp[lk]at h) (fun _=>?_));refine Qe ?_;try simp only[go_sem]
   refine Qa ?_;simp only[go_sem];refine Qh ?_;exact retK w a2 H2 _ (hA w hw) hm2 ha2 kn rfl
 cases hev with
 |kidS _ _ hk hl e1=>
  refine first _ _ _ _ _ hk (by omega) e1 (fun z a2 H2 hz=>by cases hz) (fun z w a2 H2 hz hm2 ha2 kn=>?_);have len:x.op≤10→1<x.kids.length:=fun h=>by
   have:=List.length_pos_iff.2 (hl h);rw[hk,Jg];omega
  exact t29 w a2 (some z) H2 kn ha2 (fun _ e' h6=>retP z _ a2 H2 e' hz hm2 ha2 kn h6) (fun _ _ h=>by cases h) (fun _ _ _ e' h6=>retP z 0 a2 H2 e' hz hm2 ha2 kn h6) (fun _ _ e' h6=>retP z _ a2 H2 e' hz hm2 ha2 kn h6)
   (fun _ _ e' h6=>retP z 0 a2 H2 e' hz hm2 ha2 kn h6) (fun h10 _=>t15o z a2 H2 _ (len (by omega)) kn (fun e' h6=>retP z 0 a2 H2 e' hz hm2 ha2 kn h6) rfl rfl rfl)
   (fun h9 e' l0 l2 l4 l7=>t28o z a2 H2 e' (len (by omega)) kn (fun e' h6=>retP z 0 a2 H2 e' hz hm2 ha2 kn h6) l0 l2 l4) (by omega)
 |not h11 hk e1=>
  refine first _ _ _ _ _ hk (by omega) e1 (fun z a2 H2 hz hm2 ha2 kn=>?_) (fun z w a2 H2 hz=>by cases hz);obtain rfl:=(Rt.val.inj hz).symm;exact t29 z a2 none H2 kn ha2 (fun _ e' h6=>retK _ a2 H2 e' rfl hm2 ha2 kn h6) (fun h=>absurd h (by omega)) (fun h=>absurd h (by omega)) (fun h=>absurd h (by omega)) (fun h=>absurd h (by omega)) (fun h=>absurd h (by omega)) (fun h=>absurd h (by omega)) (by omega)
 |at_ h12 hk e1 hx=>
  refine first _ _ _ _ _ hk (by omega) e1 (fun z a2 H2 hz hm2 ha2 kn=>?_) (fun z w a2 H2 hz=>by cases hz);obtain rfl:=(Rt.val.inj hz).symm;refine t29 z a2 none H2 kn ha2 (fun h=>absurd h (by omega)) (fun _ h=>absurd h (by omega)) (fun _ h=>absurd h (by omega)) (fun _ _ e' h6=>retK _ a2 H2 e' ?_ hm2 ha2 kn h6) (fun h=>absurd h (by omega)) (fun h=>absurd h (by omega)) (fun h=>absurd h (by omega)) (by omega);rw[hm2]
 |atS h12 hk e1 hx=>
  refine first _ _ _ _ _ hk (by omega) e1 (fun z a2 H2 hz hm2 ha2 kn=>?_) (fun z w a2 H2 hz=>by cases hz);obtain rfl:=(Rt.val.inj hz).symm;exact t29 z a2 none H2 kn ha2 (fun h=>absurd h (by omega)) (fun _ _ _ H3 e' kn h6=>retP 2 0 a2 H3 e' rfl hm2 ha2 kn h6) (fun _ _ h=>absurd rfl h) (fun _ h=>absurd h (by omega)) (fun h=>absurd h (by omega)) (fun h=>absurd h (by omega)) (fun h=>absurd h (by omega)) (by omega)
 |and0 h10 hk e1=>
  refine first _ _ _ _ _ hk (by omega) e1 (fun z a2 H2 hz hm2 ha2 kn=>?_) (fun z w a2 H2 hz=>by cases hz);obtain rfl:=(Rt.val.inj hz);exact t29 0 a2 none H2 kn ha2 (fun h=>absurd h (by omega)) (fun h=>absurd h (by omega)) (fun h=>absurd h (by omega)) (fun h=>absurd h (by omega)) (fun _ _ e' h6=>retK 0 a2 H2 e' rfl hm2 ha2 kn h6) (fun _ h=>absurd rfl h) (fun h=>absurd h (by omega)) (by omega)
 |and1 h10 hk e1 hx e2=>
  refine first _ _ _ _ _ hk (by omega) e1 (fun z a2 H2 hz hm2 ha2 kn=>?_) (fun z w a2 H2 hz=>by cases hz);obtain rfl:=(Rt.val.inj hz).symm;subst hm2;refine t29 z a2 none H2 kn ha2 (fun h=>absurd h (by omega)) (fun h=>absurd h (by omega)) (fun h=>absurd h (by omega)) (fun h=>absurd h (by omega)) (fun _ h=>absurd h hx) (fun _ _=>?_) (fun h=>absurd h (by omega)) (by omega);refine t15 _ _ _ _ _ a2 H2 _ hk (by omega) e2 ha2 kn (fun z2 a3 H3 hz2 hm3 ha3 kn e' h6=>?_) (fun z w a3 H3 hz2=>by cases hz2) rfl rfl rfl;obtain rfl:=(Rt.val.inj hz2).symm;exact retK _ a3 H3 e' rfl hm3 ha3 kn h6
 |andS h10 hk e1 hx e2=>
  refine first _ _ _ _ _ hk (by omega) e1 (fun z a2 H2 hz hm2 ha2 kn=>?_) (fun z w a2 H2 hz=>by cases hz);obtain rfl:=(Rt.val.inj hz).symm;subst hm2;refine t29 z a2 none H2 kn ha2 (fun h=>absurd h (by omega)) (fun h=>absurd h (by omega)) (fun h=>absurd h (by omega)) (fun h=>absurd h (by omega)) (fun _ h=>absurd h hx) (fun _ _=>?_) (fun h=>absurd h (by omega)) (by omega);exact t15 _ _ _ _ _ a2 H2 _ hk (by omega) e2 ha2 kn (fun z2 a3 H3 hz2=>by cases hz2) (fun z2 w a3 H3 hz2 hm3 ha3 kn e' h6=>retP z2 w a3 H3 e' hz2 hm3 ha3 kn h6) rfl rfl rfl
 |ar h3 h9 hk e1 e2 hw=>
  have b1:=e1.by (show vBy v from hv) ha.b
  refine first _ _ _ _ _ hk (by omega) e1 (fun z a2 H2 hz hm2 ha2 kn=>?_) (fun z w a2 H2 hz=>by cases hz);obtain rfl:=(Rt.val.inj hz).symm;subst hm2;have b2:=e2.by (show vBy v from hv) ha2.b
  refine t29 z a2 none H2 kn ha2 (fun h=>absurd h (by omega)) (fun h=>absurd h (by omega)) (fun h=>absurd h (by omega)) (fun h=>absurd h (by omega)) (fun h=>absurd h (by omega)) (fun h=>absurd h (by omega)) (fun _ e' l0 l2 l4 l7=>?_) (by omega);refine t28 _ _ z _ _ _ a2 H2 e' hk (by omega) e2 ha2 kn (fun z2 a3 H3 hz2 hm3 ha3 kn=>?_) (fun z2 a3 H3 hz2=>by cases hz2) l0 l2 l4 l7;obtain rfl:=(Rt.val.inj hz2).symm;exact t26 z z2 a3 H3 b1.1 b2.1 h3 h9 hm3 ha3 kn (fun w hw2=>by rw[hw]at hw2;rw[Ja2 hw2]) (fun h=>by rw[hw]at h;cases h)
 |arD h3 h9 hk e1 e2 hw=>
  have b1:=e1.by (show vBy v from hv) ha.b
  refine first _ _ _ _ _ hk (by omega) e1 (fun z a2 H2 hz hm2 ha2 kn=>?_) (fun z w a2 H2 hz=>by cases hz);obtain rfl:=(Rt.val.inj hz).symm;subst hm2;have b2:=e2.by (show vBy v from hv) ha2.b
  refine t29 z a2 none H2 kn ha2 (fun h=>absurd h (by omega)) (fun h=>absurd h (by omega)) (fun h=>absurd h (by omega)) (fun h=>absurd h (by omega)) (fun h=>absurd h (by omega)) (fun h=>absurd h (by omega)) (fun _ e' l0 l2 l4 l7=>?_) (by omega);refine t28 _ _ z _ _ _ a2 H2 e' hk (by omega) e2 ha2 kn (fun z2 a3 H3 hz2 hm3 ha3 kn=>?_) (fun z2 a3 H3 hz2=>by cases hz2) l0 l2 l4 l7;obtain rfl:=(Rt.val.inj hz2).symm;exact t26 z z2 a3 H3 b1.1 b2.1 h3 h9 hm3 ha3 kn (fun w hw2=>by rw[hw]at hw2;cases hw2) (fun _=>rfl)
 |arS h3 h9 hk e1 e2=>
  refine first _ _ _ _ _ hk (by omega) e1 (fun z a2 H2 hz hm2 ha2 kn=>?_) (fun z w a2 H2 hz=>by cases hz);obtain rfl:=(Rt.val.inj hz).symm;subst hm2;refine t29 z a2 none H2 kn ha2 (fun h=>absurd h (by omega)) (fun h=>absurd h (by omega)) (fun h=>absurd h (by omega)) (fun h=>absurd h (by omega)) (fun h=>absurd h (by omega)) (fun h=>absurd h (by omega)) (fun _ e' l0 l2 l4 l7=>?_) (by omega);exact t28 _ _ z _ _ _ a2 H2 e' hk (by omega) e2 ha2 kn (fun z2 a3 H3 hz2=>by cases hz2) (fun z2 a3 H3 hz2 hm3 ha3 kn e' h6=>retP z2 0 a3 H3 e' hz2 hm3 ha3 kn h6) l0 l2 l4 l7
 |_=>exfalso;omega
theorem Qbfe {ps:List (List UInt8)}{ns:List Nat}(h:ns.length=ps.length):(((ps.zip ns).reverse).map Prod.fst).reverse=ps∧(((ps.zip ns).reverse).map Prod.snd).reverse=ns:=by
 constructor
 ·rw[←List.map_reverse,List.reverse_reverse,List.map_fst_zip (by omega)]
 ·rw[←List.map_reverse,List.reverse_reverse,List.map_snd_zip (by omega)]
theorem Qaz4 {fns:List Fn}{S h:Nat}{v:Vars}{m m':Ms}{r:Rt}(hev:Ev fns S h (.exs [] v) m r m'):r=.vals []∧m'=m:=by cases hev;exact⟨rfl,rfl⟩
theorem Qbbv {fns:List Fn}{S h:Nat}{k:Ex}{l:List Ex}{v:Vars}{m m':Ms}{r:Rt}(hev:Ev fns S h (.exs (k::l) v) m r m') :
  (∃n m1 h1 h2 r',h1<h∧h2<h∧Ev fns S h1 (.ex k v) m (.val n) m1∧Ev fns S h2 (.exs l v) m1 r' m'∧(∀ns',r'=.vals ns'→r=.vals (n::ns'))∧(∀z,r'=.dn z→r=.dn z))∨
  ∃z h1,h1<h∧Ev fns S h1 (.ex k v) m (.dn z) m'∧r=.dn z:=by
 cases hev with
 |cons e1 e2=>exact .inl ⟨_,_,_,_,_,by omega,by omega,e1,e2,fun ns' h=>by simp only[Rt.vals.injEq]at h;rw[h],fun z h=>by simp at h⟩
 |consS e1=>exact .inr ⟨_,_,by omega,e1,rfl⟩
 |consS2 e1 e2=>exact .inl ⟨_,_,_,_,_,by omega,by omega,e1,e2,fun ns' h=>by simp at h,fun z h=>h⟩
def Wf (xw:Nat)(nc c:C)(vl nl:List (Nat×Obj))(x7:Nat)(fo:Obj)(R:List (Nat×Obj)):List (Nat×Obj):=[(xw,.st [nc,c,.bool false,.int .i64 0])]++(vl++(nl++([(x7,fo)]++R)))
theorem Qa8l {h hb:Nat}(hE:∀h',h'<h→ExR X h'){x:Ex}{v:Vars}{R:Rt}{m':Ms}{a:Ma}{sv:Se}{xw x7:Nat}{fo:Obj}{nc:C}{nl:List (Nat×Obj)}{Q:AE.X→Env→Heap→Prop}(hbh:hb<h)(hnc:nc.isOw=false)
  (hev:Ev X.fns X.S hb (.exs x.kids v) a.m R m') (ha:a.sok X) (hok:sv.ok) (hF:sv.F=v.flatten) (hv:vBy v) (kn:Kn H0 H E (X.G a none (Wf xw nc (.sl true 1 []) [] nl x7 fo (sv.ob none++B))))
  (hQ:∀ns c vl a1 (e1:Option Nat) H1 e',ns.length=x.kids.length→((e1=none∧R=.vals ns)∨∃z,e1=some z∧R=.dn z)→a1.m=m'→a1.sok X→Gp vl 1 (Qn ns) c→Kn H0 H1 E (X.G a1 e1 (Wf xw nc c vl nl x7 fo (sv.ob none++B)))→
   lk 0 e'=.c (.ptr X.l 0)→lk 7 e'=.c (.ptr x7 0)→lk 8 e'=.c (.ptr xw 0)→Q3 prog Qw6 Q e' H1) :
  Q3 prog Qw7 Q [(0,.c (.ptr X.l 0)),(2,.c (.ptr sv.l 0)),(4,.c (.pp [.int .i64 x.op,.int .i64 x.n,.str x.name,.sl false 4 (Qt x.kids)])),(7,.c (.ptr x7 0)),(8,.c (.ptr xw 0))] H:=by
 refine Q6 ?_;refine Qa ?_;simp only[go_sem];refine Qf (Qd (Qab (fun m e1 H1=>∃(i:Nat) (ns:List Nat) (c:C) (vl:List (Nat×Obj)) (a1:Ma) (eo:Option Nat),m=x.kids.length-i∧i≤x.kids.length∧ns.length=i∧
  ((eo=none∧∃h1 r1,h1<h∧Ev X.fns X.S h1 (.exs (x.kids.drop i) v) a1.m r1 m'∧(∀ns',r1=.vals ns'→R=.vals (ns++ns'))∧(∀z,r1=.dn z→R=.dn z))∨∃z,eo=some z∧R=.dn z∧a1.m=m')∧a1.sok X∧
  Gp vl 1 (Qn ns) c∧Kn H0 H1 E (X.G a1 eo (Wf xw nc c vl nl x7 fo (sv.ob none++B)))∧
  e1=[(0,.c (.ptr X.l 0)),(2,.c (.ptr sv.l 0)),(4,.c (.pp [.int .i64 x.op,.int .i64 x.n,.str x.name,.sl false 4 (Qt x.kids)])),(7,.c (.ptr x7 0)),(8,.c (.ptr xw 0)),(9,.c (.int .i64 i))]) x.kids.length ?_ ?_))
 ·exact⟨0,[],_,[],a,none,by omega,by omega,rfl,.inl ⟨rfl,hb,R,hbh,hev,fun ns' h=>by simpa using h,fun z h=>h⟩,ha,.nil 1,kn,rfl⟩
 ·clear kn ha hev;rintro m e1 H1 ⟨i,ns,c,vl,a1,eo,hm,hi,hnl,hmode,ha,hgp,kn,rfl⟩;have hco:=hgp.isOw;refine Q6 ?_;refine Qa ?_;simp only[go_sem,Qj];intro hl;simp only[LIM]at hl;refine Qf (Qb rfl ?_ ?_)
  ·intro hc;have hlt:i<x.kids.length:=by have:=of_decide_eq_true hc;omega
   obtain⟨k,hk⟩:∃k,x.kids[i]=k:=⟨_,rfl⟩;refine Qe ?_;try simp only[go_sem]
   have hxw:H1 xw=.st [nc,c,.bool false,.int .i64 0]:=Qdz (A:=[]) kn;have hpush:∀(n:Nat) (a2:Ma) (e2:Option Nat) (H2:Heap) (b3:C) (KK:V→Heap→Prop),Slc H2 1 (Qn [n]) b3→Kn H0 H2 E (X.G a2 e2 (Wf xw nc c vl nl x7 fo (sv.ob none++B)))→
     (∀t vl2 H3,t.isOw=false→Gp vl2 1 (Qn (ns++[n])) t→Kn H0 H3 E (X.G a2 e2 (Wf xw nc c vl2 nl x7 fo (sv.ob none++B)))→KK (.c t) H3)→appQ H2 1 c b3 KK:=by
    intro n a2 e2 H2 b3 KK hb3 kn2 hKK;have kn3:Kn H0 H2 E (([(X.l,X.o a2 e2)]++(a2.so++([(X.y,.vec 1 (Qn a2.m.c))]++([(xw,.st [nc,c,.bool false,.int .i64 0])]++(nl++([(x7,fo)]++(sv.ob none++B)))))))++vl):=kn2.perm (Qaa fun f hf h0 hc hp=>by simp only[Sn.G,Wf,hf];omega);refine Kn.growP kn3 hgp hb3 (Qav _) (by simp only[Qah,hnl,Jg,Ji,LIM];omega) fun t2 vl2 H3 hgp2 kn4=>?_;rw[show Qn ns++Qn [n]=Qn (ns++[n])by simp[Qn,Qm]]at hgp2;exact hKK t2 vl2 H3 hgp2.isOw hgp2 (kn4.perm (Qaa fun f hf h0 hc hp=>by simp only[Sn.G,Wf,hf];omega))
   refine Qf (Qd ?_);refine Qel ?_;simp only[go_sem,hxw,hco,hnc,hlt,Qj,Qr _ _ hlt,hk,k.cells_eq];try refine⟨by omega,?_⟩
   rcases hmode with ⟨rfl,h1,r1,q2,q3,q4,q5⟩|⟨z,rfl,q2,q3⟩
   ·rw[J4 hlt,hk]at q3;have knp:Kn H0 H1 E (X.G a1 none (sv.ob none++(Wf xw nc c vl nl x7 fo B))):=kn.perm (Qaa fun f hf h0 hc hp=>by simp only[Sn.G,Wf,hf];omega);rcases Qbbv q3 with ⟨n,m1,h2,h3',r',hh2,hh3,e1,e2,p1,p2⟩|⟨z,h2,hh2,e1,p1⟩
    ·have hh:=hE h2 (by omega) k v a1.m (.val n) m1 H0 H1 E (Wf xw nc c vl nl x7 fo B) a1 sv;rw[k.cells_eq]at hh;refine hh _ e1 rfl ha hok hF hv knp (fun z a2 H5 hz hm2 ha2 kn=>?_) (fun z w a2 H5 hz=>by cases hz);obtain rfl:=Rt.val.inj hz;subst hm2;have kn:Kn H0 H5 E (X.G a2 none (Wf xw nc c vl nl x7 fo (sv.ob none++B))):=kn.perm (Qaa fun f hf h0 hc hp=>by simp only[Sn.G,Wf,hf];omega);have hxw:H5 xw=.st [nc,c,.bool false,.int .i64 0]:=Qdz (A:=[]) kn;simp only[go_sem,Qgn,hxw,hco,hnc];refine hpush _ a2 none H5 _ _ (.mk' _ _ _ _) kn fun t2 vl2 H6 hto2 hgp2 kn=>?_;have hxw:H6 xw=.st [nc,c,.bool false,.int .i64 0]:=Qdz (A:=[]) kn;simp only[go_sem,Qgm,hxw,hto2,hnc];intro H7 h7;have kn:Kn H0 H7 E (X.G a2 none (Wf xw nc t2 vl2 nl x7 fo (sv.ob none++B))):=Qu2 (A:=[]) kn h7;try simp only[go_sem,AE.X.next,hto2,hnc]
     refine Qq ?_;simp only[go_sem,AE.X.next];refine⟨Q1 (by omega) (by omega),x.kids.length-(i+1),by omega,i+1,ns++[_],t2,vl2,a2,none,rfl,by omega,by simp[hnl],.inl ⟨rfl,h3',r',by omega,e2,fun ns2 h=>?_,fun z h=>q5 z (p2 z h)⟩,ha2,hgp2,kn,rfl⟩;have:=q4 _ (p1 ns2 h);rw[this];simp
    ·have hh:=hE h2 (by omega) k v a1.m (.dn z) m' H0 H1 E (Wf xw nc c vl nl x7 fo B) a1 sv;rw[k.cells_eq]at hh;refine hh _ e1 rfl ha hok hF hv knp (fun z a2 H5 hz=>by cases hz) (fun z2 w a2 H5 hz hm2 ha2 kn=>?_);have kn:Kn H0 H5 E (X.G a2 (some z2) (Wf xw nc c vl nl x7 fo (sv.ob none++B))):=kn.perm (Qaa fun f hf h0 hc hp=>by simp only[Sn.G,Wf,hf];omega);have hxw:H5 xw=.st [nc,c,.bool false,.int .i64 0]:=Qdz (A:=[]) kn;simp only[go_sem,Qgn,hxw,hco,hnc];refine hpush w a2 (some z2) H5 _ _ (.mk' _ _ _ _) kn fun t2 vl2 H6 hto2 hgp2 kn=>?_;have hxw:H6 xw=.st [nc,c,.bool false,.int .i64 0]:=Qdz (A:=[]) kn;simp only[go_sem,Qgm,hxw,hto2,hnc];intro H7 h7;have kn:Kn H0 H7 E (X.G a2 (some z2) (Wf xw nc t2 vl2 nl x7 fo (sv.ob none++B))):=Qu2 (A:=[]) kn h7;try simp only[go_sem,AE.X.next,hto2,hnc]
     refine Qq ?_;simp only[go_sem,AE.X.next];exact⟨Q1 (by omega) (by omega),x.kids.length-(i+1),by omega,i+1,ns++[w],t2,vl2,a2,some z2,rfl,by omega,by simp[hnl],.inr ⟨z2,rfl,by rw[←hz];exact q5 _ p1,hm2⟩,ha2,hgp2,kn,rfl⟩
   ·have ho:=fun K1 hK1=>Qaem (K:=K1) (x:=k) (c:=.ptr sv.l 0) rfl kn hK1;rw[k.cells_eq]at ho;refine ho _ ?_;simp only[go_sem,Qgn,hxw,hco,hnc];refine hpush 0 a1 (some z) H1 _ _ (.mk' _ _ _ _) kn fun t2 vl2 H6 hto2 hgp2 kn=>?_;have hxw:H6 xw=.st [nc,c,.bool false,.int .i64 0]:=Qdz (A:=[]) kn;simp only[go_sem,Qgm,hxw,hto2,hnc];intro H7 h7;have kn:Kn H0 H7 E (X.G a1 (some z) (Wf xw nc t2 vl2 nl x7 fo (sv.ob none++B))):=Qu2 (A:=[]) kn h7;try simp only[go_sem,AE.X.next,hto2,hnc]
    refine Qq ?_;simp only[go_sem,AE.X.next];exact⟨Q1 (by omega) (by omega),x.kids.length-(i+1),by omega,i+1,ns++[0],t2,vl2,a1,some z,rfl,by omega,by simp[hnl],.inr ⟨z,rfl,q2,q3⟩,ha,hgp2,kn,rfl⟩
  ·intro hc;have hge:x.kids.length≤i:=by have:=of_decide_eq_false hc;omega
   have hil:i=x.kids.length:=by omega
   refine Q9 ?_;simp only[go_sem,AE.X.next];refine hQ ns c vl a1 eo H1 _ (by omega) ?_ ?_ ha hgp kn rfl rfl rfl
   ·rcases hmode with ⟨q1,h1,r1,q2,q3,q4,q5⟩|⟨z,q1,q2,q3⟩
    ·rw[J6 hge]at q3;exact .inl ⟨q1,by have:=q4 [] (Qaz4 q3).1;simpa using this⟩
    ·exact .inr ⟨z,q1,q2⟩
   ·rcases hmode with ⟨q1,h1,r1,q2,q3,q4,q5⟩|⟨z,q1,q2,q3⟩
    ·rw[J6 hge]at q3;exact (Qaz4 q3).2.symm
    ·exact q3
theorem Qbfb {a:Ma}{e:Option Nat}{sv sv':Se}{b b':Option Nat}(k:Kn H0 H E (X.G a e (sv.ob b++B)))(h:H'=H.set sv.l (sv'.o b'))(hl:sv'.l=sv.l)(hn:sv'.nl=sv.nl)(hv:sv'.vl=sv.vl):Kn H0 H' E (X.G a e (sv'.ob b'++B)):=by
 have e1:sv.ob b++B=[]++(sv.l,sv.o b)::((sv.nl++sv.vl)++B):=by simp[Se.ob]
 have e2:sv'.ob b'++B=[]++(sv.l,sv'.o b')::((sv.nl++sv.vl)++B):=by simp[Se.ob,hl,hn,hv]
 rw[e1]at k;rw[e2];exact Qu2 k h
theorem Qa57 {α:Type}{l:List α}{n:Nat}(h:n≤l.length):(l.drop (l.length-n)).reverse=l.reverse.take n:=by
 rw[List.take_reverse]
theorem Qbfa {a:Ma}{e:Option Nat}{sv:Se}{b:Option Nat}{n:Nat}{env:Env}(hok:sv.ok)(hn:n≤sv.F.length)(hL:sv.F.length≤2^38)(kn:Kn H0 H E (X.G a e (sv.ob b++B)))
  (l2:lk 2 env=.c (.ptr sv.l 0)) (l6:lk 6 env=.c (.int .i64 (n:Nat)))
  (hK:∀(sv':Se) H',sv'.ok→sv'.l=sv.l→sv'.F=sv.F.drop (sv.F.length-n)→Kn H0 H' E (X.G a e (sv'.ob b++B))→K (.tup []) H') :
  Q3 prog Qd4 (Qp Qasa K) env H:=by
 have hvv:=sG_v kn;have hno:=hok.n.isOw;have hvo:=hok.v.isOw;have hs:=sG_n kn hok;have hw:=sG_w kn hok;have hok1:=eq_true hs.ok;have hlen1:=hs.len;have hsz1:=hs.sz;have hok2:=eq_true hw.ok;have hlen2:=hw.len;have hsz2:=hw.sz;have hnl:sv.nms.length=sv.F.length:=by simp[Se.nms]
 have hvl:sv.vals.length=sv.F.length:=by simp[Se.vals]
 have hcn:=hok.n.cut (k:=n) (by rw[Qo,hnl];exact hn);have hcv:=hok.v.cut (k:=n) (by rw[Qah,hvl];exact hn);have hcno:=hcn.isOw;have hcvo:=hcv.isOw;refine Qa ?_;simp only[go_sem,l2,l6,hvv,hno,hvo,hok1,hlen1,hsz1,Qo,hnl,hcno];refine⟨⟨by omega,by omega⟩,fun H1 h1=>?_⟩;obtain⟨sv1,hsv1⟩:∃sv1:Se,sv1=⟨sv.l,sv.F,sliC none (some (n:Int)) sv.nc,sv.nl,sv.vc,sv.vl⟩:=⟨_,rfl⟩;have kn1:Kn H0 H1 E (X.G a e (sv1.ob b++B)):=Qbfb kn (sv':=sv1) (b':=b) (by rw[h1,hsv1];rfl) (by rw[hsv1]) (by rw[hsv1]) (by rw[hsv1]);have hvv1:H1 sv.l=.st [sliC none (some (n:Int)) sv.nc,sv.vc,.bool b.isSome,.int .i64 (b.getD 0:Nat)]:=by rw[h1];exact Heap.set_same _ _ _
 have hw1:Slc H1 1 (Qn sv.vals) sv.vc:=hok.v.slc fun p hp=>(kn1.get p (by rw[hsv1];simp[Sn.G,Se.ob,hp])).1;have hok3:=eq_true hw1.ok;have hlen3:=hw1.len;refine Qq ?_;simp only[go_sem,hvv1,hno,hvo,hcno,hok3,hlen3,hsz2,Qah,hvl,hcvo];refine⟨⟨by omega,by omega⟩,fun H2 h2=>?_⟩;obtain⟨sv2,hsv2⟩:∃sv2:Se,sv2=⟨sv.l,sv.F.drop (sv.F.length-n),sliC none (some (n:Int)) sv.nc,sv.nl,sliC none (some (n:Int)) sv.vc,sv.vl⟩:=⟨_,rfl⟩;have kn2:Kn H0 H2 E (X.G a e (sv2.ob b++B)):=Qbfb kn1 (sv':=sv2) (b':=b) (by rw[h2,hsv1,hsv2];rfl) (by rw[hsv1,hsv2]) (by rw[hsv1,hsv2]) (by rw[hsv1,hsv2]);simp only[go_sem,Qp,Q8,Qasa];refine hK sv2 H2 ?_ (by rw[hsv2]) (by rw[hsv2]) kn2;have e1:sv2.nms=sv.nms.take n:=by
  rw[hsv2];simp only[Se.nms,Ja5];have:=Qa57 (l:=sv.F.map Prod.fst) (n:=n) (by rw[Jd];exact hn);rw[Jd]at this;exact this
 have e2:sv2.vals=sv.vals.take n:=by
  rw[hsv2];simp only[Se.vals,Ja5];have:=Qa57 (l:=sv.F.map Prod.snd) (n:=n) (by rw[Jd];exact hn);rw[Jd]at this;exact this
 constructor
 ·rw[e1,show Q0 (sv.nms.take n)=(Q0 sv.nms).take n by simp[Q0],hsv2];exact hcn
 ·rw[e2,show Qn (sv.vals.take n)=(Qn sv.vals).take n by simp[Qn,Qm],hsv2];exact hcv
def Qbfo (X:Sn)(h:Nat)(l:List St)(i:Nat)(r:Rt)(m':Ms)(v1:Vars)(a1:Ma)(eo b1:Option Nat):Prop:=
 (eo=none∧b1=none∧∃h1,h1≤h∧Ev X.fns X.S h1 (.blk (l.drop i) v1) a1.m r m')∨(eo=none∧(∃z,b1=some z∧r=.env (some z) v1)∧a1.m=m')∨(b1=none∧(∃z,eo=some z∧r=.dn z)∧a1.m=m')
theorem Qbfz {h:Nat}(hS:∀h',h'<h→StR X h'):BlkR X h:=by
 intro l fl v m r m' H0 H E B a sv K hev ham ha hok hF hvn hv hbd hsz kn hK hP;subst ham;have hvv:=sG_v kn;have hno:=hok.n.isOw;have hvo:=hok.v.isOw;have hs:=sG_n kn hok;have hok1:=eq_true hs.ok;have hlen1:=hs.len;have hnl:sv.nms.length=sv.F.length:=by simp[Se.nms]
 have hshp:=hev.shp;refine Qc Qal Q4p ?_;refine Qa ?_;simp only[go_sem,hvv,hno,hvo,hok1,hlen1,Qo,hnl];intro _;refine Q6 ?_;refine Qa ?_;simp only[go_sem];refine Qf (Qd (Qab (fun mm e1 H1=>∃(i:Nat) (v1:Vars) (a1:Ma) (sv1:Se) (eo b1:Option Nat),mm=l.length-i∧i≤l.length∧Qbfo X h l i r m' v1 a1 eo b1∧a1.sok X∧sv1.ok∧sv1.l=sv.l∧(eo=none→sv1.F=v1.flatten∧v1≠[]∧vBy v1)∧sv.F.length≤sv1.F.length∧sv1.F.length≤sv.F.length+i∧
  Kn H0 H1 E (X.G a1 eo (sv1.ob b1++B))∧
  e1=[(0,.c (.ptr X.l 0)),(1,.c (.sl fl 5 (Qk l))),(2,.c (.ptr sv.l 0)),(6,.c (.int .i64 (sv.F.length:Nat))),(7,.c (.int .i64 i))]) l.length ?_ ?_))
 ·exact⟨0,v,a,sv,none,none,by omega,by omega,.inl ⟨rfl,rfl,h,Jf _,hev⟩,ha,hok,rfl,fun _=>⟨hF,hvn,hv⟩,Jf _,by omega,kn,rfl⟩
 ·clear kn ha hev hvv hs hok1 hlen1;rintro mm e1 H1 ⟨i,v1,a1,sv1,eo,b1,hmm,hi,hmode,ha,hok1,hl1,hFv,hge,hle,kn,rfl⟩;have hX:=sG_o kn;have hvv:=sG_v kn;rw[hl1]at hvv;have fin:(eo=none→b1=none→l.length≤i)→Q3 prog Qd4 (Qp Qasa K) [(0,.c (.ptr X.l 0)),(1,.c (.sl fl 5 (Qk l))),(2,.c (.ptr sv.l 0)),(6,.c (.int .i64 (sv.F.length:Nat))),(7,.c (.int .i64 i)),(30,.c (.bool false))] H1:=by
   intro hend;refine Qbfa (n:=sv.F.length) hok1 hge (by omega) kn (by rw[hl1];rfl) rfl fun sv2 H2 hok2 hl2 hF2 kn=>?_;rcases hmode with ⟨rfl,rfl,h1,hh1,e1⟩|⟨rfl,⟨z,rfl,hr⟩,hm⟩|⟨rfl,⟨z,rfl,hr⟩,hm⟩
   ·have hge2:=hend rfl rfl;rw[J6 hge2]at e1;obtain⟨q1,q2⟩:=(by cases e1;exact⟨rfl,rfl⟩:r=.env none v1∧m'=a1.m);refine hK none v1 a1 sv2 H2 q1 q2.symm ha hok2 (hl2.trans hl1) ?_ kn;rw[hF2,(hFv rfl).1,hF]
   ·refine hK (some z) v1 a1 sv2 H2 hr hm ha hok2 (hl2.trans hl1) ?_ kn;rw[hF2,(hFv rfl).1,hF]
   ·refine hP z a1 sv2 H2 hr hm ha hok2 (hl2.trans hl1) ?_ kn;rw[hF2,List.length_drop];omega
  refine Q6 ?_;refine Qa ?_;by_cases hil:i<l.length
  ·have hild:decide ((i:Int)<(l.length:Nat))=true:=by simpa using hil
   rcases hmode with ⟨rfl,rfl,h1,hh1,e1⟩|⟨rfl,⟨z,rfl,hr⟩,hm⟩|⟨rfl,⟨z,rfl,hr⟩,hm⟩
   ·simp only[go_sem,hX,hvv,hild,Qx,Jh];intro hl;obtain⟨hF1,hvn1,hv1⟩:=hFv rfl;have hms:=Qa3 (Jz hil);obtain⟨x,hx⟩:∃x,l[i]=x:=⟨_,rfl⟩;rw[J4 hil,hx]at e1;rw[hx]at hms;refine Qf (Qb rfl (fun _=>?_) (fun h=>by simp[lk]at h));refine Qe ?_;try simp only[go_sem]
    refine Qf (Qd ?_);refine Qa ?_;simp only[go_sem];have again:∀(v2:Vars) (a2:Ma) (sv2:Se) (eo2 b2:Option Nat) (H2:Heap) (e':Env),Qbfo X h l (i+1) r m' v2 a2 eo2 b2→a2.sok X→sv2.ok→sv2.l=sv1.l→(eo2=none→sv2.F=v2.flatten∧v2≠[]∧vBy v2)→sv1.F.length≤sv2.F.length→sv2.F.length≤sv1.F.length+1→Kn H0 H2 E (X.G a2 eo2 (sv2.ob b2++B))→
      lk 0 e'=.c (.ptr X.l 0)→lk 1 e'=.c (.sl fl 5 (Qk l))→lk 2 e'=.c (.ptr sv.l 0)→lk 6 e'=.c (.int .i64 (sv.F.length:Nat))→lk 7 e'=.c (.int .i64 i)→
      Q3 prog Qxl (AE.X.next (fun e1 H1=>∃m'',m''<mm∧∃(i:Nat) (v1:Vars) (a1:Ma) (sv1:Se) (eo b1:Option Nat),m''=l.length-i∧i≤l.length∧Qbfo X h l i r m' v1 a1 eo b1∧a1.sok X∧sv1.ok∧sv1.l=sv.l∧(eo=none→sv1.F=v1.flatten∧v1≠[]∧vBy v1)∧sv.F.length≤sv1.F.length∧sv1.F.length≤sv.F.length+i∧
       Kn H0 H1 E (X.G a1 eo (sv1.ob b1++B))∧
       e1=[(0,.c (.ptr X.l 0)),(1,.c (.sl fl 5 (Qk l))),(2,.c (.ptr sv.l 0)),(6,.c (.int .i64 (sv.F.length:Nat))),(7,.c (.int .i64 i))]) (AE.X.inBlock 0 (AE.X.sq prog Qd4 (Qp Qasa K)))) e' H2:=by
     intro v2 a2 sv2 eo2 b2 H2 e' p1 p2 p3 p4 p5 p6 p7 p8 f0 f1 f2 f6 f7;refine Qq ?_;simp only[go_sem,AE.X.next,f0,f1,f2,f6,f7];exact⟨Q1 (by omega) (by omega),l.length-(i+1),by omega,i+1,v2,a2,sv2,eo2,b2,rfl,by omega,p1,p2,p3,p4.trans hl1,p5,by omega,by omega,p8,rfl⟩
    refine Qa8m kn ha (fun H2 hu kn ha2=>?_) (fun H2 hu kn=>?_)
    ·have hX2:=sG_o kn;simp only[go_sem];refine Qa ?_;simp only[go_sem,hX2,Jh];refine Qb rfl (fun _=>?_) (fun h=>by simp[lk]at h);refine Qq ?_;simp only[go_sem,hil,Qx,Qbe _ _ hil,hx,x.cells_eq];have hlu:=ha.l;have go:∀(h2:Nat) (r2:Rt) (m2:Ms) (K1:V→Heap→Prop),h2<h→Ev X.fns X.S h2 (.st x v1) ⟨a1.m.u+1,a1.m.s,a1.m.c⟩ r2 m2→
       (∀b v' a' (sv':Se) H',r2=.env b v'→a'.m=m2→a'.sok X→sv'.ok→sv'.l=sv1.l→sv'.F=v'.flatten→Kn H0 H' E (X.G a' none (sv'.ob b++B))→K1 (.tup []) H')→
       (∀(z:Nat) a' (sv':Se) H',r2=.dn z→a'.m=m2→a'.sok X→sv'.ok→sv'.l=sv1.l→sv'.F.length=sv1.F.length→Kn H0 H' E (X.G a' (some z) (sv'.ob none++B))→K1 (.tup []) H')→
       Ql prog Qkq [.c (.ptr X.l 0),.ag [.int .i64 x.op,.str x.name,.sl false 4 (Qt x.args),.sl false 5 (Qk x.body),.sl false 5 (Qk x.els)],.c (.ptr sv.l 0)] H2 K1:=by
      intro h2 r2 m2 K1 hh2 e2 hA hB;have hh:=hS h2 hh2 x v1 ⟨a1.m.u+1,a1.m.s,a1.m.c⟩ r2 m2 H0 H2 E B ⟨⟨a1.m.u+1,a1.m.s,a1.m.c⟩,a1.sc,a1.so⟩ sv1 K1 e2 rfl ha2 (show a1.m.s.length<a1.m.u+1 by omega) hok1 hF1 hvn1 hv1 (by
       have q1:=Qan (l.take i);have q2:=Qi0 hil;have q3:=Qbl l (i+1);rw[hx]at q2;rw[Jaa,Nat.min_eq_left hi]at q1;omega) kn
      rw[x.cells_eq,hl1]at hh;rw[hl1]at hA hB;exact hh hA hB
     cases e1 with
     |fuel hu2=>exfalso;omega
     |@next _ _ _ _ v2 m2 _ _ ha3 hb3 hu2 e1 e2=>
      refine go _ _ _ _ (by omega) e1 (fun b v' a2 sv2 H6 hz hm2 ha2 hok2 hl2 hF2 kn=>?_) (fun z a2 sv2 H6 hz=>by cases hz);obtain⟨rfl,rfl⟩:=Rt.env.inj hz;subst hm2;have hv2:=(e1.by (show vBy v1 from hv1) (ha.b.tick _)).1.2;have hsh:=e1.shp hvn1;obtain⟨s1,s2⟩:=Qa1f hvn1 hsh;simp only[go_sem,AE.X.next];exact again v2 a2 sv2 none none H6 _ (.inl ⟨rfl,rfl,hb3,by omega,e2⟩) ha2 hok2 hl2 (fun _=>⟨hF2,hsh.1,hv2⟩) (by rw[hF1,hF2];exact s1) (by rw[hF1,hF2];exact s2) kn rfl rfl rfl rfl rfl
     |@back _ _ _ _ n v2 m2 _ hu2 e1=>
      refine go _ _ _ _ (by omega) e1 (fun b v' a2 sv2 H6 hz hm2 ha2 hok2 hl2 hF2 kn=>?_) (fun z a2 sv2 H6 hz=>by cases hz);obtain⟨rfl,rfl⟩:=Rt.env.inj hz;have hv2:=(e1.by (show vBy v1 from hv1) (ha.b.tick _)).1.2;have hsh:=e1.shp hvn1;obtain⟨s1,s2⟩:=Qa1f hvn1 hsh;simp only[go_sem,AE.X.next];exact again v2 a2 sv2 none (some n) H6 _ (.inr (.inl ⟨rfl,⟨n,rfl,rfl⟩,hm2⟩)) ha2 hok2 hl2 (fun _=>⟨hF2,hsh.1,hv2⟩) (by rw[hF1,hF2];exact s1) (by rw[hF1,hF2];exact s2) kn rfl rfl rfl rfl rfl
     |stS hu2 e1=>
      refine go _ _ _ _ (by omega) e1 (fun b v' a2 sv2 H6 hz=>by cases hz) (fun z a2 sv2 H6 hz hm2 ha2 hok2 hl2 hF2 kn=>?_);simp only[go_sem,AE.X.next];exact again v1 a2 sv2 (some z) none H6 _ (.inr (.inr ⟨rfl,⟨z,rfl,hz⟩,hm2⟩)) ha2 hok2 hl2 (fun h=>by cases h) (by omega) (by omega) kn rfl rfl rfl rfl rfl
    ·have hX2:=sG_o kn;simp only[go_sem];refine Qa ?_;simp only[go_sem,hX2,Option.isSome_some];refine Qb rfl (fun h=>by simp[lk]at h) (fun _=>?_);refine Qe ?_;try simp only[go_sem,AE.X.next]
     cases e1 with
     |fuel _=>exact again v1 a1 sv1 (some 3) none H2 _ (.inr (.inr ⟨rfl,⟨3,rfl,rfl⟩,rfl⟩)) ha hok1 rfl (fun h=>by cases h) (by omega) (by omega) kn rfl rfl rfl rfl rfl
     |next hu2 _ _=>exfalso;omega
     |back hu2 _=>exfalso;omega
     |stS hu2 _=>exfalso;omega
   ·simp only[go_sem,hX,hvv,hild,Qx,Jh,Option.isSome_some];intro hl;refine Qf (Qb rfl (fun h=>by simp[lk]at h) (fun _=>?_));refine Q9 ?_;simp only[go_sem,AE.X.next];exact fin (fun h1 h2=>by simp at h1 h2)
   ·simp only[go_sem,hX,hvv,hild,Qx,Jh,Option.isSome_some];intro hl;refine Qf (Qb rfl (fun h=>by simp[lk]at h) (fun _=>?_));refine Q9 ?_;simp only[go_sem,AE.X.next];exact fin (fun h1 h2=>by simp at h1 h2)
  ·have hild:decide ((i:Int)<(l.length:Nat))=false:=by simpa using hil
   simp only[go_sem,hX,hvv,hild,Qx];intro hl;refine Qf (Qb rfl (fun h=>by simp[lk]at h) (fun _=>?_));refine Q9 ?_;simp only[go_sem,AE.X.next];exact fin (fun _ _=>by omega)
theorem Qbht {l:List St}{fl:Bool}{a:Ma}{z:Nat}{sv:Se}(hok:sv.ok)(hL:sv.F.length≤2^38)(kn:Kn H0 H E (X.G a (some z) (sv.ob none++B)))
  (hK:∀(sv':Se) H',sv'.ok→sv'.l=sv.l→sv'.F=sv.F→Kn H0 H' E (X.G a (some z) (sv'.ob none++B))→K (.tup []) H') :
  Ql prog Qbw [.c (.ptr X.l 0),.c (.sl fl 5 (Qk l)),.c (.ptr sv.l 0)] H K:=by
 have hvv:=sG_v kn;have hX:=sG_o kn;have hno:=hok.n.isOw;have hvo:=hok.v.isOw;have hs:=sG_n kn hok;have hok1:=eq_true hs.ok;have hlen1:=hs.len;have hnl:sv.nms.length=sv.F.length:=by simp[Se.nms]
 refine Qc Qal Q4p ?_;refine Qa ?_;simp only[go_sem,hvv,hno,hvo,hok1,hlen1,Qo,hnl];intro _;refine Q6 ?_;refine Qa ?_;simp only[go_sem];have fin:∀e1,lk 2 e1=.c (.ptr sv.l 0)→lk 6 e1=.c (.int .i64 (sv.F.length:Nat))→Q3 prog Qd4 (Qp Qasa K) e1 H:=fun e1 l2 l6=>
  Qbfa (n:=sv.F.length) hok (Jf _) hL kn l2 l6 fun sv2 H2 hok2 hl2 hF2 kn=>hK sv2 H2 hok2 hl2 (by rw[hF2,Nat.sub_self];rfl) kn
 refine Qf (Qd (Qab (fun mm e1 H1=>H1=H∧e1=[(0,.c (.ptr X.l 0)),(1,.c (.sl fl 5 (Qk l))),(2,.c (.ptr sv.l 0)),(6,.c (.int .i64 (sv.F.length:Nat))),(7,.c (.int .i64 0))]) 0 ?_ ?_))
 ·exact⟨rfl,rfl⟩
 ·rintro mm e1 H1 ⟨rfl,rfl⟩;refine Q6 ?_;refine Qa ?_;by_cases hil:0<l.length
  ·have hild:decide ((0:Int)<(l.length:Nat))=true:=by simpa using hil
   simp only[go_sem,hX,hvv,hild,Qx,Jh,Option.isSome_some];intro hl;refine Qf (Qb rfl (fun h=>by simp[lk]at h) (fun _=>?_));refine Q9 ?_;simp only[go_sem,AE.X.next];exact fin _ rfl rfl
  ·have hild:decide ((0:Int)<(l.length:Nat))=false:=by simpa using hil
   simp only[go_sem,hX,hvv,hild,Qx];intro hl;refine Qf (Qb rfl (fun h=>by simp[lk]at h) (fun _=>?_));refine Q9 ?_;simp only[go_sem,AE.X.next];exact fin _ rfl rfl
theorem Qbbc {h:Nat}(hsz:∀k (hk:k<X.fns.length),Qi X.fns[k].body≤4000∧X.fns[k].params.length≤3)(hE:∀h',h'<h→ExR X h')(hB:∀h',h'<h→BlkR X h'):Qbij X h:=by
 intro x h13 v m r m' H0 H E B a sv K hev ham ha hok hF hv kn hK hP;subst ham;refine Qc Qal Qarq ?_;have hX:=sG_o kn;obtain⟨j,hj,hix,hpl,hrest⟩:∃j,∃hj:j<X.fns.length,Qi1 X.fns x.name=some j∧X.fns[j].params.length=x.kids.length∧
   ((∃ns m1 h1 h2,h1<h∧h2<h∧Ev X.fns X.S h1 (.exs x.kids v) a.m (.vals ns) m1∧Ev X.fns X.S h2 (.call X.fns[j] ns) m1 r m')∨∃z h1,h1<h∧Ev X.fns X.S h1 (.exs x.kids v) a.m (.dn z) m'∧r=.dn z):=by
  cases hev with
  |call hj _ h2 h3 e1 e2=>exact⟨_,hj,h2,h3,.inl ⟨_,_,_,_,by omega,by omega,e1,e2⟩⟩
  |callS hj _ h2 h3 e1=>exact⟨_,hj,h2,h3,.inr ⟨_,_,by omega,e1,rfl⟩⟩
  |_=>exfalso;omega
 obtain⟨z1,z2⟩:=hsz j hj;obtain⟨f,hf⟩:∃f,X.fns[j]=f:=⟨_,rfl⟩;rw[hf]at hpl hrest z1 z2;refine Qa ?_;simp only[go_sem,x.cells_eq];refine Qf ?_;refine Qel ?_;simp only[go_sem,hX];refine Qaqf ?_;simp only[go_sem,Qw9,hX,hix,ixI,hj,hf,Qw,Qaf _ _ hj,Fn.cells];intro x7 hx7 H1 h1;have kn:Kn H0 H1 E (X.G a none ((x7,.st [.str [],.sl true 1 [],.sl true 5 []])::(sv.ob none++B))):=Qawo (kn.al hx7 h1);have hx7:H1 x7=.st [.str [],.sl true 1 [],.sl true 5 []]:=Qdz (A:=[]) kn;have hX:=sG_o kn;simp only[go_sem,Qw8,hX,hx7,ixI,hj,hf,Qw,Qaf _ _ hj,Fn.cells];intro H2 h2;have kn:Kn H0 H2 E (X.G a none ((x7,.st [.str f.name,.sl false 1 (Q0 f.params),.sl false 5 (Qk f.body)])::(sv.ob none++B))):=Qu2 (A:=[]) kn h2;have hx7:H2 x7=.st [.str f.name,.sl false 1 (Q0 f.params),.sl false 5 (Qk f.body)]:=Qdz (A:=[]) kn;refine Qa ?_;simp only[go_sem,hx7];refine⟨.inl trivial,Qaw _,by simp only[Qo,LIM];omega,fun y hy H3 h3=>?_⟩;rw[Jp];obtain⟨nl,hnl⟩:∃nl:List (Nat×Obj),nl=[(y,.vec 1 (Q0 f.params))]:=⟨_,rfl⟩;obtain⟨nc,hnce⟩:∃nc:C,nc=.vsl y 1 0 (Q0 f.params).length:=⟨_,rfl⟩;have hgn:Gp nl 1 (Q0 f.params) nc:=.inr ⟨y,Q0 f.params,hnce,hnl,Jax⟩;have kn:Kn H0 H3 E (X.G a none (nl++((x7,.st [.str f.name,.sl false 1 (Q0 f.params),.sl false 5 (Qk f.body)])::(sv.ob none++B)))):=by rw[hnl];exact Qawo (kn.al hy h3)
 rw[←hnce];have hnc:=hgn.isOw;simp only[go_sem,Qxb,hnc];intro xw hxw H4 h4;have kn:Kn H0 H4 E (X.G a none (Wf xw nc (.sl true 1 []) [] nl x7 (.st [.str f.name,.sl false 1 (Q0 f.params),.sl false 5 (Qk f.body)]) (sv.ob none++B))):=Qawo (kn.al hxw h4);simp only[go_sem,Qxa,hnc];have retK:∀(z:Nat) (a':Ma) (H':Heap) (e:Env),r=.val z→a'.m=m'→a'.sok X→Kn H0 H' E (X.G a' none (sv.ob none++B))→lk 6 e=.c (.int .i64 (z:Nat))→Qp Qbe9 K .ret e H':=by
  intro z a' H' e h1 h2 h3 h4 h5;simp only[go_sem,Qp,Q8,Qbe9,Jb,forall_eq,RS.op,h5];exact hK z a' H' h1 h2 h3 h4
 have retP:∀(z w:Nat) (a':Ma) (H':Heap) (e:Env),r=.dn z→a'.m=m'→a'.sok X→Kn H0 H' E (X.G a' (some z) (sv.ob none++B))→lk 6 e=.c (.int .i64 (w:Nat))→Qp Qbe9 K .ret e H':=by
  intro z w a' H' e h1 h2 h3 h4 h5;simp only[go_sem,Qp,Q8,Qbe9,Jb,forall_eq,RS.op,h5];exact hP z w a' H' h1 h2 h3 h4
 have t11:∀(a':Ma) (sv':Se) (b eo:Option Nat) (H':Heap),sv'.ok→sv'.l=xw→a'.m=m'→a'.sok X→(b.isSome=true→eo=none)→(eo=none→r=.val (b.getD 0))→(∀z,eo=some z→r=.dn z)→Kn H0 H' E (X.G a' eo (sv'.ob b++((x7,.st [.str f.name,.sl false 1 (Q0 f.params),.sl false 5 (Qk f.body)])::(sv.ob none++B))))→
   Q3 prog Qw5 (Qp Qbe9 K) [(0,.c (.ptr X.l 0)),(8,.c (.ptr xw 0))] H':=by
  intro a' sv' b eo H' hok' hl' hm' ha' _ hr1 hr2 kn;have hX:=sG_o kn;have hvv:=sG_v kn;rw[hl']at hvv;have hno:=hok'.n.isOw;have hvo:=hok'.v.isOw;have kn2:Kn H0 H' E (X.G a' eo (sv.ob none++B)):=Qbhr (A:=sv'.ob b++[(x7,.st [.str f.name,.sl false 1 (Q0 f.params),.sl false 5 (Qk f.body)])]) (by simpa using kn)
  cases eo with
  |none=>
   refine Q6 ?_;refine Qa ?_;simp only[go_sem,hX,Jh];refine Qf (Qb rfl (fun h=>by simp[lk]at h) (fun _=>?_));refine Qe ?_;try simp only[go_sem]
   refine Qa ?_;simp only[go_sem,hvv,hno,hvo];refine Qh ?_;try simp only[go_sem]
   exact retK (b.getD 0) a' H' _ (hr1 rfl) hm' ha' kn2 rfl
  |some z=>
   refine Q6 ?_;refine Qa ?_;simp only[go_sem,hX,Option.isSome_some];refine Qf (Qb rfl (fun _=>?_) (fun h=>by simp[lk]at h));refine Qa ?_;simp only[go_sem];refine Qh ?_;try simp only[go_sem]
   exact retP z 0 a' H' _ (hr2 z rfl) hm' ha' kn2 rfl
 have mk:∀(ns:List Nat) (c:C) (vl:List (Nat×Obj)),ns.length=x.kids.length→Gp vl 1 (Qn ns) c→∃sv2:Se,sv2.ok∧sv2.l=xw∧sv2.F=(parE f.params ns).flatten∧sv2.F.length≤3∧
   ∀(a1:Ma) (e1:Option Nat) (H5:Heap),Kn H0 H5 E (X.G a1 e1 (Wf xw nc c vl nl x7 (.st [.str f.name,.sl false 1 (Q0 f.params),.sl false 5 (Qk f.body)]) (sv.ob none++B)))→
    Kn H0 H5 E (X.G a1 e1 (sv2.ob none++((x7,.st [.str f.name,.sl false 1 (Q0 f.params),.sl false 5 (Qk f.body)])::(sv.ob none++B)))):=by
  intro ns c vl hl hgv;obtain⟨q1,q2⟩:=Qbfe (ps:=f.params) (ns:=ns) (by omega);refine⟨⟨xw,(f.params.zip ns).reverse,nc,nl,c,vl⟩,⟨?_,?_⟩,rfl,by simp[parE],?_,fun a1 e1 H5 kn=>kn.perm (Qaa fun f hf h0 hc hp=>?_)⟩
  ·rw[Se.nms];simp only;rw[q1];exact hgn
  ·rw[Se.vals];simp only;rw[q2];exact hgv
  ·simp only[List.length_reverse,List.length_zip];omega
  ·generalize sv.ob none++B=R;simp only[Sn.G,Wf,Se.ob,Se.o,hf,Jh,Jab];rw[hc _ R];have e0:((0:Nat):Int)=0:=rfl;rw[e0];omega
 rcases hrest with ⟨ns0,m1,h1,h2,hh1,hh2,e1,e2⟩|⟨z,h1,hh1,e1,hr⟩
 ·refine Qa8l hE hh1 hnc e1 ha hok hF hv kn fun ns c vl a1 eo H5 e' hnl2 hmode hm1 ha1 hgv kn l0 l7 l8=>?_;obtain⟨sv2,s1,s2,s3,s3b,s4⟩:=mk ns c vl hnl2 hgv;have kn:=s4 _ _ _ kn;rcases hmode with ⟨rfl,hns⟩|⟨z,_,hz⟩
  ·obtain rfl:=Rt.vals.inj hns;subst hm1;have bn:=(e1.by (show vBy v from hv) ha.b).1;have hx7:H5 x7=.st [.str f.name,.sl false 1 (Q0 f.params),.sl false 5 (Qk f.body)]:=Qdz (A:=sv2.ob none) kn;refine Qa ?_;simp only[go_sem,l0,l7,l8,hx7];generalize hr0:r=r0 at e2
   cases e2 with
   |@body _ _ _ rb _ ab e3=>
    have hbl:=Qan f.body;have hh:=hB ab (by omega) f.body false (parE f.params ns0) a1.m rb m' H0 H5 E ((x7,.st [.str f.name,.sl false 1 (Q0 f.params),.sl false 5 (Qk f.body)])::(sv.ob none++B)) a1 sv2;rw[s2]at hh;refine hh _ e3 rfl ha1 s1 s3 (by simp[parE]) (Qaox bn) (by omega) (by omega) kn (fun b v' a2 sv' H6 hz hm2 ha2 hok2 hl2 _ kn=>?_) (fun z a2 sv' H6 hz hm2 ha2 hok2 hl2 _ kn=>?_)
    ·simp only[go_sem,l0,l8];refine t11 a2 sv' b none H6 hok2 hl2 hm2 ha2 (fun _=>rfl) (fun _=>?_) (fun z h=>by cases h) kn;rw[hr0,hz];cases b <;> rfl
    ·simp only[go_sem,l0,l8];refine t11 a2 sv' none (some z) H6 hok2 hl2 hm2 ha2 (fun h=>by cases h) (fun h=>by cases h) (fun z2 h=>?_) kn;rw[hr0,hz];cases h;rfl
  ·cases hz
 ·refine Qa8l hE hh1 hnc e1 ha hok hF hv kn fun ns c vl a1 eo H5 e' hnl2 hmode hm1 ha1 hgv kn l0 l7 l8=>?_;obtain⟨sv2,s1,s2,s3,s3b,s4⟩:=mk ns c vl hnl2 hgv;have kn:=s4 _ _ _ kn;rcases hmode with ⟨_,hns⟩|⟨z2,rfl,hz⟩
  ·cases hns
  ·obtain rfl:=Rt.dn.inj hz;have hx7:H5 x7=.st [.str f.name,.sl false 1 (Q0 f.params),.sl false 5 (Qk f.body)]:=Qdz (A:=sv2.ob none) kn;refine Qa ?_;simp only[go_sem,l0,l7,l8,hx7];have hh:=fun K1 hK1=>Qbht (K:=K1) (B:=(x7,.st [.str f.name,.sl false 1 (Q0 f.params),.sl false 5 (Qk f.body)])::(sv.ob none++B)) (l:=f.body) (fl:=false) s1 (by omega) kn hK1;rw[s2]at hh;refine hh _ fun sv' H6 hok2 hl2 hF2 kn=>?_;simp only[go_sem,l0,l8];exact t11 a1 sv' none (some z) H6 hok2 hl2 hm1 ha1 (fun h=>by cases h) (fun h=>by cases h) (fun z2 h=>by cases h;exact hr) kn
end Go.AE.Y
namespace Go.AE.Y
attribute [local go_sem] cond_true cond_false Bool.not_true Bool.not_false
open Go.Proofs.Tryz
variable {H H' H0:Heap}{K:V→Heap→Prop}{E A B:List (Nat×Obj)}
theorem Qavg (s:List UInt8)(v:V):∀(es:List (C×V)),(∀e∈es,∃s,e.1=.str s)→(Qc0 (.str s) es).isSome=true→(Q1d (.str s) v es).length=es.length
 |[],_,h=>by simp[Qc0]at h
 |e::es,hk,h=>by
  obtain⟨k,hk1⟩:=hk e (by simp);obtain⟨e1,e2⟩:=e;simp only at hk1;subst hk1;simp only[Q1d,Qc0,Qem]at h⊢;by_cases hc:s=k
  ·simp[hc]
  ·simp only[hc,decide_false,Jap,if_false,Jg]at h⊢;rw[Qavg s v es (fun x hx=>hk x (Jl _ hx)) h]
theorem Qau4 (s t:List UInt8)(n:Nat):∀b:List (List UInt8×Nat),(setB s n b).find? (fun p=>decide (p.1=t))=if s=t then (if (b.any fun p=>decide (p.1=s))=true then some (s,n)else none)else b.find? fun p=>decide (p.1=t)
 |[]=>by simp[setB]
 |p::r=>by
  simp only[setB];have ih:=Qau4 s t n r;by_cases h:p.1=s
  ·rw[if_pos h,List.find?_cons,List.find?_cons];by_cases e:s=t
   ·subst e;simp[h]
   ·simp[e,h]
  ·rw[if_neg h,List.find?_cons,List.find?_cons,ih];have hd:decide (p.1=s)=false:=decide_eq_false h;by_cases e:s=t
   ·subst e;rw[Ja4,hd,Ja3]
   ·simp only[e,if_false]
theorem MapOk.any {val:Nat→Int}{es:List (C×V)}{b:List (List UInt8×Nat)}(h:MapOk val es b)(s:List UInt8):(Qc0 (.str s) es).isSome=b.any fun p=>decide (p.1=s):=by
 rw[h.fd s,Option.isSome_map,Bool.eq_iff_iff,List.find?_isSome,Jai]
theorem MapOk.set {es:List (C×V)}{b:List (List UInt8×Nat)}(h:MapOk vI es b){s:List UInt8}(hs:(b.any fun p=>decide (p.1=s))=true)(n:Nat):MapOk vI (Q1d (.str s) (.c (.int .i64 (n:Nat))) es) (setB s n b):=by
 refine⟨Qajg s _ es h.ky,fun t=>?_⟩;rw[Qac6 s t _ es h.ky,Qau4];by_cases e:s=t
 ·rw[if_pos e,if_pos e,if_pos hs];rfl
 ·rw[if_neg e,if_neg e,h.fd t]
theorem ScD.ok_app {val:Nat→Int}:∀{p q:ScD} {vp vq:Vars},p.length=vp.length→(ScD.ok val (p++q) (vp++vq)↔ScD.ok val p vp∧ScD.ok val q vq)
 |[],q,[],vq,_=>by simp[ScD.ok]
 |x::p,q,b::vp,vq,h=>by
  have:=ScD.ok_app (val:=val) (p:=p) (q:=q) (vp:=vp) (vq:=vq) (by simpa using h);simp only[Jm,ScD.ok,this,and_assoc]
theorem Qams {vp vq:Vars}{b:List (List UInt8×Nat)}{s:List UInt8}(hno:∀b'∈vp,∀x∈b',x.1≠s):Vars.find (vp++b::vq) s=((b.find? fun p=>decide (p.1=s)).map Prod.snd).or (Vars.find vq s):=by
 rw[←Qanz];simp only[Vars.find,List.flatten_append];rw[List.find?_append];have:vp.flatten.find? (fun p=>decide (p.1=s))=none:=by
  rw[List.find?_eq_none];intro x hx;obtain⟨b',hb',hx'⟩:=List.mem_flatten.1 hx;simpa using hno b' hb' x hx'
 rw[this,Option.none_or]
theorem Qau6 {b:List (List UInt8×Nat)}{vq:Vars}{s:List UInt8}{n:Nat}:∀{vp:Vars},(∀b'∈vp,∀x∈b',x.1≠s)→(b.any fun p=>decide (p.1=s))=true→setV s n (vp++b::vq)=vp++setB s n b::vq
 |[],_,hb=>by simp[setV,hb]
 |a::vp,hno,hb=>by
  have:(a.any fun p=>decide (p.1=s))=false:=by
   rw[List.any_eq_false];intro x hx;simpa using hno a (by simp) x hx
  simp only[Jm,setV,this,Jap,if_false];rw[Qau6 (fun b' hb'=>hno b' (Jl _ hb')) hb]
theorem Qba1 {sd:ScD}{v:Vars}{s:List UInt8}(hs:ScD.ok vI sd v)(hh:∀x∈sd,H x.1=.map x.2.1 x.2.2)(hf:(v.find s).isSome=true)
  (hK:∀(p:ScD) l n es (q:ScD) (vp:Vars) b vq,sd=p++(l,n,es)::q→v=vp++b::vq→p.length=vp.length→(∀b'∈vp,∀x∈b',x.1≠s)→(b.any fun p=>decide (p.1=s))=true→MapOk vI es b→K (.c (.pp [.mp l,scC q.ls])) H) :
  Ql prog Qfu [.c (scC sd.ls),.c (.str s)] H K:=by
 have how:=Qaao sd.ls;refine Qc Qal Qajr ?_;refine Qa ?_;simp only[go_sem,how];refine Qf (Qd (Qab (fun m e1 H1=>∃(p sd':ScD) (vp v':Vars),m=sd'.length∧H1=H∧sd=p++sd'∧v=vp++v'∧p.length=vp.length∧ScD.ok vI sd' v'∧(∀b'∈vp,∀x∈b',x.1≠s)∧e1=[(0,.c (scC sd'.ls)),(1,.c (.str s))]) sd.length ?_ ?_))
 ·exact⟨[],sd,[],v,rfl,rfl,rfl,rfl,rfl,hs,by simp,rfl⟩
 ·rintro m e1 H1 ⟨p,sd',vp,v',hm,rfl,hsd,hv,hpl,hok,hno,rfl⟩
  match sd',v',hok with
  |[],[],_=>
   exfalso;rw[hv,Jt,Qa6h]at hf;obtain⟨l,hl,hs2⟩:=List.mem_flatten.1 hf;obtain⟨b,hb,rfl⟩:=J3.1 hl;obtain⟨x,hx,rfl⟩:=J3.1 hs2;exact hno b hb x hx rfl
  |(l,n,es)::q,b::vq,⟨hm1,hq⟩=>
   simp only at hm1;have hl:H1 l=.map n es:=hh (l,n,es) (by rw[hsd];simp);have hfs:=hf;rw[hv,Qams hno]at hfs;have hany:=hm1.any s;have hK':=hK p l n es q vp b vq hsd hv hpl hno
   match q,vq,hq with
   |[],[],_=>
    have hb:(b.any fun p=>decide (p.1=s))=true:=by
     have e:Vars.find [] s=none:=rfl;rw[e,Option.or_none,Option.isSome_map,List.find?_isSome]at hfs;rw[Jai];exact hfs
    refine Q6 ?_;refine Qa ?_;simp only[go_sem,ScD.ls,Jj,Jav,scC,C.isPtr,or_true,true_or,true_and,Jv,Ju];refine Qf (Qb rfl (fun h=>by cases h) (fun _=>?_));refine Q9 ?_;simp only[go_sem,AE.X.next];refine Qa ?_;simp only[go_sem];refine Qh ?_;simp only[go_sem,Qp,Q8,Qm4,Jb,forall_eq,RS.op];exact hK' hb hm1
   |(l2,n2,es2)::q2,b2::vq2,hq=>
    have hky:=eq_true hm1.ky;have hfd:=hm1.fd s;have how2:(scC (ScD.ls ((l2,n2,es2)::q2))).isOw=false:=rfl;have how3:=Qaao (List.map Prod.fst q2);refine Q6 ?_;refine Qa ?_;simp only[go_sem,ScD.ls,Jj,Jav,scC,C.isPtr,or_true,true_or,true_and,Jv,Ju];refine Qf (Qb rfl (fun _=>?_) (fun h=>by cases h));refine Qe ?_;try simp only[go_sem]
    refine Qf (Qd ?_)
    cases hb:b.find? fun p=>decide (p.1=s)with
    |none=>
     have hfn:Qc0 (.str s) es=none:=(by rw[hfd,hb];rfl);have hnb:∀x∈b,x.1≠s:=by
      intro x hx;have:=List.find?_eq_none.1 hb x hx;simpa using this
     refine Qa ?_;simp only[go_sem,C.isPtr,Qo4,Qf5,Qad,hl,hky,hfn,Jab,Jh,Jv,Ju];refine Qa ?_;simp only[go_sem];refine Qb rfl (fun h=>by cases h) (fun _=>?_);refine Qe ?_;try simp only[go_sem]
     refine Qq ?_;simp only[go_sem,AE.X.next,Jv,Ju];refine⟨((l2,n2,es2)::q2).length,by rw[Jg]at hm;omega,p++[(l,n,es)],(l2,n2,es2)::q2,vp++[b],b2::vq2,rfl,?_⟩;refine⟨by rw[hsd];simp,by rw[hv];simp,by simp[hpl],hq,fun b' hb'=>?_,rfl⟩;rcases Je.1 hb' with h|h
     ·exact hno b' h
     ·simp only[Jb]at h;subst h;exact hnb
    |some y=>
     have hfn:Qc0 (.str s) es=some (.c (.int .i64 (vI y.2))):=(by rw[hfd,hb];rfl);have hba:(b.any fun p=>decide (p.1=s))=true:=by
      rw[Jai];exact⟨y,List.mem_of_find?_eq_some hb,by have:=@List.find?_some _ (fun p:List UInt8×Nat=>decide (p.1=s)) _ _ hb;exact this⟩
     refine Qa ?_;simp only[go_sem,C.isPtr,Qo4,Qf5,Qad,hl,hky,hfn,Jac,Option.isSome_some,Jv,Ju];refine Qa ?_;simp only[go_sem];refine Qb rfl (fun _=>?_) (fun h=>by cases h);refine Qa ?_;simp only[go_sem];refine Qh ?_;simp only[go_sem,AE.X.next,Qp,Q8,Qm4,Jb,forall_eq,RS.op];exact hK' hba hm1
theorem Qaof {sc:C}(how:sc.isOw=false)(hK:∀lm n H',H lm=.none→H'=H.set lm (.map n [])→K (.c (.pp [.mp lm,sc])) H'):Ql prog Qlf [.c sc] H K:=by
 refine Qc Qal Qa2j ?_;refine Qa ?_;simp only[go_sem];refine Qa ?_;simp only[go_sem];intro lm hlm H1 h1;simp only[go_sem,Q47,how];refine Qh ?_;simp only[go_sem,Qp,Q8,Qcu,Jb,forall_eq,RS.op,how];exact hK lm _ H1 hlm h1
end Go.AE.Y
