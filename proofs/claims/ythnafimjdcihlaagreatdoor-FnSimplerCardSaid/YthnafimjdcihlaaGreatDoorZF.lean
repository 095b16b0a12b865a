/- Part 6 of the proof: the engine, codes, walks and plain laws, each named where it stands. -/
import Derived.Test.YthnafimjdcihlaaGreatDoorZE
import Derived.Below
import Derived.Defers
import Derived.Laws.Pointers
import Derived.OpenShut
import Derived.Recover
import Derived.WideKeyElems2
open Nat (reduceEqDiff reduceAdd reduceLeDiff reduceLT)
set_option linter.unusedVariables false
set_option linter.unusedSimpArgs false
set_option maxRecDepth 4000
set_option maxHeartbeats 8000000
open Array renaming getElem?_eq_none->Jah,getElem?_toList->Jaj,getElem?_eq_some_iff->Jaq
open Bool renaming false_eq_true->Jaa,and_eq_true->Jas,false_and->Ja9,true_and->Jba
open Int renaming eq_ofNat_of_zero_le->J7,le_refl->Jbg
open List renaming mem_singleton->Ja,mem_append_left->Jb,mem_append_right->Jc,length_map->Jd,getElem_cons_zero->Je,getD_cons_zero->Jf,getD_cons_succ->Jh,length_nil->Ji,length_cons->Jj,mem_cons_of_mem->Jk,map_cons->Jl,getElem?_map->Jn,take_of_length_le->Jo,getD_eq_getElem?_getD->Jp,getElem_mem->Jq,map_append->Jr,getElem?_eq_getElem->Js,mem_map->Jt,length_append->Ju,mem_append->Jv,cons_append->Jx,drop_eq_nil_of_le->Jy,getElem_cons_succ->Jz,getElem?_eq_none->J0,mem_cons->J1,perm_append_comm->J2,forall_mem_cons->J3,mem_of_getElem?->J4,append_assoc->J5,nil_append->J6,not_mem_nil->J8,drop_eq_getElem_cons->Jac,mem_map_of_mem->Jae,map_nil->Jaf,map_map->Jak,any_eq_true->Jal,mem_flatMap->Jam,append_nil->Jan,take_succ_cons->Jap,all_eq_true->Jat,contains_iff_mem->Jau,mem_of_mem_take->Jay,take_zero->Jaz,map_congr_left->Ja0,map_eq_nil_iff->Ja1,flatMap_cons->Ja2,getElem?_inj->Ja3,getElem_map->Ja5,length_drop->Ja6,length_take->Ja7,nodup_cons->Ja8,all_cons->Jbb,map_take->Jbc,all_nil->Jbe,map_set->Jbf
open List.cons renaming injEq->Jao
open Nat renaming le_refl->Jg,zero_add->Jm,eq_zero_or_pos->Jag,le_trans->Jar,lt_or_ge->Jav,min_eq_left->Jaw,le_of_lt->Ja4
open Option renaming getD_some->J9,map_some->Jab,getD_none->Jad,map_none->Jax
open Option.some renaming inj->Jw,injEq->Jai
open Prod.mk renaming injEq->Jbd
namespace Go.AE.Y
attribute [local go_sem] cond_true cond_false Bool.not_true Bool.not_false
open Go.Proofs.Tryz
variable {H H' H0:Heap}{K:V→Heap→Prop}
theorem Qbj8 {l:List St}{d:Int}(h:Qx l d=true):∀x∈l,0<x.args.length:=by
 intro y hy;have h1:=Jat.1 Zcd y hy;rw[St.form_eq]at h1;simp only[Jas,BF,decide_eq_true_eq]at h1;rw[h1.1.1.2.1.1.1.1.1.1.2,AO];split <;> omega
theorem Qbl0:∀(n:Nat) (l:List St) {fl:Bool} {d:Int} {H:Heap} {K:V→Heap→Prop},Qj l≤n→Qx l d=true→(∀H',Upd H H' []→K (.c (.sl false 5 (Qk (Q4 l)))) H')→Qm prog KG [.c (.sl fl 5 (Qk l))] H K:=by
 intro n
 induction n using Nat.strongRecOn with
 |_ n ih=>
 intro l fl d H K hn hf hK;have od:=BM l;refine Q1 ?_;refine Qc Aa Qbmh ?_;refine Za ?_;refine Za ?_;refine Qz (Qa ?_);simp only[go_sem];have fin:∀(H1:Heap) (e:Env) (rows:List (List C)) (t:C) (Lz:List (Nat×Obj)),Gr Lz 5 rows t→(∀S,FrzR H1 S rows (Qk (Q4 l)))→Kn H H1 [] Lz→lk 3 e=.c t→Q6 prog Nk (Qq Ac (unK H K)) e H1:=by
  intro H1 e rows t Lz hz hr kn l3;have aq:=hz.ah;refine Zi l3 aq ?_;refine Zq aq ?_;exact⟨_,.c _ _ (Gr.frzm hz (fun p hp=>⟨(kn.get p Zat).1,BP (kn.loc p hp)⟩) (hr _)),hK _ kn.fin⟩
 refine Qf (Qg (Q3 (fun m e1 H1=>∃(i:Nat) (rows:List (List C)) (dn:List St) (Lz:List (Nat×Obj)) (t:C),m=l.length-i∧i≤l.length∧Q4 l=dn++Q4 (l.drop i)∧rows.length≤i∧(∀H2 S,FrzR H2 S rows (Qk dn))∧Gr Lz 5 rows t∧Kn H H1 [] Lz∧
  e1=[(0,.c (.sl fl 5 (Qk l))),(3,.c t),(4,.c (.int .i64 i))]) l.length ?_ ?_))
 ·exact⟨0,[],[],[],.sl true 5 [],ZT,ZT,ZV,ZV,fun _ _=>.nil,.nil 5,Kn.ao H,rfl⟩
 ·rintro m e1 H1 ⟨i,rows,dn,Lz,t,hm,hi,bu,co,lz,hz,kn,rfl⟩;have aq:=hz.ah;refine Qz (Qa ?_);simp only[go_sem,Qp,aq];intro hl;simp only[LIM]at hl;refine Qf (Qb rfl ?_ ?_)
  ·intro hc;have af:i<l.length:=ZU
   have dc:=Bw (Jq af);obtain⟨x,hx⟩:∃x,l[i]=x:=⟨_,rfl⟩;have iz:x∈l:=by rw[←hx];exact Jq af
   rw[hx]at dc;have gW:=x.size_eq;have dw:l.drop i=x::l.drop (i+1):=by rw[←hx];exact (List.getElem_cons_drop af).symm
   obtain⟨dG,i4,da⟩:=Dc (Jat.1 Zb5 x iz);obtain⟨a,ar,ha⟩:∃a ar,x.args=a::ar:=by
    have:=Qbj8 hf x iz
    match h:x.args,this with
    |a::ar,_=>exact⟨a,ar,rfl⟩
   have df:AC x.args=a:=by rw[ha];rfl
   have jo:0<(Ql x.args).length:=by rw[Qh,ha];simp
   have ea:(Ql x.args).getD 0 []=[.int .i64 a.op,.int .i64 a.n,.str a.name,.sl false 4 (Ql a.kids)]:=by rw[ha];simp only[Ql];exact a.aa
   refine Zc ?_
   refine Qf (Qg ?_);refine ZF aq af hx ?_;intro x5 cp H3 h3;have kn:Kn H H3 [] (Lz++(x5,.st [.int .i64 0,.str [],.sl true 4 [],.sl true 5 [],.sl true 5 []])::[]):=kn.al cp h3;have g5:=kn.getM;simp only[go_sem,Sa,g5,aq];intro H4 h4;have kn:Kn H H4 [] (Lz++(x5,stX x.op x.name (.sl false 4 (Ql x.args)) (.sl false 5 (Qk x.body)) (.sl false 5 (Qk x.els)))::[]):=kn.stM h4;have g5:=kn.getM;refine Qa ?_;simp only[go_sem,aq,g5,jo,ea,Jj,Ji,Jap,Jaz,Jbb,Jbe];refine⟨ZT,fun x6 cB H5 h5=>?_⟩;have kn:Kn H H5 [] ([(x5,stX x.op x.name (.sl false 4 (Ql x.args)) (.sl false 5 (Qk x.body)) (.sl false 5 (Qk x.els))),(x6,.st z4)]++Lz):=(kn.al cB h5).perm (by
    rw[J5];exact J2)
   have g6:=kn.l 1 rfl;simp only[go_sem,Nj,g6,aq,Jj,Ji,Jap,Jaz,Jbb,Jbe];intro H6 h6;have kn:Kn H H6 [] ([(x5,stX x.op x.name (.sl false 4 (Ql x.args)) (.sl false 5 (Qk x.body)) (.sl false 5 (Qk x.els))),(x6,.st [.int .i64 a.op,.int .i64 a.n,.str a.name,.sl false 4 (Ql a.kids)])]++Lz):=kn.ax 1 rfl h6;have g5:=kn.l 0 rfl;refine Zi aq g5 ?_;refine ih (Qj x.body) ZT x.body (Jg _) i4 fun H6 hu=>?_;have kn:=kn.ay hu;have g5:=kn.l 0 rfl;simp only[go_sem,Ni,aq,g5];intro H7 h7;have kn:=kn.ax 0 rfl h7;have g5:=kn.l 0 rfl;refine Zi aq g5 ?_;refine ih (Qj x.els) ZT x.els (Jg _) da fun H7 hu=>?_;have kn:=kn.ay hu;have g5:=kn.l 0 rfl;simp only[go_sem,Nh,aq,g5];intro H8 h8;have kn:Kn H H8 [] ([(x5,stX x.op x.name (.sl false 4 (Ql x.args)) (.sl false 5 (Qk (Q4 x.body))) (.sl false 5 (Qk (Q4 x.els)))),(x6,.st [.int .i64 a.op,.int .i64 a.n,.str a.name,.sl false 4 (Ql a.kids)])]++Lz):=kn.ax 0 rfl h8;have g5:=kn.l 0 rfl;have g6:=kn.l 1 rfl;refine Qz ?_;by_cases o6:x.op=6
   ·have d6:decide (x.op=6)=true:=decide_eq_true o6;refine ZG aq g5 g6 d6 ?_;refine Dp ?_;cases za:isN a 0
    rotate_left
    ·simp only[go_sem,Si];refine Qf (Qb rfl (fun _=>?_) (fun h=>by simp[lk]at h));refine Zg ?_;refine Zl aq ?_;refine⟨Qv,l.length-(i+1),ZT,i+1,rows,dn,Lz,t,rfl,ZT,?_,ZT,lz,hz,kn.sub (List.sublist_append_right _ _),rfl⟩;rw[bu,dw,Q4,if_pos ⟨o6,by rw[df];exact za⟩]
    ·have jj:¬(x.op=6∧isN (AC x.args) 0=true):=fun h=>(by rw[df,za]at h;cases h.2);simp only[go_sem,Si];refine Qf (Qb rfl (fun h=>by simp[lk]at h) (fun _=>?_));refine Zc ?_
     refine Qz ?_;by_cases o5:x.op=5∧a.op=1
     ·have d5:decide (x.op=5)=true:=decide_eq_true o5.1;have d1:decide (a.op=1)=true:=decide_eq_true o5.2;refine Zj aq g5 g6 d5 d1 ?_;refine Qf (Qb rfl (fun _=>?_) (fun h=>by simp[lk]at h));refine Zi aq g6 ?_;refine Qb rfl (fun au=>?_) (fun au=>?_)
      ·have eD:¬a.n=0:=ZZ;refine ZE aq g5 ?_;intro H9 h9;have kn:Kn H H9 [] ([(x5,stX x.op x.name (.sl false 4 (Ql x.args)) (.sl false 5 (Qk (Q4 x.body))) (.sl true 5 [])),(x6,.st [.int .i64 a.op,.int .i64 a.n,.str a.name,.sl false 4 (Ql a.kids)])]++Lz):=kn.ax 0 rfl h9;have g5:=kn.l 0 rfl;refine Zi g5 aq ?_;refine kn.aQ hz (new:=[[.int .i64 x.op,.str x.name,.sl false 4 (Ql x.args),.sl false 5 (Qk (Q4 x.body)),.sl true 5 []]]) (.mk' _ true 5 _) Zax Zay fun t' Lz' H10 bF aR kn=>?_;have g5:=kn.l 0 rfl;have bw:∀H2 S,FrzR H2 S (rows++[[.int .i64 x.op,.str x.name,.sl false 4 (Ql x.args),.sl false 5 (Qk (Q4 x.body)),.sl true 5 []]]) (Qk (dn++[x.cutS])):=fun H2 S=>by
        rw[←EC];refine (lz H2 S).app (.cons ?_ .nil);rw[St.aa,St.cutS_op,St.cutS_name,St.cutS_args,show x.cutS.body=Q4 x.body from by rw[St.cutS_eq,A9,if_pos ⟨o5.1,by rw[df];exact o5.2⟩,if_neg ZaN];rfl,show x.cutS.els=[] from by rw[St.cutS_eq,A9,if_pos ⟨o5.1,by rw[df];exact o5.2⟩,if_neg ZaN];rfl];exact .cons (Qe rfl) (.cons (Qe rfl) (.cons (FrzR.same (Bb _)).sl (.cons (FrzR.same (by first|exact AQ _|(intro r hr;cases hr))).sl (.cons (FrzR.same (by first|exact AQ _|(intro r hr;cases hr))).sl .nil))))
       simp only[go_sem,EM,aR];refine Qa ?_;cases d7:decide (x.op=7)
       ·simp only[go_sem,g5,aR,d7];refine Qb rfl (fun h=>by simp[lk]at h) (fun _=>?_);refine Zf ?_
        refine Zl aR ?_;refine⟨Qv,l.length-(i+1),ZT,i+1,_,dn++[x.cutS],Lz',t',rfl,ZT,?_,by simp only[Ju,Jj,Ji];omega,bw,bF,kn.sub (List.sublist_append_right _ _),rfl⟩;rw[bu,dw,Q4,if_neg jj,if_neg (of_decide_eq_false d7)];simp
       ·simp only[go_sem,g5,aR,d7];refine Qb rfl (fun _=>?_) (fun h=>by simp[lk]at h);refine Zy ?_
        exact fin _ _ _ t' Lz' bF (fun S=>by rw[bu,dw,Q4,if_neg jj,if_pos (of_decide_eq_true d7)];exact bw _ _) (kn.sub (List.sublist_append_right _ _)) rfl
      ·have eD:a.n=0:=ZZ;refine ZE aq g5 ?_;intro H9 h9;have kn:Kn H H9 [] ([(x5,stX x.op x.name (.sl false 4 (Ql x.args)) (.sl true 5 []) (.sl false 5 (Qk (Q4 x.els)))),(x6,.st [.int .i64 a.op,.int .i64 a.n,.str a.name,.sl false 4 (Ql a.kids)])]++Lz):=kn.ax 0 rfl h9;have g5:=kn.l 0 rfl;refine Zi g5 aq ?_;refine kn.aQ hz (new:=[[.int .i64 x.op,.str x.name,.sl false 4 (Ql x.args),.sl true 5 [],.sl false 5 (Qk (Q4 x.els))]]) (.mk' _ true 5 _) Zax Zay fun t' Lz' H10 bF aR kn=>?_;have g5:=kn.l 0 rfl;have bw:∀H2 S,FrzR H2 S (rows++[[.int .i64 x.op,.str x.name,.sl false 4 (Ql x.args),.sl true 5 [],.sl false 5 (Qk (Q4 x.els))]]) (Qk (dn++[x.cutS])):=fun H2 S=>by
        rw[←EC];refine (lz H2 S).app (.cons ?_ .nil);rw[St.aa,St.cutS_op,St.cutS_name,St.cutS_args,show x.cutS.body=[] from by rw[St.cutS_eq,A9,if_pos ⟨o5.1,by rw[df];exact o5.2⟩,if_pos ZaN];rfl,show x.cutS.els=Q4 x.els from by rw[St.cutS_eq,A9,if_pos ⟨o5.1,by rw[df];exact o5.2⟩,if_pos ZaN];rfl];exact .cons (Qe rfl) (.cons (Qe rfl) (.cons (FrzR.same (Bb _)).sl (.cons (FrzR.same (by first|exact AQ _|(intro r hr;cases hr))).sl (.cons (FrzR.same (by first|exact AQ _|(intro r hr;cases hr))).sl .nil))))
       simp only[go_sem,EM,aR];refine Qa ?_;cases d7:decide (x.op=7)
       ·simp only[go_sem,g5,aR,d7];refine Qb rfl (fun h=>by simp[lk]at h) (fun _=>?_);refine Zf ?_
        refine Zl aR ?_;refine⟨Qv,l.length-(i+1),ZT,i+1,_,dn++[x.cutS],Lz',t',rfl,ZT,?_,by simp only[Ju,Jj,Ji];omega,bw,bF,kn.sub (List.sublist_append_right _ _),rfl⟩;rw[bu,dw,Q4,if_neg jj,if_neg (of_decide_eq_false d7)];simp
       ·simp only[go_sem,g5,aR,d7];refine Qb rfl (fun _=>?_) (fun h=>by simp[lk]at h);refine Zy ?_
        exact fin _ _ _ t' Lz' bF (fun S=>by rw[bu,dw,Q4,if_neg jj,if_pos (of_decide_eq_true d7)];exact bw _ _) (kn.sub (List.sublist_append_right _ _)) rfl
     ·cases d5:decide (x.op=5) <;> cases d1:decide (a.op=1)
      all_goals
       first|(exfalso;exact o5 ⟨of_decide_eq_true d5,of_decide_eq_true d1⟩)|skip
      all_goals
       refine Zj aq g5 g6 d5 d1 ?_;refine Qf (Qb rfl (fun h=>by simp[lk]at h) (fun _=>?_));refine Zc ?_
       refine Zi g5 aq ?_;refine kn.aQ hz (new:=[[.int .i64 x.op,.str x.name,.sl false 4 (Ql x.args),.sl false 5 (Qk (Q4 x.body)),.sl false 5 (Qk (Q4 x.els))]]) (.mk' _ true 5 _) Zax Zay fun t' Lz' H10 bF aR kn=>?_;have g5:=kn.l 0 rfl;have bw:∀H2 S,FrzR H2 S (rows++[[.int .i64 x.op,.str x.name,.sl false 4 (Ql x.args),.sl false 5 (Qk (Q4 x.body)),.sl false 5 (Qk (Q4 x.els))]]) (Qk (dn++[x.cutS])):=fun H2 S=>by
        rw[←EC];refine (lz H2 S).app (.cons ?_ .nil);rw[St.aa,St.cutS_op,St.cutS_name,St.cutS_args,show x.cutS.body=Q4 x.body from by rw[St.cutS_eq,A9,if_neg ZbH];rfl,show x.cutS.els=Q4 x.els from by rw[St.cutS_eq,A9,if_neg ZbH];rfl];exact .cons (Qe rfl) (.cons (Qe rfl) (.cons (FrzR.same (Bb _)).sl (.cons (FrzR.same (by first|exact AQ _|(intro r hr;cases hr))).sl (.cons (FrzR.same (by first|exact AQ _|(intro r hr;cases hr))).sl .nil))))
       simp only[go_sem,EM,aR];refine Qa ?_;cases d7:decide (x.op=7)
       ·simp only[go_sem,g5,aR,d7];refine Qb rfl (fun h=>by simp[lk]at h) (fun _=>?_);refine Zf ?_
        refine Zl aR ?_;refine⟨Qv,l.length-(i+1),ZT,i+1,_,dn++[x.cutS],Lz',t',rfl,ZT,?_,by simp only[Ju,Jj,Ji];omega,bw,bF,kn.sub (List.sublist_append_right _ _),rfl⟩;rw[bu,dw,Q4,if_neg jj,if_neg (of_decide_eq_false d7)];simp
       ·simp only[go_sem,g5,aR,d7];refine Qb rfl (fun _=>?_) (fun h=>by simp[lk]at h);refine Zy ?_
        exact fin _ _ _ t' Lz' bF (fun S=>by rw[bu,dw,Q4,if_neg jj,if_pos (of_decide_eq_true d7)];exact bw _ _) (kn.sub (List.sublist_append_right _ _)) rfl
   ·have d6:decide (x.op=6)=false:=decide_eq_false o6;have jj:¬(x.op=6∧isN (AC x.args) 0=true):=fun h=>o6 h.1;refine Qa ?_;simp only[go_sem,aq,g5,g6,d6,Si];refine Qf (Qb rfl (fun h=>by simp[lk]at h) (fun _=>?_));refine Zc ?_
    refine Qz ?_;by_cases o5:x.op=5∧a.op=1
    ·have d5:decide (x.op=5)=true:=decide_eq_true o5.1;have d1:decide (a.op=1)=true:=decide_eq_true o5.2;refine Zj aq g5 g6 d5 d1 ?_;refine Qf (Qb rfl (fun _=>?_) (fun h=>by simp[lk]at h));refine Zi aq g6 ?_;refine Qb rfl (fun au=>?_) (fun au=>?_)
     ·have eD:¬a.n=0:=ZZ;refine ZE aq g5 ?_;intro H9 h9;have kn:Kn H H9 [] ([(x5,stX x.op x.name (.sl false 4 (Ql x.args)) (.sl false 5 (Qk (Q4 x.body))) (.sl true 5 [])),(x6,.st [.int .i64 a.op,.int .i64 a.n,.str a.name,.sl false 4 (Ql a.kids)])]++Lz):=kn.ax 0 rfl h9;have g5:=kn.l 0 rfl;refine Zi g5 aq ?_;refine kn.aQ hz (new:=[[.int .i64 x.op,.str x.name,.sl false 4 (Ql x.args),.sl false 5 (Qk (Q4 x.body)),.sl true 5 []]]) (.mk' _ true 5 _) Zax Zay fun t' Lz' H10 bF aR kn=>?_;have g5:=kn.l 0 rfl;have bw:∀H2 S,FrzR H2 S (rows++[[.int .i64 x.op,.str x.name,.sl false 4 (Ql x.args),.sl false 5 (Qk (Q4 x.body)),.sl true 5 []]]) (Qk (dn++[x.cutS])):=fun H2 S=>by
       rw[←EC];refine (lz H2 S).app (.cons ?_ .nil);rw[St.aa,St.cutS_op,St.cutS_name,St.cutS_args,show x.cutS.body=Q4 x.body from by rw[St.cutS_eq,A9,if_pos ⟨o5.1,by rw[df];exact o5.2⟩,if_neg ZaN];rfl,show x.cutS.els=[] from by rw[St.cutS_eq,A9,if_pos ⟨o5.1,by rw[df];exact o5.2⟩,if_neg ZaN];rfl];exact .cons (Qe rfl) (.cons (Qe rfl) (.cons (FrzR.same (Bb _)).sl (.cons (FrzR.same (by first|exact AQ _|(intro r hr;cases hr))).sl (.cons (FrzR.same (by first|exact AQ _|(intro r hr;cases hr))).sl .nil))))
      simp only[go_sem,EM,aR];refine Qa ?_;cases d7:decide (x.op=7)
      ·simp only[go_sem,g5,aR,d7];refine Qb rfl (fun h=>by simp[lk]at h) (fun _=>?_);refine Zf ?_
       refine Zl aR ?_;refine⟨Qv,l.length-(i+1),ZT,i+1,_,dn++[x.cutS],Lz',t',rfl,ZT,?_,by simp only[Ju,Jj,Ji];omega,bw,bF,kn.sub (List.sublist_append_right _ _),rfl⟩;rw[bu,dw,Q4,if_neg jj,if_neg (of_decide_eq_false d7)];simp
      ·simp only[go_sem,g5,aR,d7];refine Qb rfl (fun _=>?_) (fun h=>by simp[lk]at h);refine Zy ?_
       exact fin _ _ _ t' Lz' bF (fun S=>by rw[bu,dw,Q4,if_neg jj,if_pos (of_decide_eq_true d7)];exact bw _ _) (kn.sub (List.sublist_append_right _ _)) rfl
     ·have eD:a.n=0:=ZZ;refine ZE aq g5 ?_;intro H9 h9;have kn:Kn H H9 [] ([(x5,stX x.op x.name (.sl false 4 (Ql x.args)) (.sl true 5 []) (.sl false 5 (Qk (Q4 x.els)))),(x6,.st [.int .i64 a.op,.int .i64 a.n,.str a.name,.sl false 4 (Ql a.kids)])]++Lz):=kn.ax 0 rfl h9;have g5:=kn.l 0 rfl;refine Zi g5 aq ?_;refine kn.aQ hz (new:=[[.int .i64 x.op,.str x.name,.sl false 4 (Ql x.args),.sl true 5 [],.sl false 5 (Qk (Q4 x.els))]]) (.mk' _ true 5 _) Zax Zay fun t' Lz' H10 bF aR kn=>?_;have g5:=kn.l 0 rfl;have bw:∀H2 S,FrzR H2 S (rows++[[.int .i64 x.op,.str x.name,.sl false 4 (Ql x.args),.sl true 5 [],.sl false 5 (Qk (Q4 x.els))]]) (Qk (dn++[x.cutS])):=fun H2 S=>by
       rw[←EC];refine (lz H2 S).app (.cons ?_ .nil);rw[St.aa,St.cutS_op,St.cutS_name,St.cutS_args,show x.cutS.body=[] from by rw[St.cutS_eq,A9,if_pos ⟨o5.1,by rw[df];exact o5.2⟩,if_pos ZaN];rfl,show x.cutS.els=Q4 x.els from by rw[St.cutS_eq,A9,if_pos ⟨o5.1,by rw[df];exact o5.2⟩,if_pos ZaN];rfl];exact .cons (Qe rfl) (.cons (Qe rfl) (.cons (FrzR.same (Bb _)).sl (.cons (FrzR.same (by first|exact AQ _|(intro r hr;cases hr))).sl (.cons (FrzR.same (by first|exact AQ _|(intro r hr;cases hr))).sl .nil))))
      simp only[go_sem,EM,aR];refine Qa ?_;cases d7:decide (x.op=7)
      ·simp only[go_sem,g5,aR,d7];refine Qb rfl (fun h=>by simp[lk]at h) (fun _=>?_);refine Zf ?_
       refine Zl aR ?_;refine⟨Qv,l.length-(i+1),ZT,i+1,_,dn++[x.cutS],Lz',t',rfl,ZT,?_,by simp only[Ju,Jj,Ji];omega,bw,bF,kn.sub (List.sublist_append_right _ _),rfl⟩;rw[bu,dw,Q4,if_neg jj,if_neg (of_decide_eq_false d7)];simp
      ·simp only[go_sem,g5,aR,d7];refine Qb rfl (fun _=>?_) (fun h=>by simp[lk]at h);refine Zy ?_
       exact fin _ _ _ t' Lz' bF (fun S=>by rw[bu,dw,Q4,if_neg jj,if_pos (of_decide_eq_true d7)];exact bw _ _) (kn.sub (List.sublist_append_right _ _)) rfl
    ·cases d5:decide (x.op=5) <;> cases d1:decide (a.op=1)
     all_goals
      first|(exfalso;exact o5 ⟨of_decide_eq_true d5,of_decide_eq_true d1⟩)|skip
     all_goals
      refine Zj aq g5 g6 d5 d1 ?_;refine Qf (Qb rfl (fun h=>by simp[lk]at h) (fun _=>?_));refine Zc ?_
      refine Zi g5 aq ?_;refine kn.aQ hz (new:=[[.int .i64 x.op,.str x.name,.sl false 4 (Ql x.args),.sl false 5 (Qk (Q4 x.body)),.sl false 5 (Qk (Q4 x.els))]]) (.mk' _ true 5 _) Zax Zay fun t' Lz' H10 bF aR kn=>?_;have g5:=kn.l 0 rfl;have bw:∀H2 S,FrzR H2 S (rows++[[.int .i64 x.op,.str x.name,.sl false 4 (Ql x.args),.sl false 5 (Qk (Q4 x.body)),.sl false 5 (Qk (Q4 x.els))]]) (Qk (dn++[x.cutS])):=fun H2 S=>by
       rw[←EC];refine (lz H2 S).app (.cons ?_ .nil);rw[St.aa,St.cutS_op,St.cutS_name,St.cutS_args,show x.cutS.body=Q4 x.body from by rw[St.cutS_eq,A9,if_neg ZbH];rfl,show x.cutS.els=Q4 x.els from by rw[St.cutS_eq,A9,if_neg ZbH];rfl];exact .cons (Qe rfl) (.cons (Qe rfl) (.cons (FrzR.same (Bb _)).sl (.cons (FrzR.same (by first|exact AQ _|(intro r hr;cases hr))).sl (.cons (FrzR.same (by first|exact AQ _|(intro r hr;cases hr))).sl .nil))))
      simp only[go_sem,EM,aR];refine Qa ?_;cases d7:decide (x.op=7)
      ·simp only[go_sem,g5,aR,d7];refine Qb rfl (fun h=>by simp[lk]at h) (fun _=>?_);refine Zf ?_
       refine Zl aR ?_;refine⟨Qv,l.length-(i+1),ZT,i+1,_,dn++[x.cutS],Lz',t',rfl,ZT,?_,by simp only[Ju,Jj,Ji];omega,bw,bF,kn.sub (List.sublist_append_right _ _),rfl⟩;rw[bu,dw,Q4,if_neg jj,if_neg (of_decide_eq_false d7)];simp
      ·simp only[go_sem,g5,aR,d7];refine Qb rfl (fun _=>?_) (fun h=>by simp[lk]at h);refine Zy ?_
       exact fin _ _ _ t' Lz' bF (fun S=>by rw[bu,dw,Q4,if_neg jj,if_pos (of_decide_eq_true d7)];exact bw _ _) (kn.sub (List.sublist_append_right _ _)) rfl
  ·intro hc;have aV:l.length≤i:=ZU
   rw[Jy aV,Q4,Jan]at bu;refine Zg ?_;exact fin _ _ rows t Lz hz (fun S=>by rw[bu];exact lz _ _) kn rfl
end Go.AE.Y
namespace Go.AE.Y
attribute [local go_sem] cond_true cond_false Bool.not_true Bool.not_false
open Go.Proofs.Tryz
variable {H H0 F:Heap}{K:V→Heap→Prop}{E B Lg:List (Nat×Obj)}{fns:List Fn}
theorem Qawv:∀(n:Nat) (x y:Ex) {H:Heap} {K:V→Heap→Prop},x.size≤n→(∀r,(r=true↔x=y)→K (.c (.bool r)) H)→Qm prog Q2h [.ag x.cells,.ag y.cells] H K:=by
 intro n
 induction n with
 |zero=>intro x y H K h;have:=x.size_pos;omega
 |succ n ih=>
 intro x y H K hn hK;have aO:=x.size_kids;have no:¬x=y→K (.c (.bool false)) H:=fun h=>hK _ (fiff h);refine Qc Aa Qau5 ?_;refine Qa ?_;simp only[go_sem,x.aa,y.aa];refine Qz ?_;by_cases eop:x.op=y.op
 rotate_left
 ·have dop:decide (x.op=y.op)=false:=decide_eq_false eop;refine Qa ?_;simp only[go_sem,Qh,dop];try intro _
  try intro _
  try intro _
  refine Qf (Qb rfl (fun _=>?_) (fun hc=>Zam));refine Za ?_;refine Zh ?_;exact no (fun h=>eop Zau)
 have dop:decide (x.op=y.op)=true:=decide_eq_true eop;by_cases en:x.n=y.n
 rotate_left
 ·have dn:decide (x.n=y.n)=false:=decide_eq_false en;refine Qa ?_;simp only[go_sem,Qh,dop,dn];try intro _
  try intro _
  try intro _
  refine Qf (Qb rfl (fun _=>?_) (fun hc=>Zam));refine Za ?_;refine Zh ?_;exact no (fun h=>en Zau)
 have dn:decide (x.n=y.n)=true:=decide_eq_true en;by_cases ename:x.name=y.name
 rotate_left
 ·have dname:decide (x.name=y.name)=false:=decide_eq_false ename;refine Qa ?_;simp only[go_sem,Qh,dop,dn,dname];try intro _
  try intro _
  try intro _
  refine Qf (Qb rfl (fun _=>?_) (fun hc=>Zam));refine Za ?_;refine Zh ?_;exact no (fun h=>ename Zau)
 have dname:decide (x.name=y.name)=true:=decide_eq_true ename;by_cases elen:x.kids.length=y.kids.length
 rotate_left
 ·have dlen:decide (((x.kids.length:Int)=(y.kids.length:Int)))=false:=decide_eq_false (fun h=>elen ZT);refine Qa ?_;simp only[go_sem,Qh,dop,dn,dname,dlen];try intro _
  try intro _
  try intro _
  refine Qf (Qb rfl (fun _=>?_) (fun hc=>Zam));refine Za ?_;refine Zh ?_;exact no (fun h=>elen Zau)
 have dlen:decide (((x.kids.length:Int)=(y.kids.length:Int)))=true:=decide_eq_true ZT;refine Qa ?_;simp only[go_sem,Qh,dop,dn,dname,dlen];try intro _
 try intro _
 try intro _
 refine Qf (Qb rfl (fun h=>Zaa) (fun _=>?_));refine Zc ?_
 refine Qz (Qa ?_);simp only[go_sem];refine Qf (Qg (Q3 (fun m e1 H1=>∃(i:Nat),m=x.kids.length-i∧i≤x.kids.length∧x.kids.take i=y.kids.take i∧H1=H∧e1=[(2,.c (.pp [.int .i64 x.op,.int .i64 x.n,.str x.name,.sl false 4 (Ql x.kids)])),(3,.c (.pp [.int .i64 y.op,.int .i64 y.n,.str y.name,.sl false 4 (Ql y.kids)])),(5,.c (.int .i64 i))]) x.kids.length ?_ ?_))
 ·exact⟨0,ZT,ZT,ZV,rfl,rfl⟩
 ·rintro m e1 H1 ⟨i,hm,hi,fo,rfl,rfl⟩;refine Qz (Qa ?_);simp only[go_sem,Qh];intro hl;simp only[LIM]at hl;refine Qf (Qb rfl ?_ ?_)
  ·intro hc;have af:i<x.kids.length:=ZU
   have aD:i<y.kids.length:=ZT
   have dc:=Bn (Jq af);obtain⟨z,hz⟩:∃z,x.kids[i]=z:=⟨_,rfl⟩;obtain⟨w,hw⟩:∃z,y.kids[i]=z:=⟨_,rfl⟩;rw[hz]at dc;refine Zc ?_
   refine Qf (Qg ?_);refine An ?_;simp only[go_sem,af,aD,Qh,Qs _ _ af,Qs _ _ aD,hz,hw,Ex.bA,Ex.aU,Ex.ae];refine ih z w ZT fun rr gX=>?_;simp only[go_sem,Qt5];refine Qb rfl (fun au=>?_) (fun au=>?_)
   ·have aP:¬x.kids[i]=y.kids[i]:=fun h=>(by rw[hz,hw]at h;rw[gX.2 h]at au;simp at au);refine Za ?_;refine Zh ?_;exact no fun h=>Bt af aD aP Zau
   have ik:x.kids[i]=y.kids[i]:=by rw[hz,hw];exact gX.1 ZZ
   refine Zt ?_;refine Zk ?_;exact⟨Qv,x.kids.length-(i+1),ZT,i+1,rfl,ZT,Do fo af aD ik,rfl⟩
  ·intro hc;have iL:x.kids.length≤i:=ZU
   refine Zg ?_;refine Za ?_;refine Zb ?_;exact hK _ (tiff (Ex.ext4 eop en ename (Ew fo iL elen)))
theorem Qbat {f g:Bool}{ns ms:List (List UInt8)}(hK:∀r,(r=true↔ns=ms)→K (.c (.bool r)) H):Qm prog LR [.c (.sl f 1 (Q5 ns)),.c (.sl g 1 (Q5 ms))] H K:=by
 refine Qc Aa Qbg5 ?_;refine Za ?_;refine Qz (Qa ?_);simp only[go_sem,Qt];intro hl eW;try intro _
 simp only[LIM]at hl eW;refine Qf (Qb rfl (fun hc=>?_) (fun hc=>?_))
 ·have aP:¬ns.length=ms.length:=fun h=>ZaB
  refine Za ?_;refine Zb ?_;exact hK _ (fiff (Ce aP))
 have aE:ns.length=ms.length:=(by have:(ns.length:Int)=ms.length:=(by simpa using hc);omega);refine Zc ?_
 refine Qz (Qa ?_);simp only[go_sem,Qt];try intro _
 refine Qf (Qg (Q3 (fun m e1 H1=>∃(i:Nat),m=ns.length-i∧i≤ns.length∧ns.take i=ms.take i∧H1=H∧e1=[(0,.c (.sl f 1 (Q5 ns))),(1,.c (.sl g 1 (Q5 ms))),(5,.c (.int .i64 i))]) ns.length ?_ ?_))
 ·exact⟨0,ZT,ZT,ZV,rfl,rfl⟩
 ·rintro m e1 H1 ⟨i,hm,hi,hp,rfl,rfl⟩;refine Qz (Qa ?_);simp only[go_sem,Qt];try intro _
  refine Qf (Qb rfl ?_ ?_)
  ·intro hc;have af:i<ns.length:=ZU
   have aD:i<ms.length:=ZT
   refine Zc ?_
   refine Qf (Qg ?_);refine An ?_;simp only[go_sem,af,aD,Qt,BT _ _ af,BT _ _ aD];refine Qb rfl (fun au=>?_) (fun au=>?_)
   ·have aP:¬ns[i]=ms[i]:=(by simpa[Js af,Js aD]using au);refine Za ?_;refine Zh ?_;exact hK _ (fiff (Bt af aD aP))
   have ik:ns[i]=ms[i]:=by simpa[Js af,Js aD]using au
   refine Zc ?_
   refine Zk ?_;exact⟨Qv,ns.length-(i+1),ZT,i+1,rfl,ZT,Do hp af aD ik,rfl⟩
  ·intro hc;have iL:ns.length≤i:=ZU
   refine Zg ?_;refine Za ?_;refine Zb ?_;exact hK _ (tiff (Ew hp iL aE))
theorem Qauk:∀(n:Nat) (l l':List St) {f g:Bool} {H:Heap} {K:V→Heap→Prop},Qj l≤n→(∀r,(r=true↔l=l')→K (.c (.bool r)) H)→Qm prog Q7a [.c (.sl f 5 (Qk l)),.c (.sl g 5 (Qk l'))] H K:=by
 intro n
 induction n using Nat.strongRecOn with
 |_ n ih=>
 intro l l' f g H K hn hK;have no:¬l=l'→K (.c (.bool false)) H:=fun h=>hK _ (fiff h);refine Qc Aa Qaye ?_;refine Za ?_;refine Qz (Qa ?_);simp only[go_sem,Qp];intro hl eW;try intro _
 simp only[LIM]at hl eW;refine Qf (Qb rfl (fun hc=>?_) (fun hc=>?_))
 ·have aP:¬l.length=l'.length:=fun h=>ZaB
  refine Za ?_;refine Zh ?_;exact no (Ce aP)
 have aE:l.length=l'.length:=(by have:(l.length:Int)=l'.length:=(by simpa using hc);omega);refine Zc ?_
 refine Qz (Qa ?_);simp only[go_sem];refine Qf (Qg (Q3 (fun m e1 H1=>∃(i:Nat),m=l.length-i∧i≤l.length∧l.take i=l'.take i∧H1=H∧e1=[(0,.c (.sl f 5 (Qk l))),(1,.c (.sl g 5 (Qk l'))),(5,.c (.int .i64 i))]) l.length ?_ ?_))
 ·exact⟨0,ZT,ZT,ZV,rfl,rfl⟩
 ·rintro m e1 H1 ⟨i,hm,hi,fo,rfl,rfl⟩;refine Qz (Qa ?_);simp only[go_sem,Qp];try intro _
  refine Qf (Qb rfl ?_ ?_)
  ·intro hc;have af:i<l.length:=ZU
   have aD:i<l'.length:=ZT
   have dc:=Bw (Jq af);obtain⟨x,hx⟩:∃x,l[i]=x:=⟨_,rfl⟩;obtain⟨y,hy⟩:∃x,l'[i]=x:=⟨_,rfl⟩;rw[hx]at dc;have gW:=x.size_eq;have no2:¬x=y→K (.c (.bool false)) H1:=fun h=>no (Bt af aD (by rw[hx,hy];exact h));refine Zc ?_
   refine Qf (Qg ?_);refine Qz ?_;by_cases eop:x.op=y.op
   rotate_left
   ·have dop:decide (x.op=y.op)=false:=decide_eq_false eop;refine An ?_;simp only[go_sem,af,aD,Qp,Q9 _ _ af,Q9 _ _ aD,hx,hy,x.aa,y.aa,Qh,dop];try intro _
    try intro _
    try intro _
    refine Qf (Qb rfl (fun _=>?_) (fun hc=>Zam));refine Za ?_;refine Zh ?_;exact no2 (fun h=>eop Zau)
   have dop:decide (x.op=y.op)=true:=decide_eq_true eop;by_cases ename:x.name=y.name
   rotate_left
   ·have dname:decide (x.name=y.name)=false:=decide_eq_false ename;refine An ?_;simp only[go_sem,af,aD,Qp,Q9 _ _ af,Q9 _ _ aD,hx,hy,x.aa,y.aa,Qh,dop,dname];try intro _
    try intro _
    try intro _
    refine Qf (Qb rfl (fun _=>?_) (fun hc=>Zam));refine Za ?_;refine Zh ?_;exact no2 (fun h=>ename Zau)
   have dname:decide (x.name=y.name)=true:=decide_eq_true ename;by_cases elen:x.args.length=y.args.length
   rotate_left
   ·have dlen:decide (((x.args.length:Int)=(y.args.length:Int)))=false:=decide_eq_false (fun h=>elen ZT);refine An ?_;simp only[go_sem,af,aD,Qp,Q9 _ _ af,Q9 _ _ aD,hx,hy,x.aa,y.aa,Qh,dop,dname,dlen];try intro _
    try intro _
    try intro _
    refine Qf (Qb rfl (fun _=>?_) (fun hc=>Zam));refine Za ?_;refine Zh ?_;exact no2 (fun h=>elen Zau)
   have dlen:decide (((x.args.length:Int)=(y.args.length:Int)))=true:=decide_eq_true ZT;refine An ?_;simp only[go_sem,af,aD,Qp,Q9 _ _ af,Q9 _ _ aD,hx,hy,x.aa,y.aa,Qh,dop,dname,dlen];try intro _
   try intro _
   try intro _
   refine Qf (Qb rfl (fun h=>Zaa) (fun _=>?_));refine Zc ?_
   refine Qz (Qa ?_);simp only[go_sem];refine Qf (Qg (Q3 (fun m2 e2 H2=>∃(j:Nat),m2=x.args.length-j∧j≤x.args.length∧x.args.take j=y.args.take j∧H2=H1∧e2=[(0,.c (.sl f 5 (Qk l))),(1,.c (.sl g 5 (Qk l'))),(5,.c (.int .i64 i)),(6,.c (.int .i64 j))]) x.args.length ?_ ?_))
   ·exact⟨0,ZT,ZT,ZV,rfl,rfl⟩
   ·rintro m2 e2 H2 ⟨j,aZ,hj,ox,rfl,rfl⟩;refine Qz (Qa ?_);simp only[go_sem,af,aD,Qp,Q9 _ _ af,Q9 _ _ aD,hx,hy,x.aa,y.aa,Qh];intro oS;simp only[LIM]at oS;refine Qf (Qb rfl ?_ ?_)
    ·intro au;have jlt:j<x.args.length:=ZZ;have jlt2:j<y.args.length:=ZT;obtain⟨z,hz⟩:∃y,x.args[j]=y:=⟨_,rfl⟩;obtain⟨w,hw⟩:∃z,y.args[j]=z:=⟨_,rfl⟩;refine Zc ?_
     refine Qf (Qg ?_);refine An ?_;simp only[go_sem,af,aD,Qp,Q9 _ _ af,Q9 _ _ aD,hx,hy,x.aa,y.aa,jlt,jlt2,Qh,Qs _ _ jlt,Qs _ _ jlt2,hz,hw,Ex.bA,Ex.aU,Ex.ae];refine Qawv z.size z w (Jg _) fun rr gX=>?_;simp only[go_sem,Qyb];refine Qb rfl (fun bT=>?_) (fun bT=>?_)
     ·have aP:¬x.args[j]=y.args[j]:=fun h=>(by rw[hz,hw]at h;rw[gX.2 h]at bT;simp at bT);refine Za ?_;refine Zh ?_;exact no2 fun h=>Bt jlt jlt2 aP Zau
     have ik:x.args[j]=y.args[j]:=(by rw[hz,hw];exact gX.1 (by simpa using bT));refine Zt ?_;refine Zk ?_;exact⟨Qv,x.args.length-(j+1),ZT,j+1,rfl,ZT,Do ox jlt jlt2 ik,rfl⟩
    ·intro au;have rK:x.args.length≤j:=ZZ;have eargs:=Ew ox rK elen;refine Zg ?_;refine An ?_;simp only[go_sem,af,aD,Qp,Q9 _ _ af,Q9 _ _ aD,hx,hy,x.aa,y.aa];refine ih (Qj x.body) ZT x.body y.body (Jg _) fun r1 h1=>?_
     cases r1 with
     |false=>
      simp only[go_sem,Vd,Ve];refine Qb rfl (fun _=>?_) (fun hc=>Zam);refine Za ?_;refine Zh ?_;exact no2 fun h=>by simpa using h1.2 Zau
     |true=>
      simp only[go_sem,Vd,af,aD,Qp,Q9 _ _ af,Q9 _ _ aD,hx,hy,x.aa,y.aa];refine ih (Qj x.els) ZT x.els y.els (Jg _) fun r2 h2=>?_;simp only[go_sem,Ve];refine Qb rfl (fun bT=>?_) (fun bT=>?_)
      ·have aP:¬x.els=y.els:=fun h=>(by rw[h2.2 h]at bT;simp at bT);refine Za ?_;refine Zh ?_;exact no2 fun h=>aP Zau
      have ik:l[i]=l'[i]:=by
       rw[hx,hy];exact St.ext5 eop ename eargs (h1.1 rfl) (h2.1 Zaq)
      refine Zt ?_;refine Zk ?_;exact⟨Qv,l.length-(i+1),ZT,i+1,rfl,ZT,Do fo af aD ik,rfl⟩
  ·intro hc;have iL:l.length≤i:=ZU
   refine Zg ?_;refine Za ?_;refine Zb ?_;exact hK _ (tiff (Ew fo iL aE))
theorem SP {f g:Bool}{gns:List Fn}(hK:∀r,(r=true↔fns=gns)→K (.c (.bool r)) H):Qm prog Qni [.ag [.sl f 3 (Qo fns)],.ag [.sl g 3 (Qo gns)]] H K:=by
 have no:¬fns=gns→K (.c (.bool false)) H:=fun h=>hK _ (fiff h);refine Qc Aa Q95 ?_;refine Za ?_;refine Qz (Qa ?_);simp only[go_sem,Qu];intro hl eW;try intro _
 simp only[LIM]at hl eW;refine Qf (Qb rfl (fun hc=>?_) (fun hc=>?_))
 ·have aP:¬fns.length=gns.length:=fun h=>ZaB
  refine Za ?_;refine Zh ?_;exact no (Ce aP)
 have aE:fns.length=gns.length:=(by have:(fns.length:Int)=gns.length:=(by simpa using hc);omega);refine Zc ?_
 refine Qz (Qa ?_);simp only[go_sem];refine Qf (Qg (Q3 (fun m e1 H1=>∃(i:Nat),m=fns.length-i∧i≤fns.length∧fns.take i=gns.take i∧H1=H∧e1=[(2,.c (.pp [.sl f 3 (Qo fns)])),(3,.c (.pp [.sl g 3 (Qo gns)])),(5,.c (.int .i64 i))]) fns.length ?_ ?_))
 ·exact⟨0,ZT,ZT,ZV,rfl,rfl⟩
 ·rintro m e1 H1 ⟨i,hm,hi,fo,rfl,rfl⟩;refine Qz (Qa ?_);simp only[go_sem,Qu];try intro _
  refine Qf (Qb rfl ?_ ?_)
  ·intro hc;have af:i<fns.length:=ZU
   have aD:i<gns.length:=ZT
   obtain⟨x,hx⟩:∃x,fns[i]=x:=⟨_,rfl⟩;obtain⟨y,hy⟩:∃x,gns[i]=x:=⟨_,rfl⟩;have no2:¬x=y→K (.c (.bool false)) H1:=fun h=>no (Bt af aD (by rw[hx,hy];exact h));refine Zc ?_
   refine Qf (Qg ?_);by_cases ename:x.name=y.name
   rotate_left
   ·have dname:decide (x.name=y.name)=false:=decide_eq_false ename;refine An ?_;simp only[go_sem,af,aD,Qu,AB _ _ af,AB _ _ aD,hx,hy,Fn.cells,dname,SW,SX];refine Qb rfl (fun _=>?_) (fun hc=>Zam);refine Za ?_;refine Zh ?_;exact no2 fun h=>ename Zau
   have dname:decide (x.name=y.name)=true:=decide_eq_true ename;refine An ?_;simp only[go_sem,af,aD,Qu,AB _ _ af,AB _ _ aD,hx,hy,Fn.cells,dname];refine Qbat fun r1 h1=>?_
   cases r1 with
   |false=>
    simp only[go_sem,SW,SX];refine Qb rfl (fun _=>?_) (fun hc=>Zam);refine Za ?_;refine Zh ?_;exact no2 fun h=>by simpa using h1.2 Zau
   |true=>
    simp only[go_sem,SW,af,aD,Qu,AB _ _ af,AB _ _ aD,hx,hy,Fn.cells];refine Qauk (Qj x.body) x.body y.body (Jg _) fun r2 h2=>?_;simp only[go_sem,SX];refine Qb rfl (fun bT=>?_) (fun bT=>?_)
    ·have aP:¬x.body=y.body:=fun h=>(by rw[h2.2 h]at bT;simp at bT);refine Za ?_;refine Zh ?_;exact no2 fun h=>aP Zau
    have ik:fns[i]=gns[i]:=by
     rw[hx,hy];exact Fn.ext3 ename (h1.1 rfl) (h2.1 Zaq)
    refine Zt ?_;refine Zk ?_;exact⟨Qv,fns.length-(i+1),ZT,i+1,rfl,ZT,Do fo af aD ik,rfl⟩
  ·intro hc;have iL:fns.length≤i:=ZU
   refine Zg ?_;refine Za ?_;refine Zb ?_;exact hK _ (tiff (Ew fo iL aE))
end Go.AE.Y
namespace Go.AE
variable {P:Program}{H H':Heap}
theorem FrzO.vecF {S:Nat→Bool}{sz:Nat}{rows rows':List (List C)}(h:Y.FrzR H S rows rows')(hn:∀r∈rows,ai r=true):FrzO H S (.vec sz rows) (.vec sz rows'):=by
 have hp:∀(i:Nat) (r r':List C),rows[i]? = some r→rows'[i]? = some r'→FrzL H S r r':=by
  induction h with
  |nil=>intro i r r' h1;simp at h1
  |cons h1 h2 ih=>
   intro i r r' g1 g2
   cases i with
   |zero=>cases g1;cases g2;exact h1
   |succ i=>exact ih (fun r hr=>hn r (Jk _ hr)) i r r' g1 g2
 have hl:rows'.length=rows.length:=by
  clear hp hn
  induction h with
  |nil=>rfl
  |cons h1 h2 ih=>simp[ih]
 refine .vec sz rows rows' hl (fun i r r' h1 h2=>(hp i r r' h1 h2).spec.1) fun i r r' j c c' h1 h2 h3 h4=>.inr ⟨?_,?_⟩
 ·have:=Jat.1 (hn r (J4 h1)) c (J4 h3);simpa using this
 ·exact (hp i r r' h1 h2).spec.2 j c c' h3 h4
theorem Qa9z {f:Nat}{args:List V}{K:V→Heap→Prop}(h:Qm P f args H (fun x H'=>(∀v,x≠.pn v)∧∃S x' H2,FrzV H' S x x'∧FrzH H' S H2∧K x' H2)):Qm P f args H K:=by
 refine⟨h.1,fun g w vs hs hl hv=>?_⟩;refine Calls.mono (h.2 g w vs hs hl hv) ?_;rintro e w' (⟨v,x,H',g',he,⟨_,S,x',H2,hf,hh,hk⟩,aC,hr⟩|⟨v,H',g',he,⟨hn,_⟩,_⟩)
 ·exact .inl ⟨v,x',H2,g'.frz H' S,he,hk,aC.trans (Fs aC.sat hh),EI aC.sat hf v hr⟩
 ·exact absurd rfl (hn v)
end Go.AE
namespace Go.AE.Y
attribute [local go_sem] cond_true cond_false Bool.not_true Bool.not_false
open Go.Proofs.Tryz
variable {H H' H0:Heap}{K:V→Heap→Prop}{fns:List Fn}
theorem Qbgk {l:List Fn}{c:C}(an:c.ah=false)(hs:Slc H 3 (Qo l) c)(hb:Qn l≤2^38)(hp:∀f∈l,f.params.length≤2^38)
  (hK:∀Lz t H',Gr Lz 3 (Qo l) t→t.ah=false→Kn H H' [] Lz→K (.ag [t]) H'):Qm prog FL [.ag [c]] H K:=by
 refine Qa9z (FX an hs hb hp fun us t Lz H' eS hu hz aq kn=>?_);refine⟨ZV,?_⟩;rcases hz with ⟨rfl,bv,rfl⟩|⟨y,rfl,rfl⟩
 ·have eU:us=[]:=Ja1.1 bv;subst eU;simp only[Jaf]at eS;subst eS;exact⟨fun _=>false,.ag [.sl true 3 []],H',(FrzL.cons (Qe rfl) .nil).ag,fun m=>.inr ⟨rfl,.same _⟩,hK [] _ H' (.nil 3) rfl ZaW⟩
 ·have kn2:Kn H H' [] ([(y,.vec 3 (us.map OFn.row))]++us.flatMap OFn.lg):=kn.perm J2;have hy:H' y=.vec 3 (us.map OFn.row):=(kn2.get (y,.vec 3 (us.map OFn.row)) ZV).1;have hS:∀p∈us.flatMap OFn.lg,H' p.1=p.2∧(fun m=>((us.flatMap OFn.lg).map Prod.fst).contains m) p.1=true:=fun p hp=>⟨(kn2.get p Zap).1,DR hp⟩;have bv:FrzR H' (fun m=>((us.flatMap OFn.lg).map Prod.fst).contains m) (us.map OFn.row) (Qo l):=by
   rw[←eS];exact Hc us fun o cn=>OFn.frz (hu o cn) fun p hp=>hS p (Jam.2 ⟨o,cn,hp⟩)
  have bO:∀r∈us.map OFn.row,Go.AE.ai r=true:=fun r hr=>by
   obtain⟨o,ho,rfl⟩:=Jt.1 hr;exact OFn.ai (hu o ho)
  have eK:=kn2.frzS_out (p:=(y,.vec 3 (us.map OFn.row))) ZV;have hl:(us.map OFn.row).length=(Qo l).length:=by rw[←eS];simp[Qo]
  rw[hl];refine⟨_,.ag [.aw y 3 0 (Qo l).length],_,(FrzL.cons (.same _ rfl) .nil).ag,(E7 H' _).set (o:=.vec 3 (Qo l)) eK (by rw[hy];exact .vecF bv bO),?_⟩;refine hK [(y,.vec 3 (Qo l))] _ _ (.mk y 3 _ rfl) rfl ?_;exact kn2.frzN.setL (o':=.vec 3 (Qo l)) 0 rfl ZV
def cfF (b:Bool)(f:Fn):Fn:=if b then f.cutF else f.foldF
theorem Kf (b:Bool)(f:Fn):(cfF b f).name=f.name∧(cfF b f).params=f.params:=by cases b <;> exact⟨rfl,rfl⟩
theorem PD {b fl:Bool}(hb:Qn fns≤2^38)(hp:∀f∈fns,f.params.length≤2^38)(hf:∀f∈fns,Qx f.body 4=true)(hK:∀H',Upd H H' []→K (.ag [.sl false 3 (Qo (fns.map (cfF b)))]) H') :
  Qm prog Tm [.ag [.sl fl 3 (Qo fns)],.c (.bool b)] H K:=by
 refine Q1 ?_;refine Qc Aa Qbmi ?_;refine Za ?_;intro x4 bW H1 h1;have kn:=(Kn.ao H).al bW h1;refine Za ?_;refine Qbgk rfl (.mk' _ fl 3 _) hb hp fun Lz t H2 hz aq k2=>?_;have kn:=kn.comp0 k2;simp only[go_sem,Nf,aq];intro x5 cp H3 h3;have kn:=(kn.al cp h3).swap;have g5:=kn.l 1 rfl;simp only[go_sem,Ng,g5,aq];intro H4 h4;have kn:Kn H H4 [] ([(x4,.st [.sl true 3 []]),(x5,.st [t])]++Lz):=kn.ax 1 rfl h4;refine Qz (Qa ?_);simp only[go_sem];refine Qf (Qg (Q3 (fun m e1 H1=>∃(i:Nat) (Lz:List (Nat×Obj)) (t:C),m=fns.length-i∧i≤fns.length∧Gr Lz 3 (Qo ((fns.take i).map (cfF b)++fns.drop i)) t∧
  Kn H H1 [] ([(x4,.st [.sl true 3 []]),(x5,.st [t])]++Lz)∧e1=[(1,.c (.bool b)),(4,.c (.ptr x4 0)),(5,.c (.ptr x5 0)),(6,.c (.int .i64 i))]) fns.length ?_ ?_))
 ·exact⟨0,Lz,t,ZT,ZT,Zbh,kn,rfl⟩
 ·clear kn g5 h4 h3 h1 hz aq k2;rintro m e1 H1 ⟨i,Lz,t,hm,hi,hz,kn,rfl⟩;have aq:=hz.ah;have g5:=kn.l 1 rfl;have co:(Qo ((fns.take i).map (cfF b)++fns.drop i)).length=fns.length:=by simp[Qo];omega
  have aM:a9 t=fns.length:=by rw[hz.a9,co]
  have bf:=eq_true (hz.slc kn).ok;refine Qz (Qa ?_);simp only[go_sem,g5,aq,bf,aM];intro hl;simp only[LIM]at hl;refine Qf (Qb rfl ?_ ?_)
  ·intro hc;have af:i<fns.length:=ZU
   obtain⟨f,rR⟩:∃f,fns[i]=f:=⟨_,rfl⟩;have gv:f∈fns:=by rw[←rR];exact Jq af
   have dw:fns.drop i=f::fns.drop (i+1):=by rw[←rR];exact (List.getElem_cons_drop af).symm
   have lI:=Cm gv;obtain⟨R,hR⟩:∃R,Qo ((fns.take i).map (cfF b)++fns.drop i)=R:=⟨_,rfl⟩;have j2:R.getD i []=[.str f.name,.sl false 1 (Q5 f.params),.sl false 5 (Qk f.body)]:=by
    rw[←hR,dw];simp only[Qo,Jr,Jl];rw[Jp,List.getElem?_append_right Zac];simp[Jaw (Ja4 af)];rfl
   have aC:R.set i [.str f.name,.sl false 1 (Q5 f.params),.sl false 5 (Qk (cfF b f).body)]=Qo ((fns.take (i+1)).map (cfF b)++fns.drop (i+1)):=by
    rw[←hR,dw,List.take_succ_eq_append_getElem af,rR];simp only[Qo,Jr,Jl,Jaf,J5,Jx,J6];rw[List.set_append_right _ _ Zac];simp[Jaw (Ja4 af)];rw[Fn.cells,(Kf b f).1,(Kf b f).2]
   rw[hR]at hz co;rcases hz with ⟨_,hrn,_⟩|⟨y,rfl,rfl⟩
   ·rw[hrn]at co;simp at co;omega
   have gy:=kn.l 2 rfl;have aY:R.take fns.length=R:=Jo ZT;refine Zc ?_
   refine Qf (Qg ?_);refine Za ?_;have i4:=hf f gv;have hst':=aC;cases b
   ·refine Qb rfl (fun h=>by simp[lk]at h) (fun _=>?_);simp only[cfF,Jaa,if_false,Fn.foldF]at aC;refine Bf ?_;simp only[go_sem,g5,gy,co,af,j2,aY,Jm,Jg];refine Qbgn (Qj f.body) f.body (Jg _) i4 fun H6 hu=>?_;have kn:=kn.ay hu;have gy:=kn.l 2 rfl;have g5:=kn.l 1 rfl;simp only[go_sem,MP,g5,gy,co,af,j2,aY,Jm,Jg];intro H7 h7;rw[aC]at h7;have kn:=kn.ax 2 rfl h7;refine Zk ?_;refine⟨Qv,fns.length-(i+1),ZT,i+1,[(y,.vec 3 (Qo ((fns.take (i+1)).map (cfF false)++fns.drop (i+1))))],.aw y 3 0 R.length,rfl,ZT,?_,kn,rfl⟩;exact Gr.mk (n:=R.length) y 3 _ (by rw[co];simp[Qo];omega)
   ·refine Qb rfl (fun _=>?_) (fun h=>by simp[lk]at h);simp only[cfF,if_true,Fn.cutF]at aC;refine Bf ?_;simp only[go_sem,g5,gy,co,af,j2,aY,Jm,Jg];refine Qbl0 (Qj f.body) f.body (Jg _) i4 fun H6 hu=>?_;have kn:=kn.ay hu;have gy:=kn.l 2 rfl;have g5:=kn.l 1 rfl;simp only[go_sem,MQ,g5,gy,co,af,j2,aY,Jm,Jg];intro H7 h7;rw[aC]at h7;have kn:=kn.ax 2 rfl h7;refine Zk ?_;refine⟨Qv,fns.length-(i+1),ZT,i+1,[(y,.vec 3 (Qo ((fns.take (i+1)).map (cfF true)++fns.drop (i+1))))],.aw y 3 0 R.length,rfl,ZT,?_,kn,rfl⟩;exact Gr.mk (n:=R.length) y 3 _ (by rw[co];simp[Qo];omega)
  ·intro hc;have aV:fns.length≤i:=ZU
   rw[Jo aV,Jy aV,Jan]at hz;have g4:=kn.l 0 rfl;refine Zg ?_;refine Zr g4 g5 aq ?_;intro H3 h3;have kn:Kn H H3 [] ([(x4,.st [t]),(x5,.st [t])]++Lz):=kn.ax 0 rfl h3;have g4:=kn.l 0 rfl;refine ZC g4 aq ?_;exact⟨_,(FrzL.cons (hz.frz kn (CB _)) .nil).ag,hK _ kn.fin⟩
theorem Qbmm (l:List Fn):l.map (cfF false)=foldA l:=rfl
theorem Qbqr (l:List Fn):l.map (cfF true)=cutA l:=rfl
theorem FineP.par (h:FineP fns):∀f∈fns,f.params.length≤2^38:=fun f hf=>(RX h f hf).2
theorem Qbkw (h:FineP fns):Qn (foldA fns)≤Qn fns:=by
 have h1:=RG (F:=Fn.foldF) (fun f=>⟨rfl,rfl⟩) fns fun f hf=>GR _ _ (h.bodies f hf);rcases h1 with h1|h1
 ·rw[show foldA fns=fns from h1];exact Jg _
 ·exact Ja4 h1
def simP (fns:List Fn):List Fn:=if Bl fns then Au fns else []
theorem PE {fl:Bool}(h:FineP fns)(hb:Qn fns≤2^38)(hK:∀H',Upd H H' []→K (.ag [.sl false 3 (Qo (foldA fns))]) H'):Qm prog Tm [.ag [.sl fl 3 (Qo fns)],.c (.bool false)] H K:=
 PD hb h.par h.bodies fun H' hu=>by rw[Qbmm];exact hK _ hu
theorem K6 {fl:Bool}(h:FineP fns)(hb:Qn fns≤2^38)(hK:∀H',Upd H H' []→K (.ag [.sl false 3 (Qo (AD fns))]) H'):Qm prog Tm [.ag [.sl fl 3 (Qo (foldA fns))],.c (.bool true)] H K:=
 PD (Jar (Qbkw h) hb) (GJ h).par (GJ h).bodies fun H' hu=>by rw[Qbqr];exact hK _ hu
theorem Qa7u {fl:Bool}(aO:Qn fns≤2^36)(hK:∀H',Upd H H' []→K (.tup [.ag [.sl false 3 (Qo (simP fns))],.c (.bool (Bl fns))]) H') :
  Qm prog Qjy [.ag [.sl fl 3 (Qo fns)]] H K:=by
 refine Q1 ?_;refine Qc Aa Q3a ?_;refine Za ?_;intro x1 dD H1 h1;have kn:=(Kn.ao H).al dD h1;simp only[go_sem,Qhi];intro x2 bB H2 h2;have kn:=kn.al bB h2;have g1:=kn.l 0 rfl;simp only[go_sem,Cq];refine Qz (Qa ?_);simp only[go_sem,g1];refine Qbnr aO fun H3 hu=>?_;have kn:=kn.ay hu;have g1:=kn.l 0 rfl;have g2:=kn.l 1 rfl;simp only[go_sem,Qhj];refine Qf (Qb rfl ?_ ?_)
 ·intro hc;have hb:Bl fns=false:=ZU
  simp only[simP,hb]at hK;refine Zd g2 ?_;intro H3 h3;have kn:=kn.ax 1 rfl h3;have g2:=kn.l 1 rfl;simp only[go_sem,Cq];refine Qi ?_;simp only[go_sem,AE.X.next,Qq,Q0,J3,J8,RS.op,g2];exact⟨fun _=>trivial,_,Pt (rows:=[]) ZV _,hK _ kn.fin⟩
 intro hc;have hb:Bl fns=true:=ZU
 have hg:=fine_iff.1 hb;simp only[simP,hb,if_true]at hK;refine Zc ?_
 refine Zd g1 ?_;refine PE hg ZT fun H4 hu=>?_;have kn:=kn.ay hu;simp only[go_sem,Qhn];refine K6 hg ZT fun H4 hu=>?_;have kn:=kn.ay hu;simp only[go_sem,Qhm];intro x4 bW H4 h4;have kn:=kn.al bW h4;have g4:=kn.l 2 rfl;simp only[go_sem,Qhl,g4];intro H5 h5;have kn:Kn H H5 [] [(x1,.st [.sl fl 3 (Qo fns)]),(x2,.st [.sl true 3 []]),(x4,.st [.sl false 3 (Qo (AD fns))])]:=kn.ax 2 rfl h5;refine Qf (Qg (Q3 (fun m e1 H1=>∃(now:List Fn) (f2:Bool),m=Qn now∧FineP now∧Qn now≤Qn fns∧Au now=Au fns∧
  Kn H H1 [] [(x1,.st [.sl f2 3 (Qo now)]),(x2,.st [.sl true 3 []]),(x4,.st [.sl false 3 (Qo (AD now))])]∧e1=[(1,.c (.ptr x1 0)),(2,.c (.ptr x2 0)),(4,.c (.ptr x4 0))]) (Qn fns) ?_ ?_))
 ·exact⟨fns,fl,rfl,hg,Jg _,rfl,kn,rfl⟩
 ·clear kn g1 g2 g4;rintro m e1 H1 ⟨now,f2,rfl,hn,oC,oB,kn,rfl⟩;have g1:=kn.l 0 rfl;have g2:=kn.l 1 rfl;have g4:=kn.l 2 rfl;refine Qz (Qa ?_);simp only[go_sem,g1,g4];refine SP fun r hr=>?_;simp only[go_sem,Qho];refine Qf (Qb rfl ?_ ?_)
  ·intro hc;have bG:r=false:=ZU
   have he:¬AD now=now:=fun h=>by rw[hr.2 h]at bG;simp at bG
   have af:=(E9 hn).resolve_left he;have jH:=EA hn;refine Zc ?_
   refine Qg (Qa ?_);simp only[go_sem,g1,g4];intro H6 h6;have kn:Kn H H6 [] [(x1,.st [.sl false 3 (Qo (AD now))]),(x2,.st [.sl true 3 []]),(x4,.st [.sl false 3 (Qo (AD now))])]:=kn.ax 0 rfl h6;have g1:=kn.l 0 rfl;refine ZB g1 ?_;refine PE jH ZT fun H7 hu=>?_;have kn:=kn.ay hu;simp only[go_sem,Qgv];refine K6 jH ZT fun H7 hu=>?_;have kn:=kn.ay hu;have g4:=kn.l 2 rfl;simp only[go_sem,Qhp,g4];intro H8 h8;have kn:Kn H H8 [] [(x1,.st [.sl false 3 (Qo (AD now))]),(x2,.st [.sl true 3 []]),(x4,.st [.sl false 3 (Qo (AD (AD now)))])]:=kn.ax 2 rfl h8;try simp only[AE.X.next]
   exact⟨Qn (AD now),af,AD now,false,rfl,jH,ZT,by rw[Rz hn,oB],kn,trivial⟩
  ·intro hc;have fj:r=true:=ZU
   have he:AD now=now:=hr.1 fj;have hx:Au fns=now:=by rw[←oB];exact Ds he _
   refine Zg ?_;refine Zi g4 g2 ?_;intro H6 h6;have kn:=kn.ax 1 rfl h6;have g2:=kn.l 1 rfl;simp only[go_sem,HQ];refine Qi ?_;simp only[go_sem,AE.X.next,Qq,Q0,J3,J8,RS.op,g2];rw[hx]at hK;rw[he];exact⟨fun _=>trivial,_,Pt (CB _) _,hK _ kn.fin⟩
end Go.AE.Y
namespace Go.AE.Y
attribute [local go_sem] cond_true cond_false Bool.not_true Bool.not_false
open Go.Proofs.Tryz
variable {H H' H0 F:Heap}{K:V→Heap→Prop}{fns:List Fn}{L:List (Nat×Obj)}
theorem Q24 {fl:Bool}(hT:Qn fns≤2 ^ 36)(g:GK H)(hK:∀H',Upd H H' []→K (.tup [.ag [.sl false 3 (Qo (simP fns))],.c (.bool (Bl fns))]) H') :
  Qm prog VO [.ag [.sl fl 3 (Qo fns)]] H K:=
 Q1 (Qaxn hT g fun H' L x kn hx=>by
  obtain⟨t,rfl,ho⟩:=hx.tup1;refine⟨.tup [.ag [.sl false 3 (Qo (simP fns))],.c (.bool (Bl fns))],.tup _ _ rfl fun j a b h1 h2=>?_,hK _ kn.fin⟩;have hf:=ho.one.frz (H:=H') (S:=un H) fun p hp=>⟨(kn.get p Zat).1,BP (kn.loc p hp)⟩
  match j with
  |0=>cases h1;cases h2;exact hf.ag
  |1=>cases h1;cases h2;exact .c _ _ (Qe rfl)
  |j+2=>simp at h1)
end Go.AE.Y
namespace Go.AE.Y
attribute [local go_sem] cond_true cond_false Bool.not_true Bool.not_false
open Go.Proofs.Tryz
variable {H H' H0 F:Heap}{K:V→Heap→Prop}{E A B Bk Lg:List (Nat×Obj)}{us:List OFn}{N i j z:Nat}
structure LQ (us:List OFn)(N:Nat):Prop where
 ok:∀u∈us,u.ok
 pos:0<us.length
 args:∀u∈us,∀o∈u.os,0<o.x.args.length
 size:Qn (us.map OFn.f)≤N
 par:∀f∈us.map OFn.f,f.params.length≤9
theorem LQ.mono {M:Nat}(h:LQ us N)(hm:N≤M):LQ us M:=⟨h.ok,h.pos,h.args,Jar h.size hm,h.par⟩
theorem LQ.ps (h:LQ us N)(hN:N≤2^36):PS (us.map OFn.f):=⟨Jar h.size hN,h.par⟩
theorem LQ.put {u':OFn}{M:Nat}(h:LQ us N)(hi:i<us.length)(hu:u'.ok)(ha:∀o∈u'.os,0<o.x.args.length)(hp:u'.f.params=us[i].f.params)(hs:Qj u'.f.body≤Qj us[i].f.body+M):LQ (us.set i u') (N+M):=by
 obtain⟨u,gQ⟩:∃u,us[i]=u:=⟨_,rfl⟩;rw[gQ]at hp hs;obtain⟨us1,us2,rfl,iM⟩:=GD hi gQ;rw[G5 us1 us2 u u' iM];have aO:=h.size;rw[Jr,Jl,HT]at aO;simp only[Qn]at aO;refine⟨fun v hv=>?_,by simp;omega,fun v hv=>?_,?_,fun f hf=>?_⟩
 ·rcases Jv.1 hv with hv|hv
  ·exact h.ok v (Jb _ hv)
  ·rcases J1.1 hv with rfl|hv
   ·exact hu
   ·exact h.ok v (Jc _ (Jk _ hv))
 ·rcases Jv.1 hv with hv|hv
  ·exact h.args v (Jb _ hv)
  ·rcases J1.1 hv with rfl|hv
   ·exact ha
   ·exact h.args v (Jc _ (Jk _ hv))
 ·rw[Jr,Jl,HT];simp only[Qn];omega
 ·rw[Jr,Jl]at hf;rcases Jv.1 hf with hf|hf
  ·exact h.par f (by rw[Jr];exact Jb _ hf)
  ·rcases J1.1 hf with rfl|hf
   ·rw[hp];exact h.par u.f ZV
   ·exact h.par f (by rw[Jr,Jl];exact Jc _ (Jk _ hf))
theorem LQ.rows (h:LQ us N)(hi:i<us.length):(us.map OFn.row).getD i []=[.str us[i].f.name,us[i].pc,us[i].bc]:=by
 rw[DP (by rw[Jd];exact hi),Ja5];rfl
theorem DO {u:OFn}(hu:u∈us){p:Nat×Obj}(hp:p∈u.lg):p∈obU z us:=Jb _ (Jam.2 ⟨u,hu,hp⟩)
theorem Eu {u:OFn}{p:Nat×Obj}(hp:p∈u.bl):p∈u.lg:=Jc _ (Jc _ hp)
theorem LQ.slc (h:LQ us N)(kn:Kn F H E Lg)(hm:∀p∈obU z us,p∈Lg)(hi:i<us.length):Slc H 5 (us[i].os.map OSt.row) us[i].bc:=by
 have dV:=Jq hi;have hb:=(h.ok _ dV).b;have hm:∀p∈us[i].bl,H p.1=p.2:=fun p hp=>kn.getL (hm p (DO dV (Eu hp)));refine⟨?_,hb.aN,?_,hb.a9⟩
 ·rcases hb with ⟨h1,h2,h3⟩|⟨y,h1,h2⟩
  ·rw[h1];trivial
  ·have:=hm (y,.vec 5 (us[i].os.map OSt.row)) ZaI;rw[h1];simp only[aT];simp only[this];simp
 ·rcases hb with ⟨h1,h2,h3⟩|⟨y,h1,h2⟩
  ·rw[h1,h2];rfl
  ·have:=hm (y,.vec 5 (us[i].os.map OSt.row)) ZaI;rw[h1];simp only[rowsOf];simp only[this,List.drop_zero,List.take_length]
theorem LQ.setArg (h:LQ us N)(hi:i<us.length)(hj:j<us[i].os.length)(kn:Kn F H E (A++(obU z us++Bk))) :
  ∃ya,us[i].os[j].ac=.aw ya 4 0 us[i].os[j].x.args.length∧H ya=.vec 4 (Ql us[i].os[j].x.args)∧
   ∀(x:Ex) (H':Heap),H'=H.set ya (.vec 4 ((Ql us[i].os[j].x.args).set 0 x.cells))→∃us',LQ us' (N+x.size)∧us'.length=us.length∧us'.map OFn.row=us.map OFn.row∧Kn F H' E (A++(obU z us'++Bk)):=by
 obtain⟨u,gQ⟩:∃u,us[i]=u:=⟨_,rfl⟩;have kQ:=fun u' M=>h.put (i:=i) (u':=u') (M:=M) hi;simp only[gQ]at kQ hj⊢;have dV:u∈us:=by rw[←gQ];exact Jq hi
 have cw:=h.ok u dV;obtain⟨o,jN⟩:∃o,u.os[j]=o:=⟨_,rfl⟩;simp only[jN];have kV:o∈u.os:=by rw[←jN];exact Jq hj
 have jL:=cw.o o kV;have ez:=h.args u dV o kV;obtain⟨us1,us2,eU,iM⟩:=GD hi gQ;obtain⟨o1,o2,fN,rL⟩:=GD hj jN;obtain⟨ya,j5,li⟩:∃ya,o.ac=.aw ya 4 0 o.x.args.length∧o.al=[(ya,.vec 4 (Ql o.x.args))]:=by
  rcases (show Gr o.al 4 (Ql o.x.args) o.ac from jL)with ⟨_,h,_⟩|⟨y,h1,h2⟩
  ·have:=congrArg List.length h;rw[Qh,Ji]at this;omega
  ·exact⟨y,by rw[h1,Qh],h2⟩
 have hA:obU z us=(us1.flatMap OFn.lg++(u.pl++o1.flatMap OSt.al))++(ya,.vec 4 (Ql o.x.args))::((o2.flatMap OSt.al++u.bl)++(us2.flatMap OFn.lg++[(z,.vec 3 (us1.map OFn.row++u.row::us2.map OFn.row))])):=by
  conv=>lhs;rw[eU]
  rw[G6,DK u o1 o2 o fN,li];simp only[J5,Jx,J6]
 refine⟨ya,j5,kn.getL (by rw[hA];simp),fun x H' h1=>?_⟩;obtain⟨x',fg⟩:∃x':St,x'=.mk o.x.op o.x.name (o.x.args.set 0 x) o.x.body o.x.els:=⟨_,rfl⟩;obtain⟨o',gK⟩:∃o':OSt,o'=⟨x',o.ac,[(ya,.vec 4 (Ql x'.args))]⟩:=⟨_,rfl⟩;obtain⟨u',cU⟩:∃u':OFn,u'=⟨⟨u.f.name,u.f.params,o1.map OSt.x++x'::o2.map OSt.x⟩,u.pc,u.pl,o1++o'::o2,u.bc,u.bl⟩:=⟨_,rfl⟩;have iy:Ql x'.args=(Ql o.x.args).set 0 x.cells:=by
  rw[fg];simp only[St.args,EK,Jbf]
 have dq:o'.row=o.row:=by rw[gK,fg];rfl
 have hY:o'.ok:=by
  rw[gK];show Gr _ 4 (Ql x'.args) o.ac;rw[j5];exact Gr.mk (n:=o.x.args.length) ya 4 (Ql x'.args) (by rw[iy,List.length_set,Qh])
 have cn:∀v∈u'.os,v=o'∨v∈u.os:=by
  intro v hv;rw[cU]at hv;rcases Jv.1 hv with hv|hv
  ·right;rw[fN];exact Jb _ hv
  ·rcases J1.1 hv with rfl|hv
   ·exact .inl rfl
   ·right;rw[fN];exact Jc _ (Jk _ hv)
 have i9:u'.ok:=by
  have o9:=cn;rw[cU]at o9⊢;refine⟨cw.p,fun v hv=>?_,?_,by rw[Jr,Jl,gK]⟩
  ·rcases o9 v hv with rfl|hv
   ·exact hY
   ·exact cw.o v hv
  ·have hb:=cw.b;rw[fN]at hb;show Gr u.bl 5 ((o1++o'::o2).map OSt.row) u.bc;rw[Jr,Jl,dq];rw[Jr,Jl]at hb;exact hb
 have hru:u'.row=u.row:=by rw[cU];rfl
 have he:=Q20 o.x.args 0 x;have gW:=o.x.size_eq;refine⟨us.set i u',kQ u' x.size i9 (fun v hv=>?_) Zcn ?_,ZV,?_,?_⟩
 ·rcases cn v hv with rfl|hv
  ·rw[gK,fg];simpa[St.args]using ez
  ·exact h.args u dV v hv
 ·have h1:u.f.body=o1.map OSt.x++o.x::o2.map OSt.x:=by rw[←cw.x,fN];simp
  rw[h1,cU];simp only[Cf,Qj];rw[fg];simp only[St.size]at gW⊢;omega
 ·rw[eU,G5 us1 us2 u u' iM];simp[hru]
 ·have pH:obU z (us.set i u')=(us1.flatMap OFn.lg++(u.pl++o1.flatMap OSt.al))++(ya,.vec 4 (Ql x'.args))::((o2.flatMap OSt.al++u.bl)++(us2.flatMap OFn.lg++[(z,.vec 3 (us1.map OFn.row++u.row::us2.map OFn.row))])):=by
   conv=>lhs;rw[eU,G5 us1 us2 u u' iM]
   rw[G6,DK u' o1 o2 o' Zcn,gK,cU];simp only[J5,Jx,J6,OFn.row]
  rw[pH,iy];rw[hA]at kn;simpa only[J5,Jx,J6]using Kn.stM (A:=A++(us1.flatMap OFn.lg++(u.pl++o1.flatMap OSt.al))) (by simpa only[J5,Jx,J6]using kn) h1
theorem LQ.vec (h:LQ us N)(hi:i<us.length)(hj:0<us[i].os.length):∃y,us[i].bc=.aw y 5 0 us[i].os.length∧us[i].bl=[(y,.vec 5 (us[i].os.map OSt.row))]∧(y,Obj.vec 5 (us[i].os.map OSt.row))∈obU z us:=by
 have dV:=Jq hi;rcases (h.ok _ dV).b with ⟨_,h,_⟩|⟨y,h1,h2⟩
 ·have:=congrArg List.length h;rw[Jd,Ji]at this;omega
 ·exact⟨y,by rw[h1,Jd],h2,DO dV (Eu ZaI)⟩
theorem Gr.cuts {sz:Nat}{rows:List (List C)}{c:C}(h:Gr Lg sz rows c)(hm:∀p∈Lg,H p.1=p.2){a:Nat}(ha:a≤rows.length) :
  Slc H sz (rows.take a) (sliC none (some (a:Int)) c)∧Slc H sz (rows.drop a) (sliC (some (a:Int)) none c)∧(sliC none (some (a:Int)) c).ah=false∧(sliC (some (a:Int)) none c).ah=false:=by
 rcases h with ⟨rfl,rfl,_⟩|⟨y,rfl,rfl⟩
 ·have:a=0:=by simpa using ha
  subst this;exact⟨.mk' _ _ _ _,.mk' _ _ _ _,rfl,rfl⟩
 ·have gy:=hm (y,.vec sz rows) ZV;simp only at gy;refine⟨⟨?_,rfl,?_,?_⟩,⟨?_,rfl,?_,?_⟩,rfl,rfl⟩
  ·simp only[sliC,aT,gy];exact⟨trivial,by simp;omega⟩
  ·simp[sliC,rowsOf,gy]
  ·simp[sliC,a9];omega
  ·simp only[sliC,aT,gy];exact⟨trivial,by simp;omega⟩
  ·simp only[sliC,rowsOf,gy,J9,Jad,Int.toNat_natCast];rw[Jo ZV];simp
  ·simp[sliC,a9]
theorem Qbl6 {R:Rdr}{k y:Nat}{os:List OSt}{o:OSt}{v2 v3 v4:V}{Q:X→Env→Heap→Prop}(hH:H R.l=R.o k)(hk:k+1≤2^30)(gy:H y=.vec 5 (os.map OSt.row))(hj:j<os.length)
  (ce:(os.map OSt.row).getD j []=[.int .i64 o.x.op,.str o.x.name,o.ac,.sl false 5 (Qk o.x.body),.sl false 5 (Qk o.x.els)]) (dx:o.ac.ah=false)
  (hQ:∀(b:Bool) (k3:Nat) (H3:Heap),k≤k3→k3≤k+1→Upd H H3 [(R.l,R.o k3)]→Q6 prog MH Q [(0,.c (.ptr R.l 0)),(2,v2),(3,v3),(4,v4),(6,.c (.ep (.aw y 5 0 os.length) 5 j 0)),(81,.c (.bool b))] H3) :
  Q6 prog MG Q [(0,.c (.ptr R.l 0)),(2,v2),(3,v3),(4,v4),(6,.c (.ep (.aw y 5 0 os.length) 5 j 0))] H:=by
 have ef:(os.map OSt.row).take os.length=os.map OSt.row:=Jo ZbY;have same:Upd H H [(R.l,R.o k)]:=⟨by simpa using hH,fun m _ _=>rfl⟩;refine Qa ?_;cases d5:decide (o.x.op=5)
 ·cases d3:decide (o.x.op=3)
  ·simp only[go_sem,gy,hj,ef,ce,dx,d5,d3,Jd,Jm,Jg];refine A0 hH ZT fun v H3 hv hu=>?_;have gy3:H3 y=.vec 5 (os.map OSt.row):=by
    rw[hu.2 y (by rw[gy];nofun) (by simp only[Jl,Jaf,Ja];intro h;rw[h,hH]at gy;exact absurd gy (by simp[Rdr.o])),gy]
   cases d8:decide (o.x.op=8) <;> cases d6:decide (o.x.op=6) <;> cases d0:decide (v=0) <;>
   ·simp only[go_sem,Sh,gy3,hj,ef,ce,dx,d8,d6,d0,Jd,Jm,Jg];exact hQ _ _ _ ZT ZT hu
  ·simp only[go_sem,Sh,gy,hj,ef,ce,dx,d5,d3,Jd,Jm,Jg];exact hQ _ _ _ ZT ZT same
 ·simp only[go_sem,Sh,gy,hj,ef,ce,dx,d5,Jd,Jm,Jg];exact hQ _ _ _ ZT ZT same
theorem Qbl5 {R:Rdr}{k k0 x2 x3:Nat}{e:Env}{G:Heap}(hL:LQ us (2^34+4))(jS:k0<k)(hk:k+100≤k0+15000000)(fv:k0+16000000≤2^30)(kn:Kn G H [(R.l,R.o k)] ([(x2,.st [.sl true 3 []])]++(obU z us++[(x3,.st [.aw z 3 0 us.length])])))
  (hK:∀(l:List Fn) (H':Heap) (k':Nat),k0<k'→k'≤k0+16000000→Upd G H' [(R.l,R.o k')]→PS l→K (.ag [.sl false 3 (Qo l)]) H')
  (f0:lk 0 e=.c (.ptr R.l 0)) (f2:lk 2 e=.c (.ptr x2 0)) (f3:lk 3 e=.c (.ptr x3 0)):Q6 prog MD (Qq Ak (unK G K)) e H:=by
 refine Qz (Qa ?_);simp only[go_sem,f0,f2,f3];refine A0 (kn.e 0 rfl) ZT fun v H2 hv hu=>?_;have kn:=kn.ak 0 rfl hu (R.am _);simp only[go_sem,Of,f0,f2,f3];refine Qf (Qb rfl (fun hb=>?_) (fun hb=>?_))
 ·have kT:=hL.pos;obtain⟨i,oZ⟩:∃i,us.length=i+1:=⟨us.length-1,ZT⟩;have hi:i<us.length:=ZT
  have g3:H2 x3=.st [.aw z 3 0 us.length]:=kn.getL ZV;have gz:H2 z=.vec 3 (us.map OFn.row):=kn.getL ZaJ;have aY:(us.map OFn.row).take us.length=us.map OFn.row:=Jo ZbY;have aI:=hL.rows hi;have dV:=Jq hi;have cw:=hL.ok _ dV;have gg:=cw.p.ah;have db:=cw.b.ah;have eG:=hL.slc (z:=z) kn (fun p hp=>Jc _ (Jb _ hp)) hi;have eL:=eq_true eG.ok;have d9:=eG.len;rw[Jd]at d9;have e1:((us.length:Int)-1)=(i:Int):=ZT
  refine Qa ?_;simp only[go_sem,g3,gz,e1,hi,Jd,Jm,Jg];intro fP;simp only[LIM]at fP;refine⟨Qv,?_⟩;have hub:Qj us[i].f.body≤2^34+4:=Jar (Cm (Jae dV)) hL.size;have hosl:us[i].os.length≤Qj us[i].f.body:=by
   have:=BM us[i].f.body;rw[←cw.x,Jd]at this;rw[←cw.x];exact this
  refine Qa ?_;simp only[go_sem,gz,hi,aY,aI,gg,db,eL,d9,Jd,Jm,Jg];intro _;refine⟨Qv,?_⟩;refine A0 (kn.e 0 rfl) ZT fun av H3 kG hu=>?_;have kn:=kn.ak 0 rfl hu (R.am _);rw[if_neg ZT]at kG;obtain⟨a,rfl⟩:=J7 kG.1;have ha:a≤us[i].os.length:=ZT
  simp only[go_sem,Oe];refine Za ?_;refine Bj (ns:=[7,6,5]) (kn.e 0 rfl) ZT ZV fun op H4 b7 hu=>?_;have kn:=kn.ak 0 rfl hu (R.am _);simp only[go_sem,O5];refine A0 (kn.e 0 rfl) ZT fun n1 H5 eM hu=>?_;have kn:=kn.ak 0 rfl hu (R.am _);simp only[go_sem,O6];refine A0 (kn.e 0 rfl) ZT fun n2 H6 nD hu=>?_;have kn:=kn.ak 0 rfl hu (R.am _);rw[if_neg ZT]at eM nD;obtain⟨n,hn,km⟩:∃n:Int,n1 * n2=n∧(n=0∨n=1):=by
   refine⟨_,rfl,?_⟩;have h1:n1=0∨n1=1:=ZT
   have h2:n2=0∨n2=1:=ZT
   rcases h1 with rfl|rfl <;> rcases h2 with rfl|rfl <;> simp
  simp only[go_sem,O7,hn];refine⟨Qv,?_⟩;refine De fun H7 hu=>?_;have kn:=kn.ay hu;simp only[go_sem,Ob];refine⟨rfl,fun yb lT H8 h8 x9 eR H9 h9=>?_⟩;obtain⟨O,hO⟩:∃O,[(x2,Obj.st [.sl true 3 []])]++(obU z us++[(x3,Obj.st [.aw z 3 0 us.length])])=O:=⟨_,rfl⟩;rw[hO]at kn;have lM:∀p∈obU z us,p∈O:=fun p hp=>by rw[←hO];exact Jc _ (Jb _ hp)
  have kn:=(kn.al lT h8).al eR h9;have g9:H9 x9=.st [.int .i64 0,.str [],.sl true 4 [],.sl true 5 [],.sl true 5 []]:=kn.getL ZV;simp only[go_sem,Od,g9];intro H10 bP;have kn:Kn G H10 [(R.l,R.o (k+1+1+1+1+1))] (O++[(yb,.vec 4 [(Ah n).cells]),(x9,.st [.int .i64 op,.str [],.aw yb 4 0 1,.sl true 5 [],.sl true 5 []])]):=by
   have:=Kn.stM (A:=O++[(yb,.vec 4 [(Ah n).cells])]) (B:=[]) ZaW bP;simpa using this
  clear g9 bP h9 h8 eR lT;have fin:∀(q:Int) (bd:C) (bb:List St) (H11:Heap) (e9:Env),Kn G H11 [(R.l,R.o (k+1+1+1+1+1))] (O++[(yb,.vec 4 [(Ah q).cells]),(x9,.st [.int .i64 op,.str [],.aw yb 4 0 1,bd,.sl true 5 []])])→bd.ah=false→(∀H S,FrzC H S bd (.sl false 5 (Qk bb)))→Qj bb≤10→
    lk 2 e9=.c (.ptr x2 0)→lk 3 e9=.c (.ptr x3 0)→lk 7 e9=.c (.ep (.aw z 3 0 us.length) 3 i 0)→lk 8 e9=.c (.int .i64 (a:Int))→lk 9 e9=.c (.ptr x9 0)→
    Q6 prog MF (X.sq prog ME (Qq Ak (unK G K))) e9 H11:=by
   intro q bd bb H11 e9 kn pz lK lI l2 l3 l7 l8 l9;have gz:H11 z=.vec 3 (us.map OFn.row):=kn.getL (Jb _ (lM _ ZaJ));have g9:H11 x9=.st [.int .i64 op,.str [],.aw yb 4 0 1,bd,.sl true 5 []]:=kn.getL ZV;have eG:=hL.slc (z:=z) kn (fun p hp=>Jb _ (lM p hp)) hi;have eL:=eq_true eG.ok;have iA:=eG.sz;obtain⟨sc1,sc2,so1,so2⟩:=Gr.cuts (H:=H11) cw.b (fun p hp=>kn.getL (Jb _ (lM p (DO dV (Eu hp))))) (a:=a) (by rw[Jd];exact ha);refine Bf ?_;have fp:=eq_true sc1.ok;have gS:=sc1.sz;have mU:=sc1.len;have oo:=sc1.rows;rw[Ja7,Jd,Jaw ha]at mU;simp only[go_sem,gz,g9,hi,aY,aI,gg,db,pz,eL,d9,iA,so1,so2,l2,l3,l7,l8,l9,fp,gS,mU,oo,bnds,Jax,Jab,Jad,J9,Jd,Jm,Jg];have oD:∀r∈us[i].os.map OSt.row,Go.AE.ai r=true:=fun r hr=>by
    obtain⟨v,hv,rfl⟩:=Jt.1 hr;exact OSt.ai (cw.o v hv)
   refine⟨⟨ZT,ZT⟩,⟨ZT,ZT⟩,.inl trivial,fun r hr=>oD r (Jay hr),by have:=Ch;omega,fun yn jx H12 dr=>?_⟩;have kn:=kn.al jx dr;have gz:H12 z=.vec 3 (us.map OFn.row):=kn.getL (Jb _ (Jb _ (lM _ ZaJ)));have g9:H12 x9=.st [.int .i64 op,.str [],.aw yb 4 0 1,bd,.sl true 5 []]:=kn.getL ZV;simp only[go_sem,O0,gz,g9,hi,aY,aI,gg,db,pz,eL,d9,iA,so1,so2,l2,l3,l7,l8,l9,fp,gS,mU,oo,bnds,Jax,Jab,Jad,J9,Jd,Jm,Jg];have tu:∀{Hx:Heap} {Lx:List (Nat×Obj)},Kn G Hx [(R.l,R.o (k+1+1+1+1+1))] Lx→(∀p∈O,p∈Lx)→aT Hx us[i].bc:=fun kx hx=>(hL.slc (z:=z) kx (fun p hp=>hx _ (lM p hp)) hi).ok;have gyn:H12 yn=.vec 5 ((us[i].os.map OSt.row).take a):=kn.getL ZV;simp only[gyn];refine⟨⟨tu kn (fun p hp=>Jb _ (Jb _ hp)),ZT,ZT⟩,trivial,by simp;omega,by have:=Ch;omega,fun yn2 qh H13 cy=>?_⟩;obtain⟨r9,sT⟩:∃r9,[C.int .i64 op,.str [],.aw yb 4 0 1,bd,.sl true 5 []]=r9:=⟨_,rfl⟩;rw[sT]at cy kn;have kn:Kn G H13 [(R.l,R.o (k+1+1+1+1+1))] ((yn2,.vec 5 ((us[i].os.map OSt.row).take a++[r9]))::(O++[(yb,.vec 4 [(Ah q).cells]),(x9,.st r9)])):=by
    have:=Kn.ap (kn.perm J2) 0 rfl qh cy;simpa[List.take_take]using this
   have gz:H13 z=.vec 3 (us.map OFn.row):=kn.getL (Jk _ (Jb _ (lM _ ZaJ)));obtain⟨sc1,sc2,_,_⟩:=Gr.cuts (H:=H13) cw.b (fun p hp=>kn.getL (Jk _ (Jb _ (lM p (DO dV (Eu hp)))))) (a:=a) (by rw[Jd];exact ha);have gyn:H13 yn2=.vec 5 ((us[i].os.map OSt.row).take a++[r9]):=kn.getL ZV;have ej:=eq_true sc2.ok;have gR:=sc2.sz;have oQ:=sc2.len;have dj:=sc2.rows;rw[Ja6,Jd]at oQ;simp only[go_sem,O1,gz,gyn,hi,aY,aI,gg,db,pz,d9,iA,so1,so2,l2,l3,l7,l8,l9,ej,gR,oQ,dj,bnds,Jax,Jab,Jad,J9,Jd,Jm,Jg];refine⟨⟨tu kn (fun p hp=>Jk _ (Jb _ hp)),ZT,ZT⟩,by simp;omega,fun r hr=>oD r (List.mem_of_mem_drop hr),by have:=Ch;omega,fun yn3 qg H14 ny=>?_⟩;rw[Jo (l:=(us[i].os.map OSt.row).take a++[r9]) Zac]at ny;obtain⟨rb,qU⟩:∃rb,(us[i].os.map OSt.row).take a++[r9]++(us[i].os.map OSt.row).drop a=rb:=⟨_,rfl⟩;have qT:rb.length=a+1+(us[i].os.length-a):=by rw[←qU];simp;omega
   rw[qU]at ny;rw[←qT];have kn:Kn G H14 [(R.l,R.o (k+1+1+1+1+1))] ((yn3,.vec 5 rb)::(O++[(yb,.vec 4 [(Ah q).cells]),(x9,.st r9)])):=by
    have:=Kn.ap kn 0 rfl qg ny;simpa using this
   have gz:H14 z=.vec 3 (us.map OFn.row):=kn.getL (Jk _ (Jb _ (lM _ ZaJ)));simp only[go_sem,O2,gz,hi,aY,aI,gg,l2,l3,l7,l8,l9,Jd,Jm,Jg];intro H15 h15;have kn:Kn G H15 [(R.l,R.o (k+1+1+1+1+1))] (((yn3,.vec 5 rb)::(x2,.st [.sl true 3 []])::us.flatMap OFn.lg)++(z,.vec 3 ((us.map OFn.row).set i [.str us[i].f.name,us[i].pc,.aw yn3 5 0 rb.length]))::[(x3,.st [.aw z 3 0 us.length]),(yb,.vec 4 [(Ah q).cells]),(x9,.st r9)]):=
    Kn.stM (by simpa[←hO,obU]using kn) h15
   have g2:H15 x2=.st [.sl true 3 []]:=kn.getL ZV;have g3:H15 x3=.st [.aw z 3 0 us.length]:=kn.getL ZV;refine Zi g2 g3 ?_;intro H16 gI;have kn:Kn G H16 [(R.l,R.o (k+1+1+1+1+1))] ([(yn3,.vec 5 rb),(x2,.st [.aw z 3 0 us.length])]++(us.flatMap OFn.lg++(z,.vec 3 ((us.map OFn.row).set i [.str us[i].f.name,us[i].pc,.aw yn3 5 0 rb.length]))::[(x3,.st [.aw z 3 0 us.length]),(yb,.vec 4 [(Ah q).cells]),(x9,.st r9)])):=by
    have:=Kn.stM (A:=[(yn3,.vec 5 rb)]) ZaW gI;simpa using this
   have g2:=kn.l 1 rfl;refine ZQ g2 ?_;have jC:∀p∈[(yn3,.vec 5 rb),(x2,Obj.st [.aw z 3 0 us.length])]++(us.flatMap OFn.lg++(z,.vec 3 ((us.map OFn.row).set i [.str us[i].f.name,us[i].pc,.aw yn3 5 0 rb.length]))::[(x3,.st [.aw z 3 0 us.length]),(yb,.vec 4 [(Ah q).cells]),(x9,.st r9)]),H16 p.1=p.2∧un G p.1=true:=fun p hp=>⟨(kn.get p (Jc _ hp)).1,BP (kn.loc p hp)⟩;obtain⟨f',eX⟩:∃f':Fn,f'=⟨us[i].f.name,us[i].f.params,((us[i].os.take a).map OSt.x++[.mk op [] [Ah q] bb []])++(us[i].os.drop a).map OSt.x⟩:=⟨_,rfl⟩;have kO:∀u∈us,∀p∈u.lg,H16 p.1=p.2∧un G p.1=true:=fun u hu p hp=>jC p (Jc _ (Jb _ (Jam.2 ⟨u,hu,hp⟩)));have bM:FrzC H16 (un G) (.aw yn3 5 0 rb.length) (.sl false 5 (Qk f'.body)):=by
    refine FrzR.aw (jC (yn3,.vec 5 rb) ZV).2 (jC (yn3,.vec 5 rb) ZV).1 rfl ?_;rw[←qU,eX];have fN:∀o∈us[i].os,FrzL H16 (un G) o.row o.x.cells:=fun o ho=>OSt.frz (cw.o o ho) fun p hp=>kO _ dV p (Jc _ (Jb _ (Jam.2 ⟨o,ho,hp⟩)));have bu:∀l:List OSt,(∀o∈l,o∈us[i].os)→FrzR H16 (un G) (l.map OSt.row) (Qk (l.map OSt.x)):=fun l hl=>by
     rw[Dj];exact Hc l fun o ho=>fN o (hl o ho)
    rw[←BR,←BR,←Jbc,←List.map_drop];refine ((bu _ fun o ho=>Jay ho).app (.cons ?_ .nil)).app (bu _ fun o ho=>List.mem_of_mem_drop ho);rw[←sT,St.aa];have lT:=jC (yb,.vec 4 [(Ah q).cells]) ZV;exact .cons (Qe rfl) (.cons (Qe rfl) (.cons (FrzR.aw lT.2 lT.1 rfl (FrzR.same (Bb [Ah q]))) (.cons (lK _ _) (.cons FrzR.nil.sl .nil))))
   have bv:FrzR H16 (un G) ((us.map OFn.row).set i [.str us[i].f.name,us[i].pc,.aw yn3 5 0 rb.length]) (Qo ((us.map OFn.f).set i f')):=by
    obtain⟨us1,us2,eU,iM⟩:=GD hi (rfl:us[i]=us[i]);obtain⟨u,gQ⟩:∃u,us[i]=u:=⟨_,rfl⟩;have sV:=Gr.frzm (H:=H16) (S:=un G) cw.p (fun p hp=>kO _ dV p (Jb _ hp)) (FrzR.same (CJ _));rw[gQ]at eU eX sV⊢;have e1:us.map OFn.row=us1.map OFn.row++u.row::us2.map OFn.row:=Zb8;have e2:us.map OFn.f=us1.map OFn.f++u.f::us2.map OFn.f:=Zb8;have nX:∀l:List OFn,(∀v∈l,v∈us)→FrzR H16 (un G) (l.map OFn.row) (Qo (l.map OFn.f)):=fun l hl=>Hc l fun v hv=>OFn.frz (hL.ok v (hl v hv)) fun p hp=>kO v (hl v hv) p hp;rw[e1,e2,G5 _ _ _ _ (by rw[Jd];exact iM),G5 _ _ _ _ (by rw[Jd];exact iM),Qo,Jr,Jl];refine (nX us1 fun v hv=>by rw[eU];exact Jb _ hv).app (.cons ?_ (nX us2 fun v hv=>by rw[eU];exact Jc _ (Jk _ hv)));rw[eX];rw[eX]at bM;exact .cons (Qe rfl) (.cons sV (.cons bM .nil))
   have sC:=jC (z,.vec 3 ((us.map OFn.row).set i [.str us[i].f.name,us[i].pc,.aw yn3 5 0 rb.length])) ZV;refine⟨_,(FrzL.cons (FrzR.aw sC.2 sC.1 ZV bv) .nil).ag,hK _ _ (k+1+1+1+1+1) ZT ZT kn.fin ⟨?_,fun f hf=>?_⟩⟩
   ·have h1:=Sv (us.map OFn.f) i f';have h2:=hL.size;have h3:Qj f'.body≤Qj us[i].f.body+20:=by
     have h4:us[i].f.body=(us[i].os.take a).map OSt.x++(us[i].os.drop a).map OSt.x:=(by rw[←Jr,List.take_append_drop,cw.x]);rw[h4,eX];simp only[Cf,Qj,St.size,Qw,Ah,Ex.size];omega
    omega
   ·rcases Qbmn hf with rfl|hf
    ·rw[eX];exact hL.par us[i].f (Jae dV)
    ·exact hL.par f hf
  refine Qz (Qa ?_);have g9:H10 x9=.st [.int .i64 op,.str [],.aw yb 4 0 1,.sl true 5 [],.sl true 5 []]:=kn.getL ZV;simp only[go_sem,g9];refine Qf (Qb rfl (fun h7=>?_) (fun h7=>?_))
  ·refine Za ?_;refine De fun H11 hu=>?_;have kn:=kn.ay hu;have g9:H11 x9=.st [.int .i64 op,.str [],.aw yb 4 0 1,.sl true 5 [],.sl true 5 []]:=kn.getL ZV;simp only[go_sem,O4,g9];refine⟨rfl,fun H12 dr=>?_⟩;have lK:∀H S,FrzC H S (.sl true 5 [[.int .i64 3,.str [],.sl true 4 [(Ah 9).cells],.sl true 5 [],.sl true 5 []]]) (.sl false 5 (Qk [.mk 3 [] [Ah 9] [] []])):=fun H S=>
    (FrzR.cons (.cons (Qe rfl) (.cons (Qe rfl) (.cons (FrzR.same (Bb [Ah 9])).sl (.cons FrzR.nil.sl (.cons FrzR.nil.sl .nil))))) .nil).sl
   have kn:Kn G H12 [(R.l,R.o (k+1+1+1+1+1))] (O++[(yb,.vec 4 [(Ah n).cells]),(x9,.st [.int .i64 op,.str [],.aw yb 4 0 1,.sl true 5 [[.int .i64 3,.str [],.sl true 4 [(Ah 9).cells],.sl true 5 [],.sl true 5 []]],.sl true 5 []])]):=by
    have:=Kn.stM (A:=O++[(yb,.vec 4 [(Ah n).cells])]) (B:=[]) ZaW dr;simpa using this
   have g9:H12 x9=.st [.int .i64 op,.str [],.aw yb 4 0 1,.sl true 5 [[.int .i64 3,.str [],.sl true 4 [(Ah 9).cells],.sl true 5 [],.sl true 5 []]],.sl true 5 []]:=kn.getL ZV;refine Zd g9 ?_;refine Qb rfl (fun h6=>?_) (fun h6=>?_)
   ·have gb:H12 yb=.vec 4 [(Ah n).cells]:=kn.getL ZV;refine Bf ?_;simp only[go_sem,g9];refine De fun H13 hu=>?_;have kn:=kn.ay hu;have g9:H13 x9=.st [.int .i64 op,.str [],.aw yb 4 0 1,.sl true 5 [[.int .i64 3,.str [],.sl true 4 [(Ah 9).cells],.sl true 5 [],.sl true 5 []]],.sl true 5 []]:=kn.getL ZV;have gb:H13 yb=.vec 4 [(Ah n).cells]:=kn.getL ZV;simp only[go_sem,O3,g9,gb,Jj,Ji,Jbg,Jm,Jg];refine⟨rfl,Jg _,fun H14 ny=>?_⟩;have kn:Kn G H14 [(R.l,R.o (k+1+1+1+1+1))] (O++[(yb,.vec 4 [(Ah 0).cells]),(x9,.st [.int .i64 op,.str [],.aw yb 4 0 1,.sl true 5 [[.int .i64 3,.str [],.sl true 4 [(Ah 9).cells],.sl true 5 [],.sl true 5 []]],.sl true 5 []])]):=Kn.stM (A:=O) kn ny;exact fin 0 _ _ _ _ kn rfl lK (by simp[Qj,St.size,Qw,Ah,Ex.size]) rfl rfl rfl rfl rfl
   ·refine Zf ?_
    exact fin n _ _ _ _ kn rfl lK (by simp[Qj,St.size,Qw,Ah,Ex.size]) rfl rfl rfl rfl rfl
  ·refine Zc ?_
   exact fin n _ [] _ _ kn rfl (fun H S=>FrzR.nil.sl) (by simp[Qj]) rfl rfl rfl rfl rfl
 ·have g2:=kn.l 0 rfl;have g3:H2 x3=.st [.aw z 3 0 us.length]:=kn.getL ZV;refine Zc ?_
  refine Zi g2 g3 ?_;intro H3 h3;have kn:=kn.ax 0 rfl h3;have g2:=kn.l 0 rfl;refine ZQ g2 ?_;have hf:=PV (H:=H3) (S:=un G) hL.ok (Gr.mk (n:=us.length) z 3 (us.map OFn.row) (by rw[Jd])) fun p hp=>by
   have lC:p∈([(x2,Obj.st [.sl true 3 []])]++(obU z us++[(x3,Obj.st [.aw z 3 0 us.length])])).set 0 (x2,.st [.aw z 3 0 us.length]):=by
    simp only[Jx,J6,List.set_cons_zero];exact Jk _ (Jb _ hp)
   exact⟨(kn.get p (Jc _ lC)).1,BP (kn.loc p lC)⟩
  exact⟨_,(FrzL.cons hf .nil).ag,hK _ _ (k+1) ZT ZT kn.fin (hL.ps ZT)⟩
theorem Qbl3 {R:Rdr}{k:Nat}(hH:H R.l=R.o k)(hk:k+16000000≤2^30)
  (hK:∀(l:List Fn) (H':Heap) (k':Nat),k<k'→k'≤k+16000000→Upd H H' [(R.l,R.o k')]→PS l→K (.ag [.sl false 3 (Qo l)]) H') :
  Qm prog KE [.c (.ptr R.l 0)] H K:=by
 refine Q1 ?_;refine Qc Aa Qbmk ?_;refine Za ?_;intro x2 bB H1 h1;have kn:=(Kn.start1 hH (R.am k)).al bB h1;refine Qz (Qa ?_);simp only[go_sem];refine A0 (kn.e 0 rfl) ZT fun v H5 hv hu=>?_;have kn:=kn.ak 0 rfl hu (R.am _);have g2:=kn.l 0 rfl;simp only[go_sem,MC];refine Qf (Qb rfl (fun hc=>?_) (fun hc=>?_))
 ·refine Za ?_;refine Qbgl (kn.e 0 rfl) ZT fun l H6 k6 b1 b2 hu hT=>?_;have kn:=kn.ak 0 rfl hu (R.am _);have g2:=kn.l 0 rfl;simp only[go_sem,MB,g2];intro H7 h7;have kn:=kn.ax 0 rfl h7;have g2:=kn.l 0 rfl;refine ZQ g2 ?_;exact⟨_,(FrzL.cons (FrzR.same (CB _)).sl .nil).ag,hK l _ k6 ZT ZT kn.fin hT⟩
 refine Zc ?_
 refine Za ?_;refine Fx (kn.e 0 rfl) ZT fun l H2 k2 c1 c2 hu cN=>?_;have kn:=kn.ak 0 rfl hu (R.am _);have kT:=cN.pos;have tq:=cN.len;have aO:=cN.size;simp only[go_sem,M8];refine FX (l:=l) rfl (.mk' _ false 3 _) ZT (fun f hf=>by have:=cN.par f hf;omega) fun us t Lz H7 eS jy hz aq k2n=>?_;have kO:us.length=l.length:=by rw[←eS,Jd]
 obtain⟨z,rfl,rfl⟩:∃z,t=.aw z 3 0 us.length∧Lz=[(z,.vec 3 (us.map OFn.row))]:=by
  rcases hz with ⟨_,h,_⟩|⟨y,h1,h2⟩
  ·have:=congrArg List.length h;rw[Jd,Ji]at this;omega
  ·exact⟨y,by rw[h1,Jd],h2⟩
 have pA:LQ us (2^34):=by
  refine⟨jy,ZT,fun u hu o ho=>?_,by rw[eS];exact aO,fun f hf=>by rw[eS]at hf;have:=cN.par f hf;omega⟩;have h1:o.x∈u.f.body:=by rw[←(jy u hu).x];exact Jae ho
  have h2:u.f∈l:=by rw[←eS];exact Jae hu
  have:=Rv (cN.ok _ h2) _ h1;rw[St.ok_eq]at this;exact this.1
 have kn:=kn.addNew k2n;simp only[go_sem,M9];intro x3 bQ H8 h8;have kn:=kn.al bQ h8;have g3:H8 x3=.st [.sl true 3 []]:=kn.getL ZV;simp only[go_sem,MA,g3];intro H9 h9;have kn:Kn H H9 [(R.l,R.o k2)] ([(x2,.st [.sl true 3 []])]++(obU z us++[(x3,.st [.aw z 3 0 us.length])])):=by
  have:=Kn.stM (A:=[(x2,.st [.sl true 3 []])]++obU z us) (B:=[]) (by simpa[obU]using kn) h9;simpa using this
 clear g3 h9 h8 h1 hv hc;refine Qz (Qa ?_);simp only[go_sem];refine Bj (ns:=[2,4,1,0]) (kn.e 0 rfl) ZT ZV fun v H10 hv hu=>?_;have kn:=kn.ak 0 rfl hu (R.am _);have sM:0≤v∧v≤4:=by
  simp only[J1,J8,or_false]at hv;omega
 obtain⟨n,rfl⟩:=J7 sM.1;simp only[go_sem,M7];refine Qf (Qg (Q3 (fun m e1 H1=>∃(us':List OFn) (k':Nat),m≤4∧LQ us' (2^34+(4-m))∧us'.length=us.length∧k2<k'∧k'+10 * m≤k2+100∧
  Kn H H1 [(R.l,R.o k')] ([(x2,.st [.sl true 3 []])]++(obU z us'++[(x3,.st [.aw z 3 0 us.length])]))∧e1=[(0,.c (.ptr R.l 0)),(2,.c (.ptr x2 0)),(3,.c (.ptr x3 0)),(4,.c (.int .i64 m))]) n ?_ ?_))
 ·exact⟨us,_,ZT,⟨pA.ok,pA.pos,pA.args,by have:=pA.size;omega,pA.par⟩,rfl,ZT,ZT,kn,rfl⟩
 ·clear kn;rintro m e1 H1 ⟨us',k',hm,hL,aM,eN,hk2',kn,rfl⟩;have g3:H1 x3=.st [.aw z 3 0 us.length]:=kn.getL ZV;have gz:H1 z=.vec 3 (us'.map OFn.row):=kn.getL ZaJ;refine Qz (Qa ?_);simp only[go_sem];refine Qf (Qb rfl ?_ ?_)
  ·intro hc;have ib:0<m:=ZU
   obtain⟨m,rfl⟩:∃m',m=m'+1:=⟨m-1,ZT⟩;refine Zc ?_
   refine Qf (Qg ?_);refine An ?_;simp only[go_sem,g3,gz,aM,Jd,Jm,Jg];try intro _
   refine A0 (kn.e 0 rfl) ZT fun iv H2 oX hu=>?_;have kn:=kn.ak 0 rfl hu (R.am _);rw[if_neg ZT]at oX;obtain⟨i,rfl⟩:=J7 oX.1;have hi:i<us'.length:=ZT
   have eO:i<us.length:=ZT
   have g3:H2 x3=.st [.aw z 3 0 us.length]:=kn.getL ZV;have gz:H2 z=.vec 3 (us'.map OFn.row):=kn.getL ZaJ;have aI:=hL.rows hi;have dV:=Jq hi;have cw:=hL.ok _ dV;have gg:=cw.p.ah;have db:=cw.b.ah;have eG:=hL.slc (z:=z) kn (fun p hp=>Jc _ (Jb _ hp)) hi;have eL:=eq_true eG.ok;have d9:=eG.len;rw[Jd]at d9;have aY:(us'.map OFn.row).take us.length=us'.map OFn.row:=Jo (by rw[Jd];omega);simp only[go_sem,M6,g3,gz,eO,aM,Jd,Jm,Jg];refine Qa ?_;simp only[go_sem,gz,eO,aM,aY,aI,gg,db,eL,d9,Jd,Jm,Jg];try intro fP
   refine Qb rfl ?_ ?_
   ·intro au;have ji:0<us'[i].os.length:=ZZ;obtain⟨y,nq,fD,ir⟩:=hL.vec (z:=z) hi ji;have gy:H2 y=.vec 5 (us'[i].os.map OSt.row):=kn.getL (Jc _ (Jb _ ir));rw[nq]at aI;refine An ?_;simp only[go_sem,gz,gy,eO,aY,aI,gg,aM,Jd,Jm,Jg];try intro _
    refine A0 (kn.e 0 rfl) ZT fun jv H3 oW hu=>?_;have kn:=kn.ak 0 rfl hu (R.am _);rw[if_neg ZT]at oW;obtain⟨j,rfl⟩:=J7 oW.1;have hj:j<us'[i].os.length:=ZT;have gz:H3 z=.vec 3 (us'.map OFn.row):=kn.getL ZaJ;have gy:H3 y=.vec 5 (us'[i].os.map OSt.row):=kn.getL (Jc _ (Jb _ ir));have ef:(us'[i].os.map OSt.row).take us'[i].os.length=us'[i].os.map OSt.row:=Jo ZbY;obtain⟨o,jN⟩:∃o,us'[i].os[j]=o:=⟨_,rfl⟩;have kV:o∈us'[i].os:=(by rw[←jN];exact Jq hj);have dx:=Gr.ah (cw.o o kV);have ce:(us'[i].os.map OSt.row).getD j []=[.int .i64 o.x.op,.str o.x.name,o.ac,.sl false 5 (Qk o.x.body),.sl false 5 (Qk o.x.els)]:=(by rw[DP (by rw[Jd];exact hj),Ja5,jN];rfl);have jI:=fun A B F H E kn=>LQ.setArg (z:=z) (A:=A) (Bk:=B) (F:=F) (H:=H) (E:=E) hL hi hj kn;rw[jN]at jI;have ez:=hL.args _ dV o kV;simp only[go_sem,M5,gz,gy,eO,hj,aY,aI,gg,aM,Jd,Jm,Jg];refine Qbl6 (kn.e 0 rfl) ZT gy hj ce dx fun b k3 H4 hk3 hk3' hu=>?_;have kn:=kn.ak 0 rfl hu (R.am _);refine Qb rfl (fun hb=>?_) (fun hb=>?_)
    ·obtain⟨ya,j5,gya0,sQ⟩:=jI _ _ _ _ _ kn;have gy:H4 y=.vec 5 (us'[i].os.map OSt.row):=kn.getL (Jc _ (Jb _ ir));rw[j5]at ce;refine Bf ?_;simp only[go_sem,gy,hj,ef,ce,Jd,Jm,Jg];refine Bj (ns:=[0,1,5]) (kn.e 0 rfl) ZT ZV fun v5 H5 hv5 hu=>?_;have kn:=kn.ak 0 rfl hu (R.am _);have gy:H5 y=.vec 5 (us'[i].os.map OSt.row):=kn.getL (Jc _ (Jb _ ir));simp only[go_sem,Og,gy,hj,ef,ce,Jd,Jm,Jg];refine De fun H6 hu=>?_;have kn:=kn.ay hu;obtain⟨ya',sr,gya,kQ⟩:=jI _ _ _ _ _ kn;obtain rfl:ya'=ya:=(by rw[sr]at j5;injection j5);have gy:H6 y=.vec 5 (us'[i].os.map OSt.row):=kn.getL (Jc _ (Jb _ ir));simp only[go_sem,Oh,gy,gya,hj,ef,ce,ez,Qh,Jd,Jbg,Jm,Jg];refine⟨rfl,Jg _,fun H7 h7=>?_⟩;have qc:List.drop (Ah v5).cells.length ((Ql o.x.args).getD 0 [])=[]:=by
      rw[Qs _ _ ez];exact Jy (by simp[Ex.aa])
     rw[qc,Jan]at h7;obtain⟨us2,qd,oP,sS,kn⟩:=kQ (Ah v5) H7 h7;try simp only[go_sem,AE.X.next]
     refine Zk ?_;refine⟨Qv,m,ZT,us2,k3+1,ZT,qd.mono (by simp only[Ah,Ex.size,Qw];omega),ZT,ZT,ZT,kn,?_⟩;rw[show (((m+1:Nat):Int)-1)=(m:Int)by omega]
    ·refine Zf ?_
     refine Zk ?_;refine⟨Qv,m,ZT,us',k3,ZT,hL.mono ZT,aM,ZT,ZT,kn,?_⟩;rw[show (((m+1:Nat):Int)-1)=(m:Int)by omega]
   ·intro au;refine Zf ?_
    refine Zk ?_;refine⟨Qv,m,ZT,us',k'+1,ZT,hL.mono ZT,aM,ZT,ZT,kn,?_⟩;rw[show (((m+1:Nat):Int)-1)=(m:Int)by omega]
  ·intro hc;refine Zg ?_;exact Qbl5 (z:=z) (k0:=k) ⟨hL.ok,hL.pos,hL.args,by have:=hL.size;omega,hL.par⟩ (k:=k') ZT ZT hk (by rw[←aM]at kn;exact kn) hK rfl rfl rfl
end Go.AE.Y
namespace Go.AE
variable {P:Program}{H:Heap}{e:Env}
theorem YW {Q:X→Env→Heap→Prop}{v:Value}:X.panK Q v H=Q (.pan v) [] H:=rfl
theorem XF {b:SC}{Q:X→Env→Heap→Prop}{v:Value}:X.sq P b Q (.pan v) e H=Q (.pan v) e H:=rfl
theorem Yp {i:Nat}{Q:X→Env→Heap→Prop}{v:Value}:X.inBlock i Q (.pan v) e H=Q (.pan v) e H:=rfl
theorem Qbmq {K:Env→Heap→Prop}{Q:X→Env→Heap→Prop}{v:Value}:X.next K Q (.pan v) e H=Q (.pan v) e H:=rfl
theorem Qbkq {rs:List RS}{K:V→Heap→Prop}{v:Value}:Qq rs K (.pan v) e H=K (.pn v) H:=rfl
attribute [go_sem] YW XF Yp Qbmq Qbkq
end Go.AE
namespace Go.AE.Y
open Go.Proofs.Tryz
def Qaf2:=dZ 0x87410a90049f0801a21193
def Qaf3:=dZ 0x919f00306801911 Qaf2
def Qaf4:=dZ 0x20f80009f01012070800c50
def Qaf5:=dW 0x190940030890790059f71b60b179f690109f08f180010020708011b10142 [Qaf3,Qaf4] [] [fI 22 (.lup2 1 (.c (.int .i64 0)) (.t 20) (.t 21))]
def Qaax:=dZ 0x900680b3900308f032f1f01012076007512 Qaf5
def Qaf6:=dZ 0x7410b90049f0801b21
def Qap8:=dZ 0x19095004200208f00411 Qaax [] Qaf6
theorem Qapq:mFn prog SL 2 28 Qap8 Ab=true:=ZW
def Q4b:=dW 0x8002008f0710063 [] [] [aJ 7 HB [kI 2]]
def Q4c:=dW 0x7410c80049f08f0421770700861 [] [] [fI 12 (.iaa 1 16 (.t 11) (.t 9))]
def Q4d:=dZ 0x190940030106f0743005212 Q4b [] Q4c
def Qaa1:=dZ 0x900208f00411 Q4d
theorem Q9u:mFn prog SU 2 13 Qaa1 Ab=true:=ZW
def Qks:=dY 0x1a0069f08f219f0100207f92014f1c6 [] [fI 33 (.lup 1 (.c (.int .i64 0)) (.t 30) (.t 32))]
def SY:=dY 0xf0242b1
def Q4e:=dZ 0x876100f006112b3
def Qkt:=dY 0x6b05b0079fca1bca0b359f4b02c5
def Qku:=dY 0x101f0a6f3e0d341 Qkt
def Q4f:=dZ 0x76107b0069f7803721
def Qmm:=dW 0x971108f2800461f0430148320802d71 [Q4f] [Qku] [aJ 51 Cn [.t 45,.t 49,.t 50]]
def Qkv:=dY 0x4c0069f0107433
def VJ:=dY 17364001 Qkv [aJ 66 SU [.t 58,.t 65]]
def Qkw:=dY 0xdcb84e001
def Qi1:=dY 5046417
def Qi2:=dY 0x105122f011c532 Qi1
def Q08:=dW 0x48f41107108f280b8460809804e50 [] [Qi2] [aJ 82 Cn [.t 79,.t 80,.t 81]]
def Q09:=dZ 0x48f4110705d04a9f1fac045520
def Q1a:=dZ 0x19090048f141108147100432f0b9f04613434c310242 Q08 Qkw Q09
def Qw5:=dZ 0x9014bb00048f41108010444b11 Q1a
def Qi3:=dY 0xfd0061
def Qi4:=dY 0x1016d36fd5f1 Qi3
def Qkn:=dZ 0x761102296d5d9f9805e9f014822016002070800805690a090708060504030201000b0ba2 .skip Qi4
def Qko:=dZ 0x190950140048f4110700f00501483247412 Qw5 [] Qkn
def Q1b:=dZ 0x80941104014f00911453 Qko
def Q1c:=dW 0x945f110406c0459f0d6f19244621761108f2800460f0430148320800803a81383 [Q1b] [VJ] [aJ 65 Cn [.t 59,.t 63,.t 64]]
def Q1d:=dW 0x2938fc110509b0389f0c6f1924392119092bf1104108f2800460f04301483208024712223 [Q4e,Qmm,Q1c] [SY] [aJ 42 Cn [.t 36,.t 40,.t 41]]
def Q1e:=dW 0x922fc110503a0229f0a6f19242321761108f1b9f0148221f9f0148222801860a09060504080308070201000c0ba2163 [Q1d] [Qks] [aJ 27 SL [.t 24,.t 26]]
def Q1f:=dZ 0x94c11050790169f026f52417217610590069f0148121431123 Q1e
def Q1g:=dZ 0x90c11050390129f1f1241321004 Q1f
def Ks:=dY 0xf06e00c2
def Qi5:=dY 0x715f00d1
def Q1h:=dW 0x80743108f2800461f0430148320806b706a3 [] [Qi5] [aJ 113 Cn [.t 107,.t 111,.t 112]]
def Tb:=dY 0x795f0785f00e9f61b50b789f775f0725
def Q1i:=dW 0x8e1008f7c107b3 [] [] [aJ 124 HB [kI 1]]
def Q1j:=dZ 0x76107d5f0069fe807d21
def Qkp:=dZ 0x19097bfe2008f807a212 Q1i [] Q1j
def Qkq:=dZ 0x90e210123e0dd80c800148027351 Qkp Tb
def Qkr:=dZ 0x19096af07110601f0640501483267412 Q1h [] Qkq
def VK:=dW 0x9071105108f2800460f0430148320806071 [Qkr] [Ks] [aJ 102 Cn [.t 96,.t 100,.t 101]]
def Q1k:=dZ 0x1909c1104001480210212 Q1g [] VK
def Qaa2:=dZ 0x9110300f0069f290421 Q1k
theorem Q9v:mFn prog Cn 3 126 Qaa2 Ad=true:=ZW
def Qkl:=dY 0xd80079f090101342d1f0c3
def Q34:=dW 0xe40007007f01011388028098001002077801daa0af [] [] [.e none none (.upd 1 (.t 32) (.t 33) (.t 37))]
def Q35:=dZ 0xe4000706a0189f1f89042620
def Q36:=dZ 0x190900c00400090c90a90089f012413101a510142 Q34 [] Q35
def Q07:=dZ 0x90019b000e40008010441911 Q36
def Qkm:=dY 2818209
def Q37:=dZ 0x876108b0069f0100207a803551343
def Q38:=dZ 0x934fa208f032f1fa803321 Q37
def Q39:=dZ 0x76100f00611
def Q4a:=dZ 0x1909a11017a3a6d780010220133180010020020708008027c12 Q38 Qkm Q39
def Q05:=dZ 0x1909500400e4000700f00501012013318001002002070800eb12 Q07 [] Q4a
def Q06:=dW 0x940004108f0b11 [Q05] [Qkl] [eI 11 .mkm]
def Qaa0:=dZ 0x9000300f00611 Q06
theorem Q9t:mFn prog Qnb 3 57 Qaa0 Ad=true:=ZW
def Qi0:=dY 0xf8885e001
def VR:=dY 5832849
def Q0y:=dZ 0x87610890069f9801821173
def Q0z:=dZ 0x9a000610708f032f1f9801621 Q0y
def Q00:=dZ 0x9000610610123ead28088560801241 Q0z VR
def Q01:=dZ 0x90015106001e9d0801021 Q00
def Q02:=dZ 0x710509900c9f1fc8041920
def Q03:=dZ 0x19090015106157574710532f089f05613530e310142 Q01 Qi0 Q02
def Qw4:=dZ 0x9000db0007106010440d11 Q03
def RO:=dZ 0x76108f00611
def Qw3:=dZ 0x1909500400710500f0051800a312 Qw4 [] RO
def Q8g:=dZ 0x9000308f00611 Qw3
theorem Q7p:mFn prog Ql3 3 26 Q8g Ad=true:=ZW
def Q4m:=dW 0x801008f0b100a3 [] [] [aJ 11 HB [kI 3]]
def Q4n:=dZ 0x201e022471f00401022070800c80
def Qaa4:=dZ 0x190990200424010120750010220710029909f22 Q4m [] Q4n
theorem Q9x:mFn prog Qnc 1 19 Qaa4 AJ=true:=ZW
def Qkz:=dY 0xf034141
def Qk0:=dY 0xa90071
def Qk1:=dY 0x10243a6d31714f1a2 Qk0
def Q4g:=dZ 0x87610d90069f7801d211c3
def Q4h:=dZ 0x91cf2110508f032f1f7801b21 Q4g
def Q4i:=dZ 0x1103001e9d0801e20
def Q4j:=dW 0x190921104108f28001483208015506050204030201000807a22014 [Q4h,Q4i] [Qk1] [aJ 25 HN [.t 24]]
def Q1w:=dW 0x9006814314f1104108f2800460f0430148220800d712 [Q4j] [Qkz] [aJ 19 Cn [.t 13,.t 17,.t 18]]
def Q4l:=dZ 0x81909500420c3 Q1w [] RO
def Qi6:=dY 6946945
def Qi7:=dY 0x7f0100207bb3c14f385 [] [.e none none (.upd 1 (.t 58) (.t 60) (.t 61))]
def Qi8:=dY 0x201e03277483
def VQ:=dY 2949265
def Qi9:=dY 0x101e17980563
def Q1l:=dW 0x108f8800805330 [] [Qi9] [aJ 85 SU [.t 83,.t 84]]
def Qja:=dY 1966177
def Qjb:=dY 0x10243a6d35e14f612 Qja
def Q1m:=dW 0x8761108f2800148320805c506050204030201000807a25b3 [] [Qjb] [aJ 96 HN [.t 95]]
def Qjc:=dY 8257633
def Qjd:=dY 0x10243a6d36414f672 Qjc
def Q1n:=dW 0x761108f28001484208062506050204030201000807a2 [] [Qjd] [aJ 102 HN [.t 101]]
def Q1o:=dZ 0x87610ce0069f09010101d1f8806a41683
def Q1p:=dW 0x2968f8209e0689f076f8a24692119095bf110400f0348805a212583 [Q1m,Q1n,Q1o] []
def Q1q:=dW 0x1958f28f3110609d0589f056f8a245921090703108f2800461f0430148220804c714a3 [Q1l,Q1p] [VQ] [aJ 82 Cn [.t 76,.t 80,.t 81]]
def Q1r:=dZ 0x94af28f311060bc04a9f046f8a244b210102122f011c880010320708008040803e3 Q1q Qi8
def Q1s:=dW 0x93ef28f311060fb03e9f036f8a243f210108f379f8800148123b9f0148122803470a06050408030908070201000c0ba323 [Q1r] [Qi7] [aJ 55 SL [.t 52,.t 54]]
def Q1t:=dW 0x9928f3110603b0329f026f8a2433210007f88001481201002072802b8808f293 [Q1s] [] [.e none none (.upd 1 (.t 46) (.t 48) (.t 49))]
def Qkx:=dZ 0x9028f311060aa0299f1f1242a21024 Q1t
def Q1u:=dZ 0x190928f31105001480227212 Qkx [] RO
def Qky:=dW 0x931104108f2800460f0430148220802071 [Q1u] [Qi6] [aJ 38 Cn [.t 32,.t 36,.t 37]]
def Q1v:=dZ 0x1909711040066f024015020a312 Q4l [] Qky
def Qaa3:=dZ 0x9110308f0069f290421 Q1v
theorem Q9w:mFn prog VF 3 109 Qaa3 Ad=true:=ZW
theorem Qbaw:mFn prog HN 1 7 NH Ac=true:=ZW
def TW:=dY 0x490049f2f078a142
def TV:=dY 0x108826c0f03f00f50f00f10f010f20f0430f30f1f010f40f00f50f00f10f2800f20f00f10f600f20f60f00f0007d TW
def Qavv:=dZ 0x7411012cd2160521 .skip TV
def Qa24:=dZ 0x901202f0049f190221 Qavv
theorem Qa2q:mFn prog Pa 2 21 Qa24 Ab=true:=ZW
def Qn9:=dY 983153
def Qoa:=dY 0xd8881e001
def Qob:=dY 5120389249 Qoa
def V8:=dY 69229158658
def Qoc:=dY 0x201e98321b2
def Qod:=dY 0x149a91e391414f881114f003 Qoc
def Qoe:=dY 0xa0f92014f881d14f073
def Qaa7:=dZ 0x706214684e010220788198461c60604010504030201000907a2 .skip Qoe
def Qaa8:=dW 0x901631016bd199f98021a9f08f04207881010320788111a0c0b0a0300080907060504030201000f0dad22 [Qaa7] [Qod] [fI 24 (.aslp 16 (.t 23) none)]
def Qaa9:=dZ 0x901631016dd44838546ee1f0e21 Qaa8 V8
def Q8h:=dZ 0x90110350170017432f0911 Qaa9
def Q8i:=dW 0x9110341052f08f2806160a41 [Q8h] [Qob] [fI 12 (.bld [.sl true 3 [],.int .i64 0,.int .i64 0,.sl true 1 [],.int .i64 0,.int .i64 0,.int .i64 0,.int .i64 0,.int .i64 0,.int .i64 0,.int .i64 0,.int .i64 0,.int .i64 0,.int .i64 0,.int .i64 0,.int .i64 0,.int .i64 0,.int .i64 0,.int .i64 0,.int .i64 0] [(0,1,.t 10),(1,1,.t 11)])]
def Qak6:=dZ 0x9100241170017432f069f29290331 Q8i Qn9
abbrev GA:List RS:=[.cell 6 4 true,.tmp 7]
theorem Qaje:mFn prog Qs1 3 33 Qak6 GA=true:=ZW
def Qje:=dY 69230272690
def Q8j:=dZ 0x101536fd611f0140501302310470 .skip Qje
theorem Q7q:mFn prog Ql4 4 12 Q8j AJ=true:=ZW
def Ss:=dY 3080305
def ST:=dY 0x3f3a01c80f112
def V9:=dY 0x10fa09f0f03361c03f281c00f00080d4 ST
def s_im_RunProgram_4:=dZ 0x8706210684e01700174d1f1321123 .skip Ss
def Qny:=dY 0xa90091
def Qnz:=dY 0x199884e001 Qny
def Qn0:=dY 0x1170017432f089f51b40b199f890144 Qnz
def Qn1:=dY 4128881
def Qaal:=dZ 0x706210684e88461b21 .skip Qn1
def Qnv:=dZ 0x91621012337d28018038161541 Qaal Qn0
def Q76:=dZ 0x1909b20015101235d1806160a312 s_im_RunProgram_4 V9 Qnv
def Qaj3:=dZ 0x9200141170017432f069f290321 Q76 Ss
theorem Qai7:mFn prog Qsy 3 28 Qaj3 GA=true:=ZW
variable {H:Heap}{K:V→Heap→Prop}
def endV (n:Int):Value:=.iface 199 (.int .i64 n)
theorem Qbn1 (n:Int)(w:World):Calls prog HB #[.int .i64 n] w fun e w'=>e=.panicked [{ v:=endV n,recovered:=false }]∧w'=w:=by
 go_enter Go.Proofs.Tryz.func279,Go.Proofs.Tryz.ntmps279
 go_wp2
 exact⟨rfl,rfl,rfl⟩
theorem Fd {n:Int}(hK:K (.pn (endV n)) H):Qm prog HB [.c (.int .i64 n)] H K:=by
 refine⟨ZW,fun g w vs hs hl hv=>?_⟩;obtain⟨v,rfl⟩:∃v,vs=[v]:=by
  match vs,hl with
  |[v],_=>exact⟨v,rfl⟩
 have hr:=hv 0 _ v rfl rfl
 cases hr with
 |c _ _ hr=>
  cases hr;refine (Qbn1 n w).mono fun e w'=>?_;rintro⟨rfl,rfl⟩;exact .inr ⟨_,H,g,rfl,hK,.refl hs⟩
end Go.AE.Y
namespace Go.AE.Y
attribute [local go_sem] cond_true cond_false Bool.not_true Bool.not_false
open Go.Proofs.Tryz
variable {H H' H0:Heap}{K:V→Heap→Prop}{E A B:List (Nat×Obj)}
def natC (l:List Nat):List C:=l.map fun n=>.int .i64 (n:Nat)
structure Mn where
 l:Nat
 fl:Bool
 fns:List Fn
 S:Nat
structure Ma where
 m:Ms
 sc:C
 so:List (Nat×Obj)
def Mn.o (X:Mn)(a:Ma):Obj:=.st (.sl X.fl 3 (Qo X.fns)::.int .i64 X.S::.int .i64 (a.m.u:Nat)::a.sc::natC a.m.c)
def Mn.F (X:Mn)(a:Ma)(sd:ScD)(B:List (Nat×Obj)):List (Nat×Obj):=[(X.l,X.o a)]++(a.so++(sd.ob++B))
structure Ma.ok (X:Mn)(a:Ma):Prop where
 g:Gr a.so 1 (Ao a.m.s) a.sc
 b:a.m.by
 l:a.m.s.length≤a.m.u
 u:a.m.u≤X.S
 S:X.S≤60000
variable {X:Mn}{a a':Ma}{sd:ScD}
theorem mF_o (k:Kn H0 H E (X.F a sd B)):H X.l=.st (.sl X.fl 3 (Qo X.fns)::.int .i64 X.S::.int .i64 (a.m.u:Nat)::a.sc::natC a.m.c):=k.l 0 rfl
theorem mF_s (k:Kn H0 H E (X.F a sd B)):Kn H0 H E (([(X.l,X.o a)]++(sd.ob++B))++a.so):=k.perm (C8 fun f hf h0 hc hp=>by simp only[Mn.F,hf];omega)
theorem XN {so:List (Nat×Obj)}(hs:a'.so=so)(k:Kn H0 H E (([(X.l,X.o a')]++(sd.ob++B))++so)):Kn H0 H E (X.F a' sd B):=k.perm (C8 fun f hf h0 hc hp=>by simp only[Mn.F,hf,hs];omega)
theorem CL {p:Nat×Obj}(k:Kn H0 H E (X.F a sd B++[p])):Kn H0 H E (X.F a sd (p::B)):=k.perm (C8 fun f hf h0 hc hp=>by rw[hf];simp only[Mn.F,hf];rw[hc p B];omega)
theorem DG {l n:Nat}{es:List (C×V)}(k:Kn H0 H E (X.F a sd B++[(l,.map n es)])):Kn H0 H E (X.F a ((l,n,es)::sd) B):=k.perm (C8 fun f hf h0 hc hp=>by
 have:ScD.ob ((l,n,es)::sd)=[(l,.map n es)]++sd.ob:=rfl;rw[hf];simp only[Mn.F,hf,this];omega)
theorem En {x:Nat×Nat×List (C×V)}(k:Kn H0 H E (X.F a (x::sd) B)):Kn H0 H E (X.F a sd B):=k.sub (by
 refine List.Sublist.append (List.Sublist.refl _) (List.Sublist.append (List.Sublist.refl _) ?_);exact .cons _ (List.Sublist.refl _))
theorem E4 {A:List (Nat×Obj)}(k:Kn H0 H E (X.F a sd (A++B))):Kn H0 H E (X.F a sd B):=k.sub (by
 refine List.Sublist.append (List.Sublist.refl _) (List.Sublist.append (List.Sublist.refl _) (List.Sublist.append (List.Sublist.refl _) ?_));exact List.sublist_append_right _ _)
theorem Da (k:Kn H0 H E (X.F a sd B)):Kn H0 H E (X.F a [] B):=k.sub (by
 refine List.Sublist.append (List.Sublist.refl _) (List.Sublist.append (List.Sublist.refl _) ?_);exact List.Sublist.append (List.nil_sublist _) (List.Sublist.refl _))
theorem mF_B (k:Kn H0 H E (X.F a sd (A++B))):Kn H0 H E (([(X.l,X.o a)]++(a.so++(sd.ob++B)))++A):=k.perm (C8 fun f hf h0 hc hp=>by simp only[Mn.F,hf];omega)
theorem XO (k:Kn H0 H E (([(X.l,X.o a)]++(a.so++(sd.ob++B)))++A)):Kn H0 H E (X.F a sd (A++B)):=k.perm (C8 fun f hf h0 hc hp=>by simp only[Mn.F,hf];omega)
theorem D8 {p q:ScD}{l n:Nat}{es:List (C×V)}(k:Kn H0 H E (X.F a (p++(l,n,es)::q) B)):H l=.map n es:=
 (k.get (l,.map n es) ZbZ).1
theorem Fi {p q:ScD}{l n n':Nat}{es es':List (C×V)}(k:Kn H0 H E (X.F a (p++(l,n,es)::q) B))(h:H'=H.set l (.map n' es')):Kn H0 H' E (X.F a (p++(l,n',es')::q) B):=by
 have k2:Kn H0 H E (([(X.l,X.o a)]++(a.so++p.ob))++(l,.map n es)::(q.ob++B)):=by
  have e:X.F a (p++(l,n,es)::q) B=([(X.l,X.o a)]++(a.so++p.ob))++(l,.map n es)::(q.ob++B):=ZbZ
  rw[←e];exact k
 have k3:=k2.stM h;have e:X.F a (p++(l,n',es')::q) B=([(X.l,X.o a)]++(a.so++p.ob))++(l,.map n' es')::(q.ob++B):=ZbZ
 rw[e];exact k3
theorem Ma.ok.len (h:a.ok X):(natC a.m.c).length=16:=by rw[natC,Jd];exact h.b.c
theorem Ma.ok.tick (h:a.ok X)(hu:a.m.u<X.S):Ma.ok X ⟨⟨a.m.u+1,a.m.s,a.m.c⟩,a.sc,a.so⟩:=⟨h.g,h.b.tick _,Nat.le_succ_of_le h.l,hu,h.S⟩
theorem I0 {a b c d:C}{m:List C}{j:Nat}:(a::b::c::d::m).drop (4+j)=m.drop j:=by rw[Nat.add_comm];rfl
theorem X8 {a b c d:C}{m:List C}{j:Nat}:(a::b::c::d::m).take (4+j)=a::b::c::d::m.take j:=by rw[Nat.add_comm];rfl
theorem Qbmo {c:List Nat}{j:Nat}(hj:j<c.length):((natC c).drop j).take 1=[.int .i64 (c.getD j 0:Nat)]:=by
 have cY:j<(natC c).length:=by rw[natC,Jd];exact hj
 rw[Jac cY,Jap,Jaz];simp[natC,Jp,hj]
theorem Qbmp {c:List Nat}{j:Nat}(hj:j<c.length)(v:Nat):(natC c).take j++[.int .i64 (v:Nat)]++(natC c).drop (j+1)=natC (c.set j v):=by
 have cY:j<(natC c).length:=by rw[natC,Jd];exact hj
 rw[natC,natC,Jbf,List.set_eq_take_append_cons_drop,if_pos Zbg];simp
theorem IP (kn:Kn H0 H E (X.F a sd B))(ha:a.ok X)
  (hK:∀H',a.m.u<X.S→Kn H0 H' E (X.F ⟨⟨a.m.u+1,a.m.s,a.m.c⟩,a.sc,a.so⟩ sd B)→Ma.ok X ⟨⟨a.m.u+1,a.m.s,a.m.c⟩,a.sc,a.so⟩→K (.tup []) H')
  (hP:a.m.u=X.S→K (.pn (endV 3)) H):Qm prog Qnc [.c (.ptr X.l 0)] H K:=by
 refine Qc Aa Q9x ?_;have oG:=ha.len;have hX:=mF_o kn;have hS:=ha.S;have huS:=ha.u;refine Qz (An ?_);simp only[go_sem,hX,oG];refine Qf (Qb rfl ?_ ?_)
 ·intro hc;have hu:a.m.u=X.S:=by
   have:=of_decide_eq_true hc;omega
  refine Zp ?_;refine Fd ?_;simp only[go_sem];exact hP hu
 ·intro hc;have hu:a.m.u<X.S:=by
   have:=of_decide_eq_false hc;omega
  refine Zc ?_
  refine ZE hX oG ?_;refine⟨Qv,fun H' h'=>?_⟩;have kn':Kn H0 H' E (X.F ⟨⟨a.m.u+1,a.m.s,a.m.c⟩,a.sc,a.so⟩ sd B):=kn.ax 0 rfl h';simp only[go_sem,Qq,Q0,AJ];exact hK H' hu kn' (ha.tick hu)
theorem DH {l n:Nat}(hK:n<16→K (.c (.ptr l (4+n))) H)(hP:16≤n→K (.pn (endV 2)) H) :
  Qm prog SU [.c (.ptr l 0),.c (.int .i64 (n:Nat))] H K:=by
 refine Qc Aa Q9u ?_;refine Za ?_;refine Qz (Qa ?_);simp only[go_sem];refine Qf (Qb rfl ?_ ?_)
 ·intro hc;have gI:16≤n:=by have:=of_decide_eq_true hc;omega
  refine Zp ?_;refine Fd ?_;simp only[go_sem];exact hP gI
 ·intro hc;have gI:n<16:=by have:=of_decide_eq_false hc;omega
  refine Zc ?_
  refine Za ?_;refine⟨ZT,?_⟩;refine Zb ?_;have:=hK gI;simpa using this
theorem X0 {op:Int}{x y:Nat}(hx:x<256)(hy:y<256)(ho:3≤op)(sY:op≤9):arP op x y=match arN op x y with
  |some z=>((z:Int),true)
  |none=>(0,false):=by
 unfold arP arR arN;by_cases h3:op=3
 ·simp only[if_pos h3];congr 1
 by_cases h4:op=4
 ·simp only[if_neg h3,if_pos h4];congr 1;omega
 by_cases h5:op=5
 ·simp only[if_neg h3,if_neg h4,if_pos h5];congr 1
 by_cases h6:op=6
 ·simp only[if_neg h3,if_neg h4,if_neg h5,if_pos h6];by_cases hb:y=0
  ·simp[hb]
  ·rw[if_neg ZT,if_neg hb];rfl
 by_cases h7:op=7
 ·simp only[if_neg h3,if_neg h4,if_neg h5,if_neg h6,if_pos h7];by_cases hb:y=0
  ·simp[hb]
  ·rw[if_neg ZT,if_neg hb];rfl
 by_cases h8:op=8
 ·simp only[if_neg h3,if_neg h4,if_neg h5,if_neg h6,if_neg h7,if_pos h8,trI];by_cases hb:x<y
  ·rw[if_pos ZT,if_pos hb];rfl
  ·rw[if_neg ZT,if_neg hb];rfl
 simp only[if_neg h3,if_neg h4,if_neg h5,if_neg h6,if_neg h7,if_neg h8,if_pos (show op=9 by omega),trI];by_cases hb:x=y
 ·rw[if_pos ZT,if_pos hb];rfl
 ·rw[if_neg ZT,if_neg hb];rfl
theorem PA {op:Int}{x y:Nat}(hx:x<256)(hy:y<256)(h3:3≤op)(h9:op≤9)(hK:∀z,arN op x y=some z→K (.tup [.c (.int .i64 (z:Nat)),.c (.bool true)]) H)(hD:arN op x y=none→K (.tup [.c (.int .i64 0),.c (.bool false)]) H) :
  Qm prog ED [.c (.int .i64 op),.c (.int .i64 (x:Nat)),.c (.int .i64 (y:Nat))] H K:=by
 refine Kh ⟨ZT,ZT⟩ ⟨ZT,ZT⟩ h3 h9 ?_;rw[X0 hx hy h3 h9]
 cases h:arN op x y with
 |none=>exact hD h
 |some z=>exact hK z h
end Go.AE.Y
namespace Go.AE.Y
attribute [local go_sem] cond_true cond_false Bool.not_true Bool.not_false
open Go.Proofs.Tryz
variable {H H' H0:Heap}{K:V→Heap→Prop}{E A B:List (Nat×Obj)}
theorem Rq (s:List UInt8)(v:V):∀(es:List (C×V)),(∀e∈es,∃s,e.1=.str s)→(A3 (.str s) es).isSome=true→(AH (.str s) v es).length=es.length
 |[],_,h=>by simp[A3]at h
 |e::es,hk,h=>by
  obtain⟨k,eN⟩:=hk e ZV;obtain⟨e1,e2⟩:=e;simp only at eN;subst eN;simp only[AH,A3,AM]at h⊢;by_cases hc:s=k
  ·simp[hc]
  ·simp only[hc,decide_false,Jaa,if_false,Jj]at h⊢;rw[Rq s v es (fun x hx=>hk x (Jk _ hx)) h]
theorem R5 (s t:List UInt8)(n:Nat):∀b:List (List UInt8×Nat),(setB s n b).find? (fun p=>decide (p.1=t))=if s=t then (if (b.any fun p=>decide (p.1=s))=true then some (s,n)else none)else b.find? fun p=>decide (p.1=t)
 |[]=>by simp[setB]
 |p::r=>by
  simp only[setB];have ih:=R5 s t n r;by_cases h:p.1=s
  ·rw[if_pos h,List.find?_cons,List.find?_cons];by_cases e:s=t
   ·subst e;simp[h]
   ·simp[e,h]
  ·rw[if_neg h,List.find?_cons,List.find?_cons,ih];have hd:decide (p.1=s)=false:=decide_eq_false h;by_cases e:s=t
   ·subst e;rw[List.any_cons,hd,Bool.false_or]
   ·simp only[e,if_false]
theorem MapOk.any {val:Nat→Int}{es:List (C×V)}{b:List (List UInt8×Nat)}(h:MapOk val es b)(s:List UInt8):(A3 (.str s) es).isSome=b.any fun p=>decide (p.1=s):=by
 rw[h.fd s,Option.isSome_map,Bool.eq_iff_iff,List.find?_isSome,Jal]
theorem MapOk.set {es:List (C×V)}{b:List (List UInt8×Nat)}(h:MapOk vI es b){s:List UInt8}(hs:(b.any fun p=>decide (p.1=s))=true)(n:Nat):MapOk vI (AH (.str s) (.c (.int .i64 (n:Nat))) es) (setB s n b):=by
 refine⟨FE s _ es h.ky,fun t=>?_⟩;rw[FO s t _ es h.ky,R5];by_cases e:s=t
 ·rw[if_pos e,if_pos e,if_pos hs];rfl
 ·rw[if_neg e,if_neg e,h.fd t]
theorem ScD.ok_app {val:Nat→Int}:∀{p q:ScD} {vp vq:Vars},p.length=vp.length→(ScD.ok val (p++q) (vp++vq)↔ScD.ok val p vp∧ScD.ok val q vq)
 |[],q,[],vq,_=>by simp[ScD.ok]
 |x::p,q,b::vp,vq,h=>by
  have:=ScD.ok_app (val:=val) (p:=p) (q:=q) (vp:=vp) (vq:=vq) Zaz;simp only[Jx,ScD.ok,this,and_assoc]
theorem Mu {vp vq:Vars}{b:List (List UInt8×Nat)}{s:List UInt8}(bO:∀b'∈vp,∀x∈b',x.1≠s):Vars.find (vp++b::vq) s=((b.find? fun p=>decide (p.1=s)).map Prod.snd).or (Vars.find vq s):=by
 rw[←KT];simp only[Vars.find,List.flatten_append];rw[List.find?_append];have:vp.flatten.find? (fun p=>decide (p.1=s))=none:=by
  rw[List.find?_eq_none];intro x hx;obtain⟨b',br,fg⟩:=List.mem_flatten.1 hx;simpa using bO b' br x fg
 rw[this,Option.none_or]
theorem R4 {b:List (List UInt8×Nat)}{vq:Vars}{s:List UInt8}{n:Nat}:∀{vp:Vars},(∀b'∈vp,∀x∈b',x.1≠s)→(b.any fun p=>decide (p.1=s))=true→setV s n (vp++b::vq)=vp++setB s n b::vq
 |[],_,hb=>by simp[setV,hb]
 |a::vp,bO,hb=>by
  have:(a.any fun p=>decide (p.1=s))=false:=by
   rw[List.any_eq_false];intro x hx;simpa using bO a ZV x hx
  simp only[Jx,setV,this,Jaa,if_false];rw[R4 (fun b' br=>bO b' (Jk _ br)) hb]
theorem I5 {sd:ScD}{v:Vars}{s:List UInt8}(hs:ScD.ok vI sd v)(hh:∀x∈sd,H x.1=.map x.2.1 x.2.2)(hf:(v.find s).isSome=true)
  (hK:∀(p:ScD) l n es (q:ScD) (vp:Vars) b vq,sd=p++(l,n,es)::q→v=vp++b::vq→p.length=vp.length→(∀b'∈vp,∀x∈b',x.1≠s)→(b.any fun p=>decide (p.1=s))=true→MapOk vI es b→K (.c (.pp [.mp l,scC q.ls])) H) :
  Qm prog SL [.c (scC sd.ls),.c (.str s)] H K:=by
 have an:=BA sd.ls;refine Qc Aa Qapq ?_;refine Zd an ?_;refine Qf (Qg (Q3 (fun m e1 H1=>∃(p sd':ScD) (vp v':Vars),m=sd'.length∧H1=H∧sd=p++sd'∧v=vp++v'∧p.length=vp.length∧ScD.ok vI sd' v'∧(∀b'∈vp,∀x∈b',x.1≠s)∧e1=[(0,.c (scC sd'.ls)),(1,.c (.str s))]) sd.length ?_ ?_))
 ·exact⟨[],sd,[],v,rfl,rfl,rfl,rfl,rfl,hs,ZV,rfl⟩
 ·rintro m e1 H1 ⟨p,sd',vp,v',hm,rfl,dh,hv,eH,bf,bO,rfl⟩
  match sd',v',bf with
  |[],[],_=>
   exfalso;rw[hv,Jan,Kc]at hf;obtain⟨l,hl,cr⟩:=List.mem_flatten.1 hf;obtain⟨b,hb,rfl⟩:=Jt.1 hl;obtain⟨x,hx,rfl⟩:=Jt.1 cr;exact bO b hb x hx rfl
  |(l,n,es)::q,b::vq,⟨bp,hq⟩=>
   simp only at bp;have hl:H1 l=.map n es:=hh (l,n,es) (by rw[dh];simp);have gu:=hf;rw[hv,Mu bO]at gu;have jw:=bp.any s;have cP:=hK p l n es q vp b vq dh hv eH bO
   match q,vq,hq with
   |[],[],_=>
    have hb:(b.any fun p=>decide (p.1=s))=true:=by
     have e:Vars.find [] s=none:=rfl;rw[e,Option.or_none,Option.isSome_map,List.find?_isSome]at gu;rw[Jal];exact gu
    refine Qz (Qa ?_);simp only[go_sem,ScD.ls,Jl,Jaf,scC,C.isPtr,or_true,true_or,true_and,Jf,Jh];refine Qf (Qb rfl (fun h=>by cases h) (fun _=>?_));refine Zg ?_;refine Za ?_;refine Zb ?_;exact cP hb bp
   |(l2,n2,es2)::q2,b2::vq2,hq=>
    have gL:=eq_true bp.ky;have nI:=bp.fd s;have eJ:(scC (ScD.ls ((l2,n2,es2)::q2))).ah=false:=rfl;have how3:=BA (List.map Prod.fst q2);refine Qz (Qa ?_);simp only[go_sem,ScD.ls,Jl,Jaf,scC,C.isPtr,or_true,true_or,true_and,Jf,Jh];refine Qf (Qb rfl (fun _=>?_) (fun h=>by cases h));refine Zc ?_
    refine Qf (Qg ?_)
    cases hb:b.find? fun p=>decide (p.1=s)with
    |none=>
     have ja:A3 (.str s) es=none:=(by rw[nI,hb];rfl);have km:∀x∈b,x.1≠s:=by
      intro x hx;have:=List.find?_eq_none.1 hb x hx;simpa using this
     refine Qa ?_;simp only[go_sem,C.isPtr,Bp,AL,A4,hl,gL,ja,Jad,Option.isSome_none,Jf,Jh];refine Za ?_;refine Qb rfl (fun h=>by cases h) (fun _=>?_);refine Zc ?_
     refine Qr ?_;simp only[go_sem,AE.X.next,Jf,Jh];refine⟨((l2,n2,es2)::q2).length,by rw[Jj]at hm;omega,p++[(l,n,es)],(l2,n2,es2)::q2,vp++[b],b2::vq2,rfl,?_⟩;refine⟨by rw[dh];simp,by rw[hv];simp,by simp[eH],hq,fun b' br=>?_,rfl⟩;rcases Jv.1 br with h|h
     ·exact bO b' h
     ·simp only[Ja]at h;subst h;exact km
    |some y=>
     have ja:A3 (.str s) es=some (.c (.int .i64 (vI y.2))):=(by rw[nI,hb];rfl);have hba:(b.any fun p=>decide (p.1=s))=true:=by
      rw[Jal];exact⟨y,List.mem_of_find?_eq_some hb,by have:=@List.find?_some _ (fun p:List UInt8×Nat=>decide (p.1=s)) _ _ hb;exact this⟩
     refine Qa ?_;simp only[go_sem,C.isPtr,Bp,AL,A4,hl,gL,ja,J9,Option.isSome_some,Jf,Jh];refine Za ?_;refine Qb rfl (fun _=>?_) (fun h=>by cases h);refine Za ?_;refine Qi ?_;simp only[go_sem,AE.X.next,Qq,Q0,Ja,forall_eq,RS.op];exact cP hba bp
theorem F0 {sc:C}(an:sc.ah=false)(hK:∀lm n H',H lm=.none→H'=H.set lm (.map n [])→K (.c (.pp [.mp lm,sc])) H'):Qm prog HN [.c sc] H K:=by
 refine Qc Aa Qbaw ?_;refine Za ?_;refine Za ?_;intro lm eq H1 h1;simp only[go_sem,TZ,an];refine Zq an ?_;exact hK lm _ H1 eq h1
end Go.AE.Y
namespace Go.AE.Y
attribute [local go_sem] cond_true cond_false Bool.not_true Bool.not_false
open Go.Proofs.Tryz
variable {H H' H0:Heap}{K:V→Heap→Prop}{E A B:List (Nat×Obj)}{X:Mn}
def Rdn (Li:List (Nat×Obj))(rows:List (List C))(c:C):Prop:=(Li=[]∧∃fl,c=.sl fl 1 rows)∨Gr Li 1 rows c
theorem Rdn.ah {Li:List (Nat×Obj)}{rows:List (List C)}{c:C}(h:Rdn Li rows c):c.ah=false:=by
 rcases h with ⟨_,fl,rfl⟩|h
 ·rfl
 ·exact h.ah
theorem Rdn.slc {Li L:List (Nat×Obj)}{rows:List (List C)}{c:C}(h:Rdn Li rows c)(kn:Kn H0 H E L)(hm:∀p∈Li,p∈L):Slc H 1 rows c:=by
 rcases h with ⟨_,fl,rfl⟩|h
 ·exact .mk' _ _ _ _
 ·exact h.slcM kn hm
def ExK (X:Mn)(h:Nat):Prop:=∀(x:Ex) (v:Vars) (m:Ms) (r:Rt) (m':Ms) (H0 H:Heap) (E B:List (Nat×Obj)) (a:Ma) (sd:ScD) (K:V→Heap→Prop),
 Ev X.fns X.S h (.ex x v) m r m'→a.m=m→a.ok X→ScD.ok vI sd v→vBy v→Kn H0 H E (X.F a sd B)→
 (∀z a' H',r=.val z→a'.m=m'→a'.ok X→Kn H0 H' E (X.F a' sd B)→K (.c (.int .i64 (z:Nat))) H')→
 (∀(z:Nat) a' H',r=.dn z→a'.m=m'→a'.ok X→Kn H0 H' E (X.F a' [] B)→K (.pn (endV z)) H')→
 Qm prog Cn [.c (.ptr X.l 0),.ag x.cells,.c (scC sd.ls)] H K
def Fc (X:Mn)(h:Nat):Prop:=∀(k:Nat) (hk:k<X.fns.length) (ns:List Nat) (m:Ms) (r:Rt) (m':Ms) (H0 H:Heap) (E B Li:List (Nat×Obj)) (a:Ma) (c:C) (K:V→Heap→Prop),
 Ev X.fns X.S h (.call X.fns[k] ns) m r m'→a.m=m→a.ok X→(∀n∈ns,n<256)→ns.length=X.fns[k].params.length→Rdn Li (Ao ns) c→Kn H0 H E (X.F a [] (Li++B))→
 (∀z a' H',r=.val z→a'.m=m'→a'.ok X→Kn H0 H' E (X.F a' [] (Li++B))→K (.c (.int .i64 (z:Nat))) H')→
 (∀(z:Nat) a' H',r=.dn z→a'.m=m'→a'.ok X→Kn H0 H' E (X.F a' [] B)→K (.pn (endV z)) H')→
 Qm prog Qnb [.c (.ptr X.l 0),.c (.int .i64 k),.c c] H K
def bkC:Option Nat→C
 |none=>.pnil
 |some n=>.pp [.int .i64 (n:Nat)]
def ScL (n:Nat):ScD→Prop
 |[]=>False
 |x::r=>x.2.2.length+n≤2^37∧∀y∈r,y.2.2.length≤2^37
def lenS (sd:ScD):List Nat:=sd.map fun x=>x.2.2.length
def ScG (k:Nat):ScD→ScD→Prop
 |x::r,x'::r'=>x'.2.2.length≤x.2.2.length+k∧lenS r'=lenS r
 |_,_=>False
theorem ScL.refl {n:Nat}{sd:ScD}(h:ScL n sd):ScG 0 sd sd:=by
 cases sd with
 |nil=>exact h
 |cons x r=>exact⟨Jg _,rfl⟩
theorem ScG.trans {i j:Nat}{a b c:ScD}(h:ScG i a b)(k:ScG j b c):ScG (i+j) a c:=by
 match a,b,c,h,k with
 |_::_,_::_,_::_,h,k=>exact⟨by have:=h.1;have:=k.1;omega,k.2.trans h.2⟩
theorem ScG.mono {i j:Nat}{a b:ScD}(h:ScG i a b)(kZ:i≤j):ScG j a b:=by
 match a,b,h with
 |_::_,_::_,h=>exact⟨by have:=h.1;omega,h.2⟩
theorem IQ {a b:ScD}(h:lenS b=lenS a)(ha:∀y∈a,y.2.2.length≤2^37):∀y∈b,y.2.2.length≤2^37:=by
 intro y hy;have:y.2.2.length∈lenS b:=Jt.2 ⟨y,hy,rfl⟩;rw[h]at this;obtain⟨z,hz,e⟩:=Jt.1 this;rw[←e];exact ha z hz
theorem ScL.step {n k j:Nat}{a b:ScD}(h:ScL n a)(g:ScG k a b)(hk:k+j≤n):ScL j b:=by
 match a,b,h,g with
 |_::_,_::_,h,g=>exact⟨by have:=h.1;have:=g.1;omega,IQ g.2 h.2⟩
theorem ScL.len {n:Nat}{a b:ScD}(h:ScL n a)(e:lenS b=lenS a):ScL n b:=by
 match a,b,h with
 |x::r,[],h=>simp[lenS]at e
 |x::r,y::t,h=>
  simp only[lenS,Jl,Jao]at e;exact⟨by have:=h.1;omega,IQ (b:=t) (a:=r) e.2 h.2⟩
theorem ScG.len {k:Nat}{a b c:ScD}(h:ScG k a b)(e:lenS c=lenS b):ScG k a c:=by
 match a,b,c,h with
 |x::r,y::t,[],h=>simp[lenS]at e
 |x::r,y::t,z::u,h=>
  simp only[lenS,Jl,Jao]at e;exact⟨by have:=h.1;omega,by have:=h.2;rw[←this];exact e.2⟩
theorem Fg {sd' sd:ScD}{v':Vars}{x:Nat×Nat×List (C×V)}{k:Nat}(hs:ScD.ok vI sd' v')(hl:sd'.ls=ScD.ls (x::sd))(hg:ScG k (x::sd) sd'):∃(x':Nat×Nat×List (C×V)) (t:ScD),sd'=x'::t∧t.ls=sd.ls∧ScD.ok vI t v'.tail∧lenS t=lenS sd:=by
 match sd',v',hs,hg with
 |x'::t,b::v,hs,hg=>
  simp only[ScD.ls,Jl,Jao]at hl;exact⟨x',t,rfl,hl.2,hs.2,hg.2⟩
def BlkK (X:Mn)(h:Nat):Prop:=∀(l:List St) (fl:Bool) (v:Vars) (m:Ms) (r:Rt) (m':Ms) (H0 H:Heap) (E B:List (Nat×Obj)) (a:Ma) (sd:ScD) (K:V→Heap→Prop),
 Ev X.fns X.S h (.blk l v) m r m'→a.m=m→a.ok X→ScD.ok vI sd v→vBy v→ScL l.length sd→Qj l≤2^36→Kn H0 H E (X.F a sd B)→
 (∀b v' a' sd' H',r=.env b v'→a'.m=m'→a'.ok X→ScD.ok vI sd' v'→sd'.ls=sd.ls→ScG l.length sd sd'→Kn H0 H' E (X.F a' sd' B)→K (.c (bkC b)) H')→
 (∀(z:Nat) a' H',r=.dn z→a'.m=m'→a'.ok X→Kn H0 H' E (X.F a' [] B)→K (.pn (endV z)) H')→
 Qm prog Ql3 [.c (.ptr X.l 0),.c (.sl fl 5 (Qk l)),.c (scC sd.ls)] H K
def StK (X:Mn)(h:Nat):Prop:=∀(x:St) (v:Vars) (m:Ms) (r:Rt) (m':Ms) (H0 H:Heap) (E B:List (Nat×Obj)) (a:Ma) (sd:ScD) (K:V→Heap→Prop),
 Ev X.fns X.S h (.st x v) m r m'→a.m=m→a.ok X→a.m.s.length<a.m.u→ScD.ok vI sd v→vBy v→ScL 1 sd→x.size≤2^36→Kn H0 H E (X.F a sd B)→
 (∀b v' a' sd' H',r=.env b v'→a'.m=m'→a'.ok X→ScD.ok vI sd' v'→sd'.ls=sd.ls→ScG 1 sd sd'→Kn H0 H' E (X.F a' sd' B)→K (.c (bkC b)) H')→
 (∀(z:Nat) a' H',r=.dn z→a'.m=m'→a'.ok X→Kn H0 H' E (X.F a' [] B)→K (.pn (endV z)) H')→
 Qm prog VF [.c (.ptr X.l 0),.ag x.cells,.c (scC sd.ls)] H K
theorem Qbpq {fns:List Fn}{S h:Nat}{v:Vars}{m m':Ms}{r:Rt}(bg:Ev fns S h (.exs [] v) m r m'):r=.vals []∧m'=m:=by cases bg;exact⟨rfl,rfl⟩
theorem Kd {fns:List Fn}{S:Nat}:∀{l:List Ex} {h:Nat} {v:Vars} {m m':Ms} {ns:List Nat},Ev fns S h (.exs l v) m (.vals ns) m'→ns.length=l.length
 |[],_,_,_,_,_,h=>by cases h;rfl
 |_::_,_,_,_,_,_,h=>by
  cases h with
  |cons e1 e2=>simp[Kd e2]
theorem Qbks {fns:List Fn}{S h:Nat}{k:Ex}{l:List Ex}{v:Vars}{m m':Ms}{r:Rt}(bg:Ev fns S h (.exs (k::l) v) m r m') :
  (∃n m1 h1 h2 r',h1<h∧h2<h∧Ev fns S h1 (.ex k v) m (.val n) m1∧Ev fns S h2 (.exs l v) m1 r' m'∧(∀ns',r'=.vals ns'→r=.vals (n::ns'))∧(∀z,r'=.dn z→r=.dn z))∨
  ∃z h1,h1<h∧Ev fns S h1 (.ex k v) m (.dn z) m'∧r=.dn z:=by
 cases bg with
 |cons e1 e2=>exact .inl ⟨_,_,_,_,_,ZT,ZT,e1,e2,fun ns' h=>by simp only[Rt.vals.injEq]at h;rw[h],fun z h=>Zaa⟩
 |consS e1=>exact .inr ⟨_,_,ZT,e1,rfl⟩
 |consS2 e1 e2=>exact .inl ⟨_,_,_,_,_,ZT,ZT,e1,e2,fun ns' h=>Zaa,fun z h=>h⟩
theorem PP {h hb:Nat}(hE:∀h',h'<h→ExK X h'){x:Ex}{v:Vars}{r:Rt}{m':Ms}{a:Ma}{sd:ScD}{Q:AE.X→Env→Heap→Prop}(hbh:hb<h)
  (bg:Ev X.fns X.S hb (.exs x.kids v) a.m r m') (ha:a.ok X) (hs:ScD.ok vI sd v) (hv:vBy v) (kn:Kn H0 H E (X.F a sd B))
  (hQ:∀ns c Li a1 H1 e',r=.vals ns→a1.m=m'→a1.ok X→Gr Li 1 (Ao ns) c→Kn H0 H1 E (X.F a1 sd (Li++B))→lk 0 e'=.c (.ptr X.l 0)→lk 2 e'=.c (scC sd.ls)→
   lk 4 e'=.c (.pp [.int .i64 x.op,.int .i64 x.n,.str x.name,.sl false 4 (Ql x.kids)])→lk 9 e'=.c c→Q6 prog Qkn Q e' H1)
  (hP:∀(z:Nat) a' H',r=.dn z→a'.m=m'→a'.ok X→Kn H0 H' E (X.F a' [] B)→Q (.pan (endV z)) [] H') :
  Q6 prog Qko Q [(0,.c (.ptr X.l 0)),(2,.c (scC sd.ls)),(4,.c (.pp [.int .i64 x.op,.int .i64 x.n,.str x.name,.sl false 4 (Ql x.kids)])),(9,.c (.sl true 1 []))] H:=by
 have an:=BA sd.ls;refine Qz (Qa ?_);simp only[go_sem,Qh,an];intro hl;simp only[LIM]at hl;refine Qf (Qg (Q3 (fun m e1 H1=>∃(i:Nat) (ns:List Nat) (c:C) (Li:List (Nat×Obj)) (a1:Ma) (h1:Nat) (r1:Rt),m=x.kids.length-i∧i≤x.kids.length∧ns.length=i∧h1<h∧Ev X.fns X.S h1 (.exs (x.kids.drop i) v) a1.m r1 m'∧a1.ok X∧
  (∀ns',r1=.vals ns'→r=.vals (ns++ns'))∧(∀z,r1=.dn z→r=.dn z)∧Gr Li 1 (Ao ns) c∧Kn H0 H1 E (X.F a1 sd (Li++B))∧
  e1=[(0,.c (.ptr X.l 0)),(2,.c (scC sd.ls)),(4,.c (.pp [.int .i64 x.op,.int .i64 x.n,.str x.name,.sl false 4 (Ql x.kids)])),(9,.c c),(72,.c (.sl false 4 (Ql x.kids))),(73,.c (.int .i64 x.kids.length)),(74,.c (.int .i64 i))]) x.kids.length ?_ ?_))
 ·exact⟨0,[],_,[],a,hb,r,ZT,ZT,rfl,hbh,bg,ha,fun ns' h=>Zaz,fun z h=>h,.nil 1,kn,rfl⟩
 ·clear kn ha bg;rintro m e1 H1 ⟨i,ns,c,Li,a1,h1,r1,hm,hi,ft,kA,bg,ha,fj,bw,b9,kn,rfl⟩;have fx:=b9.ah;refine Zi an fx ?_;refine Qf (Qb rfl ?_ ?_)
  ·intro hc;have af:i<x.kids.length:=ZU
   obtain⟨k,hk⟩:∃k,x.kids[i]=k:=⟨_,rfl⟩;rw[Jac af,hk]at bg;refine Zc ?_
   refine Qf (Qg ?_);refine Qa ?_;simp only[go_sem,an,fx,af,Qh,Qs _ _ af,hk,k.aa];intro x11 qD H3 h3;have kn:=CL (kn.al qD h3);have g11:H3 x11=.st [.int .i64 0,.int .i64 0,.str [],.sl true 4 []]:=(kn.get (x11,.st [.int .i64 0,.int .i64 0,.str [],.sl true 4 []]) ZbV).1;simp only[go_sem,Qkw,an,fx,g11];intro H4 h4;have kn:Kn H0 H4 E (X.F a1 sd ((x11,.st [.int .i64 k.op,.int .i64 k.n,.str k.name,.sl false 4 (Ql k.kids)])::(Li++B))):=by
    have k2:Kn H0 H3 E (([(X.l,X.o a1)]++(a1.so++sd.ob))++(x11,.st [.int .i64 0,.int .i64 0,.str [],.sl true 4 []])::(Li++B)):=(by simpa[Mn.F]using kn);have k3:=k2.stM h4;simpa[Mn.F]using k3
   have g11:H4 x11=.st [.int .i64 k.op,.int .i64 k.n,.str k.name,.sl false 4 (Ql k.kids)]:=(kn.get (x11,.st [.int .i64 k.op,.int .i64 k.n,.str k.name,.sl false 4 (Ql k.kids)]) ZbV).1;refine Qr ?_;simp only[go_sem,an,fx,g11];have go:∀(h2:Nat) (r2:Rt) (m2:Ms) (K1:V→Heap→Prop),h2<h→Ev X.fns X.S h2 (.ex k v) a1.m r2 m2→
     (∀z a' H',r2=.val z→a'.m=m2→a'.ok X→Kn H0 H' E (X.F a' sd (Li++B))→K1 (.c (.int .i64 (z:Nat))) H')→
     (∀(z:Nat) a' H',r2=.dn z→a'.m=m2→a'.ok X→Kn H0 H' E (X.F a' [] B)→K1 (.pn (endV z)) H')→
     Qm prog Cn [.c (.ptr X.l 0),.ag [.int .i64 k.op,.int .i64 k.n,.str k.name,.sl false 4 (Ql k.kids)],.c (scC sd.ls)] H4 K1:=by
    intro h2 r2 m2 K1 iZ e2 hA hB;have hh:=hE h2 iZ k v a1.m r2 m2 H0 H4 E ((x11,.st [.int .i64 k.op,.int .i64 k.n,.str k.name,.sl false 4 (Ql k.kids)])::(Li++B)) a1 sd K1 e2 rfl ha hs hv kn;rw[k.aa]at hh;exact hh (fun z a' H' q1 q2 q3 q4=>hA z a' H' q1 q2 q3 (E4 (A:=[(x11,_)]) q4)) (fun z a' H' q1 q2 q3 q4=>hB z a' H' q1 q2 q3 (E4 (A:=(x11,_)::Li) q4))
   rcases Qbks bg with ⟨n,m1,h2,pI,r',iZ,hh3,e1,e2,q1,q2⟩|⟨z,h2,iZ,e1,q1⟩
   ·refine go _ _ _ _ ZT e1 (fun z a2 H5 hz aZ bH kn=>?_) (fun z a2 H5 hz=>by cases hz);obtain rfl:=Rt.val.inj hz;subst aZ;simp only[go_sem,Qi2,an,fx];have kn:=mF_B (A:=Li) kn;refine kn.aQ b9 (new:=Ao [n]) (.mk' _ true 1 _) (HM _) (by simp only[Q96,ft,Jj,Ji,LIM];omega) fun t2 Lg2 H6 bS aW kn=>?_;have kn:=XO kn;rw[show Ao ns++Ao [n]=Ao (ns++[n])by simp[Ao,Ar]]at bS;simp only[go_sem,Qi1,an,aW];refine Qr ?_;simp only[go_sem,AE.X.next,an,aW];refine⟨Qv,x.kids.length-(i+1),ZT,i+1,ns++[n],t2,Lg2,a2,pI,r',rfl,ZT,by simp[ft],ZT,e2,bH,fun ns2 h=>?_,fun z h=>bw z (q2 z h),bS,kn,rfl⟩;have:=fj (n::ns2) (q1 ns2 h);rw[this];simp
   ·refine go _ _ _ _ ZT e1 (fun z a2 H5 hz=>by cases hz) (fun z2 a2 H5 hz aZ bH kn=>?_);obtain rfl:=Rt.dn.inj hz;simp only[go_sem];exact hP _ a2 H5 (bw _ q1) aZ bH kn
  ·intro hc;have aV:x.kids.length≤i:=ZU
   rw[Jy aV]at bg;obtain⟨q1,q2⟩:=Qbpq bg;refine Zg ?_;exact hQ ns c Li a1 H1 _ (by have:=fj [] q1;simpa using this) q2.symm ha b9 kn rfl rfl rfl rfl
theorem YP {h:Nat}(hE:∀h',h'<h→ExK X h')(hC:∀h',h'<h→Fc X h'):ExK X h:=by
 intro x v m r m' H0 H E B a sd K bg nt ha hs hv kn hK hP;subst nt;have an:=BA sd.ls;refine Qc Aa Q9v ?_;have retK:∀(z:Nat) (a':Ma) (H':Heap) (e:Env),r=.val z→a'.m=m'→a'.ok X→Kn H0 H' E (X.F a' sd B)→lk 6 e=.c (.int .i64 (z:Nat))→Qq Ad K .ret e H':=by
  intro z a' H' e h1 h2 h3 h4 h5;simp only[go_sem,Qq,Q0,Ja,forall_eq,RS.op,h5];exact hK z a' H' h1 h2 h3 h4
 have ev0:∀(k:Ex) (l:List Ex) (h1:Nat) (r1:Rt) (m1:Ms) (K1:V→Heap→Prop) (H1:Heap),x.kids=k::l→h1<h→Ev X.fns X.S h1 (.ex k v) a.m r1 m1→Kn H0 H1 E (X.F a sd B)→
   (∀(z:Nat) (a1:Ma) (H1:Heap),r1=.val z→a1.m=m1→a1.ok X→Kn H0 H1 E (X.F a1 sd B)→K1 (.c (.int .i64 (z:Nat))) H1)→
   (∀(z:Nat) (a':Ma) H',r1=.dn z→a'.m=m1→a'.ok X→Kn H0 H' E (X.F a' [] B)→K1 (.pn (endV z)) H')→
   Qm prog Cn [.c (.ptr X.l 0),.ag [.int .i64 k.op,.int .i64 k.n,.str k.name,.sl false 4 (Ql k.kids)],.c (scC sd.ls)] H1 K1:=by
  intro k l h1 r1 m1 K1 H1 hk kA e1 kn hA hB;have hh:=hE h1 kA k v a.m r1 m1 H0 H1 E B a sd K1 e1 rfl ha hs hv kn;rw[k.aa]at hh;exact hh hA hB
 refine Qa ?_;simp only[go_sem,x.aa,an];refine Qz (Qa ?_);simp only[go_sem,an];refine Qf (Qg ?_);refine Zd an ?_;refine Qb rfl (fun hc=>?_) (fun hc=>?_)
 ·have h1:x.op=1:=ZU
  cases bg with
  |num _ h2 h3=>
   refine Zd an ?_;refine Zv ?_
   exact retK x.n.toNat a _ _ rfl rfl ha kn (by simp[lk];omega)
  |_=>exfalso;omega
 have n1:¬x.op=1:=ZU
 refine Zd an ?_;refine Qb rfl (fun hc=>?_) (fun hc=>?_)
 ·have h2:x.op=2:=ZU
  cases bg with
  |var _ hf=>
   refine An ?_;simp only[go_sem,an];refine I5 hs (fun y hy=>(kn.get (y.1,.map y.2.1 y.2.2) (Jc _ (Jc _ (Jc _ (Jb _ (Jt.2 ⟨y,hy,rfl⟩)))))).1) ZbT (fun p l nn es q vp b vq dh kf eH bO jw hm=>?_);have gu:=hf;rw[kf,Mu bO]at gu;obtain⟨y,hy⟩:=Option.isSome_iff_exists.1 ((List.find?_isSome (xs:=b) (p:=fun p=>decide (p.1=x.name))).2 (Jal.1 jw));rw[hy]at gu;simp only[Jab,Option.some_or,Jai]at gu;have da:A3 (.str x.name) es=some (.c (.int .i64 (vI y.2))):=by rw[hm.fd,hy];rfl
   have gL:=eq_true hm.ky;subst dh;have hl:=D8 kn;simp only[go_sem,Qks,C.isPtr,Bp,AL,A4,hl,gL,da,an,J9,Jf,Jh];refine Zv ?_
   refine retK _ a _ _ rfl rfl ha kn ?_;simp[lk,←gu]
  |_=>exfalso;omega
 have n2:¬x.op=2:=ZU
 refine Zd an ?_;refine Qb rfl (fun hc=>?_) (fun hc=>?_)
 ·have bP:x.op=10:=ZU
  have six:∀(k l:Ex) (h2:Nat) (r2:Rt) (m2:Ms) (a1:Ma) (H1:Heap) (e:Env),x.kids=[k,l]→h2<h→Ev X.fns X.S h2 (.ex l v) a1.m r2 m2→a1.ok X→Kn H0 H1 E (X.F a1 sd B)→
    (∀(z:Nat) (a2:Ma) (H2:Heap),r2=.val z→a2.m=m2→a2.ok X→Kn H0 H2 E (X.F a2 sd B)→∀e',lk 6 e'=.c (.int .i64 (if z=0 then 0 else 1:Nat))→Qq Ad K .ret e' H2)→
    (∀(z:Nat) (a':Ma) H',r2=.dn z→a'.m=m2→a'.ok X→Kn H0 H' E (X.F a' [] B)→K (.pn (endV z)) H')→
    lk 0 e=.c (.ptr X.l 0)→lk 2 e=.c (scC sd.ls)→lk 4 e=.c (.pp [.int .i64 x.op,.int .i64 x.n,.str x.name,.sl false 4 (Ql x.kids)])→
    Q6 prog Qmm (AE.X.inBlock 0 (AE.X.sq prog VK (Qq Ad K))) e H1:=by
   intro k l h2 r2 m2 a1 H1 e hk iZ e2 aX kn hA hB l0 l2 l4;have bq:1<x.kids.length:=Zai
   have dD:x.kids[1]=l:=by simp only[hk,Jz,Je]
   refine Qa ?_;simp only[go_sem,l0,l2,l4,an,bq,Qh,Qs _ _ bq,dD,l.aa];have hh:=hE h2 iZ l v a1.m r2 m2 H0 H1 E B a1 sd;rw[l.aa]at hh;refine⟨ZT,hh _ e2 rfl aX hs hv kn (fun z a2 H2 hz aZ bH kn=>?_) (fun z a2 H2 hz aZ bH kn=>?_)⟩
   ·simp only[go_sem,Qku,an];refine Qa91 ?_;simp only[go_sem,Qkt,Jf,Jh];refine Za ?_;refine Zv ?_
    refine hA z a2 H2 hz aZ bH kn _ ?_;have:trI ((z:Int)≠0)=((if z=0 then 0 else 1:Nat):Int):=by
     unfold trI;by_cases eD:z=0
     ·subst eD;simp
     ·rw[if_pos ZT,if_neg eD];rfl
    rw[←this];simp[lk]
   ·simp only[go_sem];exact hB z a2 H2 hz aZ bH kn
  cases bg with
  |kidS _ _ hk _ e1=>
   have bq:0<x.kids.length:=Zai
   have cD:=List.getElem_of_eq hk bq;rw[Je]at cD;refine Qz (Qa ?_);simp only[go_sem,an,bq,Qh,Qs _ _ bq,cD,Ex.aa];refine⟨ZT,ev0 _ _ _ _ _ _ _ hk ZT e1 kn (fun z a1 H1 hz=>by cases hz) (fun z a1 H1 hz bp aX kn=>?_)⟩;simp only[go_sem];exact hP z a1 H1 hz bp aX kn
  |and0 _ hk e1=>
   have bq:0<x.kids.length:=Zai
   have cD:=List.getElem_of_eq hk bq;rw[Je]at cD;refine Qz (Qa ?_);simp only[go_sem,an,bq,Qh,Qs _ _ bq,cD,Ex.aa];refine⟨ZT,ev0 _ _ _ _ _ _ _ hk ZT e1 kn (fun z a1 H1 hz bp aX kn=>?_) (fun z a1 H1 hz=>by cases hz)⟩;simp only[go_sem,SY,an];obtain rfl:=Rt.val.inj hz;refine Qf (Qb rfl (fun _=>?_) (fun h=>by simp[lk]at h));refine Za ?_;refine Zv ?_
   exact retK 0 a1 _ _ rfl bp aX kn rfl
  |and1 _ hk e1 hx e2=>
   have bq:0<x.kids.length:=Zai
   have cD:=List.getElem_of_eq hk bq;rw[Je]at cD;refine Qz (Qa ?_);simp only[go_sem,an,bq,Qh,Qs _ _ bq,cD,Ex.aa];refine⟨ZT,ev0 _ _ _ _ _ _ _ hk ZT e1 kn (fun z a1 H1 hz bp aX kn=>?_) (fun z a1 H1 hz=>by cases hz)⟩;simp only[go_sem,SY,an];obtain rfl:=Rt.val.inj hz;subst bp;refine Qf (Qb rfl (fun h=>by simp[lk]at h;omega) (fun _=>?_));refine Zc ?_
   refine six _ _ _ _ _ a1 H1 _ hk ZT e2 aX kn (fun z a2 H2 hz aZ bH kn e' h6=>?_) (fun z a2 H2 hz=>by cases hz) rfl rfl rfl;obtain rfl:=Rt.val.inj hz;exact retK _ a2 _ _ rfl aZ bH kn h6
  |andS _ hk e1 hx e2=>
   have bq:0<x.kids.length:=Zai
   have cD:=List.getElem_of_eq hk bq;rw[Je]at cD;refine Qz (Qa ?_);simp only[go_sem,an,bq,Qh,Qs _ _ bq,cD,Ex.aa];refine⟨ZT,ev0 _ _ _ _ _ _ _ hk ZT e1 kn (fun z a1 H1 hz bp aX kn=>?_) (fun z a1 H1 hz=>by cases hz)⟩;simp only[go_sem,SY,an];obtain rfl:=Rt.val.inj hz;subst bp;refine Qf (Qb rfl (fun h=>by simp[lk]at h;omega) (fun _=>?_));refine Zc ?_
   exact six _ _ _ _ _ a1 H1 _ hk ZT e2 aX kn (fun z a2 H2 hz=>by cases hz) (fun z a2 H2 hz aZ bH kn=>hP z a2 H2 hz aZ bH kn) rfl rfl rfl
  |_=>exfalso;omega
 have n10:¬x.op=10:=ZU
 refine Zd an ?_;refine Qb rfl (fun hc=>?_) (fun hc=>?_)
 ·have dr:x.op=12:=ZU
  cases bg with
  |kidS _ _ hk _ e1=>
   have bq:0<x.kids.length:=Zai
   have cD:=List.getElem_of_eq hk bq;rw[Je]at cD;refine Zw an bq cD ?_;refine⟨ZT,ev0 _ _ _ _ _ _ _ hk ZT e1 kn (fun z a1 H1 hz=>by cases hz) (fun z a1 H1 hz bp aX kn=>?_)⟩;simp only[go_sem];exact hP z a1 H1 hz bp aX kn
  |at_ _ hk e1 hx=>
   have bq:0<x.kids.length:=Zai
   have cD:=List.getElem_of_eq hk bq;rw[Je]at cD;refine Zw an bq cD ?_;refine⟨ZT,ev0 _ _ _ _ _ _ _ hk ZT e1 kn (fun z a1 H1 hz bp aX kn=>?_) (fun z a1 H1 hz=>by cases hz)⟩;obtain rfl:=Rt.val.inj hz;subst bp;simp only[go_sem,VJ,an];refine DH (fun gI=>?_) (fun gI=>ZT);have hX:=mF_o kn;have cG:=aX.b.c;have hg:=Qbmo (c:=a1.m.c) (j:=_) (by rw[cG];exact hx);have ft:=aX.len;simp only[go_sem,Qkv,hX,ft,I0,hg,Jj];refine⟨by rw[Ja6,ft];omega,?_⟩;refine Zv ?_
   exact retK _ a1 _ _ rfl rfl aX kn rfl
  |atS _ hk e1 hx=>
   have bq:0<x.kids.length:=Zai
   have cD:=List.getElem_of_eq hk bq;rw[Je]at cD;refine Zw an bq cD ?_;refine⟨ZT,ev0 _ _ _ _ _ _ _ hk ZT e1 kn (fun z a1 H1 hz bp aX kn=>?_) (fun z a1 H1 hz=>by cases hz)⟩;obtain rfl:=Rt.val.inj hz;subst bp;simp only[go_sem,VJ,an];refine DH (fun gI=>ZT) (fun gI=>?_);simp only[go_sem];exact hP 2 a1 H1 rfl rfl aX (Da kn)
  |_=>exfalso;omega
 have n12:¬x.op=12:=ZU
 refine Zd an ?_;refine Qb rfl (fun hc=>?_) (fun hc=>?_)
 ·have cy:x.op=13:=ZU
  refine Zd an ?_;have panQ:∀(z:Nat) a' H',r=.dn z→a'.m=m'→a'.ok X→Kn H0 H' E (X.F a' [] B)→(AE.X.inBlock 0 (AE.X.sq prog VK (Qq Ad K))) (.pan (endV z)) [] H':=by
   intro z a' H' h1 h2 h3 h4;simp only[go_sem];exact hP z a' H' h1 h2 h3 h4
  cases bg with
  |callS hj _ kw _ e1=>exact PP hE ZT e1 ha hs hv kn (fun ns c Li a1 H1 e' h=>by cases h) panQ
  |@call _ _ _ j ns m1 _ _ j6 fG hj _ kw eH e1 e2=>
   refine PP hE ZT e1 ha hs hv kn (fun ns2 c Li a1 H1 e' hr bp aX b9 kn l0 l2 l4 l9=>?_) (fun z a' H' h=>by cases h);obtain rfl:=Rt.vals.inj hr;subst bp;have fx:=b9.ah;have hX:=mF_o kn;have fC:=e1.by (show vBy v from hv) ha.b
   have lG:=Kd e1;refine An ?_;simp only[go_sem,l0,l2,l4,l9,hX,fx,an];refine F2 ?_;rw[kw];simp only[go_sem,Qi4,ixI,l0,l2,l4,l9,fx,an];refine hC _ ZT j hj _ a1.m r m' H0 H1 E (sd.ob++B) Li a1 c _ e2 rfl aX fC.1 (by rw[lG];exact eH.symm) (.inr b9) ?_ (fun z a2 H2 hz aZ bH kn=>?_) (fun z a2 H2 hz aZ bH kn=>?_)
   ·exact kn.perm (C8 fun f hf h0 hc hp=>by have:ScD.ob []=[]:=rfl;simp only[Mn.F,hf,this,h0];omega)
   ·have kn:Kn H0 H2 E (X.F a2 sd (Li++B)):=kn.perm (C8 fun f hf h0 hc hp=>by have:ScD.ob []=[]:=rfl;simp only[Mn.F,hf,this,h0];omega);simp only[go_sem,Qi3,fx,an];refine Zv ?_
    exact retK z a2 _ _ hz aZ bH (E4 kn) rfl
   ·simp only[go_sem];exact hP z a2 H2 hz aZ bH (E4 (A:=sd.ob) kn)
  |_=>exfalso;omega
 have n13:¬x.op=13:=ZU
 refine ZO an ?_
 have arT:∀(b:Bool) (w:Nat) (a2:Ma) (H2:Heap),(b=true→r=.val w)→(b=false→r=.dn 1)→a2.m=m'→a2.ok X→Kn H0 H2 E (X.F a2 sd B)→
   Q6 prog Qkp (Qq Ad K) [(14,.c (.int .i64 (w:Nat))),(15,.c (.bool b))] H2:=by
  intro b w a2 H2 q1 q2 q3 q4 kn;refine Qz (Qa ?_);simp only[go_sem]
  cases b with
  |true=>
   refine Qf (Qb rfl (fun h=>by simp[lk]at h) (fun _=>?_));refine Zc ?_
   refine Za ?_;refine Qi ?_;exact retK w a2 H2 _ (q1 rfl) q3 q4 kn rfl
  |false=>
   refine Qf (Qb rfl (fun _=>?_) (fun h=>by simp[lk]at h));refine Zp ?_;refine Fd ?_;simp only[go_sem];exact hP 1 a2 H2 (q2 rfl) q3 q4 (Da kn)
 have two:∀(k l:Ex) (x1:Nat) (h2:Nat) (r2:Rt) (m2:Ms) (a1:Ma) (H1:Heap),x.kids=[k,l]→h2<h→Ev X.fns X.S h2 (.ex l v) a1.m r2 m2→a1.ok X→Kn H0 H1 E (X.F a1 sd B)→
   (∀(z:Nat) (a2:Ma) (H2:Heap),r2=.val z→a2.m=m2→a2.ok X→Kn H0 H2 E (X.F a2 sd B)→
    Q6 prog Qkq (Qq Ad K) [(4,.c (.pp [.int .i64 x.op,.int .i64 x.n,.str x.name,.sl false 4 (Ql x.kids)])),(12,.c (.int .i64 (x1:Nat))),(13,.c (.int .i64 (z:Nat)))] H2)→
   (∀(z:Nat) (a':Ma) H',r2=.dn z→a'.m=m2→a'.ok X→Kn H0 H' E (X.F a' [] B)→K (.pn (endV z)) H')→
   Q6 prog Qkr (Qq Ad K) [(0,.c (.ptr X.l 0)),(2,.c (scC sd.ls)),(4,.c (.pp [.int .i64 x.op,.int .i64 x.n,.str x.name,.sl false 4 (Ql x.kids)])),(12,.c (.int .i64 (x1:Nat))),(13,.c (.int .i64 0))] H1:=by
  intro k l x1 h2 r2 m2 a1 H1 hk iZ e2 aX kn hA hB;have bq:1<x.kids.length:=Zai
  have fw:x.kids.length=2:=by rw[hk];rfl
  have dD:x.kids[1]=l:=by simp only[hk,Jz,Je]
  refine Qz (Qa ?_);simp only[go_sem,an,Qh,fw];try intro _
  refine Qf (Qb rfl (fun _=>?_) (fun h=>Zaa));refine Qr ?_;simp only[go_sem,an,bq,Qh,Qs _ _ bq,dD,l.aa];have hh:=hE h2 iZ l v a1.m r2 m2 H0 H1 E B a1 sd;rw[l.aa]at hh;refine⟨ZT,hh _ e2 rfl aX hs hv kn (fun z a2 H2 hz aZ bH kn=>?_) (fun z a2 H2 hz aZ bH kn=>?_)⟩
  ·simp only[go_sem,Qi5,an];exact hA z a2 H2 hz aZ bH kn
  ·simp only[go_sem];exact hB z a2 H2 hz aZ bH kn
 cases bg with
 |kidS _ _ hk _ e1=>
  have bq:0<x.kids.length:=Zai
  have cD:=List.getElem_of_eq hk bq;rw[Je]at cD;refine Zw an bq cD ?_;refine⟨ZT,ev0 _ _ _ _ _ _ _ hk ZT e1 kn (fun z a1 H1 hz=>by cases hz) (fun z a1 H1 hz bp aX kn=>?_)⟩;simp only[go_sem];exact hP z a1 H1 hz bp aX kn
 |not cM hk e1=>
  have bq:0<x.kids.length:=Zai
  have eN:x.kids.length=1:=by rw[hk];rfl
  have cD:=List.getElem_of_eq hk bq;rw[Je]at cD;refine Zw an bq cD ?_;refine⟨ZT,ev0 _ _ _ _ _ _ _ hk ZT e1 kn (fun z a1 H1 hz bp aX kn=>?_) (fun z a1 H1 hz=>by cases hz)⟩;obtain rfl:=Rt.val.inj hz;simp only[go_sem,Ks,an];refine Qz (Qa ?_);simp only[go_sem,an,Qh,eN];try intro _
  refine Qf (Qb rfl (fun h=>Zaa) (fun _=>?_));refine Zc ?_
  refine Zd cM ?_;refine Qa92 ?_;simp only[go_sem,Tb,Jf,Jh]
  rename_i w _ _ _
  have e:∀w:Nat,trI ((w:Int)=0)=((if w=0 then 1 else 0:Nat):Int):=by
   intro w;unfold trI;by_cases eD:w=0
   ·subst eD;simp
   ·rw[if_neg ZT,if_neg eD];rfl
  rw[e];exact arT true _ a1 H1 (fun _=>rfl) (fun h=>by cases h) bp aX kn
 |ar h3 h9 hk e1 e2 hw=>
  have bq:0<x.kids.length:=Zai
  have cD:=List.getElem_of_eq hk bq;rw[Je]at cD;have b1:=e1.by (show vBy v from hv) ha.b
  refine Zw an bq cD ?_;refine⟨ZT,ev0 _ _ _ _ _ _ _ hk ZT e1 kn (fun z a1 H1 hz bp aX kn=>?_) (fun z a1 H1 hz=>by cases hz)⟩;obtain rfl:=Rt.val.inj hz;subst bp;have b2:=e2.by (show vBy v from hv) aX.b
  simp only[go_sem,Ks,an];refine two _ _ _ _ _ _ a1 H1 hk ZT e2 aX kn (fun z a2 H2 hz aZ bH kn=>?_) (fun z a2 H2 hz=>by cases hz);obtain rfl:=Rt.val.inj hz;refine Za ?_;refine PA b1.1 b2.1 h3 h9 (fun z hz=>?_) (fun h=>by rw[hw]at h;cases h);rw[hw]at hz;obtain rfl:=Jw hz;simp only[go_sem,Tb,Jf,Jh];exact arT true _ a2 H2 (fun _=>rfl) (fun h=>by cases h) aZ bH kn
 |arD h3 h9 hk e1 e2 hw=>
  have bq:0<x.kids.length:=Zai
  have cD:=List.getElem_of_eq hk bq;rw[Je]at cD;have b1:=e1.by (show vBy v from hv) ha.b
  refine Zw an bq cD ?_;refine⟨ZT,ev0 _ _ _ _ _ _ _ hk ZT e1 kn (fun z a1 H1 hz bp aX kn=>?_) (fun z a1 H1 hz=>by cases hz)⟩;obtain rfl:=Rt.val.inj hz;subst bp;have b2:=e2.by (show vBy v from hv) aX.b
  simp only[go_sem,Ks,an];refine two _ _ _ _ _ _ a1 H1 hk ZT e2 aX kn (fun z a2 H2 hz aZ bH kn=>?_) (fun z a2 H2 hz=>by cases hz);obtain rfl:=Rt.val.inj hz;refine Za ?_;refine PA b1.1 b2.1 h3 h9 (fun z hz=>by rw[hw]at hz;cases hz) (fun _=>?_);simp only[go_sem,Tb,Jf,Jh];exact arT false 0 a2 H2 (fun h=>by cases h) (fun _=>rfl) aZ bH kn
 |arS h3 h9 hk e1 e2=>
  have bq:0<x.kids.length:=Zai
  have cD:=List.getElem_of_eq hk bq;rw[Je]at cD;refine Zw an bq cD ?_;refine⟨ZT,ev0 _ _ _ _ _ _ _ hk ZT e1 kn (fun z a1 H1 hz bp aX kn=>?_) (fun z a1 H1 hz=>by cases hz)⟩;obtain rfl:=Rt.val.inj hz;subst bp;simp only[go_sem,Ks,an];exact two _ _ _ _ _ _ a1 H1 hk ZT e2 aX kn (fun z a2 H2 hz=>by cases hz) (fun z a2 H2 hz aZ bH kn=>hP z a2 H2 hz aZ bH kn)
 |_=>exfalso;omega
theorem C0 (b:Option Nat):(bkC b).ah=false:=by cases b <;> rfl
theorem Qboc {ps:List (List UInt8)}{ns:List Nat}{i:Nat}(h:i<ps.length)(h2:i<ns.length):((ps.take (i+1)).zip ns).reverse=(ps[i],ns[i])::((ps.take i).zip ns).reverse:=by
 have:(ps.take (i+1)).zip ns=(ps.take i).zip ns++[(ps[i],ns[i])]:=by
  apply List.ext_getElem
  ·simp;omega
  ·intro j h1 h3;rw[List.getElem_append];split
   ·rename_i hj
    simp at hj;simp
   ·rename_i hj
    simp at hj h1;have:j=i:=ZT;subst this;simp
 rw[this];simp
theorem Qbkc {h:Nat}(aO:∀k (hk:k<X.fns.length),Qj X.fns[k].body≤4000∧X.fns[k].params.length≤3)(hB:∀h',h'<h→BlkK X h'):Fc X h:=by
 intro k hk ns m r m' H0 H E B Li a c K bg nt ha oC ft pQ kn hK hP;subst nt;have fx:=pQ.ah;obtain⟨z1,z2⟩:=aO k hk;obtain⟨f,hf⟩:∃f,X.fns[k]=f:=⟨_,rfl⟩;rw[hf]at bg ft z1 z2;have fD:=BM f.body;refine Qc Aa Q9t ?_;have retK:∀(z:Nat) (a':Ma) (H':Heap) (e:Env),r=.val z→a'.m=m'→a'.ok X→Kn H0 H' E (X.F a' [] (Li++B))→lk 6 e=.c (.int .i64 (z:Nat))→Qq Ad K .ret e H':=by
  intro z a' H' e h1 h2 h3 h4 h5;simp only[go_sem,Qq,Q0,Ja,forall_eq,RS.op,h5];exact hK z a' H' h1 h2 h3 h4
 have hX:=mF_o kn;refine Zd fx ?_;refine Zd fx ?_;intro lm eq H1 h1;have kn:=DG (kn.al eq h1);have hX:=mF_o kn;simp only[go_sem,Qkl,fx];refine Qz (Qa ?_);simp only[go_sem,hX,fx,hk,hf,Qu,AB _ _ hk,Fn.cells,Qt];try intro _
 refine Qf (Qg (Q3 (fun m e1 H1=>∃(i n:Nat) (es:List (C×V)),m=f.params.length-i∧i≤f.params.length∧MapOk vI es ((f.params.take i).zip ns).reverse∧es.length≤i∧Kn H0 H1 E (X.F a [(lm,n,es)] (Li++B))∧
  e1=[(0,.c (.ptr X.l 0)),(1,.c (.int .i64 k)),(2,.c c),(7,.c (.pp [.mp lm,.pnil])),(22,.c (.sl false 1 (Q5 f.params))),(23,.c (.int .i64 f.params.length)),(24,.c (.int .i64 i))]) f.params.length ?_ ?_))
 ·exact⟨0,_,[],ZT,ZT,.nil _,ZV,kn,rfl⟩
 ·clear kn hX;rintro m e1 H2 ⟨i,n,es,hm,hi,pV,eu,kn,rfl⟩;refine Zd fx ?_;refine Qf (Qb rfl ?_ ?_)
  ·intro hc;have af:i<f.params.length:=ZU
   have cO:i<ns.length:=ZT
   have gL:=eq_true pV.ky;have hl:=D8 (p:=[]) kn;have cE:=pQ.slc kn fun p hp=>by simp[Mn.F,hp]
   have bf:=eq_true cE.ok;have aM:=cE.len;have gS:=cE.sz;have di:=cE.rows;refine Zc ?_
   refine Qf (Qg ?_);refine ZN fx af ?_;refine Bf ?_;simp only[go_sem,fx,hl,AL,gL,bf,aM,gS,di,Q96,cO,Qa2v _ _ cO];refine⟨by simp only[LIM];omega,?_⟩;intro H3 h3;have kn:=Fi (p:=[]) kn h3;try simp only[go_sem,AE.X.next,fx]
   refine Zl fx ?_;have e1:f.params.getD i []=f.params[i]:=by simp[Jp,af]
   have e2:ns.getD i 0=ns[i]:=by simp[Jp,cO]
   have kO:=DZ f.params[i] (.c (.int .i64 (ns[i]:Nat))) es;rw[e1,e2]at kn;refine⟨Qv,f.params.length-(i+1),ZT,i+1,_,_,rfl,ZT,?_,ZT,kn,rfl⟩;rw[Qboc af cO];exact pV.put _ _
  ·intro hc;have aV:f.params.length≤i:=ZU
   rw[Jo aV]at pV;refine Zg ?_;have hX:=mF_o kn;refine Qz (Qa ?_);simp only[go_sem,hX,fx,hk,hf,Qu,AB _ _ hk,Fn.cells,Qt];generalize bG:r=r0 at bg
   cases bg with
   |@body _ _ _ rb _ ab e1=>
    have hh:=hB ab ZT f.body false (parE f.params ns) a.m rb m' H0 H2 E (Li++B) a [(lm,n,es)];refine hh _ e1 rfl ha ⟨pV,trivial⟩ (Gn oC) ⟨by simp only;omega,ZV⟩ ZT kn (fun b v' a2 sd' H3 hz aZ bH cr iW _ kn=>?_) (fun z a2 H3 hz aZ bH kn=>?_)
    ·subst hz;have oy:Kn H0 H3 E (X.F a2 [] (Li++B)):=by
      cases sd' with
      |nil=>exact kn
      |cons x t=>
       have:t=[]:=by
        simp only[ScD.ls,Jl,Jaf,Jao,Ja1]at iW;exact iW.2
       subst this;exact En kn
     have db:=C0 b;simp only[go_sem,Qkm,db];refine Qa ?_
     cases b with
     |none=>
      simp only[go_sem,bkC,C.isPtr,or_true,true_or,true_and];refine Qf (Qb rfl (fun h=>by cases h) (fun _=>?_));refine Zc ?_
      refine Za ?_;refine Qi ?_;exact retK 0 a2 H3 _ bG aZ bH oy rfl
     |some w=>
      simp only[go_sem,bkC,C.isPtr,or_true,true_or,true_and];refine Qf (Qb rfl (fun _=>?_) (fun h=>by cases h));refine Qa ?_;simp only[go_sem,Jf];refine Qi ?_;exact retK w a2 H3 _ bG aZ bH oy rfl
    ·subst hz;simp only[go_sem];exact hP z a2 H3 bG aZ bH (E4 kn)
theorem Qbo4 {fns:List Fn}{S h:Nat}{v:Vars}{m m':Ms}{r:Rt}(bg:Ev fns S h (.blk [] v) m r m'):r=.env none v∧m'=m:=by cases bg;exact⟨rfl,rfl⟩
theorem ScL.mono {n k:Nat}{sd:ScD}(h:ScL n sd)(hk:k≤n):ScL k sd:=by
 cases sd with
 |nil=>exact h
 |cons x r=>exact⟨by have:=h.1;omega,h.2⟩
theorem Qbo3 {h:Nat}(hS:∀h',h'<h→StK X h'):BlkK X h:=by
 intro l fl v m r m' H0 H E B a sd K bg nt ha hs hv cE aO kn hK hP;subst nt;have an:=BA sd.ls;refine Qc Aa Q7p ?_;have retK:∀b v' a' sd' H' e,r=.env b v'→a'.m=m'→a'.ok X→ScD.ok vI sd' v'→sd'.ls=sd.ls→ScG l.length sd sd'→Kn H0 H' E (X.F a' sd' B)→lk 6 e=.c (bkC b)→Qq Ad K .ret e H':=by
  intro b v' a' sd' H' e h1 h2 h3 h4 h5 h6 h7 h8;have db:=C0 b;simp only[go_sem,Qq,Q0,Ja,forall_eq,RS.op,h8,db];exact hK b v' a' sd' H' h1 h2 h3 h4 h5 h6 h7
 refine Zd an ?_;refine Qz (Qa ?_);simp only[go_sem,an,Qp];intro hl;simp only[LIM]at hl;refine Qf (Qg (Q3 (fun m e1 H1=>∃(i:Nat) (v1:Vars) (a1:Ma) (sd1:ScD) (h1:Nat),m=l.length-i∧i≤l.length∧h1≤h∧Ev X.fns X.S h1 (.blk (l.drop i) v1) a1.m r m'∧a1.ok X∧ScD.ok vI sd1 v1∧vBy v1∧sd1.ls=sd.ls∧ScG i sd sd1∧ScL (l.length-i) sd1∧
  Kn H0 H1 E (X.F a1 sd1 B)∧e1=[(0,.c (.ptr X.l 0)),(2,.c (scC sd.ls)),(10,.c (.sl fl 5 (Qk l))),(11,.c (.int .i64 l.length)),(12,.c (.int .i64 i))]) l.length ?_ ?_))
 ·exact⟨0,v,a,sd,h,ZT,ZT,Jg _,bg,ha,hs,hv,rfl,cE.refl,cE,kn,rfl⟩
 ·clear kn ha bg hs hv cE;rintro m e1 H1 ⟨i,v1,a1,sd1,h1,hm,hi,kA,bg,ha,hs,hv,iW,qP,cE,kn,rfl⟩;refine Zd an ?_;refine Qf (Qb rfl ?_ ?_)
  ·intro hc;have af:i<l.length:=ZU
   have dc:=Bw (Jq af);obtain⟨x,hx⟩:∃x,l[i]=x:=⟨_,rfl⟩;rw[Jac af,hx]at bg;rw[hx]at dc;refine Zc ?_
   refine Qf (Qg ?_);refine ZF an af hx ?_;intro x8 cC H3 h3;have kn:=CL (kn.al cC h3);have g8:H3 x8=.st [.int .i64 0,.str [],.sl true 4 [],.sl true 5 [],.sl true 5 []]:=(kn.get (x8,.st [.int .i64 0,.str [],.sl true 4 [],.sl true 5 [],.sl true 5 []]) ZbV).1;simp only[go_sem,Qi0,an,g8];intro H4 h4;have kn:Kn H0 H4 E (X.F a1 sd1 ((x8,stO x)::B)):=by
    have k2:Kn H0 H3 E (([(X.l,X.o a1)]++(a1.so++sd1.ob))++(x8,.st [.int .i64 0,.str [],.sl true 4 [],.sl true 5 [],.sl true 5 []])::B):=(by simpa[Mn.F]using kn);have k3:=k2.stM h4;simpa[Mn.F]using k3
   refine Zd an ?_;refine IP kn ha (fun H5 hu kn bH=>?_) (fun hu=>?_)
   ·have g8:H5 x8=stO x:=(kn.get (x8,stO x) ZbV).1;simp only[go_sem,an];refine Zi an g8 ?_;have go:∀(h2:Nat) (r2:Rt) (m2:Ms) (K1:V→Heap→Prop),h2<h→Ev X.fns X.S h2 (.st x v1) ⟨a1.m.u+1,a1.m.s,a1.m.c⟩ r2 m2→
      (∀b v' a' sd' H',r2=.env b v'→a'.m=m2→a'.ok X→ScD.ok vI sd' v'→sd'.ls=sd.ls→ScG 1 sd1 sd'→Kn H0 H' E (X.F a' sd' B)→K1 (.c (bkC b)) H')→
      (∀(z:Nat) a' H',r2=.dn z→a'.m=m2→a'.ok X→Kn H0 H' E (X.F a' [] B)→K1 (.pn (endV z)) H')→
      Qm prog VF [.c (.ptr X.l 0),.ag [.int .i64 x.op,.str x.name,.sl false 4 (Ql x.args),.sl false 5 (Qk x.body),.sl false 5 (Qk x.els)],.c (scC sd.ls)] H5 K1:=by
     intro h2 r2 m2 K1 iZ e2 hA hB;have nF:=ha.l;have hh:=hS h2 iZ x v1 ⟨a1.m.u+1,a1.m.s,a1.m.c⟩ r2 m2 H0 H5 E ((x8,stO x)::B) ⟨⟨a1.m.u+1,a1.m.s,a1.m.c⟩,a1.sc,a1.so⟩ sd1 K1 e2 rfl bH (show a1.m.s.length<a1.m.u+1 by omega) hs hv (cE.mono ZT) ZT kn;rw[x.aa,iW]at hh;exact hh (fun b v' a' sd' H' q1 q2 q3 q4 q5 q6 q7=>hA b v' a' sd' H' q1 q2 q3 q4 q5 q6 (E4 (A:=[(x8,_)]) q7)) (fun z a' H' q1 q2 q3 q4=>hB z a' H' q1 q2 q3 (E4 (A:=[(x8,_)]) q4))
    cases bg with
    |fuel cg=>exfalso;omega
    |@next _ _ _ _ v2 m2 _ _ je hb3 cg e1 e2=>
     refine go _ _ _ _ ZT e1 (fun b v' a2 sd2 H6 hz aZ bH cr gq iC kn=>?_) (fun z a2 H6 hz=>by cases hz);obtain⟨rfl,rfl⟩:=Rt.env.inj hz;subst aZ;have kg:=(e1.by (show vBy v1 from hv) (ha.b.tick _)).1.2;simp only[go_sem,VR,bkC,an];refine Qa ?_;simp only[go_sem,C.isPtr,or_true,true_or,true_and,an];refine Qb rfl (fun h=>by cases h) (fun _=>?_);refine Zf ?_
     refine Zl an ?_;exact⟨Qv,l.length-(i+1),ZT,i+1,v2,a2,sd2,hb3,rfl,ZT,ZT,e2,bH,cr,kg,gq,qP.trans iC,cE.step iC ZT,kn,rfl⟩
    |@back _ _ _ _ n v2 m2 _ cg e1=>
     refine go _ _ _ _ ZT e1 (fun b v' a2 sd2 H6 hz aZ bH cr gq iC kn=>?_) (fun z a2 H6 hz=>by cases hz);obtain⟨rfl,rfl⟩:=Rt.env.inj hz;simp only[go_sem,VR,bkC,an];refine Qa ?_;simp only[go_sem,C.isPtr,or_true,true_or,true_and,an];refine Qb rfl (fun _=>?_) (fun h=>by cases h);refine Za ?_;refine Zv ?_
     exact retK (some n) v2 a2 sd2 H6 _ rfl aZ bH cr gq ((qP.trans iC).mono ZT) kn rfl
    |stS cg e1=>
     refine go _ _ _ _ ZT e1 (fun b v' a2 sd2 H6 hz=>by cases hz) (fun z a2 H6 hz aZ bH kn=>?_);obtain rfl:=Rt.dn.inj hz;simp only[go_sem];exact hP _ a2 H6 rfl aZ bH kn
   ·cases bg with
    |fuel _=>
     simp only[go_sem];exact hP 3 a1 H4 rfl rfl ha (E4 (A:=[(x8,_)]) (Da kn))
    |next cg _ _=>exfalso;omega
    |back cg _=>exfalso;omega
    |stS cg _=>exfalso;omega
  ·intro hc;have aV:l.length≤i:=ZU
   rw[Jy aV]at bg;obtain⟨q1,q2⟩:=Qbo4 bg;refine Zg ?_;refine Za ?_;refine Qi ?_;exact retK none v1 a1 sd1 H1 _ q1 q2.symm ha hs iW (qP.mono hi) kn rfl
theorem Yf {fns:List Fn}{S h:Nat}{x:St}{v:Vars}{m m':Ms}{r:Rt}(bg:Ev fns S h (.lp x v) m r m') :
  ∃k r1 m1 h1,x.args=[k]∧h1<h∧Ev fns S h1 (.ex k v) m r1 m1∧((∃z,r1=.dn z∧r=.dn z∧m'=m1)∨(r1=.val 0∧r=.env none v∧m'=m1)∨
   ∃n h2 r2 m2,n≠0∧r1=.val n∧h2<h∧Ev fns S h2 (.blk x.body ([]::v)) m1 r2 m2∧((∃z v1,r2=.env (some z) v1∧r=.env (some z) v1.tail∧m'=m2)∨(∃z,r2=.dn z∧r=.dn z∧m'=m2)∨
    ∃v1,r2=.env none v1∧((m2.u=S∧r=.dn 3∧m'=m2)∨(m2.u<S∧∃h3,h3<h∧Ev fns S h3 (.lp x v1.tail) ⟨m2.u+1,m2.s,m2.c⟩ r m')))):=by
 cases bg with
 |lpS h1 e1=>exact⟨_,_,_,_,h1,ZT,e1,.inl ⟨_,rfl,rfl,rfl⟩⟩
 |lp0 h1 e1=>exact⟨_,_,_,_,h1,ZT,e1,.inr (.inl ⟨rfl,rfl,rfl⟩)⟩
 |lpB h1 e1 h2 e2=>exact⟨_,_,_,_,h1,ZT,e1,.inr (.inr ⟨_,_,_,_,h2,rfl,ZT,e2,.inl ⟨_,_,rfl,rfl,rfl⟩⟩)⟩
 |lpD h1 e1 h2 e2=>exact⟨_,_,_,_,h1,ZT,e1,.inr (.inr ⟨_,_,_,_,h2,rfl,ZT,e2,.inr (.inl ⟨_,rfl,rfl,rfl⟩)⟩)⟩
 |lpF h1 e1 h2 e2 h3=>exact⟨_,_,_,_,h1,ZT,e1,.inr (.inr ⟨_,_,_,_,h2,rfl,ZT,e2,.inr (.inr ⟨_,rfl,.inl ⟨h3,rfl,rfl⟩⟩)⟩)⟩
 |lpN h1 e1 h2 e2 h3 e3=>exact⟨_,_,_,_,h1,ZT,e1,.inr (.inr ⟨_,_,_,_,h2,rfl,ZT,e2,.inr (.inr ⟨_,rfl,.inr ⟨h3,_,ZT,e3⟩⟩)⟩)⟩
theorem ScL.all {n:Nat}{sd:ScD}(h:ScL n sd):∀y∈sd,y.2.2.length≤2^37:=by
 cases sd with
 |nil=>exact h.elim
 |cons x r=>
  intro y hy;rcases J1.1 hy with rfl|hy
  ·have:=h.1;omega
  ·exact h.2 y hy
theorem Qbpc {b c d:C}{m:List C}{j:Nat}:(b::c::d::m).drop (4+j)=m.drop (j+1):=by rw[show 4+j=(j+1)+3 by omega];rfl
theorem XA {h:Nat}(hE:∀h',h'<h→ExK X h')(hB:∀h',h'<h→BlkK X h'):StK X h:=by
 intro x v m r m' H0 H E B a sd K bg nt ha nF hs hv cE iy kn hK hP;subst nt;have an:=BA sd.ls;have gW:=x.size_eq;have fD:=BM x.body;have eu:=BM x.els;refine Qc Aa Q9w ?_;have retK:∀b v' a' sd' H' e,r=.env b v'→a'.m=m'→a'.ok X→ScD.ok vI sd' v'→sd'.ls=sd.ls→ScG 1 sd sd'→Kn H0 H' E (X.F a' sd' B)→lk 6 e=.c (bkC b)→Qq Ad K .ret e H':=by
  intro b v' a' sd' H' e h1 h2 h3 h4 h5 h6 h7 h8;have db:=C0 b;simp only[go_sem,Qq,Q0,Ja,forall_eq,RS.op,h8,db];exact hK b v' a' sd' H' h1 h2 h3 h4 h5 h6 h7
 have evA:∀(k:Ex) (v1:Vars) (sd1:ScD) (a1:Ma) (h1:Nat) (r1:Rt) (m1:Ms) (K1:V→Heap→Prop) (H1:Heap),h1<h→Ev X.fns X.S h1 (.ex k v1) a1.m r1 m1→a1.ok X→ScD.ok vI sd1 v1→vBy v1→sd1.ls=sd.ls→Kn H0 H1 E (X.F a1 sd1 B)→
   (∀(z:Nat) (a2:Ma) (H1:Heap),r1=.val z→a2.m=m1→a2.ok X→Kn H0 H1 E (X.F a2 sd1 B)→K1 (.c (.int .i64 (z:Nat))) H1)→
   (∀(z:Nat) (a':Ma) H',r1=.dn z→a'.m=m1→a'.ok X→Kn H0 H' E (X.F a' [] B)→K1 (.pn (endV z)) H')→
   Qm prog Cn [.c (.ptr X.l 0),.ag [.int .i64 k.op,.int .i64 k.n,.str k.name,.sl false 4 (Ql k.kids)],.c (scC sd.ls)] H1 K1:=by
  intro k v1 sd1 a1 h1 r1 m1 K1 H1 kA e1 aX cd dU iW kn hA hB;have hh:=hE h1 kA k v1 a1.m r1 m1 H0 H1 E B a1 sd1 K1 e1 rfl aX cd dU kn;rw[k.aa,iW]at hh;exact hh hA hB
 refine Qa ?_;simp only[go_sem,x.aa,an];refine Qz (Qa ?_);simp only[go_sem,an];refine Qf (Qb rfl (fun hc=>?_) (fun hc=>?_))
 ·have h6:x.op=6:=ZU
  cases bg with
  |@loop _ _ _ _ _ h0 _ e0=>
   refine Qf (Qg (Q3 (fun mm e1 H1=>∃(v1:Vars) (a1:Ma) (sd1:ScD),mm<h0+1∧Ev X.fns X.S mm (.lp x v1) a1.m r m'∧a1.ok X∧ScD.ok vI sd1 v1∧vBy v1∧sd1.ls=sd.ls∧lenS sd1=lenS sd∧Kn H0 H1 E (X.F a1 sd1 B)∧
    lk 0 e1=.c (.ptr X.l 0)∧lk 2 e1=.c (scC sd.ls)∧lk 4 e1=.c (.pp [.int .i64 x.op,.str x.name,.sl false 4 (Ql x.args),.sl false 5 (Qk x.body),.sl false 5 (Qk x.els)])) h0 ?_ ?_))
   ·exact⟨v,a,sd,ZT,e0,ha,hs,hv,rfl,rfl,kn,rfl,rfl,rfl⟩
   ·clear kn ha hs hv nF;rintro mm e1' H1 ⟨v1,a1,sd1,jk,bg,ha,hs,hv,iW,cO,kn,l0,l2,l4⟩;obtain⟨k,r1,m1,h1,hk,kA,e1,hr⟩:=Yf bg;have bq:0<x.args.length:=Zai;have cD:=List.getElem_of_eq hk bq;rw[Je]at cD;have mo:ScL 1 sd1:=cE.len cO;have b1:=e1.by (show vBy v1 from hv) ha.b;refine Qz (Qa ?_);simp only[go_sem,l0,l2,l4,an,bq,Qh,Qs _ _ bq,cD,Ex.aa];refine⟨ZT,evA k v1 sd1 a1 h1 r1 m1 _ _ ZT e1 ha hs hv iW kn (fun z a2 H2 hz aZ bH kn=>?_) (fun z a2 H2 hz aZ bH kn=>?_)⟩
    ·simp only[go_sem,Qkz,l0,l2,l4,an];rcases hr with ⟨z',q1,_⟩|⟨q1,q2,q3⟩|⟨n,h2,r2,m2,hn,q1,iZ,e2,bw⟩
     ·rw[q1]at hz;cases hz
     ·rw[q1]at hz;obtain rfl:=Rt.val.inj hz;refine Qf (Qb rfl (fun h=>by simp[lk]at h) (fun _=>?_));refine Zg ?_;refine Za ?_;refine Qi ?_;exact retK none v1 a2 sd1 H2 _ q2 (by rw[aZ,q3]) bH hs iW ((cE.refl.len cO).mono ZT) kn rfl
     ·rw[q1]at hz;obtain rfl:=Rt.val.inj hz;subst aZ;refine Qf (Qb rfl (fun _=>?_) (fun h=>by simp[lk]at h;omega));refine Zc ?_
      refine Qg (Qz ?_);refine An ?_;simp only[go_sem,an];refine F0 an (fun lm nn H7 eq h7=>?_);have kn:=DG (kn.al eq h7);simp only[go_sem,Qk1,an];have hh:=hB h2 ZT x.body false ([]::v1) a2.m r2 m2 H0 H7 E B a2 ((lm,nn,[])::sd1);have jm:ScD.ls ((lm,nn,[])::sd1)=lm::sd.ls:=(by rw[←iW];rfl);rw[jm]at hh;have oc:=mo.all;refine hh _ e2 rfl bH ⟨.nil _,hs⟩ (vBy.push hv) ⟨by simp only[Ji];omega,oc⟩ ZT kn (fun b v2 a3 sd2 H8 hz iH je cr gq jG kn=>?_) (fun z a3 H8 hz iH je kn=>?_)
      ·obtain⟨x',t,rfl,nW,jh,lx⟩:=Fg (x:=(lm,nn,[])) (sd:=sd1) cr (by rw[gq,←jm]) jG;have kn:=En kn;have db:=C0 b;simp only[go_sem,Qk0,an,db];have oL:t.ls=sd.ls:=nW.trans iW;have oM:lenS t=lenS sd:=lx.trans cO;refine Qz (Qa ?_)
       cases b with
       |none=>
        have nQ:=(e2.by (vBy.push hv) bH.b).1;rw[hz]at nQ;simp only[go_sem,bkC,C.isPtr,or_true,true_or,true_and,an];refine Qf (Qb rfl (fun h=>by cases h) (fun _=>?_));refine Zc ?_
        refine ZB an ?_;rcases bw with ⟨z',w,p1,_⟩|⟨z',p1,_⟩|⟨w,p1,p2⟩
        ·rw[p1]at hz;cases hz
        ·rw[p1]at hz;cases hz
        ·rw[p1]at hz;obtain⟨_,rfl⟩:=Rt.env.inj hz;refine IP kn je (fun H9 hu kn ha4=>?_) (fun hu=>?_)
         ·simp only[go_sem,AE.X.next,an];rcases p2 with ⟨q,_⟩|⟨q,h3,hh3,e3⟩
          ·exfalso;rw[←iH]at q;omega
          ·refine⟨h3,ZT,w.tail,_,t,ZT,by rw[←iH]at e3;exact e3,ha4,jh,nQ.2.pop,oL,oM,?_⟩
           first|exact kn|exact⟨kn,rfl,rfl,rfl⟩
         ·simp only[go_sem];rcases p2 with ⟨q,q2,q3⟩|⟨q,_⟩
          ·exact hP 3 a3 H8 q2 (by rw[iH,q3]) je (Da kn)
          ·exfalso;rw[←iH]at q;omega
       |some w=>
        simp only[go_sem,bkC,C.isPtr,or_true,true_or,true_and,an];refine Qf (Qb rfl (fun _=>?_) (fun h=>by cases h));refine Za ?_;refine Zv ?_
        rcases bw with ⟨z',w',p1,p2,p3⟩|⟨z',p1,_⟩|⟨w',p1,_⟩
        ·rw[p1]at hz;obtain⟨q,rfl⟩:=Rt.env.inj hz;obtain rfl:=Jw q;exact retK _ _ a3 t H8 _ p2 (by rw[iH,p3]) je jh oL ((cE.refl.len oM).mono ZT) kn rfl
        ·rw[p1]at hz;cases hz
        ·rw[p1]at hz;cases hz
      ·simp only[go_sem];rcases bw with ⟨z',v2,p1,_⟩|⟨z',p1,p2,p3⟩|⟨v2,p1,_⟩
       ·rw[p1]at hz;cases hz
       ·rw[p1]at hz;obtain rfl:=Rt.dn.inj hz;exact hP _ a3 H8 p2 (by rw[iH,p3]) je kn
       ·rw[p1]at hz;cases hz
    ·simp only[go_sem];rcases hr with ⟨z',q1,q2,q3⟩|⟨q1,_⟩|⟨n,h2,r2,m2,hn,q1,_⟩
     ·rw[q1]at hz;obtain rfl:=Rt.dn.inj hz;exact hP _ a2 H2 q2 (by rw[aZ,q3]) bH kn
     ·rw[q1]at hz;cases hz
     ·rw[q1]at hz;cases hz
  |_=>exfalso;omega
 have n6:¬x.op=6:=ZU
 refine Zc ?_
 have t29:∀v' a' sd' H' e,r=.env none v'→a'.m=m'→a'.ok X→ScD.ok vI sd' v'→sd'.ls=sd.ls→ScG 1 sd sd'→Kn H0 H' E (X.F a' sd' B)→Q6 prog RO (Qq Ad K) e H':=by
  intro v' a' sd' H' e h1 h2 h3 h4 h5 h6 h7;refine Za ?_;refine Qi ?_;exact retK none v' a' sd' H' _ h1 h2 h3 h4 h5 h6 h7 rfl
 have AC:∀(k:Ex) (l:List Ex) (h1:Nat) (r1:Rt) (m1:Ms),x.args=k::l→h1<h→Ev X.fns X.S h1 (.ex k v) a.m r1 m1→
   (∀(z:Nat) (a1:Ma) (H1:Heap),r1=.val z→a1.m=m1→a1.ok X→Kn H0 H1 E (X.F a1 sd B)→
    Q6 prog Qkx (AE.X.sq prog RO (Qq Ad K)) [(0,.c (.ptr X.l 0)),(2,.c (scC sd.ls)),(4,.c (.pp [.int .i64 x.op,.str x.name,.sl false 4 (Ql x.args),.sl false 5 (Qk x.body),.sl false 5 (Qk x.els)])),(8,.c (.int .i64 (z:Nat))),(40,.c (.int .i64 x.op))] H1)→
   (∀(z:Nat) (a':Ma) H',r1=.dn z→a'.m=m1→a'.ok X→Kn H0 H' E (X.F a' [] B)→K (.pn (endV z)) H')→
   Q6 prog Qky (Qq Ad K) [(0,.c (.ptr X.l 0)),(2,.c (scC sd.ls)),(4,.c (.pp [.int .i64 x.op,.str x.name,.sl false 4 (Ql x.args),.sl false 5 (Qk x.body),.sl false 5 (Qk x.els)])),(12,.c (.bool (decide (x.op=6))))] H:=by
  intro k l h1 r1 m1 hk kA e1 hA hB;have bq:0<x.args.length:=Zai
  have cD:=List.getElem_of_eq hk bq;rw[Je]at cD;refine Zw an bq cD ?_;refine⟨ZT,evA k v sd a h1 r1 m1 _ _ kA e1 ha hs hv rfl kn (fun z a2 H2 hz aZ bH kn=>?_) (fun z a2 H2 hz aZ bH kn=>?_)⟩
  ·simp only[go_sem,Qi6,an];refine Qz (Qa ?_);simp only[go_sem,an];exact Qf (hA z a2 H2 hz aZ bH kn)
  ·simp only[go_sem];exact hB z a2 H2 hz aZ bH kn
 cases bg with
 |loop h6 _=>exact absurd h6 n6
 |argS _ hk _ e1=>exact AC _ _ _ _ _ hk ZT e1 (fun z a1 H1 hz=>by cases hz) (fun z a1 H1 hz bp aX kn=>hP z a1 H1 hz bp aX kn)
 |let_ h1 hk e1=>
  refine AC _ _ _ _ _ hk ZT e1 (fun z a1 H1 hz bp aX kn=>?_) (fun z a1 H1 hz=>by cases hz);obtain rfl:=(Rt.val.inj hz).symm;obtain⟨x0,rest,rfl⟩:∃x0 rest,sd=x0::rest:=by
   cases sd with
   |nil=>exact cE.elim
   |cons p q=>exact⟨p,q,rfl⟩
  obtain⟨l0,n0,es0⟩:=x0;obtain⟨b,vr,rfl⟩:∃b vr,v=b::vr:=by
   cases v with
   |nil=>exact hs.elim
   |cons p q=>exact⟨p,q,rfl⟩
  obtain⟨ib,hsr⟩:=hs;obtain⟨i0,iX⟩:=cE;have iW:ScD.ls ((l0,n0,es0)::rest)=l0::ScD.ls rest:=rfl;have eJ:=BA (ScD.ls rest);have gL:=eq_true ib.ky;have hl:=D8 (p:=[]) kn;refine Qg (Qa ?_);simp only[go_sem,an];refine Qb rfl (fun _=>?_) (fun h=>by simp[h1]at h);refine Bf ?_;simp only[go_sem,iW,scC,hl,AL,gL,eJ,Jf,Jh];refine⟨by simp only[LIM];simp only at i0;omega,?_⟩;intro H3 h3;have kn:=Fi (p:=[]) kn h3;try simp only[go_sem,AE.X.next]
  have kO:=DZ x.name (.c (.int .i64 (z:Nat))) es0;exact t29 _ a1 ((l0,n0+1,AH (.str x.name) (.c (.int .i64 (z:Nat))) es0)::rest) H3 _ rfl bp aX ⟨ib.put x.name z,hsr⟩ rfl ⟨kO,rfl⟩ kn
 |set h2 hk hf e1=>
  refine AC _ _ _ _ _ hk ZT e1 (fun z a1 H1 hz bp aX kn=>?_) (fun z a1 H1 hz=>by cases hz);obtain rfl:=(Rt.val.inj hz).symm;refine Qg (Qa ?_);simp only[go_sem,an];refine Qb rfl (fun h=>by simp[h2]at h) (fun _=>?_);refine Zd an ?_;refine Qb rfl (fun _=>?_) (fun h=>by simp[h2]at h);refine Bf ?_;simp only[go_sem,an];refine I5 hs (fun y hy=>(kn.get (y.1,.map y.2.1 y.2.2) (Jc _ (Jc _ (Jc _ (Jb _ (Jt.2 ⟨y,hy,rfl⟩)))))).1) hf (fun p l nn es q vp b vq dh kf eH bO jw hm=>?_);have gL:=eq_true hm.ky;subst dh;subst kf;have hl:=D8 kn;have hes:es.length≤2^37:=cE.all (l,nn,es) ZV;have eJ:=BA (ScD.ls q);simp only[go_sem,Qi7,C.isPtr,hl,AL,gL,eJ,Jf,Jh];refine⟨by simp only[LIM];omega,?_⟩;intro H3 h3;have kn:=Fi kn h3;try simp only[go_sem,AE.X.next]
  obtain⟨o1,o2⟩:=(ScD.ok_app eH).1 hs;have eU:=Rq x.name (.c (.int .i64 (z:Nat))) es hm.ky (by rw[hm.any];exact jw);refine t29 _ a1 _ H3 _ rfl bp aX ?_ ?_ ((cE.refl.len ?_).mono ZT) kn
  ·rw[R4 bO jw];exact (ScD.ok_app eH).2 ⟨o1,hm.set jw z,o2.2⟩
  ·simp[ScD.ls]
  ·simp[lenS,eU]
 |say h3 hk e1=>
  refine AC _ _ _ _ _ hk ZT e1 (fun z a1 H1 hz bp aX kn=>?_) (fun z a1 H1 hz=>by cases hz);obtain rfl:=(Rt.val.inj hz).symm;have bh:=e1.by (show vBy v from hv) ha.b
  subst bp;have iC:a1.m.s.length<a1.m.u:=by have:=bh.2.2.2.1;simp only[Tk.sl]at this;omega
  have hX:=mF_o kn;have fx:=aX.g.ah;have ft:=aX.len;have hS:=aX.S;have huS:=aX.u;refine Qg (Qa ?_);simp only[go_sem,an];refine Qb rfl (fun h=>by simp[h3]at h) (fun _=>?_);refine Zd an ?_;refine Qb rfl (fun h=>by simp[h3]at h) (fun _=>?_);refine Zd an ?_;refine Qb rfl (fun _=>?_) (fun h=>by simp[h3]at h);refine Qr ?_;simp only[go_sem,hX,fx,an];have kn:=mF_s kn;refine kn.aQ aX.g (new:=Ao [z]) (.mk' _ true 1 _) (HM _) (by simp only[Q96,Jj,Ji,LIM];omega) fun t2 Lg2 H6 bS aW kn=>?_;rw[show Ao a1.m.s++Ao [z]=Ao (a1.m.s++[z])by simp[Ao,Ar]]at bS;have hX:H6 X.l=.st (.sl X.fl 3 (Qo X.fns)::.int .i64 X.S::.int .i64 (a1.m.u:Nat)::a1.sc::natC a1.m.c):=kn.l 0 rfl;simp only[go_sem,Qi8,hX,aW,ft];intro H7 h7;have kn:Kn H0 H7 E (X.F ⟨⟨a1.m.u,a1.m.s++[z],a1.m.c⟩,t2,Lg2⟩ sd B):=XN rfl (kn.ax 0 rfl h7);try simp only[go_sem,AE.X.next]
  refine t29 v ⟨⟨a1.m.u,a1.m.s++[z],a1.m.c⟩,t2,Lg2⟩ sd H7 _ rfl rfl ⟨bS,⟨aX.b.c,aX.b.cb,fun y hy=>?_⟩,by simp only[Ju,Jj,Ji];omega,aX.u,aX.S⟩ hs rfl (cE.refl.mono ZT) kn;rcases Jv.1 hy with hy|hy
  ·exact aX.b.sb y hy
  ·simp only[Ja]at hy;subst hy;exact bh.1
 |put h4 hk e1 e2 hn=>
  refine AC _ _ _ _ _ hk ZT e1 (fun z a1 H1 hz bp aX kn=>?_) (fun z a1 H1 hz=>by cases hz);obtain rfl:=(Rt.val.inj hz).symm;refine Qg (Qa ?_);simp only[go_sem,an];refine Qb rfl (fun h=>by simp[h4]at h) (fun _=>?_);refine Zd an ?_;refine Qb rfl (fun h=>by simp[h4]at h) (fun _=>?_);refine Zd an ?_;refine Qb rfl (fun h=>by simp[h4]at h) (fun _=>?_);refine Zd an ?_;refine Qb rfl (fun _=>?_) (fun h=>by simp[h4]at h);have bq:1<x.args.length:=Zai
  have dD:=List.getElem_of_eq hk bq;simp only[Jz,Je]at dD;subst bp;refine Zw an bq dD ?_;refine⟨ZT,evA _ v sd a1 _ _ _ _ _ ZT e2 aX hs hv rfl kn (fun z2 a2 H2 i6 aZ bH kn=>?_) (fun z2 a2 H2 i6=>by cases i6)⟩;obtain rfl:=(Rt.val.inj i6).symm;have bM:=e2.by (show vBy v from hv) aX.b
  subst aZ;have hX:=mF_o kn;have ft:=bH.len;simp only[go_sem,VQ,an];refine ZB an ?_;refine DH (fun gI=>?_) (fun gI=>ZT);simp only[go_sem,Qi9,hX,ft,I0,X8,Jj];refine⟨ZT,fun H3 h3=>?_⟩;have cG:=bH.b.c;have qW:=Qbmp (c:=a2.m.c) (j:=z) ZT z2;rw[Qbpc,qW]at h3;have kn:Kn H0 H3 E (X.F ⟨⟨a2.m.u,a2.m.s,a2.m.c.set z z2⟩,a2.sc,a2.so⟩ sd B):=kn.ax 0 rfl h3;refine t29 v ⟨⟨a2.m.u,a2.m.s,a2.m.c.set z z2⟩,a2.sc,a2.so⟩ sd H3 _ rfl rfl ⟨bH.g,⟨by simp[cG],fun y hy=>?_,bH.b.sb⟩,bH.l,bH.u,bH.S⟩ hs rfl (cE.refl.mono ZT) kn;rcases List.mem_or_eq_of_mem_set hy with hy|rfl
  ·exact bH.b.cb y hy
  ·exact bM.1
 |putC h4 hk e1 e2 hn=>
  refine AC _ _ _ _ _ hk ZT e1 (fun z a1 H1 hz bp aX kn=>?_) (fun z a1 H1 hz=>by cases hz);obtain rfl:=(Rt.val.inj hz).symm;refine Qg (Qa ?_);simp only[go_sem,an];refine Qb rfl (fun h=>by simp[h4]at h) (fun _=>?_);refine Zd an ?_;refine Qb rfl (fun h=>by simp[h4]at h) (fun _=>?_);refine Zd an ?_;refine Qb rfl (fun h=>by simp[h4]at h) (fun _=>?_);refine Zd an ?_;refine Qb rfl (fun _=>?_) (fun h=>by simp[h4]at h);have bq:1<x.args.length:=Zai
  have dD:=List.getElem_of_eq hk bq;simp only[Jz,Je]at dD;subst bp;refine Zw an bq dD ?_;refine⟨ZT,evA _ v sd a1 _ _ _ _ _ ZT e2 aX hs hv rfl kn (fun z2 a2 H2 i6 aZ bH kn=>?_) (fun z2 a2 H2 i6=>by cases i6)⟩;simp only[go_sem,VQ,an];refine ZB an ?_;refine DH (fun gI=>ZT) (fun gI=>?_);simp only[go_sem];exact hP 2 a2 H2 rfl aZ bH (Da kn)
 |putS h4 hk e1 e2=>
  refine AC _ _ _ _ _ hk ZT e1 (fun z a1 H1 hz bp aX kn=>?_) (fun z a1 H1 hz=>by cases hz);obtain rfl:=(Rt.val.inj hz).symm;refine Qg (Qa ?_);simp only[go_sem,an];refine Qb rfl (fun h=>by simp[h4]at h) (fun _=>?_);refine Zd an ?_;refine Qb rfl (fun h=>by simp[h4]at h) (fun _=>?_);refine Zd an ?_;refine Qb rfl (fun h=>by simp[h4]at h) (fun _=>?_);refine Zd an ?_;refine Qb rfl (fun _=>?_) (fun h=>by simp[h4]at h);have bq:1<x.args.length:=Zai
  have dD:=List.getElem_of_eq hk bq;simp only[Jz,Je]at dD;subst bp;refine Zw an bq dD ?_;refine⟨ZT,evA _ v sd a1 _ _ _ _ _ ZT e2 aX hs hv rfl kn (fun z2 a2 H2 i6=>by cases i6) (fun z2 a2 H2 i6 aZ bH kn=>?_)⟩;simp only[go_sem];exact hP z2 a2 H2 i6 aZ bH kn
 |@ift _ _ _ _ m1 r0 _ j6 fG _ h5 hk e1 hn e2=>
  refine AC _ _ _ _ _ hk ZT e1 (fun z a1 H1 hz bp aX kn=>?_) (fun z a1 H1 hz=>by cases hz);obtain rfl:=(Rt.val.inj hz).symm;subst bp;refine Qg (Qa ?_);simp only[go_sem,an];refine Qb rfl (fun h=>by simp[h5]at h) (fun _=>?_);refine Zd an ?_;refine Qb rfl (fun h=>by simp[h5]at h) (fun _=>?_);refine Zd an ?_;refine Qb rfl (fun h=>by simp[h5]at h) (fun _=>?_);refine Zd an ?_;refine Qb rfl (fun h=>by simp[h5]at h) (fun _=>?_);refine Zd an ?_;refine Qb rfl (fun _=>?_) (fun h=>by simp[h5]at h);refine Qz (Qa ?_);simp only[go_sem,an];refine Qf (Qb rfl (fun _=>?_) (fun h=>by simp[lk]at h;omega));refine An ?_;simp only[go_sem,an];refine F0 an (fun lm nn H7 eq h7=>?_);have kn:=DG (kn.al eq h7);simp only[go_sem,Qjb,an];generalize bG:r0.pop=rp at *;have hh:=hB fG ZT x.body false ([]::v) a1.m r0 m' H0 H7 E B a1 ((lm,nn,[])::sd);have jm:ScD.ls ((lm,nn,[])::sd)=lm::sd.ls:=rfl;rw[jm]at hh;refine hh _ e2 rfl aX ⟨.nil _,hs⟩ (vBy.push hv) ⟨by simp only[Ji];omega,cE.all⟩ ZT kn (fun b v2 a3 sd2 H8 hz iH je cr gq jG kn=>?_) (fun z a3 H8 hz iH je kn=>?_)
  ·obtain⟨x',t,rfl,nW,jh,lx⟩:=Fg (x:=(lm,nn,[])) (sd:=sd) cr gq jG;have kn:=En kn;have db:=C0 b;simp only[go_sem,Qja,an,db];refine Zv ?_
   exact retK b v2.tail a3 t H8 _ ZbO iH je jh nW ((cE.refl.len lx).mono ZT) kn rfl
  ·simp only[go_sem];exact hP z a3 H8 ZbO iH je kn
 |@iff_ _ _ _ m1 r0 _ j6 fG _ h5 hk e1 e2=>
  refine AC _ _ _ _ _ hk ZT e1 (fun z a1 H1 hz bp aX kn=>?_) (fun z a1 H1 hz=>by cases hz);obtain rfl:=(Rt.val.inj hz).symm;subst bp;refine Qg (Qa ?_);simp only[go_sem,an];refine Qb rfl (fun h=>by simp[h5]at h) (fun _=>?_);refine Zd an ?_;refine Qb rfl (fun h=>by simp[h5]at h) (fun _=>?_);refine Zd an ?_;refine Qb rfl (fun h=>by simp[h5]at h) (fun _=>?_);refine Zd an ?_;refine Qb rfl (fun h=>by simp[h5]at h) (fun _=>?_);refine Zd an ?_;refine Qb rfl (fun _=>?_) (fun h=>by simp[h5]at h);refine Qz (Qa ?_);simp only[go_sem,an];refine Qf (Qb rfl (fun h=>by simp[lk]at h) (fun _=>?_));refine Zc ?_
  refine An ?_;simp only[go_sem,an];refine F0 an (fun lm nn H7 eq h7=>?_);have kn:=DG (kn.al eq h7);simp only[go_sem,Qjd,an];generalize bG:r0.pop=rp at *;have hh:=hB fG ZT x.els false ([]::v) a1.m r0 m' H0 H7 E B a1 ((lm,nn,[])::sd);have jm:ScD.ls ((lm,nn,[])::sd)=lm::sd.ls:=rfl;rw[jm]at hh;refine hh _ e2 rfl aX ⟨.nil _,hs⟩ (vBy.push hv) ⟨by simp only[Ji];omega,cE.all⟩ ZT kn (fun b v2 a3 sd2 H8 hz iH je cr gq jG kn=>?_) (fun z a3 H8 hz iH je kn=>?_)
  ·obtain⟨x',t,rfl,nW,jh,lx⟩:=Fg (x:=(lm,nn,[])) (sd:=sd) cr gq jG;have kn:=En kn;have db:=C0 b;simp only[go_sem,Qjc,an,db];refine Zv ?_
   exact retK b v2.tail a3 t H8 _ ZbO iH je jh nW ((cE.refl.len lx).mono ZT) kn rfl
  ·simp only[go_sem];exact hP z a3 H8 ZbO iH je kn
 |bck h7 hk e1=>
  refine AC _ _ _ _ _ hk ZT e1 (fun z a1 H1 hz bp aX kn=>?_) (fun z a1 H1 hz=>by cases hz);obtain rfl:=(Rt.val.inj hz).symm;refine Qg (Qa ?_);simp only[go_sem,an];refine Qb rfl (fun h=>by simp[h7]at h) (fun _=>?_);refine Zd an ?_;refine Qb rfl (fun h=>by simp[h7]at h) (fun _=>?_);refine Zd an ?_;refine Qb rfl (fun h=>by simp[h7]at h) (fun _=>?_);refine Zd an ?_;refine Qb rfl (fun h=>by simp[h7]at h) (fun _=>?_);refine Zd an ?_;refine Qb rfl (fun h=>by simp[h7]at h) (fun _=>?_);refine Zd an ?_;refine Qb rfl (fun _=>?_) (fun h=>by simp[h7]at h);refine Za ?_;refine Zv ?_
  exact retK (some z) v a1 sd H1 _ rfl bp aX hs rfl (cE.refl.mono ZT) kn rfl
 |do_ h8 hk e1=>
  refine AC _ _ _ _ _ hk ZT e1 (fun z a1 H1 hz bp aX kn=>?_) (fun z a1 H1 hz=>by cases hz);obtain rfl:=(Rt.val.inj hz).symm;refine Qg (Qa ?_);simp only[go_sem,an];refine Qb rfl (fun h=>by simp[h8]at h) (fun _=>?_);refine Zd an ?_;refine Qb rfl (fun h=>by simp[h8]at h) (fun _=>?_);refine Zd an ?_;refine Qb rfl (fun h=>by simp[h8]at h) (fun _=>?_);refine Zd an ?_;refine Qb rfl (fun h=>by simp[h8]at h) (fun _=>?_);refine Zd an ?_;refine Qb rfl (fun h=>by simp[h8]at h) (fun _=>?_);refine Zd an ?_;refine Qb rfl (fun h=>by simp[h8]at h) (fun _=>?_);refine Zf ?_
  exact t29 v a1 sd H1 _ rfl bp aX hs rfl (cE.refl.mono ZT) kn
theorem PW (aO:∀k (hk:k<X.fns.length),Qj X.fns[k].body≤4000∧X.fns[k].params.length≤3):∀n h,h<n→ExK X h∧Fc X h∧BlkK X h∧StK X h
 |0,_,h=>ZT
 |n+1,h,hh=>by
  have ih:=PW aO n;exact⟨YP (fun h' h1=>(ih h' ZT).1) (fun h' h1=>(ih h' ZT).2.1),Qbkc aO (fun h' h1=>(ih h' ZT).2.2.1),
   Qbo3 (fun h' h1=>(ih h' ZT).2.2.2),XA (fun h' h1=>(ih h' ZT).1) (fun h' h1=>(ih h' ZT).2.2.1)⟩
end Go.AE.Y
namespace Go.AE
variable {H0 H H':Heap}{E L B Lg:List (Nat×Obj)}{S:Nat→Bool}
theorem Kn.freezeT (kn:Kn H0 H E (B++Lg)):∃S:Nat→Bool,(∀p∈Lg,H p.1=p.2∧S p.1=true)∧(∀p∈B,H p.1=p.2∧S p.1=false)∧FrzH H S (H.frz S)∧Kn H0 (H.frz S) E B:=by
 have hd:=kn.dL;rw[Jr]at hd;obtain⟨d1,d2,d3⟩:=List.nodup_append.1 hd;have keyB:∀m,m∉Lg.map Prod.fst→(Lg.map Prod.fst).contains m=false:=fun m hm=>by
  cases hc:(Lg.map Prod.fst).contains m with
  |false=>rfl
  |true=>exact absurd (Jau.1 hc) hm
 have key:∀m,m∉Lg.map Prod.fst→(H.frz fun m=>(Lg.map Prod.fst).contains m) m=H m:=fun m hm=>by
  simp only[Heap.frz,keyB m hm];rfl
 have hB:∀p∈B,p.1∉Lg.map Prod.fst:=fun p hp hh=>d3 _ (AR hp) _ hh rfl;refine⟨fun m=>(Lg.map Prod.fst).contains m,fun p hp=>⟨(kn.get p (Jc _ (Jc _ hp))).1,Jau.2 (AR hp)⟩,
  fun p hp=>⟨(kn.get p (Jc _ (Jb _ hp))).1,keyB _ (hB p hp)⟩,E7 _ _,?_⟩
 refine⟨fun p hp=>?_,kn.ext,fun p hp=>kn.loc p (Jb _ hp),kn.dE,d1,fun m hm hx=>?_⟩
 ·have hg:H p.1=p.2∧p.2≠.none:=kn.get p (by
   rcases Jv.1 hp with h|h
   ·exact Jb _ h
   ·exact Jc _ (Jb _ h))
  refine⟨?_,hg.2⟩;rw[key p.1 (fun hh=>?_)];exact hg.1;rcases Jv.1 hp with h|h
  ·obtain⟨r,hr,he⟩:=Jt.1 hh;exact kn.ext p h (he▸kn.loc r (Jc _ hr))
  ·exact hB p h hh
 ·rw[key m (fun hh=>?_)]
  ·exact kn.chg m hm hx
  ·obtain⟨r,hr,he⟩:=Jt.1 hh;exact hm (he▸kn.loc r (Jc _ hr))
end Go.AE
namespace Go.AE.Y
variable {H:Heap}
theorem Gu {S:Nat→Bool}{a b a' b':V}(h:FrzV H S a a')(k:FrzV H S b b'):FrzV H S (.tup [a,b]) (.tup [a',b']):=by
 refine .tup _ _ rfl fun j x x' h1 h2=>?_
 match j with
 |0=>simp at h1 h2;subst h1;subst h2;exact h
 |1=>simp at h1 h2;subst h1;subst h2;exact k
 |j+2=>simp at h1
end Go.AE.Y
namespace Go.AE.Y
attribute [local go_sem] cond_true cond_false Bool.not_true Bool.not_false
open Go.Proofs.Tryz
variable {H H0:Heap}{K:V→Heap→Prop}
theorem Ry {f g:Bool}{ns:List Int}(hK:K (.c (.bool true)) H):Qm prog NS [.c (.sl f 1 (Ar ns)),.c (.sl g 1 (Ar ns))] H K:=by
 refine Qc Aa Qba2 ?_;refine Za ?_;refine Qz (Qa ?_);simp only[go_sem,CA,decide_true];intro hl;try intro _
 simp only[LIM]at hl;refine Qf (Qb rfl ?_ ?_)
 ·intro h;simp at h
 intro _;refine Zc ?_
 refine Qz (Qa ?_);simp only[go_sem,CA];try intro _
 refine Qf (Qg (Q3 (fun m e1 H1=>∃(i:Nat),m=ns.length-i∧i≤ns.length∧H1=H∧lk 0 e1=.c (.sl f 1 (Ar ns))∧lk 1 e1=.c (.sl g 1 (Ar ns))∧lk 12 e1=.c (.int .i64 ns.length)∧lk 13 e1=.c (.int .i64 i)) ns.length ?_ ?_))
 ·exact⟨0,ZT,ZT,rfl,rfl,rfl,rfl,rfl⟩
 ·rintro m e1 H1 ⟨i,hm,hi,rfl,l0,l1,l12,l13⟩;refine ZG l0 l1 l12 l13 ?_;refine Qf (Qb rfl ?_ ?_)
  ·intro hc;have af:i<ns.length:=ZU
   refine Zc ?_
   refine Qf (Qg ?_);refine Za ?_;refine An ?_;simp only[go_sem,af,CA,Q25 _ _ af,decide_true];refine Qb rfl ?_ ?_
   ·intro h;simp at h
   intro _;refine Zc ?_
   refine Zp ?_;refine⟨Qv,?_⟩;show ∃m,_;exact⟨ns.length-(i+1),ZT,i+1,rfl,ZT,rfl,rfl,rfl,rfl,rfl⟩
  ·intro hc;refine Zm ?_;refine Za ?_;refine Zb ?_;exact hK
end Go.AE.Y
namespace Go.AE.Y
open Go.Proofs.Tryz
theorem Qa95 (p:Addr)(w:World) :
  CallsD prog Qvf #[.pointer (some p)] .returning w fun e u' w'=>e=.returned (.tuple #[])∧u'=.returning∧w'=w:=by
 refine callsD_of_wpS Go.Proofs.Tryz.func165 rfl fun c₀ cs hu=>?_;apply wpS_seq;apply wpS_region;simp[wpOpsS,go_sem,recoverD,hu,Go.Proofs.Tryz.ntmps165,Exit.thenS];apply wpS_seq;apply wpS_region;simp[wpOpsS,go_sem,Exit.thenS];refine wpS_cond (t:=false) (by simp[Act.eval]) ?_;simp only[Jaa,if_false];refine wpS_of_wp (wp_skip ?_);cases c₀
 simp_all[bodyPostS,results,Go.Proofs.Tryz.results165]
set_option maxRecDepth 4000 in
theorem Qaif (p:Addr)(n:Int)(x:Value)(older:List PanicEntry)(w:World)(hc:w.cell? p=some x)(hz:w.frozen? p=false) :
  CallsD prog Qvf #[.pointer (some p)] (.panicking ({ v:=.iface 199 (.int .i64 n),recovered:=false }::older)) w fun e u' w'=>
   e=.returned (.tuple #[])∧u'=.panicking ({ v:=.iface 199 (.int .i64 n),recovered:=true }::older)∧w'=w.setCell p (.int .i64 n):=by
 refine callsD_of_wpS Go.Proofs.Tryz.func165 rfl fun c₀ cs hu=>?_;apply wpS_seq;apply wpS_region;simp[wpOpsS,go_sem,recoverD,hu,Go.Proofs.Tryz.ntmps165,Exit.thenS];apply wpS_seq;apply wpS_region;simp[wpOpsS,go_sem,Exit.thenS];refine wpS_cond (t:=true) (by simp[Act.eval]) ?_;simp only[if_true];have bE:∀w:World,(Instr.typeAssert (.iface 199 (.int .i64 n)) 20 199 true).run prog w=.ok (.tuple #[.int .i64 n,.bool true]) w:=fun w=>ZW
 apply wpS_seq;apply wpS_region;simp[wpOpsS,go_sem,Exit.thenS,bE];apply wpS_seq;apply wpS_seq;apply wpS_region;simp[wpOpsS,go_sem,Exit.thenS];refine wpS_cond (t:=false) (by simp[Act.eval]) ?_;simp only[Jaa,if_false];refine wpS_of_wp (wp_skip ?_);simp only[Exit.thenS];apply wpS_region;simp[wpOpsS,go_sem,hc,hz,bodyPostS,results,Go.Proofs.Tryz.results165]
theorem Qa96 {f : Nat} {caps : Array Value} {w : World} {R : Ending → World → Prop} (hf : fnOk prog f = true)
    (h : Calls prog f caps (w.alloc (.cells #[.int .i64 0] 3)) fun e w' => w'.cell? ⟨w.heap.size, 0, none⟩ = some (.int .i64 0) ∧ w'.frozen? ⟨w.heap.size, 0, none⟩ = false ∧
      ((∃ v, e = .returned v ∧ R (.returned (.int .i64 0)) (w'.setCell ⟨w.heap.size, 0, none⟩ (.int .i64 0))) ∨
       (∃ n, e = .panicked [{ v := .iface 199 (.int .i64 n), recovered := false }] ∧ R (.returned (.int .i64 n)) (w'.setCell ⟨w.heap.size, 0, none⟩ (.int .i64 n))))) :
    Calls prog Po #[.func (.func f) #[] caps] w R := by
  have hmf : ∀ fn (first cap : Array Value) (w : World), (Instr.makeFunc fn first cap).run prog w = .ok (.func fn first cap) w := fun _ _ _ _ => rfl
  go_enter_defers Go.Proofs.Tryz.func109, Go.Proofs.Tryz.ntmps109
  go_wp2
  have ka : ∀ w, (callFunc f caps).run prog w = .ok (.enter f caps) w := fun w => TB hf caps w;simp only [ka, Array.append_empty, Array.empty_append, Oper.upon_enter];refine h.mono ?_;rintro e w' ⟨hc, hz, hR⟩;rcases hR with ⟨v, rfl, hR⟩ | ⟨n, rfl, hR⟩
  · go_wp2
    refine leaves_cons (f := 165) (args := #[.pointer (some ⟨w.heap.size, 0, none⟩)]) ZV (by simp [go_sem]) ?_;refine (Qa95 ⟨w.heap.size, 0, none⟩ _).mono ?_;rintro e u' w'' ⟨rfl, rfl, rfl⟩;simp [Leaves, settle, results, Go.Proofs.Tryz.results109, go_sem];refine ⟨_, ?_, hR⟩;simp [go_sem, hc]
  · show Leaves _ _ _ _ _ _ _;refine leaves_cons (f := 165) (args := #[.pointer (some ⟨w.heap.size, 0, none⟩)]) ZV (by simp [go_sem]) ?_;refine (Qaif ⟨w.heap.size, 0, none⟩ n _ [] _ hc hz).mono ?_;rintro e u' w'' ⟨rfl, rfl, rfl⟩;simp [Leaves, settle, results, Go.Proofs.Tryz.results109, go_sem];refine ⟨_, ?_, hR⟩;simp [go_sem, hc]
variable {H:Heap}{K:V→Heap→Prop}
theorem Qa7t {w:World}{b:Nat}{cs:Array Value}{T:TypeId}{v:Value}(h:w.heap[b]? = some (.cells cs T (0,0))):w.setCell ⟨b,0,none⟩ v=World.az w b (cs.setIfInBounds 0 v) T:=by
 unfold World.setCell World.az;congr 1;refine Array.ext_getElem? fun i=>?_;rw[Array.getElem?_modify,Array.getElem?_setIfInBounds];by_cases hi:b=i
 ·subst hi;rw[if_pos rfl,if_pos rfl,if_pos (G9 h),h];rfl
 ·rw[if_neg hi,if_neg hi]
theorem Qbke {f:Nat}{caps:List C}(hf:fnOk prog f=true)
  (h:∀xe,H xe=.none→∀H1,H1=H.set xe (.st [.int .i64 0])→Qm prog f (caps.map .c) H1 fun x H2=>H2 xe=.st [.int .i64 0]∧((∃n,x=.pn (endV n)∧∀H3,H3=H2.set xe (.st [.int .i64 n])→K (.c (.int .i64 n)) H3)∨
   ((∀v,x≠.pn v)∧∀H3,H3=H2.set xe (.st [.int .i64 0])→K (.c (.int .i64 0)) H3))) :
  Qm prog Po [.c (.fn f caps)] H K:=by
 refine⟨ZW,fun g w vs hs hl hv=>?_⟩;obtain⟨v,rfl⟩:∃v,vs=[v]:=by
  match vs,hl with
  |[v],_=>exact⟨v,rfl⟩
 have hr:=hv 0 _ v rfl rfl;obtain⟨cvs,rfl,cG,rW⟩:=hr.aF.fn_inv;obtain⟨xe,pK,hHx⟩:=hs.newName;have aE:=EB hs pK 1 0 (.cells #[.int .i64 0] 3);have aC:=Dw hs pK 1 0 (.cells #[.int .i64 0] 3) (.st [.int .i64 0]) (fun g' hg=>by
  subst hg;exact TD (cells:=[.int .i64 0]) (fun j c u h1 h2=>by
   cases j with
   |zero=>simp at h1 h2;subst h1;subst h2;exact .int _ _
   |succ j=>simp at h1) rfl aE)
 refine Qa96 hf ?_;have hc:=(h xe hHx _ rfl).2 _ _ cvs aC.sat (by simp[cG]) (fun j x u h1 h2=>by
  rw[Jn]at h1
  cases hj:caps[j]? with
  |none=>rw[hj]at h1;simp at h1
  |some c=>
   rw[hj]at h1;simp at h1;subst h1;exact .c _ _ ((rW j c u hj h2).mono aC.le))
 refine hc.mono fun e w2 hh=>?_;have box:∀H2 g2 n,H2 xe=.st [.int .i64 0]→Stp (H.set xe (.st [.int .i64 0])) (g.newObj xe w.heap.size 1 0) (w.alloc (.cells #[.int .i64 0] 3)) H2 g2 w2→
   w2.cell? ⟨w.heap.size,0,none⟩=some (.int .i64 0)∧w2.frozen? ⟨w.heap.size,0,none⟩=false∧Stp H2 g2 w2 (H2.set xe (.st [.int .i64 n])) g2 (w2.setCell ⟨w.heap.size,0,none⟩ (.int .i64 n)):=by
  intro H2 g2 n hx ge;have bI:g2.io xe=some (w.heap.size,1,0):=ge.le.io xe _ Zaf;have bC:=ge.sat.objs xe;rw[hx]at bC;obtain⟨b',sz',T,cs,q1,q2,q3,q4,q5⟩:=bC;rw[bI]at q1;simp only[Jai,Jbd,and_true]at q1;obtain⟨rfl,rfl⟩:=q1;have fA:cs.size=1:=q4;have cq:cs[0]? = some cs[0]:=Array.getElem?_eq_getElem ZT;have rW:cs[0]=.int .i64 0:=((q5 0 _ _ rfl cq).toC rfl).aB;refine⟨?_,by simp[World.frozen?,q3],?_⟩
  ·rw[Dy q3,cq,rW]
  ·rw[Qa7t q3];refine T7 ge.sat q2 q3 ZV _ (by rw[hx];simp) (fun aE kN=>?_) ZV;refine⟨w.heap.size,1,T,_,bI,q2,kN,by simp[fA],fun j c v e1 e2=>?_⟩
   cases j with
   |zero=>
    simp[fA]at e1 e2;subst e1;subst e2;exact .plain _ _ _ _ (.int _ _)
   |succ j=>simp at e1
 rcases hh with ⟨v,x,H2,g2,rfl,⟨hx,hk⟩,ge,bw⟩|⟨v,H2,g2,rfl,⟨hx,hk⟩,ge⟩
 ·obtain⟨b1,b2,b3⟩:=box H2 g2 0 hx ge;refine⟨b1,b2,.inl ⟨v,rfl,.inl ⟨_,.c (.int .i64 0),_,g2,rfl,?_,aC.trans (ge.trans b3),.c _ _ (.int _ _)⟩⟩⟩;rcases hk with ⟨n,rfl,_⟩|⟨_,hk⟩
  ·cases bw
  ·exact hk _ rfl
 ·rcases hk with ⟨n,hvn,hk⟩|⟨bO,_⟩
  ·cases hvn;obtain⟨b1,b2,b3⟩:=box H2 g2 n hx ge;exact⟨b1,b2,.inr ⟨n,rfl,.inl ⟨_,.c (.int .i64 n),_,g2,rfl,hk _ rfl,aC.trans (ge.trans b3),.c _ _ (.int _ _)⟩⟩⟩
  ·exact absurd rfl (bO v)
end Go.AE.Y
namespace Go.AE.Y
attribute [local go_sem] cond_true cond_false Bool.not_true Bool.not_false
open Go.Proofs.Tryz
variable {H H' H0:Heap}{K:V→Heap→Prop}{E A B:List (Nat×Obj)}{X:Mn}
theorem Hb {a:Ma}{sd:ScD}{x:Nat}{o:Obj}(k:Kn H0 H E (X.F a sd (A++(x,o)::B))):H x=o:=(k.get (x,o) ZbV).1
theorem CQ {a:Ma}{sd:ScD}{x:Nat}{o o':Obj}(k:Kn H0 H E (X.F a sd (A++(x,o)::B)))(h:H'=H.set x o')(ho:o'≠.none:=by nofun):Kn H0 H' E (X.F a sd (A++(x,o')::B)):=by
 have k2:Kn H0 H E (([(X.l,X.o a)]++(a.so++(sd.ob++A)))++(x,o)::B):=by simpa[Mn.F]using k
 simpa[Mn.F]using k2.stM h ho
def oN (e v:Nat):Obj:=.st [.sl true 1 [],.int .i64 (e:Nat),.int .i64 (v:Nat),.sl true 1 []]
def ocN (o:Oc):List C:=[.sl false 1 (Ao o.s),.int .i64 (o.e:Nat),.int .i64 (o.v:Nat),.sl false 1 (Ao o.c)]
def Fb (fns:List Fn):Prop:=∀k (hk:k<fns.length),Qj fns[k].body≤4000∧fns[k].params.length≤3
theorem Yz {h:Nat}{l:List Nat}{f2:Bool}{x8 x9:Nat}{r:Rt}{m':Ms}{a:Ma}(aO:Fb X.fns)(h0:0<X.fns.length)(hn:X.fns.length≤4)(hl:l.length=(AI X.fns).params.length)(fD:∀n∈l,n<256)
  (bg:Ev X.fns X.S h (.call (AI X.fns) l) a.m r m') (ha:a.ok X) (kn:Kn H0 H E (X.F a [] ((x8,.st [.ptr X.l 0])::(x9,oN 0 0)::B)))
  (hK:∀z a' H',r=.val z→a'.m=m'→a'.ok X→Kn H0 H' E (X.F a' [] ((x8,.st [.ptr X.l 0])::(x9,oN 0 z)::B))→K (.tup []) H')
  (hP:∀(z:Nat) a' H',r=.dn z→a'.m=m'→a'.ok X→Kn H0 H' E (X.F a' [] ((x8,.st [.ptr X.l 0])::(x9,oN 0 0)::B))→K (.pn (endV z)) H') :
  Qm prog Ql4 [.c (.ptr x8 0),.c (.pp [.sl X.fl 3 (Qo X.fns)]),.c (.pp [.sl f2 1 (Ao l)]),.c (.ptr x9 0)] H K:=by
 have hk:X.fns.length-1<X.fns.length:=ZT
 rw[AI,Dq hk]at bg hl;refine Qc Aa Q7q ?_;have cC:H x8=.st [.ptr X.l 0]:=Hb (A:=[]) kn;have iM:((X.fns.length:Int)-1)=((X.fns.length-1:Nat):Int):=ZT
 refine Qr ?_;simp only[go_sem,cC,Qu];try intro _
 refine⟨Qv,?_⟩;rw[iM];refine (PW aO (h+1) h ZT).2.1 _ hk l a.m r m' H0 H E _ [] a (.sl f2 1 (Ao l)) _ bg rfl ha fD hl (.inl ⟨rfl,f2,rfl⟩) kn (fun z a' H1 hz bp aX kn=>?_) (fun z a' H1 hz bp aX kn=>?_)
 ·have eR:H1 x9=.st [.sl true 1 [],.int .i64 0,.int .i64 0,.sl true 1 []]:=Hb (A:=[(x8,_)]) kn;simp only[go_sem,Qje,eR];intro H2 h2;simp only[go_sem,Qq,Q0,AJ];exact hK z a' H2 hz bp aX (CQ (A:=[(x8,_)]) kn h2)
 ·simp only[go_sem];exact hP z a' H1 hz bp aX kn
theorem Qbql {a:Ma}{sd:ScD}(k:Kn H0 H E (X.F a sd A))(h:A.Perm B):Kn H0 H E (X.F a sd B):=k.perm (.append_left _ (.append_left _ (.append_left _ h)))
theorem perm4 {α:Type}(a b c d:α):[a,b,c,d].Perm [c,d,b,a]:=C8 fun f hf h0 hc hp=>by
 have e:∀a b c d,f [a,b,c,d]=f [a]+f [b]+f [c]+f [d]:=fun a b c d=>by rw[hc a,hc b,hc c];omega
 rw[e,e];omega
def Mn.pc (X:Mn)(a:Ma):List C:=.sl X.fl 3 (Qo X.fns)::.int .i64 X.S::.int .i64 (a.m.u:Nat)::.sl false 1 (Ao a.m.s)::natC a.m.c
theorem PK {S:Nat→Bool}:∀l:List Nat,FrzL H S (natC l) (natC l)
 |[]=>.nil
 |v::l=>.cons (Qe rfl) (PK l)
theorem Qbqt {S:Nat→Bool}{a:Ma}(ha:a.ok X)(hm:∀p∈[(X.l,X.o a)]++a.so,H p.1=p.2∧S p.1=true):FrzC H S (.ptr X.l 0) (.pp (X.pc a)):=by
 obtain⟨h1,h2⟩:=hm (X.l,X.o a) ZV;refine FrzL.ptr h2 h1 ?_;refine .cons (Qe rfl) (.cons (Qe rfl) (.cons (Qe rfl) (.cons ?_ (PK _))));exact Gr.frzM ha.g (fun p hp=>hm p Zap) (FrzR.same (HM _))
theorem Qbhb {l:List Nat}{n:Nat}(h:l.length=n):((natC l).take n).map (fun c=>[c])=Ao l:=by
 subst h;rw[Jo (by simp[natC])];simp[natC,Ao,Ar]
theorem Qayx {fns:List Fn}{S h:Nat}{l:List Nat}{fl f2:Bool}{r:Rt}{m':Ms}(aO:Fb fns)(h0:0<fns.length)(hn:fns.length≤4)(hl:l.length=(AI fns).params.length)(fD:∀n∈l,n<256)(hS:S≤60000)
  (bg:Ev fns S h (.call (AI fns) l) ms0 r m') (hr:isV r)
  (hK:∀H',Upd H H' []→K (.tup [.ag (ocN (ocOf r m')),.c (.int .i64 (m'.u:Nat))]) H') :
  Qm prog Qs1 [.ag [.sl fl 3 (Qo fns)],.c (.sl f2 1 (Ao l)),.c (.int .i64 S)] H K:=by
 refine Q1 ?_;refine Qc Aa Qaje ?_;refine Za ?_;intro x6 cB H1 h1;have kn:Kn H H1 [] [(x6,oN 0 0)]:=(Kn.ao H).al cB h1;simp only[go_sem,Qn9];refine Za ?_;intro ml jl H2 h2;obtain⟨X,hX⟩:∃X:Mn,X=⟨ml,fl,fns,S⟩:=⟨_,rfl⟩;obtain⟨a0,j6⟩:∃a0:Ma,a0=⟨ms0,.sl true 1 [],[]⟩:=⟨_,rfl⟩;have kn:Kn H H2 [] (X.F a0 [] [(x6,oN 0 0)]):=by
  subst hX;subst j6;have k:Kn H H2 [] ([(x6,oN 0 0)]++[(ml,Mn.o ⟨ml,fl,fns,S⟩ ⟨ms0,.sl true 1 [],[]⟩)]):=kn.al jl h2;exact k.perm (by simpa[Mn.F,ScD.ob]using List.Perm.swap _ _ _)
 have hXl:X.l=ml:=by rw[hX]
 have hXf:X.fl=fl:=by rw[hX]
 have nL:X.fns=fns:=by rw[hX]
 have tH:X.S=S:=by rw[hX]
 have sw:a0.ok X:=by
  subst j6;exact⟨.nil 1,⟨rfl,fun x hx=>by rw[List.eq_of_mem_replicate hx];omega,fun x hx=>by simp[ms0]at hx⟩,Jg _,Nat.zero_le _,by rw[tH];exact hS⟩
 have sv:a0.m=ms0:=by rw[j6]
 simp only[go_sem,Qob];intro x8 cC H3 h3;have kn:Kn H H3 [] (X.F a0 [] [(x8,.st [.pnil]),(x6,oN 0 0)]):=CL (kn.al cC h3);have cC:H3 x8=.st [.pnil]:=Hb (A:=[]) kn;simp only[go_sem,Qoa,cC];intro H4 h4;rw[←hXl]at h4;have kn:Kn H H4 [] (X.F a0 [] [(x8,.st [.ptr X.l 0]),(x6,oN 0 0)]):=CQ (A:=[]) kn h4;refine Za ?_;intro x9 eR H5 h5;have kn:Kn H H5 [] (X.F a0 [] [(x9,oN 0 0),(x8,.st [.ptr X.l 0]),(x6,oN 0 0)]):=CL (kn.al eR h5);refine XV (fun e2 H2=>∃(a1:Ma),Kn H H2 [] (X.F a1 [] [(x8,.st [.ptr X.l 0]),(x9,oN (ocOf r m').e (ocOf r m').v),(x6,oN 0 0)])∧a1.ok X∧a1.m=m'∧lk 6 e2=.c (.ptr x6 0)∧lk 8 e2=.c (.ptr x8 0)∧lk 9 e2=.c (.ptr x9 0)) ?_ ?_
 ·intro Q' tL hQr hQe;refine Zp ?_;refine Qbke ZW fun xe pK H6 h6=>?_;have kn:Kn H H6 [] (X.F a0 [] [(xe,.st [.int .i64 0]),(x9,oN 0 0),(x8,.st [.ptr X.l 0]),(x6,oN 0 0)]):=CL (kn.al pK h6);have kn:Kn H H6 [] (X.F a0 [] [(x8,.st [.ptr X.l 0]),(x9,oN 0 0),(x6,oN 0 0),(xe,.st [.int .i64 0])]):=Qbql kn (C8 fun f hf h0 hc hp=>by
   have e:∀a b c d,f [a,b,c,d]=f [a]+f [b]+f [c]+f [d]:=fun a b c d=>by rw[hc a,hc b,hc c];omega
   rw[e,e];omega)
  have key:∀(e v:Nat) (a1:Ma) (H7 H8:Heap),Kn H H7 [] (X.F a1 [] [(x8,.st [.ptr X.l 0]),(x9,oN 0 v),(x6,oN 0 0),(xe,.st [.int .i64 0])])→H8=H7.set xe (.st [.int .i64 (e:Nat)])→
    H7 xe=.st [.int .i64 0]∧Kn H H8 [] (X.F a1 [] [(x8,.st [.ptr X.l 0]),(x9,oN 0 v),(x6,oN 0 0)]):=by
   intro e v a1 H7 H8 k h8;refine⟨Hb (A:=[(x8,_),(x9,_),(x6,_)]) k,?_⟩;have k2:=CQ (A:=[(x8,_),(x9,_),(x6,_)]) k h8;exact k2.sub (List.Sublist.append (List.Sublist.refl _) (List.Sublist.append (List.Sublist.refl _) (List.Sublist.append (List.Sublist.refl _) (by
    show List.Sublist [(x8,_),(x9,_),(x6,_)] ([(x8,_),(x9,_),(x6,_)]++[(xe,_)]);exact List.sublist_append_left _ _))))
  have dd:l.length=(AI X.fns).params.length:=by rw[nL];exact hl
  rw[←hXf,←nL];refine Yz (X:=X) (f2:=f2) (r:=r) (m':=m') (h:=h) (a:=a0) (by rw[nL];exact aO) (by rw[nL];exact h0) (by rw[nL];exact hn) dd fD (by rw[nL,tH,sv];exact bg) sw kn (fun z a1 H7 hz bp aX kn7=>?_) (fun z a1 H7 hz bp aX kn7=>?_)
  ·refine⟨(key 0 z a1 H7 _ kn7 rfl).1,.inr ⟨ZV,fun H8 h8=>?_⟩⟩;have k:=(key 0 z a1 H7 H8 kn7 h8).2;have eR:H8 x9=.st [.sl true 1 [],.int .i64 0,.int .i64 (z:Nat),.sl true 1 []]:=Hb (A:=[(x8,_)]) k;simp only[go_sem,V8,eR];intro H9 h9;subst hz;exact tL _ _ ⟨a1,CQ (A:=[(x8,_)]) k h9,aX,bp,rfl,rfl,rfl⟩
  ·refine⟨(key z 0 a1 H7 _ kn7 rfl).1,.inl ⟨z,rfl,fun H8 h8=>?_⟩⟩;have k:=(key z 0 a1 H7 H8 kn7 h8).2;have eR:H8 x9=.st [.sl true 1 [],.int .i64 0,.int .i64 0,.sl true 1 []]:=Hb (A:=[(x8,_)]) k;simp only[go_sem,V8,eR];intro H9 h9;subst hz;exact tL _ _ ⟨a1,CQ (A:=[(x8,_)]) k h9,aX,bp,rfl,rfl,rfl⟩
 clear kn cC;rintro e2 H6 ⟨a1,kn,aX,bp,l6,l8,l9⟩;obtain⟨e,he⟩:∃e,(ocOf r m').e=e:=⟨_,rfl⟩;obtain⟨v,hv⟩:∃v,(ocOf r m').v=v:=⟨_,rfl⟩;rw[he,hv]at kn;have kn:Kn H H6 [] ([(x6,oN 0 0),(x8,.st [.ptr X.l 0]),(x9,oN e v)]++([(X.l,X.o a1)]++a1.so)):=kn.perm (C8 fun f hf h0 hc hp=>by
  have e3:∀a b c,f [a,b,c]=f [a]+f [b]+f [c]:=fun a b c=>by rw[hc a,hc b];omega
  have:ScD.ob []=[]:=rfl;simp only[Mn.F,hf,this,h0,e3];omega)
 obtain⟨Sf,hfL,hfB,mZ,kn2⟩:=kn.freezeT;have cS:=Qbqt aX hfL;have cC:=hfB (x8,.st [.ptr X.l 0]) ZV;have pg:FrzH H6 Sf ((H6.frz Sf).set x8 (.st [.pp (X.pc a1)])):=mZ.set cC.2 (by rw[cC.1];exact (FrzKL.cons rfl cS .nil).st);have kn:Kn H ((H6.frz Sf).set x8 (.st [.pp (X.pc a1)])) [] [(x6,oN 0 0),(x8,.st [.pp (X.pc a1)]),(x9,oN e v)]:=kn2.setL 1 rfl ZaO;obtain⟨H7,hH7⟩:∃H7,(H6.frz Sf).set x8 (.st [.pp (X.pc a1)])=H7:=⟨_,rfl⟩;rw[hH7]at pg kn;refine Qz (c_gh (e':=[(6,.c (.ptr x6 0)),(8,.c (.ptr x8 0)),(9,.c (.ptr x9 0))]) (H':=H7) (Hz Sf (CS fun p hp=>?_) pg) ?_)
 ·simp only[J1,J8,or_false]at hp;rcases hp with rfl|rfl|rfl
  ·rw[l6];exact .c _ _ (.same _ rfl)
  ·rw[l8];exact .c _ _ (.same _ rfl)
  ·rw[l9];exact .c _ _ (.same _ rfl)
 have cC:H7 x8=.st [.pp (.sl X.fl 3 (Qo X.fns)::.int .i64 X.S::.int .i64 (a1.m.u:Nat)::.sl false 1 (Ao a1.m.s)::natC a1.m.c)]:=kn.l 1 rfl;have aM:=aX.len;have aI:=Qbhb aX.b.c;have cG:=aX.b.c;refine An ?_;simp only[go_sem,cC,aM,aI];refine⟨by simp only[LIM];omega,?_⟩;refine Kl (ns:=a1.m.c.map Int.ofNat) kn (by rw[Jd,cG];simp only[LIM];omega) fun t Lg H8 b9 an kn=>?_;have cC:H8 x8=.st [.pp (.sl X.fl 3 (Qo X.fns)::.int .i64 X.S::.int .i64 (a1.m.u:Nat)::.sl false 1 (Ao a1.m.s)::natC a1.m.c)]:=kn.l 1 rfl;have eR:H8 x9=.st [.sl true 1 [],.int .i64 (e:Nat),.int .i64 (v:Nat),.sl true 1 []]:=kn.l 2 rfl;simp only[go_sem,Qod,cC,eR];intro H9 h9;have kn:Kn H H9 [] ([(x6,oN 0 0),(x8,.st [.pp (X.pc a1)]),(x9,.st [.sl false 1 (Ao a1.m.s),.int .i64 (e:Nat),.int .i64 (v:Nat),.sl true 1 []])]++Lg):=kn.ax 2 rfl h9;have eR:H9 x9=.st [.sl false 1 (Ao a1.m.s),.int .i64 (e:Nat),.int .i64 (v:Nat),.sl true 1 []]:=kn.l 2 rfl;simp only[go_sem,Qoc,eR];intro H10 bP;have kn:Kn H H10 [] ([(x6,oN 0 0),(x8,.st [.pp (X.pc a1)]),(x9,.st [.sl false 1 (Ao a1.m.s),.int .i64 (e:Nat),.int .i64 (v:Nat),t])]++Lg):=kn.ax 2 rfl bP;have cB:H10 x6=.st [.sl true 1 [],.int .i64 0,.int .i64 0,.sl true 1 []]:=kn.l 0 rfl;have cC:H10 x8=.st [.pp (.sl X.fl 3 (Qo X.fns)::.int .i64 X.S::.int .i64 (a1.m.u:Nat)::.sl false 1 (Ao a1.m.s)::natC a1.m.c)]:=kn.l 1 rfl;have eR:H10 x9=.st [.sl false 1 (Ao a1.m.s),.int .i64 (e:Nat),.int .i64 (v:Nat),t]:=kn.l 2 rfl;refine An ?_;simp only[go_sem,cB,cC,eR,an];intro H11 cM;have kn:Kn H H11 [] ([(x6,.st [.sl false 1 (Ao a1.m.s),.int .i64 (e:Nat),.int .i64 (v:Nat),t]),(x8,.st [.pp (X.pc a1)]),(x9,.st [.sl false 1 (Ao a1.m.s),.int .i64 (e:Nat),.int .i64 (v:Nat),t])]++Lg):=kn.ax 0 rfl cM;have cB:H11 x6=.st [.sl false 1 (Ao a1.m.s),.int .i64 (e:Nat),.int .i64 (v:Nat),t]:=kn.l 0 rfl;have cC:H11 x8=.st [.pp (.sl X.fl 3 (Qo X.fns)::.int .i64 X.S::.int .i64 (a1.m.u:Nat)::.sl false 1 (Ao a1.m.s)::natC a1.m.c)]:=kn.l 1 rfl;simp only[go_sem,Qoe,cC];refine Qi ?_;simp only[go_sem,Qq,Q0,J3,RS.op,cB,an];refine⟨_,Gu (FrzL.ag (.cons (Qe rfl) (.cons (Qe rfl) (.cons (Qe rfl) (.cons (b9.frz kn (D2 _)) .nil))))) (.c _ _ (Qe rfl)),?_⟩;have:=hK _ kn.fin;have ho:ocN (ocOf r m')=[.sl false 1 (Ao a1.m.s),.int .i64 (e:Nat),.int .i64 (v:Nat),.sl false 1 (Ao a1.m.c)]:=by
  rw[ocN,he,hv,bp];rcases hr with ⟨z,rfl⟩|⟨z,rfl⟩ <;> rfl
 rw[ho,←bp]at this;exact this
end Go.AE.Y
namespace Go.AE.Y
attribute [local go_sem] cond_true cond_false Bool.not_true Bool.not_false
open Go.Proofs.Tryz
variable {H H' H0:Heap}{K:V→Heap→Prop}{fns:List Fn}
def bysB (l:List Int):Bool:=!l.any fun v=>!(decide (0≤v)&&decide (v≤255))
theorem bysB_iff {l:List Int}:bysB l=true↔∀v∈l,0≤v∧v≤255:=by
 simp[bysB,List.any_eq_false]
theorem Qa15 {v:Int}(hK:K (.c (.bool (!(decide (0≤v)&&decide (v≤255))))) H):Qm prog Vx [.c (.int .i64 v)] H K:=by
 refine Qc Aa Qai9 ?_;refine Za ?_;refine Za ?_;refine Qblg ?_;simp only[go_sem,SK];refine Zb ?_;exact hK
theorem Qa94 {l:List Int}{f2:Bool}{n:Int}(hK:K (.c (.bool (decide ((l.length:Int)=n)&&bysB l))) H):Qm prog Q64 [.c (.sl f2 1 (Ar l)),.c (.int .i64 n)] H K:=by
 refine Qc Aa Qax0 ?_;refine Za ?_;refine Qa ?_
 cases hd:decide ((l.length:Int)=n)with
 |false=>
  rw[hd,Ja9]at hK;simp only[go_sem,CA,hd];try intro _
  simp only[go_sem,Vj];refine Zb ?_;exact hK
 |true=>
  rw[hd,Jba]at hK;simp only[go_sem,CA,hd];try intro _
  refine Qaph (p:=fun v=>!(decide (0≤v)&&decide (v≤255))) (.mk' _ _ _ _) rfl (fun x K' _ hk=>Qa15 hk) ?_;simp only[go_sem,Vj];refine Zb ?_;exact hK
def canB (fns:List Fn)(l:List Int):Bool:=Bl fns&&(decide ((l.length:Int)=((AI fns).params.length:Nat))&&bysB l)
theorem Qbkd {l:List Int}{fl f2:Bool}(hf:Qn fns≤2^36)(g:GK H)(hK:∀H',Upd H H' []→K (.c (.bool (canB fns l))) H'):Qm prog Pa [.ag [.sl fl 3 (Qo fns)],.c (.sl f2 1 (Ar l))] H K:=by
 refine Qc Aa Qa2q ?_;refine Za ?_;refine Za ?_;refine RJ ZT g fun H1 hu=>?_
 cases hb:Bl fns with
 |false=>
  have:=hK H1 hu;rw[canB,hb,Ja9]at this;simp only[go_sem,TV,TW];refine Zb ?_;exact this
 |true=>
  have:=hK H1 hu;rw[canB,hb,Jba]at this;have h0:=(fine_iff.1 hb).len;have hk:fns.length-1<fns.length:=ZT
  have iM:((fns.length:Int)-1)=((fns.length-1:Nat):Int):=ZT
  rw[AI,Dq hk]at this;simp only[go_sem,TV,Qu,iM,hk,AB _ _ hk,Fn.cells,Qt];intro _;refine⟨Qv,fun _=>?_⟩;refine Qa94 ?_;simp only[go_sem,TW];refine Zb ?_;exact this
def runV (fns:List Fn)(l:List Int)(S:Int):Bool:=canB fns l&&(decide (0≤S)&&decide (S≤4000))
def oc0:Oc:=⟨0,0,[],[],0⟩
structure RunD (fns:List Fn)(l:List Int)(S:Int)(o:Oc):Prop where
 v:runV fns l S=true→RunR fns S.toNat (l.map Int.toNat) o
 n:runV fns l S=false→o=oc0
end Go.AE.Y
namespace Go.AE
open Go.AE.Y
open Go.Proofs.Tryz
variable {H H' H0:Heap}{K:V→Heap→Prop}{fns:List Fn}
theorem Y.FineP.sizes3 (h:FineP fns):Fb fns:=fun k hk=>⟨(h.sizes k hk).1,(h.sizes k hk).2.2⟩
end Go.AE
namespace Go.AE.Y
open Go.Proofs.Tryz
variable {H H' H0:Heap}{K:V→Heap→Prop}{fns:List Fn}
theorem Gg {l:List Int}{S:Int}(h:runV fns l S=true):FineP fns∧(l.map Int.toNat).length=(AI fns).params.length∧(∀v∈l,0≤v∧v≤255)∧0≤S∧S≤4000:=by
 simp only[runV,canB,Jas,decide_eq_true_eq]at h;obtain⟨⟨h1,h2,h3⟩,h4,h5⟩:=h;exact⟨fine_iff.1 h1,by rw[Jd];omega,bysB_iff.1 h3,h4,h5⟩
theorem Ik (fns:List Fn)(l:List Int)(S:Int):∃o,RunD fns l S o:=by
 cases h:runV fns l S with
 |false=>exact⟨oc0,⟨fun h2=>(by rw[h]at h2;cases h2),fun _=>rfl⟩⟩
 |true=>
  obtain⟨h1,h2,_⟩:=Gg h;obtain⟨o,ho⟩:=Yy (S:=S.toNat) h1 h2;exact⟨o,⟨fun _=>ho,fun h2=>(by rw[h]at h2;cases h2)⟩⟩
theorem Qblf {l:List Int}(h:∀v∈l,0≤v∧v≤255):Ar l=Ao (l.map Int.toNat)∧∀n∈l.map Int.toNat,n<256:=by
 refine⟨?_,fun n hn=>?_⟩
 ·rw[Ao,Jak];congr 1
  conv=>lhs;rw[←List.map_id l]
  refine Ja0 fun v hv=>?_;have:=h v hv;simp only[id,Function.comp];show v=((v.toNat:Nat):Int);omega
 ·obtain⟨v,hv,rfl⟩:=Jt.1 hn;have:=h v hv;omega
theorem Ke {l:List Int}{S:Int}{fl f2:Bool}{o:Oc}(hf:Qn fns≤2^36)(g:GK H)(ho:RunD fns l S o)(hK:∀H',Upd H H' []→K (.tup [.ag (ocN o),.c (.bool (runV fns l S))]) H') :
  Qm prog Qsy [.ag [.sl fl 3 (Qo fns)],.c (.sl f2 1 (Ar l)),.c (.int .i64 S)] H K:=by
 refine Q1 ?_;have g0:=g;refine Qc Aa Qai7 ?_;refine Za ?_;intro x6 cB H1 h1;have kn:Kn H H1 [] [(x6,oN 0 0)]:=(Kn.ao H).al cB h1;simp only[go_sem,Ss];refine Qz (Qa ?_);simp only[go_sem];refine Qbkd hf (g0.kn kn) fun H2 hu=>?_;have kn:=kn.ay hu;have cB:H2 x6=.st [.sl true 1 [],.int .i64 0,.int .i64 0,.sl true 1 []]:=kn.l 0 rfl;have back:∀(H3:Heap) (x:V) (y:V) (z:V),runV fns l S=false→Kn H H3 [] [(x6,oN 0 0)]→Q6 prog (s_im_RunProgram_4.seq Qnv) (Qq GA (unK H K)) [(1,x),(2,y),(3,z),(6,.c (.ptr x6 0)),(18,.c (.bool true))] H3:=by
  intro H3 x y z hr kn;have cB:H3 x6=.st [.sl true 1 [],.int .i64 0,.int .i64 0,.sl true 1 []]:=kn.l 0 rfl;refine Qf (Qb rfl (fun _=>?_) (fun h=>by simp[lk]at h));refine Zd cB ?_;intro H4 h4;have kn:=kn.ax 0 rfl h4;have cB:=kn.l 0 rfl;simp only[go_sem,Ss];refine Qi ?_;simp only[go_sem,Qq,Q0,J3,J8,RS.op,cB,AE.X.next];have:=hK _ kn.fin;rw[hr,ho.n hr]at this;refine⟨fun _=>trivial,_,Gu (FrzL.ag (.cons FrzR.nil.sl (.cons (Qe rfl) (.cons (Qe rfl) (.cons FrzR.nil.sl .nil))))) (.c _ _ (Qe rfl)),?_⟩;exact this
 cases hc:canB fns l with
 |false=>
  simp only[go_sem,V9,ST];exact back _ _ _ _ (by rw[runV,hc];rfl) kn
 |true=>
  simp only[go_sem,V9];refine Pr ?_
  cases hw:(decide (0≤S)&&decide (S≤4000))with
  |false=>
   simp only[go_sem,ST];exact back _ _ _ _ (by rw[runV,hc,hw];rfl) kn
  |true=>
   have hr:runV fns l S=true:=by rw[runV,hc,hw];rfl
   obtain⟨p1,p2,p3,p4,p5⟩:=Gg hr;obtain⟨q1,q2⟩:=Qblf p3;obtain⟨y,r,m',e,hv,cn⟩:=ho.v hr;rw[hr]at hK;have hSt:(S.toNat:Int)=S:=ZT
   simp only[go_sem,ST];refine Qf (Qb rfl (fun h=>by simp[lk]at h) (fun _=>?_));refine Zc ?_
   refine Za ?_;rw[q1,←hSt];refine Qayx p1.sizes3 p1.len.1 p1.len.2 p2 q2 ZT e hv fun H3 hu=>?_;rw[←cn];have kn:=kn.ay hu;simp only[go_sem,Qn0,Jf,Jh];intro x8 cC H4 h4;have kn:Kn H H4 [] [(x6,oN 0 0),(x8,oN 0 0)]:=kn.al cC h4;have cC:H4 x8=.st [.sl true 1 [],.int .i64 0,.int .i64 0,.sl true 1 []]:=kn.l 1 rfl;simp only[go_sem,Qnz,cC,ocN];intro H5 h5;have kn:Kn H H5 [] [(x6,oN 0 0),(x8,.st (ocN o))]:=kn.ax 1 rfl h5;have cC:H5 x8=.st [.sl false 1 (Ao o.s),.int .i64 (o.e:Nat),.int .i64 (o.v:Nat),.sl false 1 (Ao o.c)]:=kn.l 1 rfl;have cB:H5 x6=.st [.sl true 1 [],.int .i64 0,.int .i64 0,.sl true 1 []]:=kn.l 0 rfl;simp only[go_sem,Qny];refine Zi cC cB ?_;intro H6 h6;have kn:Kn H H6 [] [(x6,.st (ocN o)),(x8,.st (ocN o))]:=kn.ax 0 rfl h6;have cB:H6 x6=.st [.sl false 1 (Ao o.s),.int .i64 (o.e:Nat),.int .i64 (o.v:Nat),.sl false 1 (Ao o.c)]:=kn.l 0 rfl;simp only[go_sem,Qn1];refine Qi ?_;simp only[go_sem,Qq,Q0,J3,RS.op,cB];refine⟨_,Gu (FrzL.ag (.cons (FrzR.same (HM _)).sl (.cons (Qe rfl) (.cons (Qe rfl) (.cons (FrzR.same (HM _)).sl .nil))))) (.c _ _ (Qe rfl)),?_⟩;exact hK _ kn.fin
attribute [local go_sem] cond_true cond_false Bool.not_true Bool.not_false
theorem Qbf3 {o:Oc}(hK:K (.c (.bool true)) H):Qm prog Qpn [.ag (ocN o),.ag (ocN o)] H K:=by
 refine Qc Aa Qaff ?_;refine Qa ?_;simp only[go_sem,ocN];refine Za ?_;refine Ry (ns:=o.s.map Int.ofNat) ?_;simp only[go_sem,Qmj,decide_true];refine Ry (ns:=o.c.map Int.ofNat) ?_;simp only[go_sem,ES];refine Zb ?_;exact hK
end Go.AE.Y
namespace Go.AE.Y
attribute [local go_sem] cond_true cond_false Bool.not_true Bool.not_false
attribute [local instance] Classical.propDecidable
open Go.Proofs.Tryz
variable {H H' H0:Heap}{K:V→Heap→Prop}{E L:List (Nat×Obj)}{fns:List Fn}{bs:List UInt8}
def B3 (l:List Int):List C:=l.map fun v=>.int .i64 v
def tryC6:List C:=B3 [0,0,0,1,2,3,255,16,7]
def By (j:Nat):List Int:=([[0,0,0],[1,2,3],[255,16,7]]:List (List Int)).getD j []
def Ct (n:Nat):List (List C):=(List.range 3).map fun j=>[.sl false 1 (Ar ((By j).take n))]
theorem Qbn8 {j:Nat}(h:j<3):(By j).length=3:=by
 have:j=0∨j=1∨j=2:=ZT
 rcases this with rfl|rfl|rfl <;> rfl
theorem Qbjv {j:Nat}(h:j<3):(tryC6.drop (j * 3)).take 3=B3 (By j):=by
 have:j=0∨j=1∨j=2:=ZT
 rcases this with rfl|rfl|rfl <;> rfl
theorem Qbfx (l:List Int)(n:Nat):((B3 l).take n).map (fun c=>[c])=Ar (l.take n):=by simp only[B3,Ar,Jbc,Jak];rfl
theorem LI (l:List Int):ai (B3 l)=true:=by simp[ai,B3,C.ah]
theorem Pu {S:Nat→Bool}{n:Nat}:∀(rs:List (C×List (Nat×Obj))) (k:Nat),(∀j (h:j<rs.length),Gr rs[j].2 1 (Ar ((By (k+j)).take n)) rs[j].1)→(∀p∈rs.flatMap Prod.snd,H p.1=p.2∧S p.1=true)→
  FrzR H S (rs.map fun p=>[p.1]) ((List.range' k rs.length).map fun j=>[.sl false 1 (Ar ((By j).take n))])
 |[],k,_,_=>.nil
 |p::rs,k,h,hm=>by
  refine .cons (.cons (Gr.frzM (h 0 ZV) (fun q hq=>hm q (by rw[Ja2];exact Jb _ hq)) (FrzR.same (D2 _))) .nil) ?_;exact Pu rs (k+1) (fun j hj=>by
   have:=h (j+1) Zbg;rw[show k+(j+1)=k+1+j by omega]at this;exact this) fun q hq=>hm q (by
    rw[Ja2];exact Jc _ hq)
theorem Qbjr {n:Nat}(iN:H 0=.gl 0 tryC6)(hn:n≤3)(hK:∀H',Upd H H' []→K (.c (.sl false 1 (Ct n))) H'):Qm prog Q67 [.c (.int .i64 n)] H K:=by
 refine Q1 ?_;refine Qc Aa Qax6 ?_;have aP:H 0≠.none:=by rw[iN];nofun
 have mh:tryC6.length=9:=rfl;have htt:tryC6.take 9=tryC6:=rfl;refine Za ?_;refine Za ?_;refine Qz (Qa ?_);simp only[go_sem,iN,mh,htt];refine Qf (Qg (Q3 (fun m e1 H1=>∃(i:Nat) (t:C) (Lg:List (Nat×Obj)) (rs:List (C×List (Nat×Obj))),m=3-i∧i≤3∧rs.length=i∧(∀p∈rs,p.1.ah=false)∧Gr Lg 1 (rs.map fun p=>[p.1]) t∧(∀j (h:j<rs.length),Gr rs[j].2 1 (Ar ((By j).take n)) rs[j].1)∧Kn H H1 [] (rs.flatMap Prod.snd++Lg)∧
  lk 0 e1=.c (.int .i64 n)∧lk 3 e1=.c t∧lk 6 e1=.ag tryC6∧lk 7 e1=.c (.int .i64 i)) 3 ?_ ?_))
 ·exact⟨0,_,[],[],rfl,ZT,rfl,ZV,.nil 1,ZV,.ao H,rfl,rfl,rfl,rfl⟩
 ·rintro m e1 H1 ⟨i,t,Lg,rs,hm,hi,co,an,b9,nz,kn,l0,l3,l6,l7⟩;have htw:=b9.ah;refine ZG l0 l3 l6 l7 ?_;refine Qf (Qb rfl ?_ ?_)
  ·intro hc;have af:i<3:=by have:(i:Int)<3:=of_decide_eq_true hc;omega
   have oz:=Qbjv af;have jD:=Qbn8 af;have eH:(B3 (By i)).length=3:=by rw[B3,Jd,jD]
   refine Zc ?_
   refine Qf (Qg ?_);refine Zi mh oz ?_;refine⟨ZT,?_⟩;intro x5 cp H2 h2;have kn:=kn.al cp h2;have cp:H2 x5=.st [.int .i64 0,.int .i64 0,.int .i64 0]:=(kn.get (x5,.st [.int .i64 0,.int .i64 0,.int .i64 0]) ZV).1;simp only[go_sem,Qxa,cp,eH];intro H3 h3;have kn:Kn H H2 [] ([(x5,.st [.int .i64 0,.int .i64 0,.int .i64 0])]++(rs.flatMap Prod.snd++Lg)):=kn.perm J2;have kn:Kn H H3 [] ([(x5,.st (B3 (By i)))]++(rs.flatMap Prod.snd++Lg)):=kn.ax 0 rfl (by rw[h3];simp[jD]);have kn:Kn H H3 [] ((rs.flatMap Prod.snd++Lg)++[(x5,.st (B3 (By i)))]):=kn.perm J2;have kn2:=kn.frzN;have lh:H3 x5=.st (B3 (By i)):=kn.getL ZV;have jd:=DR (Lg:=[(x5,Obj.st (B3 (By i)))]) (p:=(x5,.st (B3 (By i)))) ZV;obtain⟨Sf,hSf⟩:∃Sf:Nat→Bool,Sf=fun m=>([(x5,Obj.st (B3 (By i)))].map Prod.fst).contains m:=⟨_,rfl⟩;rw[←hSf]at kn2 jd;obtain⟨H4,tO⟩:∃H4,H3.frz Sf=H4:=⟨_,rfl⟩;refine c_gh (e':=[(0,.c (.int .i64 n)),(3,.c t),(5,.c (.pp (B3 (By i)))),(6,.ag tryC6),(7,.c (.int .i64 i))]) (H':=H4) (by
    rw[←tO];refine Qbfv Sf (CS fun p hp=>?_);simp only[J1,J8,or_false]at hp;rcases hp with rfl|rfl|rfl|rfl|rfl
    ·exact .c _ _ (.same _ rfl)
    ·exact .c _ _ (.same _ htw)
    ·exact .c _ _ (FrzL.ptr jd lh (FrzL.same (LI _)))
    ·exact (FrzL.same (LI _)).ag
    ·exact .c _ _ (.same _ rfl)) ?_
   rw[tO]at kn2;refine Qr ?_;have bv:=Qbfx (By i) n;simp only[go_sem,eH,bv];refine⟨⟨⟨ZT,ZT⟩,by simp only[LIM];omega⟩,?_⟩;have pz:((By i).take n).length≤LIM:=by rw[Ja7,jD];simp only[LIM];omega
   refine Kl kn2 pz fun t2 Lg2 H5 fV jh kn=>?_;simp only[go_sem,Qxc];have kn:Kn H H5 [] ((rs.flatMap Prod.snd++Lg2)++Lg):=kn.perm (C8 fun f hf h0 hc hp=>by simp only[hf];omega);refine kn.aQ (new:=[[t2]]) b9 (.mk' _ _ _ _) (by simp[ai,jh]) (by simp only[Jd,co,LIM,Jj,Ji];omega) fun t3 Lg3 H6 nH lx kn=>?_;simp only[go_sem,Qxb];refine Zp ?_;refine⟨Qv,?_⟩;show ∃m,_;refine⟨3-(i+1),ZT,i+1,t3,Lg3,rs++[(t2,Lg2)],rfl,ZT,by simp[co],?_,?_,?_,?_,rfl,rfl,rfl,rfl⟩
   ·intro p hp;rcases Jv.1 hp with hp|hp
    ·exact an p hp
    ·rw[Ja]at hp;subst hp;exact jh
   ·rw[Jr];exact nH
   ·intro j hj;rw[Ju]at hj;by_cases ku:j<rs.length
    ·rw[List.getElem_append_left ku];exact nz j ku
    ·have rK:j=i:=(by simp at hj;omega);subst rK;rw[List.getElem_append_right ZT];simp only[co,Nat.sub_self,Je];exact fV
   ·rw[List.flatMap_append];simpa using kn
  ·intro hc;have aV:i=3:=by
    have:¬((i:Int)<3):=of_decide_eq_false hc;omega
   refine Zm ?_;refine Za ?_;refine Zb ?_;have hz:=Pu (H:=H1) (S:=un H) (n:=n) rs 0 (by simpa using nz) fun p hp=>⟨(kn.get p (by simp only[J6];exact Jb _ hp)).1,BP (kn.loc p (Jb _ hp))⟩;rw[co,aV]at hz;exact⟨_,.c _ _ (b9.frzR kn hz),hK _ kn.fin⟩
structure GT (H:Heap):Prop where
 k:GK H
 t:H 0=.gl 0 tryC6
theorem GT.kn (g:GT H)(kn:Kn H H' [] L):GT H':=⟨g.k.kn kn,by rw[kn.chg 0 (by rw[g.t];nofun) ZV];exact g.t⟩
theorem Qa1z {fl:Bool}(g:GT H)(aO:Qn fns≤2^36)(hf:Bl fns=true)(hK:∀H',Upd H H' []→K (.c (.sl false 1 (Ct (AI fns).params.length))) H') :
  Qm prog Qve [.ag [.sl fl 3 (Qo fns)]] H K:=by
 have hp:=fine_iff.1 hf;have h0:=hp.len.1;have af:fns.length-1<fns.length:=ZT
 have e1:((fns.length:Int)-1)=((fns.length-1:Nat):Int):=ZT
 have fu:fns[fns.length-1]=AI fns:=by rw[AI,Dq af]
 have eH:(AI fns).params.length≤3:=by rw[←fu];exact (hp.sizes _ af).2.2
 have cO:=hp.len.2;refine Qc Aa Qapm ?_;refine Za ?_;refine Qz (Qa ?_);simp only[go_sem];refine RJ ZT g.k fun H1 hu=>?_;rw[hf];have kn:=(Kn.ao H).ay hu;simp only[go_sem,Qp8];refine Qf (Qb rfl (fun h=>by simp[lk]at h) (fun _=>?_));refine Zc ?_
 refine Qa ?_;simp only[go_sem,e1,af,Qu,AB _ _ af,fu,Fn.cells,Qt];intro _;refine⟨Qv,fun _=>?_⟩;refine Qbjr (by rw[kn.chg 0 (by rw[g.t];nofun) (by simp)];exact g.t) eH fun H2 hu=>?_;have kn:=kn.ay hu;simp only[go_sem,Qp9];refine Zb ?_;exact hK _ kn.upd
theorem Qaxm {fl:Bool}(g:GK H)(aO:Qn fns≤2^36)(hf:Bl fns=true)(hs:Au fns=fns)(hK:∀H',K (.c (.bool true)) H'):Qm prog Q2d [.ag [.sl fl 3 (Qo fns)]] H K:=by
 have hp:simP fns=fns:=by rw[simP,if_pos hf,hs]
 refine Qc Aa Qaur ?_;refine Za ?_;refine Za ?_;refine Q24 aO g fun H1 hu=>?_;rw[hp,hf];have kn:=(Kn.ao H).ay hu;simp only[go_sem,Qta,Jf,Jh];intro x3 bQ H2 h2;have kn:=kn.al bQ h2;have g3:=kn.l 0 rfl;simp only[go_sem,Qs9,g3];intro H3 h3;have kn:=kn.ax 0 rfl h3;have g3:=kn.l 0 rfl;simp only[go_sem,GO];refine Zd g3 ?_;refine Vz fun r H4 hr hu=>?_;obtain rfl:r=true:=hr.2 rfl;simp only[go_sem,Qtb];refine Zb ?_;exact hK _
theorem Qz0 {fl:Bool}(hK:∀(l:List Fn) H',Upd H H' []→PS l→K (.ag [.sl false 3 (Qo l)]) H') :
  Qm prog Qfj [.c (.sl fl 1 (Bi bs))] H K:=by
 refine Q1 ?_;refine Qc Aa Qro ?_;refine Za ?_;intro x2 bB H1 h1;have kn:=(Kn.ao H).al bB h1;refine Za ?_;refine Qbgh fun R H2 hR h2=>?_;have kn:=kn.al hR h2 (R.am 0);simp only[go_sem,Qeh];refine Qbl3 (kn.l 1 rfl) ZT fun l H3 k2 fw _ hu aO=>?_;have kn:=kn.callL 1 rfl hu (R.am _);have bB:=kn.l 0 rfl;simp only[go_sem,Qeg,bB];intro H4 h4;have kn:=kn.ax 0 rfl h4;have bB:=kn.l 0 rfl;refine Zq bB ?_;exact⟨_,(FrzL.cons (FrzR.same (CB _)).sl .nil).ag,hK l _ kn.fin aO⟩
theorem Qbnp (hf:Bl fns=true){l:List Int}{o:Oc}(ho:RunD fns l 4000 o):∃o2,RunD (Au fns) l 4000 o2∧(o.e≠3→ocN o2=ocN o):=by
 have hp:=fine_iff.1 hf;have hx:=(FG hp).1;have fu:(AI (Au fns)).params=(AI fns).params:=by
  have:∀(n:Nat) {fns:List Fn},FineP fns→(AI (simN n fns)).params=(AI fns).params:=by
   intro n
   induction n with
   |zero=>intro fns _;rfl
   |succ n ih=>
    intro fns h;rw[simN,ih (EA h),AD,cutA,Ed (GJ h).len.1,foldA,Ed h.len.1];rfl
  exact this _ hp
 have pv:runV (Au fns) l 4000=runV fns l 4000:=by
  simp only[runV,canB,fu,hf,fine_iff.2 hx]
 cases hr:runV fns l 4000 with
 |false=>
  refine⟨oc0,⟨fun h=>(by rw[pv,hr]at h;cases h),fun _=>rfl⟩,fun _=>by rw[ho.n hr]⟩
 |true=>
  obtain⟨p1,p2,p3,p4,p5⟩:=Gg hr;by_cases h3:o.e=3
  ·obtain⟨o2,gp⟩:=Ik (Au fns) l 4000;exact⟨o2,gp,fun h=>absurd h3 h⟩
  ·obtain⟨o2,r2,a1,a2,a3,a4⟩:=Qbno hp (fun x hx=>by
    obtain⟨v,hv,rfl⟩:=Jt.1 hx;have:=p3 v hv;omega) (ho.v hr) h3
   exact⟨o2,⟨fun _=>r2,fun h=>(by rw[pv,hr]at h;cases h)⟩,fun _=>by rw[ocN,ocN,a1,a2,a3,a4]⟩
end Go.AE.Y
namespace Go.AE.Y
attribute [local go_sem] cond_true cond_false Bool.not_true Bool.not_false
attribute [local instance] Classical.propDecidable
open Go.Proofs.Tryz
variable {H:Heap}{K:V→Heap→Prop}{bs:List UInt8}
theorem Rs (n:Nat):(Ct n).length=3:=by simp[Ct]
theorem Qbjq (n:Nat){j:Nat}(h:j<3):(Ct n).getD j []=[.sl false 1 (Ar ((By j).take n))]:=by
 have:j=0∨j=1∨j=2:=ZT
 rcases this with rfl|rfl|rfl <;> rfl
theorem FnSimpler_c (g:GT H)(hK:∀H',K (.c (.bool true)) H'):Qm prog Qvm [.c (.sl false 1 (Bi bs))] H K:=by
 have g0:=g;refine Qc Aa Qaps ?_;have retT':∀(e:Env) (H':Heap),lk 2 e=.c (.bool true)→Qq Ac K .ret e H':=by
  intro e H' h2;simp only[go_sem,Qq,Q0,Ja,forall_eq,RS.op,h2];exact hK H'
 refine Za ?_;refine Qz (Qa ?_);simp only[go_sem,CK];intro _;refine Qf (Qb rfl (fun hc=>?_) (fun hc=>?_))
 ·refine Za ?_;refine Qi ?_;exact retT' _ _ rfl
 refine Zc ?_
 refine Za ?_;refine Qz0 fun fns H1 hu hT=>?_;have aO:=hT.1;have kn:=(Kn.ao H).ay hu;simp only[go_sem,Qqx,Jf,Jh];intro x3 bQ H2 h2;have kn:=kn.al bQ h2;have bQ:=kn.l 0 rfl;simp only[go_sem,Qqw,bQ];intro H3 h3;have kn:Kn H H3 [] [(x3,.st [.sl false 3 (Qo fns)])]:=kn.ax 0 rfl h3;have bQ:=kn.l 0 rfl;refine Zd bQ ?_;refine Q24 aO (g0.kn kn).k fun H4 hu=>?_;have kn:=kn.ay hu;simp only[go_sem,Qq0,Jf,Jh];intro x4 bW H5 h5;have kn:=kn.al bW h5;have bW:=kn.l 1 rfl;simp only[go_sem,Qqz,bW];intro H6 h6;have kn:Kn H H6 [] [(x3,.st [.sl false 3 (Qo fns)]),(x4,.st [.sl false 3 (Qo (simP fns))])]:=kn.ax 1 rfl h6;have bQ:=kn.l 0 rfl;simp only[go_sem,Sb];refine Zd bQ ?_;refine Qa7u aO fun H7 hu=>?_;have kn:=kn.ay hu;simp only[go_sem,Qq3,Jf,Jh];intro x6 cB H8 h8;have kn:=kn.al cB h8;have cB:=kn.l 2 rfl;simp only[go_sem,Qq2,cB];intro H9 h9;have kn:Kn H H9 [] [(x3,.st [.sl false 3 (Qo fns)]),(x4,.st [.sl false 3 (Qo (simP fns))]),(x6,.st [.sl false 3 (Qo (simP fns))])]:=kn.ax 2 rfl h9;have bW:=kn.l 1 rfl;have cB:=kn.l 2 rfl;simp only[go_sem,Qq1];refine Qz ?_
 cases hg:Bl fns with
 |false=>
  refine Zi bW cB ?_;refine SP fun r hr=>?_;obtain rfl:r=true:=hr.2 rfl;have bW:=kn.l 1 rfl;have cB:=kn.l 2 rfl;simp only[go_sem,V2];refine Qf (Qb rfl ?_ ?_)
  ·intro _;refine Zi bW cB ?_;refine SP fun r hr=>?_;obtain rfl:r=true:=hr.2 rfl;simp only[go_sem,Qom];refine Qi ?_;exact retT' _ _ rfl
  ·intro h;simp at h
 |true=>
  have hp:=fine_iff.1 hg;have hX:simP fns=Au fns:=by rw[simP,if_pos hg]
  obtain⟨hxf,iy⟩:=FG hp;have qj:=fine_iff.2 hxf;have pJ:Qn (Au fns)≤2^36:=Jar (Qbje hp) aO;have hXX:simP (Au fns)=Au fns:=by rw[simP,if_pos qj,KY hp]
  rw[hX]at kn bW cB;refine Zi bW cB ?_;refine SP fun r hr=>?_;obtain rfl:r=true:=hr.2 rfl;have bW:=kn.l 1 rfl;simp only[go_sem,V2];refine Qf (Qb rfl (fun h=>Zaa) (fun _=>?_));refine Zc ?_
  refine Zd bW ?_;refine Q24 pJ (g0.kn kn).k fun H10 hu=>?_;rw[hXX,qj];have kn:=kn.ay hu;simp only[go_sem,Qop,Jf,Jh];intro x8 cC H11 cM;have kn:=kn.al cC cM;have cC:=kn.l 3 rfl;simp only[go_sem,Qoo,cC];intro H12 dr;have kn:Kn H H12 [] [(x3,.st [.sl false 3 (Qo fns)]),(x4,.st [.sl false 3 (Qo (Au fns))]),(x6,.st [.sl false 3 (Qo (Au fns))]),(x8,.st [.sl false 3 (Qo (Au fns))])]:=kn.ax 3 rfl dr;have bQ:=kn.l 0 rfl;simp only[go_sem,Qon];refine Qz (Qa ?_);simp only[go_sem,bQ];refine Qa1z (g0.kn kn) aO hg fun H13 hu=>?_;have kn:=kn.ay hu;obtain⟨np,hnp⟩:∃np,(AI fns).params.length=np:=⟨_,rfl⟩;rw[hnp];simp only[go_sem,Qoq,Rs];intro _;refine Qf (Qg (Q3 (fun m e1 H1=>∃j:Nat,m=3-j∧j≤3∧Kn H H1 [] [(x3,.st [.sl false 3 (Qo fns)]),(x4,.st [.sl false 3 (Qo (Au fns))]),(x6,.st [.sl false 3 (Qo (Au fns))]),(x8,.st [.sl false 3 (Qo (Au fns))])]∧
   e1=[(3,.c (.ptr x3 0)),(4,.c (.ptr x4 0)),(8,.c (.ptr x8 0)),(9,.c (.bool true)),(58,.c (.sl false 1 (Ct np))),(59,.c (.int .i64 3)),(60,.c (.int .i64 j))]) 3 ?_ ?_))
  ·exact⟨0,ZT,ZT,kn,rfl⟩
  ·clear kn;rintro m e1 H1 ⟨j,rfl,hj,kn,rfl⟩;refine Za ?_;refine Qf (Qb rfl ?_ ?_)
   ·intro hc;have af:j<3:=(by have:(j:Int)<3:=of_decide_eq_true hc;omega);refine Zc ?_
    refine Qf (Qg ?_);refine Qa ?_;simp only[go_sem,Rs,Qbjq np af,af];obtain⟨l,hl⟩:∃l,(By j).take np=l:=⟨_,rfl⟩;rw[hl];have bQ:=kn.l 0 rfl;obtain⟨o,ho⟩:=Ik fns l 4000;obtain⟨o2,gp,ol⟩:=Qbnp hg ho;refine Zd bQ ?_;refine Ke aO (g0.kn kn).k ho fun H2 hu=>?_;have kn:=kn.ay hu;simp only[go_sem,Qot,Jf,Jh];intro x12 gP H3 h3;have kn:=kn.al gP h3;have gP:=kn.l 4 rfl;simp only[go_sem,Qos,gP,ocN];intro H4 h4;have kn:Kn H H4 [] [(x3,.st [.sl false 3 (Qo fns)]),(x4,.st [.sl false 3 (Qo (Au fns))]),(x6,.st [.sl false 3 (Qo (Au fns))]),(x8,.st [.sl false 3 (Qo (Au fns))]),(x12,.st (ocN o))]:=kn.ax 4 rfl h4;have bW:=kn.l 1 rfl;simp only[go_sem,Qor];refine Zd bW ?_;refine Ke pJ (g0.kn kn).k gp fun H5 hu=>?_;have kn:=kn.ay hu;simp only[go_sem,Qow,Jf,Jh];intro x14 jA H6 h6;have kn:=kn.al jA h6;have jA:=kn.l 5 rfl;simp only[go_sem,Qov,jA,ocN];intro H7 h7;have kn:Kn H H7 [] [(x3,.st [.sl false 3 (Qo fns)]),(x4,.st [.sl false 3 (Qo (Au fns))]),(x6,.st [.sl false 3 (Qo (Au fns))]),(x8,.st [.sl false 3 (Qo (Au fns))]),(x12,.st (ocN o)),(x14,.st (ocN o2))]:=kn.ax 5 rfl h7;simp only[go_sem,Qou];have back:Kn H H7 [] [(x3,.st [.sl false 3 (Qo fns)]),(x4,.st [.sl false 3 (Qo (Au fns))]),(x6,.st [.sl false 3 (Qo (Au fns))]),(x8,.st [.sl false 3 (Qo (Au fns))])]:=kn.sub ZV;have gP:H7 x12=.st [.sl false 1 (Ao o.s),.int .i64 (o.e:Nat),.int .i64 (o.v:Nat),.sl false 1 (Ao o.c)]:=kn.l 4 rfl;by_cases h3:o.e=3
    ·have d3:decide ((o.e:Int)=3)=true:=decide_eq_true ZT;refine Qa ?_;simp only[go_sem,gP,d3,V7];refine Qb rfl (fun h=>by simp[lk]at h) (fun _=>?_);refine Zf ?_
     refine Zk ?_;exact⟨Qv,3-(j+1),ZT,j+1,rfl,ZT,back,rfl⟩
    ·have d3:decide ((o.e:Int)=3)=false:=decide_eq_false ZT;have jA:H7 x14=.st [.sl false 1 (Ao o.s),.int .i64 (o.e:Nat),.int .i64 (o.v:Nat),.sl false 1 (Ao o.c)]:=by
      have:=kn.l 5 rfl;rw[ol h3]at this;exact this
     have same:=fun K1 hK1=>Qbf3 (K:=K1) (H:=H7) (o:=o) hK1;simp only[ocN]at same;refine Zr gP jA d3 ?_;refine same _ ?_;simp only[go_sem,V7];refine Qb rfl (fun h=>by simp[lk]at h) (fun _=>?_);refine Zf ?_
     refine Zk ?_;exact⟨Qv,3-(j+1),ZT,j+1,rfl,ZT,back,rfl⟩
   ·intro hc;refine Zg ?_;have bW:=kn.l 1 rfl;have cC:=kn.l 3 rfl;refine Zi bW cC ?_;refine Vz fun r H2 hr hu=>?_;obtain rfl:r=true:=hr.2 rfl;have kn:=kn.ay hu;have bW:=kn.l 1 rfl;simp only[go_sem,Qoy,bW];refine Qaxm (g0.kn kn).k pJ qj (KY hp) fun H3=>?_;simp only[go_sem,Qox];refine Qi ?_;exact retT' _ _ rfl
end Go.AE.Y
namespace Go.AE.Y
open Go.ChangeShapes Go.WideShapes Go.ChangeAt Go.RowKit
def DD (w:World)(a:Option Addr)(len cap:Nat)(zs:List Int):Prop:=
 (a=none∧len=0∧cap=0∧zs=[])∨
 ∃x,a=some x∧len≤cap∧zs.length=cap∧(∀i,i<zs.length→w.cell? (x.add i)=some (.int .u8 (zs.getD i 0)))∧∀n∈zs,(Lit.int .u8 n).wf=true
theorem Qbo6 {n:Int}(h:(Lit.int .u8 n).wf=true):((UInt8.ofNat n.toNat).toNat:Int)=n:=by
 simp only[Lit.wf,Jas,decide_eq_true_eq]at h;have a1:IntKind.min .u8=0:=Zab
 have a2:IntKind.max .u8=255:=Zab
 rw[a1,a2]at h;rw[UInt8.toNat_ofNat'];omega
theorem Qaie {P:Program}{f:Nat}{H0:Heap}{g0:G}(h:∀bs:List UInt8,bs.length≤1048576→Qm P f [.c (.sl false 1 (Bi bs))] H0 fun v _=>v=.c (.bool true))
  {a0:Option Addr} {len0 cap0:Nat} {z0:List Int} {w:World} (hg:∀b,b<w.heap.size→g0.per b=true) (hs:Sat H0 g0 w) (hr:DD w a0 len0 cap0 z0) (hl:len0≤1048576) :
  Calls P f #[.slice a0 len0 cap0] w fun e w'=>e=.returned (.bool true)∧Below w.heap.size w w':=by
 have key:∃bs:List UInt8,bs.length=len0∧RepC w g0 (.sl false 1 (Bi bs)) (.slice a0 len0 cap0):=by
  rcases hr with ⟨rfl,rfl,rfl,rfl⟩|⟨x,rfl,pX,hz,ca,hwf⟩
  ·exact⟨[],rfl,.bn _ _ _⟩
  ·obtain⟨b,off,spot⟩:=x;have fD:((z0.take len0).map fun n=>UInt8.ofNat n.toNat).length=len0:=Zac
   by_cases h0:cap0=0
   ·subst h0;have:len0=0:=ZT;subst this;exact⟨[],rfl,.bn _ _ _⟩
   have cq:=ca 0 ZT;have nZ:spot=none:=by simpa[Addr.add]using World.cell?_spot cq
   subst nZ;have sh:∀i,(⟨b,off,none⟩:Addr).add i=⟨b,off+i,none⟩:=by
    intro i;by_cases h:i=0 <;> simp[Addr.add,h]
   have hb:b<w.heap.size:=by
    rcases Jav b w.heap.size with h|h
    ·exact h
    ·simp[World.cell?,Addr.add,Jah h]at cq
   refine⟨_,fD,?_⟩;have bm:∀(i:Nat) (row:List C),(Bi ((z0.take len0).map fun n=>UInt8.ofNat n.toNat))[i]? = some row→i<len0∧row=[.int .u8 (z0.getD i 0)]:=by
    intro i row hi;have af:i<len0:=by
     rcases Jav i len0 with h|h
     ·exact h
     ·rw[J0 (by rw[CK];omega)]at hi;simp at hi
    have eD:i<z0.length:=ZT;refine⟨af,?_⟩;simp only[Bi,Jn,List.getElem?_take,if_pos af,Js eD,Jab,Jai]at hi;rw[←hi,Qbo6 (hwf _ (Jq eD))];simp[Jp,eD]
   have:=RepC.sl (w:=w) (g:=g0) false 1 (Bi ((z0.take len0).map fun n=>UInt8.ofNat n.toNat)) b off cap0 (fun i _=>.int .u8 (z0.getD i 0))
    (by rw[CK,fD];simp only[LIM];omega) ZV (by rw[CK,fD];exact pX) (hg _ hb)
    (fun i row hi=>by rw[(bm i row hi).2];rfl)
    (fun i row j c hi hj=>by
     obtain⟨h1,rfl⟩:=bm i row hi;have jT:j=0:=by
      rcases Jag j with h|h
      ·exact h
      ·rw[J0 Zac]at hj;simp at hj
     subst jT;have:=ca i ZT;rw[sh]at this;simpa using this)
    (fun i row j c hi hj=>by
     obtain⟨h1,rfl⟩:=bm i row hi;have jT:j=0:=by
      rcases Jag j with h|h
      ·exact h
      ·rw[J0 Zac]at hj;simp at hj
     subst jT;simp at hj;subst hj;exact .int _ _)
   rw[CK,fD]at this;exact this
 obtain⟨bs,fD,dz⟩:=key;have hc:=(h bs ZT).2 _ w [.slice a0 len0 cap0] hs rfl (fun j x u hj hu=>by
  cases j with
  |zero=>simp at hj hu;subst hj;subst hu;exact .c _ _ dz
  |succ j=>simp at hj)
 refine hc.mono fun e w'=>?_;rintro (⟨v,x,H',g',rfl,rfl,aC,hv⟩|⟨v,H',g',_,h,_⟩)
 rotate_left
 ·cases h
 have:v=.bool true:=by cases hv with|c _ _ h=>cases h;rfl
 subst this;exact⟨rfl,aC.le.os,aC.le.tape,aC.le.output,aC.le.size,fun k hk=>(aC.le.per k (hg _ hk)).2⟩
def signL:List (Int×List UInt8×Int):=[(3,[43],3),(4,[45],3),(5,[42],4),(6,[47],4),(7,[37],4),(8,[60],2),(9,[61],2),(10,[38],1)]
def kC (t:Int×List UInt8×Int):C:=.int .i64 t.1
def rC (t:Int×List UInt8×Int):List C:=[.str t.2.1,.int .i64 t.2.2]
def kvV (t:Int×List UInt8×Int):Value×Value:=(.int .i64 t.1,.agg #[.string ⟨t.2.1.toArray⟩,.int .i64 t.2.2])
def eC (t:Int×List UInt8×Int):C×V:=(kC t,.ag (rC t))
structure Tabs (w:World):Prop where
 keys:∀(j:Nat) (s:List UInt8),keysL[j]? = some s→w.cell? ⟨B1,j,none⟩=some (.string ⟨s.toArray⟩)
 sign:∃b ms clock ts,w.cell? ⟨Bg,0,none⟩=some (.map (some b))∧w.heap[b]? = some (.map ms clock)∧Go.MapKept.Stamped ms clock∧List.Perm ts signL∧
  ms.toList.map (fun m=>(m.key,m.val))=ts.map kvV
def hp5 (ts:List (Int×List UInt8×Int)):Heap:=fun l=>if l=B1 then .gl B1 (keysL.map C.str)else if l=Bg then .gl Bg [.cm true (ts.map kC) (ts.map rC)]else .none
theorem Qbah {op:Int}:∀{l1 l2:List (Int×List UInt8×Int)},l1.Perm l2→(l2.map (·.1)).Nodup→A3 (.int .i64 op) (l1.map eC)=A3 (.int .i64 op) (l2.map eC):=by
 intro l1 l2 hp
 induction hp with
 |nil=>intro _;rfl
 |cons x h ih=>
  intro hn;simp only[Jl,Ja8]at hn;simp only[Jl,A3,ih hn.2]
 |swap x y l=>
  intro hn;simp only[Jl,Ja8,J1,not_or]at hn;simp only[Jl,A3,eC,kC,AM,decide_eq_true_eq];by_cases h1:op=y.1
  ·have h2:¬op=x.1:=fun e=>hn.1.1 (e.symm.trans h1);rw[if_pos h1,if_neg h2,if_pos h1]
  ·by_cases h2:op=x.1
   ·rw[if_neg h1,if_pos h2,if_pos h2]
   ·rw[if_neg h1,if_neg h2,if_neg h2,if_neg h1]
 |trans h1 h2 ih1 ih2=>
  intro hn;exact (ih1 ((h2.map _).nodup_iff.2 hn)).trans (ih2 hn)
theorem Qbk7 {ts:List (Int×List UInt8×Int)}(hp:ts.Perm signL):GK (hp5 ts):=by
 refine⟨rfl,ts.map kC,ts.map rC,rfl,fun op=>?_⟩;have e:((ts.map kC).zip (ts.map rC)).map (fun e=>(e.1,V.ag e.2))=ts.map eC:=by
  rw[List.zip_map',Jak];rfl
 rw[e];refine⟨?_,?_⟩
 ·intro x hx;obtain⟨t,_,rfl⟩:=Jt.1 hx;exact⟨_,rfl⟩
 ·rw[Qbah hp Zab];simp only[signL,Jl,Jaf,A3,eC,kC,rC,AM,decide_eq_true_eq,levN];by_cases h3:op=3
  ·subst h3;exact⟨_,rfl⟩
  by_cases h4:op=4
  ·subst h4;exact⟨_,rfl⟩
  by_cases h5:op=5
  ·subst h5;exact⟨_,rfl⟩
  by_cases h6:op=6
  ·subst h6;exact⟨_,rfl⟩
  by_cases h7:op=7
  ·subst h7;exact⟨_,rfl⟩
  by_cases h8:op=8
  ·subst h8;exact⟨_,rfl⟩
  by_cases h9:op=9
  ·subst h9;exact⟨_,rfl⟩
  by_cases bP:op=10
  ·subst bP;exact⟨_,rfl⟩
  exact⟨[],by simp[h3,h4,h5,h6,h7,h8,h9,bP]⟩
theorem NQ {H:Type}(x:Lit×DataW H):∀l,(DataW.insert x l).Perm (x::l)
 |[]=>.refl _
 |y::r=>by
  rw[DataW.insert];split
  ·exact .refl _
  ·exact ((NQ x r).cons y).trans (.swap x y r)
theorem LK {H:Type}:∀l:List (Lit×DataW H),(l.foldr DataW.insert []).Perm l
 |[]=>.refl _
 |x::r=>(NQ x _).trans ((LK r).cons x)
def litD (t:Int×List UInt8×Int):Lit×DataW Unit:=(.int .i64 t.1,.agg [.lit (.string t.2.1),.lit (.int .i64 t.2.2)])
def decD:Lit×DataW Unit→Int×List UInt8×Int
 |(.int _ n,.agg [.lit (.string s),.lit (.int _ l)])=>(n,s,l)
 |_=>(0,[],0)
theorem sign_entries {l:List MapEntry}{f:MapEntry→Lit×DataW Unit}(hp:((l.map f).foldr DataW.insert [])=signL.map litD)(hf:∀m∈l,∀t,f m=litD t→(m.key,m.val)=kvV t) :
  ∃ts,List.Perm ts signL∧l.map (fun m=>(m.key,m.val))=ts.map kvV:=by
 have h1:(l.map f).Perm (signL.map litD):=(LK _).symm.trans (by rw[hp]);refine⟨(l.map f).map decD,?_,?_⟩
 ·have:=h1.map decD;rw[Jak (g:=decD) (f:=litD)]at this;exact this
 ·rw[Jak,Jak];refine Ja0 fun m hm=>?_;have fO:f m∈signL.map litD:=(h1.mem_iff).1 (Jt.2 ⟨m,hm,rfl⟩);obtain⟨t,_,ht⟩:=Jt.1 fO;have e:decD (f m)=t:=by rw[←ht];rfl
  simp only[Function.comp,e];exact hf m hm t ht.symm
def tryZ7:List Int:=[0,0,0,1,2,3,255,16,7]
def gh7 (w:World):G:=⟨fun b=>decide (b<w.heap.size),fun _=>none,fun l=>if l=0 then some (0,9,0)else if l=B1 then some (B1,9,0)else if l=Bg then some (Bg,1,0)else none⟩
def hp7 (ts:List (Int×List UInt8×Int)):Heap:=fun l=>if l=0 then .gl 0 tryC6 else if l=B1 then .gl B1 (keysL.map C.str)else if l=Bg then .gl Bg [.cm true (ts.map kC) (ts.map rC)]else .none
structure TabT (w:World):Prop where
 k:Tabs w
 t:∀j,j<9→w.cell? ⟨0,j,none⟩=some (.int .i64 (tryZ7.getD j 0))
theorem Qbk8 {ts:List (Int×List UInt8×Int)}(hp:ts.Perm signL):GT (hp7 ts):=by
 have h:=Qbk7 hp;refine⟨⟨rfl,?_⟩,rfl⟩;obtain⟨ks,rows,h3,h4⟩:=h.sign;exact⟨ks,rows,h3,h4⟩
theorem Qbeb {w:World}{ts:List (Int×List UInt8×Int)}{b:Nat}{ms:Array MapEntry}{clock:Nat}(ht:∀j,j<9→w.cell? ⟨0,j,none⟩=some (.int .i64 (tryZ7.getD j 0)))(hk:∀(j:Nat) (s:List UInt8),keysL[j]? = some s→w.cell? ⟨B1,j,none⟩=some (.string ⟨s.toArray⟩))
  (hc:w.cell? ⟨Bg,0,none⟩=some (.map (some b))) (hb:w.heap[b]? = some (.map ms clock)) (aC:Go.MapKept.Stamped ms clock) (hp:ts.Perm signL)
  (hm:ms.toList.map (fun m=>(m.key,m.val))=ts.map kvV):Sat (hp7 ts) (gh7 w) w:=by
 have szof:∀{a:Addr} {v:Value},w.cell? a=some v→a.block<w.heap.size:=by
  intro a v h;rcases Jav a.block w.heap.size with h'|h'
  ·exact h'
  ·simp[World.cell?,Jah h']at h
 have h1:B1<w.heap.size:=szof (hk 0 _ rfl);have h2:Bg<w.heap.size:=szof hc;have h3:b<w.heap.size:=by
  rcases Jav b w.heap.size with h'|h'
  ·exact h'
  ·simp[Jah h']at hb
 have aM:ms.size=ts.length:=by
  have:=congrArg List.length hm;simpa using this
 have hl8:ts.length=8:=hp.length_eq;have bm:∀(i:Nat) (m:MapEntry),ms[i]? = some m→∃t,ts[i]? = some t∧t∈signL∧m.key=.int .i64 t.1∧m.val=.agg #[.string ⟨t.2.1.toArray⟩,.int .i64 t.2.2]:=by
  intro i m h;have h':(ms.toList.map (fun m=>(m.key,m.val)))[i]? = some (m.key,m.val):=by
   rw[Jn,Jaj,h];rfl
  rw[hm,Jn]at h'
  cases ht:ts[i]? with
  |none=>rw[ht]at h';cases h'
  |some t=>
   rw[ht]at h';simp only[Jab,Jai,kvV,Jbd]at h';exact⟨t,rfl,(hp.mem_iff).1 (J4 ht),h'.1.symm,h'.2.symm⟩
 refine⟨fun b hb=>⟨by simp[gh7];omega,rfl⟩,⟨3,fun l hl=>by simp only[gh7];rw[if_neg ZT,if_neg (by simp only[B1];omega),if_neg (by simp only[Bg];omega)]⟩,fun b x h=>by simp[gh7]at h,fun b l p h=>by simp[gh7]at h,fun l=>?_⟩;by_cases e0:l=0
 ·subst e0;have h0:0<w.heap.size:=szof (ht 0 ZT);have hz:∀(j:Nat) (c:C),tryC6[j]? = some c→j<9∧c=.int .i64 (tryZ7.getD j 0):=by
   intro j c h;have hj:j<9:=(List.getElem?_eq_some_iff.1 h).1;refine⟨hj,?_⟩;have e:tryC6=B3 tryZ7:=rfl;rw[e,B3,Jn]at h;have hl:j<tryZ7.length:=hj;rw[Js hl]at h;simp at h;rw[←h,Jp,Js hl];rfl
  refine⟨9,fun j=>.int .i64 (tryZ7.getD j 0),by simp[gh7],by simpa[gh7]using h0,fun j c h=>?_,fun j c h=>?_⟩
  ·exact ht j (hz j c h).1
  ·rw[(hz j c h).2];exact .int _ _
 by_cases e1:l=B1
 ·subst e1;refine⟨9,fun j=>.string ⟨(keysL.getD j []).toArray⟩,by simp[gh7],by simpa[gh7]using h1,fun j c h=>?_,fun j c h=>?_⟩
  ·rw[Jn]at h
   cases hs:keysL[j]? with
   |none=>rw[hs]at h;cases h
   |some s=>
    show _=some (Value.string ⟨(keysL.getD j []).toArray⟩);rw[hk j s hs,Jp,hs];rfl
  ·rw[Jn]at h
   cases hs:keysL[j]? with
   |none=>rw[hs]at h;cases h
   |some s=>
    rw[hs]at h;obtain rfl:=Jw h;have aE:s.length≤4:=by
     have:∀s∈keysL,s.length≤4:=Zab;exact this s (J4 hs)
    show RepC _ _ _ (Value.string ⟨(keysL.getD j []).toArray⟩);rw[Jp,hs];exact .str _ Zav
 ·by_cases e2:l=Bg
  ·subst e2;refine⟨1,fun _=>.map (some b),by simp[gh7],by simpa[gh7]using h2,fun j c h=>?_,fun j c h=>?_⟩
   ·obtain rfl:j=0:=by
     rcases Jag j with h'|h'
     ·exact h'
     ·rw[J0 Zac]at h;cases h
    exact hc
   ·obtain rfl:j=0:=by
     rcases Jag j with h'|h'
     ·exact h'
     ·rw[J0 Zac]at h;cases h
    obtain rfl:=Jw h;obtain⟨_,s2,s3⟩:=aC;refine .cm true (ts.map kC) (ts.map rC) b ms clock (fun i j=>match ts[i]? with|some t=>if j=0 then .string ⟨t.2.1.toArray⟩else .int .i64 t.2.2|none=>.int .i64 0) (by simpa[gh7]using h3) hb (by simpa using aM) ZV (by simp[hl8,LIM]) ?_ ?_ ?_ ?_
    ·intro i j m m' hi hj he;have gi:ms.toList[i]? = some m:=(by rw[Jaj];exact hi);have gj:ms.toList[j]? = some m':=(by rw[Jaj];exact hj);rcases he with he|he
     ·have:=Ja3 (l:=ms.toList.map (·.born)) (i:=i) (j:=j) (by simpa using (Jaq.1 hi).1) s2;exact this.1 (by rw[Jn,Jn,gi,gj];simp[he])
     ·have:=Ja3 (l:=ms.toList.map (·.key)) (i:=i) (j:=j) (by simpa using (Jaq.1 hi).1) s3;exact this.1 (by rw[Jn,Jn,gi,gj];simp[he])
    ·intro i row m hr hi;obtain⟨t,ht,_,_,hv⟩:=bm i m hi;rw[Jn,ht]at hr;obtain rfl:=Jw hr;refine⟨?_,fun h=>by cases h⟩;rw[hv];simp[rC,ht,List.range_succ]
    ·intro i k m kq hi;obtain⟨t,ht,_,cW,_⟩:=bm i m hi;rw[Jn,ht]at kq;obtain rfl:=Jw kq;rw[cW];exact .int _ _
    ·intro i row j c hr hj;rw[Jn]at hr
     cases ht:ts[i]? with
     |none=>rw[ht]at hr;cases hr
     |some t=>
      rw[ht]at hr;obtain rfl:=Jw hr;have fO:t∈signL:=(hp.mem_iff).1 (J4 ht);have aE:t.2.1.length≤1:=by
       have:∀t∈signL,t.2.1.length≤1:=Zab;exact this t fO
      match j,hj with
      |0,hj=>
       obtain rfl:=Jw hj;exact .str _ Zav
      |1,hj=>
       obtain rfl:=Jw hj;exact .int _ _
      |j+2,hj=>simp[rC]at hj
  ·show SatObj _ _ _ _ (hp7 ts l);rw[hp7,if_neg e0,if_neg e1,if_neg e2];trivial
theorem calls_of_acall7 {P:Program}{f:Nat}(h:∀(H:Heap) (bs:List UInt8),GT H→bs.length≤1048576→Qm P f [.c (.sl false 1 (Bi bs))] H fun v _=>v=.c (.bool true))
  {a0:Option Addr} {len0 cap0:Nat} {z0:List Int} {w:World} (ht:TabT w) (hr:DD w a0 len0 cap0 z0) (hl:len0≤1048576) :
  Calls P f #[.slice a0 len0 cap0] w fun e w'=>e=.returned (.bool true)∧Below w.heap.size w w':=by
 obtain⟨⟨hk,b,ms,clock,ts,h1,h2,h3,h4,h5⟩,h6⟩:=ht;exact Qaie (g0:=gh7 w) (fun bs hb=>h (hp7 ts) bs (Qbk8 h4) hb) (fun b hb=>by simpa[gh7]using hb) (Qbeb h6 hk h1 h2 h3 h4 h5) hr hl
end Go.AE.Y
