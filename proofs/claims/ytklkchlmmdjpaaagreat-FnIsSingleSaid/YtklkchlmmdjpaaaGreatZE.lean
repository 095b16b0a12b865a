/- Part 5 of the proof: the engine, codes, walks and plain laws, each named where it stands. -/
import Derived.Test.YtklkchlmmdjpaaaGreatZD
open Nat (reduceEqDiff reduceAdd reduceLeDiff reduceLT)
set_option linter.unusedVariables false
set_option linter.unusedSimpArgs false
set_option maxRecDepth 4000
open Bool renaming and_eq_true->Jq,not_false->Jx,not_true->Jas,false_eq_true->Jbc,true_and->Jbv
open Classical renaming byContradiction->Jaw
open Int renaming toNat_natCast->Jax,eq_ofNat_of_zero_le->Ja1,le_refl->Jbs
open List renaming mem_singleton->Ja,getD_eq_getElem?_getD->Jb,take_of_length_le->Jc,getElem_mem->Jd,length_map->Je,take_succ_eq_append_getElem->Jg,mem_append_right->Jh,getElem?_eq_getElem->Ji,mem_map->Jk,length_cons->Jl,mem_append_left->Jm,length_nil->Jn,length_set->Jo,mem_append->Jp,mem_or_eq_of_mem_set->Jr,map_append->Js,map_cons->Jt,mem_cons_of_mem->Ju,getElem?_eq_none->Jv,mem_cons_self->Jw,drop_eq_getElem_cons->Jy,perm_append_comm->Jz,eq_of_mem_replicate->J0,getElem_cons_succ->J1,getElem_set->J2,contains_iff_mem->J3,length_append->J4,map_set->J5,mem_range->J6,mem_iff_getElem->J7,nil_append->J8,map_nil->J9,getD_cons_zero->Jaa,cons_append->Jab,getElem_map->Jac,length_take->Jad,getElem_cons_zero->Jae,idxOf_lt_length_of_mem->Jaf,getElem?_append_right->Jag,getElem?_replicate->Jah,mem_filter->Jai,append_assoc->Jaj,getElem?_set->Jak,drop_zero->Jal,map_map->Jam,set_append_right->Jan,all_eq_true->Jao,eraseIdx_set_eq->Jap,mem_of_getElem?->Jaq,append_nil->Jat,range_succ->Jau,ext_getElem?->Jay,getElem?_map->Jaz,idxOf_lt_length_iff->Ja0,flatMap_eq_nil_iff->Ja2,length_eq_zero_iff->Ja3,sum_cons->Ja4,mem_flatMap->Ja5,drop_of_length_le->Ja7,getElem_set_self->Ja8,take_append_drop->Ja9,forall_mem_cons->Jba,getElem?_set_ne->Jbb,filter_append->Jbd,getElem_range->Jbe,mem_cons->Jbf,set_cons_succ->Jbg,set_cons_zero->Jbh,flatMap_cons->Jbi,length_range->Jbj,nodup_append->Jbk,any_eq_true->Jbo,ext_getElem->Jbp,take_length->Jbq,nodup_cons->Jbt,all_cons->Jbw,set_set->Jbx
open List.Pairwise renaming filter->Jbz
open Nat renaming le_refl->Jf,zero_add->Jj,mul_le_mul_right->Jar,le_trans->Jbl,sub_self->Jbm,succ_mul->Jbn,le_add_right->Jbr,le_of_lt->Jby
open Option renaming map_some->Jav,getD_some->Ja6
open Option.some renaming inj->Jbu
namespace Go.AE.Y
open Go.Proofs.Tryz
variable {H:Heap}{K:V->Heap->Prop}
theorem Ik {op:Int}(hK:K (.c (.bool (decide (1<=op)&&decide (op<=14)))) H):Qv prog Pm [.c (.int .i64 op)] H K:=by
 refine Qc Ab Qbin ?_;refine Wd ?_;refine BF ?_;simp only[go_sem,Q2g];refine Zc ?_;exact hK
theorem Qbsb {n:Int}(hK:K (.c (.bool (decide (0<=n)&&decide (n<=255)))) H):Qv prog RG [.c (.int .i64 n)] H K:=by
 refine Qc Ab Qa89 ?_;refine Wd ?_;refine BF ?_;simp only[go_sem,Qxx];refine Zc ?_;exact hK
theorem Dj {op:Int}(hK:K (.c (.bool (AK op))) H):Qv prog Hh [.c (.int .i64 op)] H K:=by
 refine Qc Ab Qbnl ?_;refine Wd ?_;refine Ik ?_;simp only[go_sem,Q84];refine Zc ?_;have:∀a b c:Bool,(bif bif a then b else false then c else false)=(a&&b&&c):=ZR
 rw[this];have e:(decide (1<=op)&&decide (op<=14))=decide (1<=op/\op<=14):=ZF
 rw[e];exact hK
theorem FZ {j:Int}(hK:K (.c (.bool (decide (j=2) || decide (j=3)))) H):Qv prog Eo [.c (.int .i64 j)] H K:=by
 refine Qc Ab Qa9c ?_;refine Wd ?_;refine Zc ?_;have:∀a b:Bool,(bif a then true else b)=(a || b):=ZR
 first|(rw[this];exact hK)|exact hK
theorem Qa9q {j:Int}(hK:K (.c (.int .i64 (Bm j))) H):Qv prog SU [.c (.int .i64 j)] H K:=by
 refine Qc Ab Qant ?_;have retf:∀(n:Int) (e:Env),Bm j=n->lk 2 e=.c (.int .i64 n)->Q4 Sz K .ret e H:=by
  intro b e h1 h3;simp only[go_sem,Q4,Aa,Ja,forall_eq,RS.op,h3];rw[<-h1];exact hK
 refine Wf ?_;refine Wm ?_;refine Ww ?_ ?_
 ·intro hc;refine We ?_;exact retf 1 _ Zad ZE
 intro bF;refine Za ?_;refine Ww ?_ ?_
 ·intro hc;refine We ?_;exact retf 2 _ Zad ZE
 intro ao;refine Za ?_;refine Ww ?_ ?_
 ·intro hc;refine We ?_;exact retf 0 _ Zad ZE
 ·intro hc;refine Zd ?_;refine Za ?_;refine Qk ?_;exact retf (-1) _ (by simp at hc bF ao;simp[Bm,hc,bF,ao]) ZE
def By (op:Int):Int:=if op=1 then 0 else if op=2\/op=10\/op=11\/op=13 then 1 else 2
theorem Qbmr {op:Int}(hK:K (.c (.int .i64 (By op))) H):Qv prog Sf [.c (.int .i64 op)] H K:=by
 refine Qc Ab Qa0c ?_;have retf:∀(n:Int) (e:Env),By op=n->lk 2 e=.c (.int .i64 n)->Q4 P0 K .ret e H:=by
  intro b e h1 h3;simp only[go_sem,Q4,Aa,Ja,forall_eq,RS.op,h3];rw[<-h1];exact hK
 refine Wf ?_;refine Wm ?_;refine Ww ?_ ?_
 ·intro hc;refine We ?_;exact retf 0 _ (by simp at hc;simp[By,hc]) ZE
 intro bF;have fin:∀(b:Bool) (e:Env),b=decide (op=2\/op=10\/op=11\/op=13)->lk 6 e=.c (.bool b)->Ad prog Qxv (X.inBlock 0 (X.sq prog Qxw (Q4 P0 K))) e H:=by
  intro b e hb l6;refine Qf l6 ?_ ?_
  ·intro hc;refine We ?_;exact retf 1 _ (by rw[hc]at hb;have:=of_decide_eq_true hb.symm;simp at bF;rw[By,if_neg bF,if_pos this]) ZE
  ·intro hc;refine Zd ?_;refine Za ?_;refine Qk ?_;exact retf 2 _ (by rw[hc]at hb;have:=of_decide_eq_false hb.symm;simp at bF;rw[By,if_neg bF,if_neg this]) ZE
 refine Wa ?_;refine Wv ?_ ?_
 ·intro hc;refine Zd ?_;exact fin true _ (decide_eq_true (.inl (of_decide_eq_true hc))).symm Zaq
 intro ao;refine Za ?_;refine Ww ?_ ?_
 ·intro hc;refine Zd ?_;exact fin true _ (decide_eq_true (.inr (.inl (of_decide_eq_true hc)))).symm Zaq
 intro bk;refine Za ?_;refine Ww ?_ ?_
 ·intro hc;refine Zd ?_;exact fin true _ (decide_eq_true (.inr (.inr (.inl (of_decide_eq_true hc))))).symm Zaq
 intro bN;refine Zi ?_;refine fin (decide (op=13)) _ ?_ ZE;have a2:=of_decide_eq_false ao;have a3:=of_decide_eq_false bk;have a4:=of_decide_eq_false bN;simp[a2,a3,a4]
theorem Od {l:List BlkD}(hf:∀b∈l,b.ins.length<=2 ^ 38/\b.aa.length<=2 ^ 38):Ay AH l<=l.length * 549755813888:=by
 induction l with
 |nil=>simp[Ay]
 |cons y l ih=>
  have h1:=hf y Jw;have h2:=ih λb hb=>hf b (Ju _ hb);simp only[Ay,Jt,Ja4,AH,Jl]at *;omega
set_option maxHeartbeats 1000000 in
theorem Qa8a {q:CodeD}{fl:Bool}(hf:q.fits)(hb:q.blocks.length<=160)(hK:∀H',Upd H H' []->K (.c (.int .i64 (cntQ q))) H') :
  Qv prog SZ [.ag [.int .i64 q.params,.int .i64 q.ab,.sl fl 5 (Ql q.blocks)]] H K:=by
 refine Q0 ?_;refine Qc Ab Qann ?_;have gG:=Od hf;refine Wd ?_;refine Q3 (Qa ?_);simp only[go_sem,Qj];intro _;refine Qg (Qd (Qs (λm e1 H1=>∃(i:Nat),m=q.blocks.length-i/\i<=q.blocks.length/\Kn H H1 [] []/\
  e1=[(3,.c (.int .i64 (Ay AH (q.blocks.take i):Nat))),(7,.c (.sl fl 5 (Ql q.blocks))),(8,.c (.int .i64 q.blocks.length)),(9,.c (.int .i64 i))]) q.blocks.length ?_ ?_))
 ·exact⟨0,ZD,ZD,Kn.ar H,rfl⟩
 ·rintro m e1 H1 ⟨i,hm,hi,kn,rfl⟩;refine Za ?_;refine Wv ?_ ?_
  ·intro hc;have ae:i<q.blocks.length:=ZG
   have qs:=hf _ (Jd ae);have oF:=Ee (f:=AH) ae;have aP:=Du (f:=AH) (l:=q.blocks) (i+1);have fN:AH q.blocks[i]=q.blocks[i].ins.length+q.blocks[i].aa.length:=rfl;have rB:q.blocks.length * 549755813888<=160 * 549755813888:=Jar _ hb;refine Wq ?_;simp only[go_sem,ae,Qj,Q9 _ _ ae,BlkD.cells];intro x5 bm H2 h2;have kn:=kn.al bm h2;have bm:=kn.l 0 rfl;simp only[go_sem,Qms,bm];intro H3 h3;have kn:Kn H H3 [] ([]++[(x5,.st [.sl false 2 (Q8 q.blocks[i].aa),.sl false 4 (Af q.blocks[i].ins),.int .i64 q.blocks[i].jump,.int .i64 q.blocks[i].on,.sl false 1 (Qb q.blocks[i].next)])]):=kn.aB 0 rfl h3;have bm:=kn.l 0 rfl;refine Qp ?_;simp only[go_sem,bm,A0,Q5];intro _ _;refine⟨Qo,Qo,?_⟩;refine Zg ?_;refine⟨Qo,q.blocks.length-(i+1),ZD,i+1,rfl,ZD,kn.drop,?_⟩;rw[oF,fN];have:((Ay AH (q.blocks.take i):Nat):Int)+((q.blocks[i].aa.length:Int)+q.blocks[i].ins.length)=((Ay AH (q.blocks.take i)+(q.blocks[i].ins.length+q.blocks[i].aa.length):Nat):Int):=ZD
   rw[this];rfl
  ·intro hc;have aY:q.blocks.length<=i:=ZG
   refine Wn ?_;rw[Jc aY];exact⟨_,.c _ _ (Qi rfl),hK _ kn.fin⟩
theorem KJ {x7:Nat}{q:CodeD}{v:Int}(h7:H x7=.st q.cells)(hr:-(2^62)<=q.ab)(fD:q.ab<=2^62)(hK:K (.c (.bool (decide (0<=v/\v<=q.ab-1)))) H) :
  Qv prog Ht [.c (.int .i64 v),.c (.ptr x7 0)] H K:=by
 refine Qc Ab Qaun ?_;refine Wj ?_;simp only[go_sem,h7,CodeD.cells];refine⟨Qo,?_⟩;refine BF ?_;simp only[go_sem,Qph];refine Zc ?_;have e:(decide (0<=v)&&decide (v<=q.ab-1))=decide (0<=v/\v<=q.ab-1):=ZF
 rw[e];exact hK
theorem Qbh9 {x7 x8:Nat}{q:CodeD}{v:Int}(h7:H x7=.st q.cells)(h8:H x8=.st [.fn Ht [.ptr x7 0]])(hr:-(2^62)<=q.ab)(fD:q.ab<=2^62)(hK:K (.c (.bool (!decide (0<=v/\v<=q.ab-1)))) H) :
  Qv prog SA [.c (.int .i64 v),.c (.ptr x8 0)] H K:=by
 refine Qc Ab Qauo ?_;refine Wj ?_;simp only[go_sem,h8,Jab,J8,Jt,J9];refine KJ h7 hr fD ?_;simp only[go_sem,Qpi];refine Zc ?_;exact hK
theorem FW (p:Int->Bool)(l:List Int):(l.any λx=>!p x) = !l.all p:=by
 induction l with
 |nil=>rfl
 |cons x l ih=>simp only[List.any_cons,Jbw,ih];cases p x <;> simp
set_option maxHeartbeats 1000000 in
theorem XA {cs:List CodeD}{fl:Bool}{k:Nat}{x:InsD}(hk:k<cs.length)(hr:0<=cs[k].ab)(fD:cs[k].ab<=300)(cB:cs.length<=100)(hK:∀(H':Heap),Upd H H' []->K (.c (.bool (insG cs k x))) H') :
  Qv prog Rw [.ag [.sl fl 3 (Qw cs)],.c (.int .i64 k),.ag x.cells] H K:=by
 refine Q0 ?_;refine Qc Ab Qbim ?_;refine ZA ?_;refine Qa ?_;simp only[go_sem,hk,Q6,Bd _ _ hk,CodeD.cells];intro x7 dW H1 h1;have kn:=(Kn.ar H).al dW h1;have dW:=kn.l 0 rfl;simp only[go_sem,Q2d,dW];intro H2 h2;have kn:=kn.aB 0 rfl h2;refine Za ?_;intro x8 aS H3 h3;have kn:=kn.al aS h3;have aS:=kn.l 1 rfl;simp only[go_sem,Q2e,aS];intro H4 h4;have kn:Kn H H4 [] [(x7,.st cs[k].cells),(x8,.st [.fn Ht [.ptr x7 0]])]:=kn.aB 1 rfl h4;have h7:H4 x7=.st cs[k].cells:=kn.l 0 rfl;have h8:=kn.l 1 rfl;have iC:=FO hk;have retf:∀(b:Bool) (e:Env),insG cs k x=b->lk 6 e=.c (.bool b)->Q4 GW (unK H K) .ret e H4:=by
  intro b e h1 h3;simp only[go_sem,Q4,Aa,Ja,forall_eq,RS.op,h3];rw[<-h1];exact⟨_,.c _ _ (Qi rfl),hK _ kn.fin⟩
 refine Wa ?_;refine Ik ?_;simp only[go_sem,Q2f];have rest2:∀(E1:Env) (b:Bool),insH cs[k].ab x=true->insT cs[k].ab x=(!b)->lk 1 E1=.c (.int .i64 k)->lk 3 E1=.c (.pp [.sl fl 3 (Qw cs)])->lk 5 E1=.c (.pp [.int .i64 x.op,.int .i64 x.to,.sl false 1 (Qb x.args),.int .i64 x.n])->lk 45 E1=.c (.bool b)->
   Ad prog (s_im_insOk_8.seq Q2b) (Q4 GW (unK H K)) E1 H4:=by
  intro E1 b bf cI l1 l3 l5 l45;refine Qg (Qf l45 ?_ ?_)
  ·intro hc;refine We ?_;exact retf false _ (by rw[insG,iC,cI,hc];simp) ZE
  intro hc;rw[hc]at cI;have hG:insG cs k x=insL cs k x:=by rw[insG,iC,bf,cI];rfl
  have n9:1<=x.op/\x.op<=14:=by
   simp only[insH,Jq,decide_eq_true_eq]at bf;exact bf.1
  refine Zd ?_;refine Q3 (Qa ?_);simp only[go_sem,l1,l3,l5];refine Wm ?_;refine Ww ?_ ?_
  ·intro hc;have bP:x.op=1:=of_decide_eq_true hc;have hL:insL cs k x=(decide ((x.args.length:Int)=0)&&(decide (0<=x.n)&&decide (x.n<=255))):=by
    rw[insL,if_neg ZD];simp[Bx,bP]
   refine Qa ?_;simp only[go_sem,Qe];intro _;refine⟨λhb=>?_,λhb=>?_⟩
   ·refine Qbsb ?_;simp only[go_sem,RU];refine Zk ?_;refine retf _ _ ?_ ZL;have aU:x.args=[]:=Ja3.1 (by have:=of_decide_eq_true hb;omega);rw[hG,hL];simp[aU]
   ·simp only[go_sem,RU,hb];refine Zk ?_;exact retf false _ (by rw[hG,hL,hb];rfl) ZE
  intro bF;have oT:¬x.op=1:=of_decide_eq_false bF;refine Za ?_;refine Ww ?_ ?_
  ·intro hc;have bP:x.op=14:=of_decide_eq_true hc;rw[insL,if_pos bP]at hG;refine ZB ?_;refine⟨Qo,?_⟩;refine BF ?_;by_cases cV:0<=x.n/\x.n<=(k:Int)-1
   ·obtain⟨m,hm⟩:=Ja1 cV.1;have cF:m<cs.length:=ZD;have h1:(0<=(m:Int))=True:=eq_true ZD;have h2:((m:Int)<=(k:Int)-1)=True:=eq_true ZD;simp only[go_sem,PD,hm,h1,h2,cF,decide_true,Bool.and_self,Q6,Bd _ _ cF,CodeD.cells,Qe];refine Zk ?_;refine retf _ _ ?_ ZL;rw[hG,hm,Jax,D2 cF];simp only[h1,h2,and_self,decide_true,Jbv]
   ·have gx:(decide (0<=x.n)&&decide (x.n<=(k:Int)-1))=false:=(by simpa using cV);have rU:decide (0<=x.n/\x.n<=(k:Int)-1)=false:=(by simpa using cV);by_cases hm:x.n.toNat<cs.length
    ·simp only[go_sem,PD,gx,Bd _ _ hm,CodeD.cells];refine Zk ?_;exact retf false _ (by rw[hG,rU];rfl) ZE
    ·have bQ:(Qw cs).getD x.n.toNat []=[]:=by
      rw[Jb,Jv (by rw[Q6];omega)];rfl
     simp only[go_sem,PD,gx,bQ,List.take_nil,List.headD_nil];refine Zk ?_;exact retf false _ (by rw[hG,rU];rfl) ZE
  ·intro hc;have bP:¬x.op=14:=of_decide_eq_false hc;have hA:Bx x.op=By x.op:=by
    rw[Bx,By,if_neg oT,if_neg oT];split
    ·rfl
    ·rw[if_pos ZD]
   have hL:insL cs k x=(decide (x.n=0)&&decide ((x.args.length:Int)=By x.op)):=by
    rw[insL,if_neg bP,hA];by_cases hn:x.n=0
    ·simp[hn]
    ·simp[hn,oT]
   refine Zd ?_;refine Aj ?_;simp only[go_sem,Qe];refine⟨λhb=>?_,λhb=>?_⟩
   ·refine Qbmr ?_;simp only[go_sem,Sr,hb,Qe];refine Qk ?_;refine retf _ _ ?_ ZL;have aU:=of_decide_eq_true hb;rw[hG,hL];simp[aU]
   ·simp only[go_sem,Sr,hb,Qe];refine Qk ?_;exact retf false _ (by rw[hG,hL,hb];rfl) ZE
 have rest:∀(E1:Env) (b:Bool),insH cs[k].ab x=(!b)->lk 1 E1=.c (.int .i64 k)->lk 3 E1=.c (.pp [.sl fl 3 (Qw cs)])->lk 5 E1=.c (.pp [.int .i64 x.op,.int .i64 x.to,.sl false 1 (Qb x.args),.int .i64 x.n])->lk 8 E1=.c (.ptr x8 0)->lk 24 E1=.c (.bool b)->
   Ad prog (s_im_insOk_4.seq Q2c) (Q4 GW (unK H K)) E1 H4:=by
  intro E1 b hb l1 l3 l5 l8 l24;refine Qg (Qf l24 ?_ ?_)
  ·intro hc;refine We ?_;exact retf false _ (by rw[insG,iC,hb,hc];rfl) ZE
  intro hc;rw[hc]at hb;refine Zd ?_;refine Q3 (Qa ?_);simp only[go_sem,l5];refine Dj ?_
  cases cF:AK x.op with
  |true=>
   simp only[go_sem,Jx,RV,l5,l8,h8];refine KJ h7 ZD ZD ?_;have hT:insT cs[k].ab x=decide (0<=x.to/\x.to<=cs[k].ab-1):=by rw[insT,cF];rfl
   cases hd:decide (0<=x.to/\x.to<=cs[k].ab-1)with
   |true=>
    simp only[go_sem,cond_true,Jas,Jx,P7,l5];refine Dj ?_;simp only[go_sem,cond_false,Jas,Jx,P8,l1,l3,l5,cF];exact rest2 _ false hb (by rw[hT,hd];rfl) ZE ZE ZE ZE
   |false=>
    simp only[go_sem,cond_true,Jas,Jx,P7,P8,l1,l3,l5];exact rest2 _ true hb (by rw[hT,hd];rfl) ZE ZE ZE ZE
  |false=>
   have hT:insT cs[k].ab x=decide (x.to=-1):=by rw[insT,cF];rfl
   simp only[go_sem,cond_false,Jx,RV,P7,l5,l8,h8];refine Dj ?_;simp only[go_sem,cond_true,cond_false,Jx,P8,l1,l3,l5,cF];refine rest2 _ (!decide (x.to=-1)) hb ?_ ?_ ?_ ?_ ?_
   ·rw[hT];simp
   ·rfl
   ·rfl
   ·rfl
   ·rfl
 cases hi:(decide (1<=x.op)&&decide (x.op<=14))with
 |false=>
  simp only[go_sem,RX];refine rest _ true ?_ ZE ZE ZE ZE ZE;have:decide (1<=x.op/\x.op<=14)=false:=Zah
  rw[insH,this];rfl
 |true=>
  simp only[go_sem];refine Hu (p:=λr=>!decide (0<=r/\r<=cs[k].ab-1)) (.mk' _ _ _ _) rfl (λv K' hv jH=>Qbh9 h7 h8 ZD ZD jH) ?_;simp only[go_sem,RX];refine rest _ (x.args.any λr=>!decide (0<=r/\r<=cs[k].ab-1)) ?_ ZE ZE ZE ZE ZE;have:decide (1<=x.op/\x.op<=14)=true:=Zah
  rw[insH,this,FW,Bw];simp
end Go.AE.Y
namespace Go.AE.Y
attribute [local go_sem] cond_true cond_false Bool.not_true Bool.not_false
open Go.Proofs.Tryz
variable {H:Heap}{K:V->Heap->Prop}
theorem Qazd {fl:Bool}{l:List InsD}{f:Nat}{caps:List C}{p:InsD->Bool}
  (hf:∀(x:InsD) (H1:Heap) (K':V->Heap->Prop),x∈l->(∀H2,Upd H1 H2 []->K' (.c (.bool (p x))) H2)->Qv prog f ([.ag x.cells]++caps.map .c) H1 K')
  (hK:∀(r:Int) (H':Heap),Upd H H' []->decide (0<=r)=l.any p->K (.c (.int .i64 r)) H') :
  Qv prog T5 [.c (.sl fl 4 (Af l)),.c (.fn f caps)] H K:=by
 refine Q0 ?_;refine Qc Ab Q1p ?_;refine Wg ?_;simp only[go_sem,A0];intro hl;simp only[LIM]at hl;refine Qg (Qd (Qs (λm e1 H1=>∃(i:Nat),m=l.length-i/\i<=l.length/\Kn H H1 [] []/\(∀x∈l.take i,p x=false)/\e1=[(0,.c (.sl fl 4 (Af l))),(1,.c (.fn f caps)),(7,.c (.int .i64 l.length)),(8,.c (.int .i64 i))]) l.length ?_ ?_))
 ·exact⟨0,ZD,ZD,Kn.ar H,ZF,rfl⟩
 ·rintro m e1 H1 ⟨i,hm,hi,kn,bg,rfl⟩;refine Za ?_;refine Wv ?_ ?_
  ·intro hc;have ae:i<l.length:=ZG
   refine Wb ?_;refine Wj ?_;simp only[go_sem,ae,A0,BR _ _ ae,InsD.cK,InsD.bt,InsD.len4];refine hf _ _ _ (Jd ae) λH2 hu=>?_;have kn:=kn.aw hu;refine Ww ?_ ?_
   ·intro ao;refine Za ?_;refine Zm ?_;refine⟨_,.c _ _ (Qi rfl),hK _ _ kn.fin ?_⟩;have:l.any p=true:=Jbo.2 ⟨_,Jd ae,ao⟩;rw[this];simp
   ·intro ao;refine Wl ?_;refine⟨Qo,l.length-(i+1),ZD,i+1,rfl,ZD,kn,?_,rfl⟩;rw[Jg ae];intro x hx;rcases Jp.1 hx with hx|hx
    ·exact bg x hx
    ·simp only[Ja]at hx;subst hx;exact ao
  ·intro hc;have aY:l.length<=i:=ZG
   rw[Jc aY]at bg;refine Wn ?_;refine⟨_,.c _ _ (Qi rfl),hK _ _ kn.fin ?_⟩;have:l.any p=false:=by
    cases hc:l.any p with
    |false=>rfl
    |true=>obtain⟨x,hx,hp⟩:=Jbo.1 hc;rw[bg x hx]at hp;exact absurd hp ZF
   rw[this];rfl
theorem Qafa {fl:Bool}{l:List InsD}{f:Nat}{caps:List C}{p:InsD->Bool}
  (hf:∀(x:InsD) (H1:Heap) (K':V->Heap->Prop),x∈l->(∀H2,Upd H1 H2 []->K' (.c (.bool (p x))) H2)->Qv prog f ([.ag x.cells]++caps.map .c) H1 K')
  (hK:∀(H':Heap),Upd H H' []->K (.c (.bool (l.any p))) H') :
  Qv prog TG [.c (.sl fl 4 (Af l)),.c (.fn f caps)] H K:=by
 refine Qc Ab Qst ?_;refine Wd ?_;refine Qazd hf λr H' hu hr=>?_;simp only[go_sem,Qeq];refine Zc ?_;rw[hr];exact hK _ hu
theorem Rz {x5:Nat}{q:CodeD}{v:Int}(h5:H x5=.st q.cells)(hr:-(2^62)<=q.ab)(fD:q.ab<=2^62)(hK:K (.c (.bool (decide (0<=v/\v<=q.ab-1)))) H) :
  Qv prog Cj [.c (.int .i64 v),.c (.ptr x5 0)] H K:=by
 refine Qc Ab Qano ?_;refine Wj ?_;simp only[go_sem,h5,CodeD.cells];refine⟨Qo,?_⟩;refine BF ?_;simp only[go_sem,Qmt];refine Zc ?_;have e:(decide (0<=v)&&decide (v<=q.ab-1))=decide (0<=v/\v<=q.ab-1):=ZF
 rw[e];exact hK
theorem Qa8b {x5:Nat}{q:CodeD}{v:Int}(h5:H x5=.st q.cells)(hb:q.blocks.length<=2 ^ 38)(hK:K (.c (.bool (!AC (Ql q.blocks).length v))) H) :
  Qv prog SY [.c (.int .i64 v),.c (.ptr x5 0)] H K:=by
 refine Qc Ab Qanp ?_;refine Wj ?_;simp only[go_sem,h5,CodeD.cells,Qj];intro _;refine⟨Qo,?_⟩;refine BF ?_;simp only[go_sem,Qmu];refine Zc ?_;have e:(decide (1<=v)&&decide (v<=(q.blocks.length:Int)-1))=AC (Ql q.blocks).length v:=by simp[AC,Qj]
 rw[e];exact hK
theorem Qa8c {cs:List CodeD}{fl:Bool}{k:Nat}{x:InsD}(hk:k<cs.length)(hr:0<=cs[k].ab)(fD:cs[k].ab<=300)(cB:cs.length<=100)(hK:∀(H':Heap),Upd H H' []->K (.c (.bool (!insG cs k x))) H') :
  Qv prog SX [.ag x.cells,.c (.pp [.sl fl 3 (Qw cs)]),.c (.pp [.int .i64 k])] H K:=by
 refine Qc Ab Qanq ?_;refine ZA ?_;refine Za ?_;refine XA hk hr fD cB λH' hu=>?_;simp only[go_sem,Qmv];refine Zc ?_;exact hK _ hu
theorem Qa8d {x5 x6:Nat}{q:CodeD}{v:Int}(h5:H x5=.st q.cells)(h6:H x6=.st [.fn Cj [.ptr x5 0]])(hr:-(2^62)<=q.ab)(fD:q.ab<=2^62)(hK:K (.c (.bool (!decide (0<=v/\v<=q.ab-1)))) H) :
  Qv prog SW [.c (.int .i64 v),.c (.ptr x6 0)] H K:=by
 refine Qc Ab Qanr ?_;refine Wj ?_;simp only[go_sem,h6,Jab,J8,Jt,J9];refine Rz h5 hr fD ?_;simp only[go_sem,Qmw];refine Zc ?_;exact hK
attribute [local instance] Classical.propDecidable
def blkC (b:BlkD):Obj:=.st [.sl false 2 (Q8 b.aa),.sl false 4 (Af b.ins),.int .i64 b.jump,.int .i64 b.on,.sl false 1 (Qb b.next)]
theorem Kg {cs:List CodeD}{k:Nat}{hk:k<cs.length}(h:¬AX cs k hk):decide (AX cs k hk)=false:=decide_eq_false h
set_option maxHeartbeats 2000000 in
theorem Qbrl {cs:List CodeD}{fl:Bool}{k:Nat}(hk:k<cs.length)(cB:cs.length<=100)(aL:cs[k].fits)(hK:∀(H':Heap),Upd H H' []->K (.c (.bool (decide (AX cs k hk)))) H') :
  Qv prog RN [.ag [.sl fl 3 (Qw cs)],.c (.int .i64 k)] H K:=by
 refine Q0 ?_;refine Qc Ab Qa87 ?_;have retf:∀(v:Bool) (e:Env) (H':Heap) (L:List (Nat×Obj)),decide (AX cs k hk)=v->Kn H H' [] L->lk 4 e=.c (.bool v)->Q4 Hl (unK H K) .ret e H':=by
  intro v e H' L hb kn h3;simp only[go_sem,Q4,Aa,Ja,forall_eq,RS.op,h3];rw[<-hb];exact⟨_,.c _ _ (Qi rfl),hK _ kn.fin⟩
 obtain⟨q,hq⟩:∃q,cs[k]=q:=⟨_,rfl⟩;have hP:AX cs k hk=(Bv q=true/\∀(b:Nat) (h:b<q.blocks.length),blkG cs k b q q.blocks[b]=true):=by subst hq;rfl
 refine Wj ?_;simp only[go_sem,hk,Q6,Bd _ _ hk,CodeD.cells,hq];intro x5 bm H1 h1;have kn:=(Kn.ar H).al bm h1;have bm:=kn.l 0 rfl;simp only[go_sem,Qxm,bm];intro H2 h2;have kn:Kn H H2 [] [(x5,.st q.cells)]:=kn.aB 0 rfl h2;have bm:H2 x5=.st [.int .i64 q.params,.int .i64 q.ab,.sl false 5 (Ql q.blocks)]:=kn.l 0 rfl;refine Q3 (Qa ?_);simp only[go_sem,bm];refine BF ?_;have rest0:∀(b:Bool) (E1:Env),Bv q=(!b)->lk 2 E1=.c (.pp [.sl fl 3 (Qw cs)])->lk 3 E1=.c (.pp [.int .i64 k])->lk 5 E1=.c (.ptr x5 0)->lk 36 E1=.c (.bool b)->
   Ad prog (s_im_codeOk_4.seq Qxl) (Q4 Hl (unK H K)) E1 H2:=by
  intro b E1 hb l2 l3 l5 l36;refine Qg (Qf l36 ?_ ?_)
  ·intro hc;refine We ?_;exact retf false _ _ _ (Kg λh=>by rw[hP,hb,hc]at h;simp at h) kn ZE
  intro hc;rw[hc]at hb;have aU:=hb;simp only[Bv,Jx,Jq,decide_eq_true_eq]at aU;obtain⟨bH,dC,fw,bG⟩:0<=q.ab/\q.ab<=300/\0<q.blocks.length/\q.blocks.length<=160:=ZD
  refine Zd ?_;refine Zh l5 ?_;intro x6 ba H3 h3;have kn:=kn.al ba h3;have ba:=kn.l 1 rfl;simp only[go_sem,Qxn,ba,l2,l3,l5];intro H4 h4;have kn:Kn H H4 [] [(x5,.st q.cells),(x6,.st [.fn Cj [.ptr x5 0]])]:=kn.aB 1 rfl h4;have bm:H4 x5=.st [.int .i64 q.params,.int .i64 q.ab,.sl false 5 (Ql q.blocks)]:=kn.l 0 rfl;refine Q3 (Qa ?_);simp only[go_sem,bm,Qj];intro _;refine Qg (Qd (Qs (λm e1 H1=>∃(j:Nat),m=q.blocks.length-j/\j<=q.blocks.length/\(∀(i:Nat) (hi:i<q.blocks.length),i<j->blkG cs k i q q.blocks[i]=true)/\Kn H H1 [] [(x5,.st q.cells),(x6,.st [.fn Cj [.ptr x5 0]])]/\
   e1=[(2,.c (.pp [.sl fl 3 (Qw cs)])),(3,.c (.pp [.int .i64 k])),(5,.c (.ptr x5 0)),(6,.c (.ptr x6 0)),(39,.c (.sl false 5 (Ql q.blocks))),(40,.c (.int .i64 q.blocks.length)),(41,.c (.int .i64 j))]) q.blocks.length ?_ ?_))
  ·exact⟨0,ZD,ZD,λ_ _ h=>ZD,kn,rfl⟩
  ·rintro m e1 H5 ⟨j,hm,hj,cS,kn,rfl⟩;refine Za ?_;refine Wv ?_ ?_
   ·intro bF;have ae:j<q.blocks.length:=ZaV;have qs:q.blocks[j].ins.length<=2 ^ 38/\q.blocks[j].aa.length<=2 ^ 38:=(by subst hq;exact aL _ (Jd ae));refine Zd ?_;refine Az (λe2 H2=>Kn H H2 [] [(x5,.st q.cells),(x6,.st [.fn Cj [.ptr x5 0]])]/\blkG cs k j q q.blocks[j]=true/\lk 2 e2=.c (.pp [.sl fl 3 (Qw cs)])/\lk 3 e2=.c (.pp [.int .i64 k])/\lk 5 e2=.c (.ptr x5 0)/\lk 6 e2=.c (.ptr x6 0)/\
     lk 39 e2=.c (.sl false 5 (Ql q.blocks))/\lk 40 e2=.c (.int .i64 q.blocks.length)/\lk 41 e2=.c (.int .i64 j)) ?_ ?_
    ·intro Q br ju _;replace ju:∀e H',Q4 Hl (unK H K) .ret e H'->Q .ret e H':=λe H' h=>ju e H' (by simpa only[go_sem,X.next]using h);have retq:∀(e:Env) (H':Heap) (L:List (Nat×Obj)),blkG cs k j q q.blocks[j]=false->Kn H H' [] L->lk 4 e=.c (.bool false)->Q .ret e H':=λe H' L hb kn l4=>
      ju e H' (retf false e H' L (Kg λh=>by rw[hP]at h;rw[h.2 j ae]at hb;exact absurd hb ZF) kn l4)
     have jj:blkG cs k j q q.blocks[j]=(B7 q.ab q.blocks[j]&&q.blocks[j].next.all (AC (Ql q.blocks).length)&&q.blocks[j].ins.all (insG cs k)&&q.blocks[j].aa.all (phiG q.ab (Qz (gnx q) (j:Int) (Ql q.blocks).length).length j)):=rfl;refine Qd (Qa ?_);simp only[go_sem,ae,Qj,Q9 _ _ ae,BlkD.cells];obtain⟨y,hy⟩:∃y,q.blocks[j]=y:=⟨_,rfl⟩;rw[hy]at jj retq qs br;rw[hy];intro x8 aS H6 h6;have kn:=kn.al aS h6;have aS:=kn.l 2 rfl;simp only[go_sem,Qxo,aS];intro H7 h7;have kn:Kn H H7 [] [(x5,.st q.cells),(x6,.st [.fn Cj [.ptr x5 0]]),(x8,blkC y)]:=kn.aB 2 rfl h7;have bm:H7 x5=.st [.int .i64 q.params,.int .i64 q.ab,.sl false 5 (Ql q.blocks)]:=kn.l 0 rfl;have kq:H7 x5=.st q.cells:=kn.l 0 rfl;have ba:=kn.l 1 rfl;have aS:H7 x8=.st [.sl false 2 (Q8 y.aa),.sl false 4 (Af y.ins),.int .i64 y.jump,.int .i64 y.on,.sl false 1 (Qb y.next)]:=kn.l 2 rfl;have rest3:∀(E1:Env) (H8:Heap),B7 q.ab y=true->y.next.all (AC (Ql q.blocks).length)=true->y.ins.all (insG cs k)=true->Kn H H8 [] [(x5,.st q.cells),(x6,.st [.fn Cj [.ptr x5 0]]),(x8,blkC y)]->
       lk 2 E1=.c (.pp [.sl fl 3 (Qw cs)])->lk 3 E1=.c (.pp [.int .i64 k])->lk 5 E1=.c (.ptr x5 0)->lk 6 E1=.c (.ptr x6 0)->lk 7 E1=.c (.int .i64 j)->lk 8 E1=.c (.ptr x8 0)->
       lk 39 E1=.c (.sl false 5 (Ql q.blocks))->lk 40 E1=.c (.int .i64 q.blocks.length)->lk 41 E1=.c (.int .i64 j)->Ad prog Su (X.inBlock 1 Q) E1 H8:=by
      intro E1 H8 g1 g2 g3 kn l2 l3 l5 l6 l7 l8 l39 l40 l41;have bm:H8 x5=.st [.int .i64 q.params,.int .i64 q.ab,.sl false 5 (Ql q.blocks)]:=kn.l 0 rfl;have cV:(decide (0<=(j:Int))&&decide ((j:Int)<=((Ql q.blocks).length:Int)-1))=true:=(by rw[Qj];simp;omega);refine Zo bm l5 l7 ?_;refine FD (rows:=Ql q.blocks) (nx:=gnx q) (Cs _ q false) λfl' H9 hu=>?_;have kn:=kn.aw hu;rw[DK,if_pos cV];generalize kN:Qz (gnx q) (j:Int) (Ql q.blocks).length=ps;rw[kN]at jj;simp only[go_sem,Qtf,l2,l3,l5,l6,l7,l8,l39,l40,l41,Qe];intro _;have aS:H9 x8=.st [.sl false 2 (Q8 y.aa),.sl false 4 (Af y.ins),.int .i64 y.jump,.int .i64 y.on,.sl false 1 (Qb y.next)]:=kn.l 2 rfl;refine Qa ?_;simp only[go_sem,aS,Q5];intro _;refine Qd (Qs (λm e1 H1=>∃(i:Nat),m=y.aa.length-i/\i<=y.aa.length/\(y.aa.take i).all (phiG q.ab ps.length j)=true/\Kn H H1 [] [(x5,.st q.cells),(x6,.st [.fn Cj [.ptr x5 0]])]/\
       e1=[(2,.c (.pp [.sl fl 3 (Qw cs)])),(3,.c (.pp [.int .i64 k])),(5,.c (.ptr x5 0)),(6,.c (.ptr x6 0)),(7,.c (.int .i64 j)),(9,.c (.int .i64 ps.length)),(39,.c (.sl false 5 (Ql q.blocks))),(40,.c (.int .i64 q.blocks.length)),(41,.c (.int .i64 j)),(91,.c (.sl false 2 (Q8 y.aa))),(92,.c (.int .i64 y.aa.length)),(93,.c (.int .i64 i))]) y.aa.length ?_ ?_)
      ·exact⟨0,ZD,ZD,rfl,kn.drop (A:=[_,_]),rfl⟩
      ·rintro m2 e1 H10 ⟨i,eK,hi,bg,kn,rfl⟩;refine Za ?_;refine Wv ?_ ?_
       ·intro ao;have ck:i<y.aa.length:=ZI;refine Wq ?_;simp only[go_sem,ck,Q5,Br _ _ ck,PhiD.cells];obtain⟨z,hz⟩:∃z,y.aa[i]=z:=⟨_,rfl⟩;rw[hz];intro x11 eG H11 dG;have kn:=kn.al eG dG;have eG:=kn.l 2 rfl;simp only[go_sem,Qtg,eG];intro H12 f0;have kn:Kn H H12 [] ([(x5,.st q.cells),(x6,.st [.fn Cj [.ptr x5 0]])]++[(x11,.st [.int .i64 z.to,.sl false 1 (Qb z.args)])]):=kn.aB 2 rfl f0;have kq:H12 x5=.st q.cells:=kn.l 0 rfl;have ba:=kn.l 1 rfl;have eG:=kn.l 2 rfl;have fin:∀(b3:Bool) (E1:Env),phiG q.ab ps.length j z=(!b3)->lk 2 E1=.c (.pp [.sl fl 3 (Qw cs)])->lk 3 E1=.c (.pp [.int .i64 k])->lk 5 E1=.c (.ptr x5 0)->lk 6 E1=.c (.ptr x6 0)->lk 7 E1=.c (.int .i64 j)->lk 9 E1=.c (.int .i64 ps.length)->
          lk 39 E1=.c (.sl false 5 (Ql q.blocks))->lk 40 E1=.c (.int .i64 q.blocks.length)->lk 41 E1=.c (.int .i64 j)->lk 91 E1=.c (.sl false 2 (Q8 y.aa))->lk 92 E1=.c (.int .i64 y.aa.length)->lk 93 E1=.c (.int .i64 i)->lk 118 E1=.c (.bool b3)->
          Ad prog Qxi (X.inBlock 3 (X.sq prog Qxj (X.next (λe2 H2=>∃m,m<m2/\∃(i:Nat),m=y.aa.length-i/\i<=y.aa.length/\(y.aa.take i).all (phiG q.ab ps.length j)=true/\Kn H H2 [] [(x5,.st q.cells),(x6,.st [.fn Cj [.ptr x5 0]])]/\
           e2=[(2,.c (.pp [.sl fl 3 (Qw cs)])),(3,.c (.pp [.int .i64 k])),(5,.c (.ptr x5 0)),(6,.c (.ptr x6 0)),(7,.c (.int .i64 j)),(9,.c (.int .i64 ps.length)),(39,.c (.sl false 5 (Ql q.blocks))),(40,.c (.int .i64 q.blocks.length)),(41,.c (.int .i64 j)),(91,.c (.sl false 2 (Q8 y.aa))),(92,.c (.int .i64 y.aa.length)),(93,.c (.int .i64 i))])
           (X.inBlock 2 (X.inBlock 1 Q))))) E1 H12:=by
         intro b3 E1 dB l2 l3 l5 l6 l7 l9 l39 l40 l41 l91 l92 l93 l118;refine Qf l118 ?_ ?_
         ·intro bk;refine Wi ?_;exact retq _ _ _ (by rw[jj,D3 ck (by rw[hz,dB,bk];rfl)];simp) kn ZE
         ·intro bk;refine Zd ?_;refine Qp ?_;simp only[go_sem,X.next,l2,l3,l5,l6,l7,l9,l39,l40,l41,l91,l92,l93];exact⟨Qo,y.aa.length-(i+1),ZD,i+1,rfl,ZD,by rw[DA ck,bg,hz,dB,bk];rfl,kn.drop,rfl⟩
        have ta:phiG q.ab ps.length j z=(!decide (j=0)&&decide ((z.args.length:Int)=ps.length)&&Bw q.ab z.args&&decide (0<=z.to/\z.to<=q.ab-1)):=rfl;refine Za ?_
        cases jQ:decide ((j:Int)=0)with
        |true=>
         have pq:decide (j=0)=true:=(by simpa using jQ);simp only[go_sem,Hz,HA];exact fin true _ (by rw[ta,pq];rfl) ZE ZE ZE ZE ZE ZE ZE ZE ZE ZE ZE ZE ZE
        |false=>
         have pq:decide (j=0)=false:=(by simpa using jQ);simp only[go_sem,eG,ba,Jt,J9];refine Rz kq ZD ZD ?_
         cases ht:decide (0<=z.to/\z.to<=q.ab-1)with
         |false=>
          simp only[go_sem,Hz,HA];exact fin true _ (by rw[ta,ht];simp) ZE ZE ZE ZE ZE ZE ZE ZE ZE ZE ZE ZE ZE
         |true=>
          by_cases dk:(z.args.length:Int)=ps.length
          ·simp only[go_sem,Hz,eG,Qe,dk,decide_true,Jas];intro _;refine Hu (p:=λr=>!decide (0<=r/\r<=q.ab-1)) (.mk' _ _ _ _) rfl (λv K' hv jH=>Qa8d kq ba ZD ZD jH) ?_;simp only[go_sem,HA];refine fin (z.args.any λr=>!decide (0<=r/\r<=q.ab-1)) _ ?_ ZE ZE ZE ZE ZE ZE ZE ZE ZE ZE ZE ZE ZE;rw[ta,pq,ht,FW,dk,Bw];simp
          ·simp only[go_sem,Hz,HA,eG,Qe,dk,decide_false,Jx];intro _;exact fin true _ (by rw[ta];simp[dk]) ZE ZE ZE ZE ZE ZE ZE ZE ZE ZE ZE ZE ZE
       ·intro ao;have aY:y.aa.length<=i:=ZI;rw[Jc aY]at bg;refine Zb ?_;exact br _ _ ⟨kn,by rw[jj,g1,g2,g3,bg];rfl,rfl,rfl,rfl,rfl,rfl,rfl,rfl⟩
     have rest2:∀(b1:Bool) (E1:Env),B7 q.ab y=(!b1)->lk 2 E1=.c (.pp [.sl fl 3 (Qw cs)])->lk 3 E1=.c (.pp [.int .i64 k])->lk 5 E1=.c (.ptr x5 0)->lk 6 E1=.c (.ptr x6 0)->lk 7 E1=.c (.int .i64 j)->lk 8 E1=.c (.ptr x8 0)->
       lk 39 E1=.c (.sl false 5 (Ql q.blocks))->lk 40 E1=.c (.int .i64 q.blocks.length)->lk 41 E1=.c (.int .i64 j)->lk 75 E1=.c (.bool b1)->Ad prog (s_im_codeOk_11.seq Qxk) (X.inBlock 1 Q) E1 H7:=by
      intro b1 E1 bf l2 l3 l5 l6 l7 l8 l39 l40 l41 l75;refine Qg (Qf l75 ?_ ?_)
      ·intro ao;refine We ?_;exact retq _ _ _ (by rw[jj,bf,ao];simp) kn ZE
      intro ao;rw[ao]at bf;refine Zd ?_;refine Q3 (Qa ?_);simp only[go_sem,aS,l5,l8];refine Hu (p:=λv=>!AC (Ql q.blocks).length v) (.mk' _ _ _ _) rfl (λv K' hv jH=>Qa8b kq ZD jH) ?_;have fin:∀(b:Bool) (E1:Env) (H8:Heap),(y.next.all (AC (Ql q.blocks).length)&&y.ins.all (insG cs k))=(!b)->Kn H H8 [] [(x5,.st q.cells),(x6,.st [.fn Cj [.ptr x5 0]]),(x8,blkC y)]->lk 2 E1=.c (.pp [.sl fl 3 (Qw cs)])->lk 3 E1=.c (.pp [.int .i64 k])->lk 5 E1=.c (.ptr x5 0)->lk 6 E1=.c (.ptr x6 0)->lk 7 E1=.c (.int .i64 j)->lk 8 E1=.c (.ptr x8 0)->
        lk 39 E1=.c (.sl false 5 (Ql q.blocks))->lk 40 E1=.c (.int .i64 q.blocks.length)->lk 41 E1=.c (.int .i64 j)->lk 85 E1=.c (.bool b)->Ad prog (s_im_codeOk_14.seq Su) (X.inBlock 1 Q) E1 H8:=by
       intro b E1 H8 hb kn l2 l3 l5 l6 l7 l8 l39 l40 l41 l85;refine Qg (Qf l85 ?_ ?_)
       ·intro bk;refine We ?_;exact retq _ _ _ (by rw[jj,Bool.and_assoc (B7 _ _),hb,bk];simp) kn ZE
       ·intro bk;rw[bk]at hb;simp only[Jx,Jq]at hb;refine Zd ?_;exact rest3 E1 H8 bf hb.1 hb.2 kn l2 l3 l5 l6 l7 l8 l39 l40 l41
      rw[FW]
      cases ha:y.next.all (AC (Ql q.blocks).length)with
      |false=>
       simp only[go_sem,SL,SM,l2,l3,l5,l6,l7,l8,l39,l40,l41];exact fin true _ _ (by rw[ha];rfl) kn ZE ZE ZE ZE ZE ZE ZE ZE ZE ZE
      |true=>
       simp only[go_sem,SL,aS,l2,l3,l8];refine Qafa (p:=λx=>!insG cs k x) (λx H1 K' hx jH=>Qa8c hk (by rw[hq];exact bH) (by rw[hq];exact dC) cB jH) λH8 hu=>?_;have kn:=kn.aw hu;simp only[go_sem,SM,l2,l3,l5,l6,l7,l8,l39,l40,l41];refine fin (y.ins.any λx=>!insG cs k x) _ _ ?_ kn ZE ZE ZE ZE ZE ZE ZE ZE ZE ZE;rw[ha,<-List.not_all_eq_any_not];simp
     refine Q3 (Aj ?_);simp only[go_sem,aS,Qe];refine Qa9q ?_;have ts:B7 q.ab y=(decide ((y.next.length:Int)=Bm y.jump)&&if y.jump=1 then decide (y.on=0)else decide (0<=y.on/\y.on<=q.ab-1)):=rfl;by_cases hn:(y.next.length:Int)=Bm y.jump
     ·have vU:y.jump=1\/(y.jump=2\/y.jump=3)/\¬y.jump=1:=by
       rw[Bm]at hn;split at hn
       ·exact .inl ‹_›
       ·split at hn
        ·omega
        ·split at hn
         ·omega
         ·omega
      simp only[go_sem,SN,aS,Qe,hn,decide_true,Jas];refine FZ ?_;rcases vU with h1|⟨h1,h2⟩
      ·have hu:(decide (y.jump=2) || decide (y.jump=3))=false:=(by simp[h1]);simp only[go_sem,PE,Hv,hu,aS];refine FZ ?_;simp only[go_sem,Hw,hu,aS];exact rest2 (!decide (y.on=0)) _ (by rw[ts,if_pos h1,hn];simp) ZE ZE ZE ZE ZE ZE ZE ZE ZE ZE
      ·have hu:(decide (y.jump=2) || decide (y.jump=3))=true:=Zaw;simp only[go_sem,PE,hu,aS,ba,Jab,J8,Jt,J9];refine Rz kq ZD ZD ?_
       cases ho:decide (0<=y.on/\y.on<=q.ab-1)with
       |true=>
        simp only[go_sem,Hv,aS];refine FZ ?_;simp only[go_sem,Hw,hu,aS];exact rest2 false _ (by rw[ts,if_neg h2,hn,ho];simp) ZE ZE ZE ZE ZE ZE ZE ZE ZE ZE
       |false=>
        simp only[go_sem,Hv,Hw,aS];exact rest2 true _ (by rw[ts,if_neg h2,ho];simp) ZE ZE ZE ZE ZE ZE ZE ZE ZE ZE
     ·simp only[go_sem,SN,PE,Hv,Hw,aS,Qe,hn,decide_false,Jx];exact rest2 true _ (by rw[ts];simp[hn]) ZE ZE ZE ZE ZE ZE ZE ZE ZE ZE
    ·rintro e2 H8 ⟨kn,hbg,l2,l3,l5,l6,l39,l40,l41⟩;refine Qp ?_;simp only[go_sem,X.next,l2,l3,l5,l6,l39,l40,l41];refine⟨Qo,q.blocks.length-(j+1),ZD,j+1,rfl,ZD,λi hi gy=>?_,kn,rfl⟩;by_cases h:i<j
     ·exact cS i hi h
     ·have:i=j:=ZD;subst this;exact hbg
   ·intro bF;have aY:q.blocks.length<=j:=ZaV;refine Wc ?_;refine Qk ?_;exact retf true _ _ _ (decide_eq_true (by rw[hP];exact⟨by rw[hb];rfl,λb h=>cS b h (by omega)⟩)) kn ZE
 have hH:Bv q=(decide (0<=q.params/\q.params<=3)&&decide (q.params<=q.ab/\q.ab<=300)&&decide (1<=(q.blocks.length:Int)/\(q.blocks.length:Int)<=160)):=rfl;by_cases hr:0<=q.ab/\q.ab<=300
 ·have bh:(decide (0<=q.ab)&&decide (q.ab<=300))=true:=Zaj
  simp only[go_sem,Ss,bh,bm];refine BF ?_;by_cases hp:0<=q.params/\q.params<=3/\q.params<=q.ab
  ·have bX:(decide (0<=q.params)&&decide (q.params<=if q.ab<3 then q.ab else 3))=true:=by
    split <;> simp <;> omega
   simp only[go_sem,PF,bX,bm,Qj];intro _;refine BF ?_;simp only[go_sem,PG];refine rest0 _ _ ?_ ZE ZE ZE ZL;have a1:decide (0<=q.params/\q.params<=3)=true:=ZJ
   have a2:decide (q.params<=q.ab/\q.ab<=300)=true:=ZJ
   rw[hH,a1,a2];simp
  ·have bX:(decide (0<=q.params)&&decide (q.params<=if q.ab<3 then q.ab else 3))=false:=by
    split <;> simp <;> omega
   simp only[go_sem,PF,PG,bX,bm];refine rest0 true _ ?_ ZE ZE ZE ZE;rw[hH];simp;omega
 ·have bh:(decide (0<=q.ab)&&decide (q.ab<=300))=false:=Zaj
  simp only[go_sem,Ss,PF,PG,bh,bm];refine rest0 true _ ?_ ZE ZE ZE ZE;rw[hH];simp;omega
set_option maxHeartbeats 1000000 in
theorem Q1h {cs:List CodeD}{fl:Bool}(aL:∀c∈cs,c.fits)(hK:∀(H':Heap),Upd H H' []->K (.c (.bool (Bg cs))) H') :
  Qv prog PL [.ag [.sl fl 3 (Qw cs)]] H K:=by
 refine Q0 ?_;refine Qc Ab Qanm ?_;have retf:∀(b:Bool) (e:Env) (H':Heap) (L:List (Nat×Obj)),Bg cs=b->Kn H H' [] L->lk 2 e=.c (.bool b)->Q4 S0 (unK H K) .ret e H':=by
  intro b e H' L hb kn h3;simp only[go_sem,Q4,Aa,Ja,forall_eq,RS.op,h3];rw[<-hb];exact⟨_,.c _ _ (Qi rfl),hK _ kn.fin⟩
 have kn:=Kn.ar H;refine Wg ?_;simp only[go_sem,Q6];intro cB;refine BF ?_;simp only[go_sem,Qmo];refine Wv ?_ ?_
 ·intro hc;have cq:=Bf hc;refine We ?_;exact retf false _ _ _ (Gc λhu=>by have h1:=hu.1;simp at cq;omega) kn ZE
 intro hc;have cq:=A8 hc;have bN:1<=cs.length/\cs.length<=4:=by simp at cq;omega
 refine Zd ?_;refine Wg ?_;simp only[go_sem,Q6];intro _;refine Qg (Qd (Qs (λm e1 H1=>∃(k:Nat),m=cs.length-k/\k<=cs.length/\Ay cntQ (cs.take k)<=k * (160 * 549755813888)/\(∀(i:Nat) (hi:i<cs.length),i<k->AX cs i hi)/\Kn H H1 [] []/\
  e1=[(1,.c (.pp [.sl fl 3 (Qw cs)])),(3,.c (.int .i64 (Ay cntQ (cs.take k):Nat))),(12,.c (.sl fl 3 (Qw cs))),(13,.c (.int .i64 cs.length)),(14,.c (.int .i64 k))]) cs.length ?_ ?_))
 ·exact⟨0,ZD,ZD,by simp[Ay],λ_ _ h=>ZD,kn,rfl⟩
 ·rintro m e1 H1 ⟨k,hm,hk,hsum,cS,kn,rfl⟩;refine Za ?_;refine Wv ?_ ?_
  ·intro ao;have ae:k<cs.length:=ZI
   have oF:=Ee (f:=cntQ) ae;refine Wq ?_;simp only[go_sem,ae,Q6,Bd _ _ ae,CodeD.cells];obtain⟨q,hq⟩:∃q,cs[k]=q:=⟨_,rfl⟩;have qj:q.fits:=by subst hq;exact aL _ (Jd ae)
   rw[hq];intro x5 bm H2 h2;have kn:=kn.al bm h2;have bm:=kn.l 0 rfl;simp only[go_sem,Qmp,bm];intro H3 h3;have kn:Kn H H3 [] ([]++[(x5,.st [.int .i64 q.params,.int .i64 q.ab,.sl false 5 (Ql q.blocks)])]):=kn.aB 0 rfl h3;refine Wa ?_;refine Qbrl ae ZD (by rw[hq];exact qj) λH4 hu=>?_;have kn:=kn.aw hu;have bm:=kn.l 0 rfl;simp only[go_sem,Qmq];refine Wv ?_ ?_
   ·intro bk;have bR:=of_decide_eq_false (Bf bk);refine Wi ?_;exact retf false _ _ _ (Gc λhu=>bR (hu.2.1 k ae)) kn ZE
   ·intro bk;have qA:=of_decide_eq_true (A8 bk);have bG:q.blocks.length<=160:=by
     have:=qA.1;rw[hq]at this;simp only[Bv,Jq,decide_eq_true_eq]at this;omega
    have hcq:cntQ q<=160 * 549755813888:=Jbl (Od qj) (Jar _ bG);have iO:k * (160 * 549755813888)<=4 * (160 * 549755813888):=Jar _ ZD;have gr:(k+1) * (160 * 549755813888)=k * (160 * 549755813888)+160 * 549755813888:=Jbn _ _;rw[hq]at oF;refine Zd ?_;refine Zv bm ?_;refine Qa8a qj bG λH5 hu=>?_;have kn:=kn.aw hu;simp only[go_sem,Qmr];refine⟨Qo,?_⟩;refine Zg ?_;refine⟨Qo,cs.length-(k+1),ZD,k+1,rfl,ZD,by rw[oF,gr];omega,λi hi rW=>?_,kn.drop,?_⟩
    ·by_cases h:i<k
     ·exact cS i hi h
     ·have:i=k:=ZD;subst this;exact qA
    ·rw[oF];rfl
  ·intro ao;have aY:cs.length<=k:=ZI
   rw[Jc aY];refine Wc ?_;refine Qk ?_;refine retf (decide (((Ay cntQ cs:Nat):Int)<=800)) _ _ _ ?_ kn ZE;by_cases hs:Ay cntQ cs<=800
   ·have h1:Bg cs=true:=decide_eq_true ⟨ZD,λi hi=>cS i hi ZD,hs⟩;rw[h1];simp;omega
   ·rw[Gc λhu=>hs hu.2.2];simp;omega
noncomputable def hasG (cs:List CodeD)(k:Int):Bool:=Bg cs&&decide (0<=k/\k<=(cs.length:Int)-1)
theorem IJ {cs:List CodeD}{fl:Bool}{k:Int}(aL:∀c∈cs,c.fits)(hK:∀(H':Heap),Upd H H' []->K (.c (.bool (hasG cs k))) H') :
  Qv prog Py [.ag [.sl fl 3 (Qw cs)],.c (.int .i64 k)] H K:=by
 refine Qc Ab Qa86 ?_;refine Wd ?_;refine Q1h aL λH' hu=>?_;have hK:=hK H' hu
 cases hg:Bg cs with
 |false=>
  simp only[go_sem,Sv,Sw];refine Zc ?_;rw[hasG,hg]at hK;exact hK
 |true=>
  simp only[go_sem,Sv,Q6];intro hl;simp only[LIM]at hl;refine⟨Qo,?_⟩;refine BF ?_;simp only[go_sem,Sw];refine Zc ?_;have:hasG cs k=(decide (0<=k)&&decide (k<=(cs.length:Int)-1)):=by rw[hasG,hg];simp
  rw[this]at hK;exact hK
end Go.AE.Y
namespace Go.AE.Y
attribute [local instance] Classical.propDecidable
structure Flo where
 n:Nat
 nx:Nat->List Nat
 on:Nat->List Nat
 ins:Nat->List (Option Nat×List Nat)
 ph:Nat->List Nat
 ea:Nat->Nat->List Nat
abbrev RS':=Nat->Prop
def Dd (x:Option Nat×List Nat)(S:RS'):RS':=λr=>r∈x.2\/(S r/\x.1≠some r)
def behL (l:List (Option Nat×List Nat))(S:RS'):RS':=l.foldr Dd S
theorem Qbl6 {l:List (Option Nat×List Nat)}{S T:RS'}(h:∀r,S r->T r):∀r,behL l S r->behL l T r:=by
 induction l with
 |nil=>exact h
 |cons x l ih=>
  rintro r (hr|⟨hr,h2⟩)
  ·exact .inl hr
  ·exact .inr ⟨ih r hr,h2⟩
variable {F:Flo}
def Flo.endS (F:Flo)(X:RS')(b:Nat):RS':=λr=>X r\/r∈F.on b
def Flo.beh (F:Flo)(X:RS')(b k:Nat):RS':=behL ((F.ins b).drop k) (F.endS X b)
theorem Flo.beh_end (X:RS')(b k:Nat)(h:(F.ins b).length<=k):F.beh X b k=F.endS X b:=by rw[Flo.beh,Ja7 h];rfl
theorem Flo.beh_step (X:RS')(b k:Nat)(h:k<(F.ins b).length):F.beh X b k=Dd (F.ins b)[k] (F.beh X b (k+1)):=by
 rw[Flo.beh,Jy h];rfl
theorem Flo.beh_mono {X Y:RS'}(h:∀r,X r->Y r)(b k:Nat):∀r,F.beh X b k r->F.beh Y b k r:=
 Qbl6 λr hr=>hr.elim (λh1=>.inl (h r h1)) .inr
def Flo.outT (F:Flo)(I:Nat->RS')(b:Nat):RS':=λr=>∃m∈F.nx b,I m r\/r∈F.ea b m
def Flo.thru (F:Flo)(X:RS')(b:Nat):RS':=λr=>F.beh X b 0 r/\r∉F.ph b
def Flo.inT (F:Flo)(I:Nat->RS')(b:Nat):RS':=F.thru (F.outT I b) b
theorem Flo.thru_mono {X Y:RS'}(h:∀r,X r->Y r)(b:Nat):∀r,F.thru X b r->F.thru Y b r:=λr hr=>⟨Flo.beh_mono h b 0 r hr.1,hr.2⟩
def Flo.fits (F:Flo):Prop:=∀b,b<F.n->∀m∈F.nx b,m<F.n
variable {I J:Nat->RS'}
theorem Flo.outT_mono (hf:F.fits)(h:∀b,b<F.n->∀r,I b r->J b r){b:Nat}(hb:b<F.n):∀r,F.outT I b r->F.outT J b r:=by
 rintro r ⟨m,hm,h1|h1⟩
 ·exact⟨m,hm,.inl (h m (hf b hb m hm) r h1)⟩
 ·exact⟨m,hm,.inr h1⟩
theorem Flo.inT_mono (hf:F.fits)(h:∀b,b<F.n->∀r,I b r->J b r){b:Nat}(hb:b<F.n):∀r,F.inT I b r->F.inT J b r:=
 Flo.thru_mono (Flo.outT_mono hf h hb) b
def Flo.Pre (F:Flo)(J:Nat->RS'):Prop:=∀b,b<F.n->∀r,F.inT J b r->J b r
def Flo.LI (F:Flo)(b:Nat):RS':=λr=>∀J,F.Pre J->J b r
def Flo.LO (F:Flo)(b:Nat):RS':=F.outT F.LI b
theorem Flo.LI_pre (hf:F.fits):F.Pre F.LI:=λb hb r hr J hJ=>hJ b hb r (Flo.inT_mono hf (λb hb r hr=>hr J hJ) hb r hr)
def Flo.Below (F:Flo)(I:Nat->RS'):Prop:=∀b,b<F.n->∀r,I b r->F.LI b r
theorem Flo.is_least (h1:F.Pre I)(h2:F.Below I){b:Nat}(hb:b<F.n)(r:Nat):I b r↔F.LI b r:=⟨h2 b hb r,λh=>h I h1⟩
theorem Flo.Below.inT (hf:F.fits)(h:F.Below I){b:Nat}(hb:b<F.n):∀r,F.inT I b r->F.LI b r:=λr hr=>Flo.LI_pre hf b hb r (Flo.inT_mono hf h hb r hr)
theorem Flo.Below.outT (hf:F.fits)(h:F.Below I){b:Nat}(hb:b<F.n):∀r,F.outT I b r->F.LO b r:=Flo.outT_mono hf h hb
structure Flo.bd (F:Flo)(R:Nat):Prop where
 on:∀b,b<F.n->∀r∈F.on b,r<R
 ins:∀b,b<F.n->∀x∈F.ins b,∀r∈x.2,r<R
 ea:∀b,b<F.n->∀m∈F.nx b,∀r∈F.ea b m,r<R
noncomputable def ascL (R:Nat)(S:RS'):List Nat:=(List.range R).filter λr=>decide (S r)
theorem ascL_mem {R:Nat}{S:RS'}{r:Nat}:r∈ascL R S↔r<R/\S r:=by simp[ascL]
theorem Qbrg {R:Nat}{S:RS'}:(ascL R S).Pairwise (· < ·):=Jbz _ List.pairwise_lt_range
theorem Qbhs {R:Nat}{S T:RS'}(h:∀r,S r↔T r):ascL R S=ascL R T:=by
 have:S=T:=funext λr=>propext (h r);rw[this]
theorem Se {a:List Nat}(ha:a.Nodup):∀{b:List Nat},(∀x∈a,x∈b)->a.length<=b.length:=by
 induction a with
 |nil=>intro b _;simp
 |cons x a ih=>
  intro b h;have hx:=h x Jw;have hn:=Jbt.1 ha;have:=ih hn.2 (b:=b.erase x) λy hy=>(List.mem_erase_of_ne (λhe=>by subst he;exact hn.1 hy)).2 (h y (Ju _ hy));rw[List.length_erase_of_mem hx]at this;have hp:=List.length_pos_of_mem hx;simp only[Jl];omega
theorem Qa0p {a b:List Nat}(ha:a.Nodup)(h:∀x∈a,x∈b)(hl:b.length<=a.length):∀x∈b,x∈a:=λx hx=>by
 refine Jaw λjJ=>?_;have:=Se (a:=x::a) (Jbt.2 ⟨jJ,ha⟩) (b:=b) λy hy=>by
  rcases Jbf.1 hy with rfl|hy
  ·exact hx
  ·exact h y hy
 simp only[Jl]at this;omega
theorem En {a:List Nat}{R:Nat}(ha:a.Nodup)(h:∀x∈a,x<R):a.length<=R:=by
 have:=Se ha (b:=List.range R) λx hx=>J6.2 (h x hx);simpa using this
def addK (ks:List Nat)(b:Nat):List Nat:=if b∈ks then ks else ks++[b]
theorem addK_mem {ks:List Nat}{b x:Nat}:x∈addK ks b↔x∈ks\/x=b:=by
 rw[addK];split
 ·exact⟨.inl,λh=>h.elim id λh=>h▸‹_›⟩
 ·simp
theorem Pa {ks:List Nat}{b:Nat}(h:ks.Nodup):(addK ks b).Nodup:=by
 rw[addK];split
 ·exact h
 ·refine Jbk.2 ⟨h,ZF,λa ha c hc=>?_⟩;simp at hc;subst hc;exact λe=>‹¬_› (e▸ha)
def tot (n:Nat)(S:Nat->List Nat):Nat:=((List.range n).map λb=>(S b).length).sum
theorem OJ (n:Nat)(S:Nat->List Nat):tot (n+1) S=tot n S+(S n).length:=by simp[tot,Jau]
theorem TQ {n R:Nat}{S:Nat->List Nat}(h:∀b,b<n->(S b).length<=R):tot n S<=n * R:=by
 induction n with
 |zero=>simp[tot]
 |succ n ih=>
  rw[OJ,Jbn];have:=ih λb hb=>h b ZD;have:=h n ZD;omega
theorem Yw {n:Nat}{S T:Nat->List Nat}(h:∀b,b<n->(S b).length<=(T b).length):tot n S<=tot n T:=by
 induction n with
 |zero=>simp[tot]
 |succ n ih=>
  rw[OJ,OJ];have:=ih λb hb=>h b ZD;have:=h n ZD;omega
theorem TP {n:Nat}{S T:Nat->List Nat}{c:Nat}(hc:c<n)(h:∀b,b<n->(S b).length<=(T b).length)(ae:(S c).length<(T c).length):tot n S<tot n T:=by
 induction n with
 |zero=>omega
 |succ n ih=>
  rw[OJ,OJ];have h1:=h n ZD;by_cases wA:c=n
  ·subst wA;have:=Yw (n:=c) (S:=S) (T:=T) λb hb=>h b ZD;omega
  ·have:=ih ZD λb hb=>h b ZD;omega
end Go.AE.Y
namespace Go.AE.Y
attribute [local go_sem] cond_true cond_false Bool.not_true Bool.not_false
open Go.Proofs.Tryz
variable {H:Heap}{K:V->Heap->Prop}
attribute [local instance] Classical.propDecidable
def AU (x:InsD):Option Nat:=if AK x.op then some x.to.toNat else none
def toN (l:List Int):List Nat:=l.map Int.toNat
def Df (q:CodeD)(b m:Nat):List Nat:=(((q.blocks[m]?.map BlkD.aa).getD []).map λp=>(p.args.getD ((Qz (gnx q) (m:Int) q.blocks.length).idxOf (b:Int)) 0).toNat)
def Ac (q:CodeD):Flo where
 n:=q.blocks.length
 nx b:=nxN (gnx q) b
 on b:=match q.blocks[b]? with
  |some y=>if y.jump=1 then []else [y.on.toNat]
  |none=>[]
 ins b:=match q.blocks[b]? with
  |some y=>y.ins.map λx=>(AU x,toN x.args)
  |none=>[]
 ph b:=match q.blocks[b]? with
  |some y=>y.aa.map λp=>p.to.toNat
  |none=>[]
 ea:=Df q
def rIn (q:CodeD)(v:Int):Prop:=0<=v/\v<q.ab
structure BlkD.ok (q:CodeD)(b:Nat)(y:BlkD):Prop where
 nxl:y.next.length<=2
 nx:∀v∈y.next,1<=v/\v<q.blocks.length
 jmp:y.jump=1\/y.jump=2\/y.jump=3
 on:¬y.jump=1->rIn q y.on
 args:∀x∈y.ins,∀v∈x.args,rIn q v
 to:∀x∈y.ins,AK x.op=true->rIn q x.to
 pto:∀p∈y.aa,rIn q p.to
 pargs:∀p∈y.aa,∀v∈p.args,rIn q v
 pal:∀p∈y.aa,p.args.length=(Qz (gnx q) (b:Int) q.blocks.length).length
 al:∀x∈y.ins,x.args.length<=3
structure CodeD.ok (q:CodeD):Prop where
 r0:0<=q.ab
 r1:q.ab<=300
 b0:0<q.blocks.length
 b1:q.blocks.length<=160
 bs:∀(b:Nat) (h:b<q.blocks.length),q.blocks[b].ok q b
 il:∀(b:Nat) (h:b<q.blocks.length),q.blocks[b].ins.length<=1200/\q.blocks[b].aa.length<=1200
theorem DH {α:Type}{f:α->Nat}{l:List α}{x:α}(h:x∈l):f x<=Ay f l:=by
 induction l with
 |nil=>simp at h
 |cons y l ih=>
  simp only[Ay,Jt,Ja4]at *;rcases Jbf.1 h with rfl|h
  ·omega
  ·have:=ih h;omega
theorem CA {cs:List CodeD}(h:Bg cs=true){k:Nat}(hk:k<cs.length):cs[k].ok:=by
 obtain⟨_,h2,h3⟩:=of_decide_eq_true h;obtain⟨g1,g2⟩:=h2 k hk;simp only[Bv,Jq,decide_eq_true_eq]at g1;refine⟨ZD,ZD,ZD,ZD,λb hb=>?_,λb hb=>?_⟩
 ·have g:=g2 b hb;simp only[blkG,Jq]at g;obtain⟨⟨⟨j,nx⟩,ins⟩,ph⟩:=g;simp only[B7,Jq,decide_eq_true_eq]at j;obtain⟨j1,j2⟩:=j;rw[Jao]at nx ins ph;have hj:(cs[k].blocks[b].jump=1\/cs[k].blocks[b].jump=2\/cs[k].blocks[b].jump=3)/\cs[k].blocks[b].next.length<=2:=by
   rw[Bm]at j1;split at j1
   ·omega
   ·split at j1
    ·omega
    ·split at j1 <;> omega
  have hi:∀x∈cs[k].blocks[b].ins,(∀v∈x.args,rIn cs[k] v)/\(AK x.op=true->rIn cs[k] x.to):=λx hx=>by
   have:=ins x hx;simp only[insG,insH,Bw,Jq,Jao,decide_eq_true_eq,FO hk]at this;obtain⟨⟨⟨_,a1⟩,a2⟩,_⟩:=this;refine⟨λv hv=>by have:=a1 v hv;exact⟨ZD,ZD⟩,λhm=>?_⟩;rw[insT,hm,if_pos rfl,decide_eq_true_eq]at a2;exact⟨ZD,ZD⟩
  have dk:∀x∈cs[k].blocks[b].ins,x.args.length<=3:=λx hx=>by
   have:=ins x hx;simp only[insG,Jq]at this;have h3:=this.2;rw[insL]at h3;split at h3
   ·simp only[Jq,decide_eq_true_eq]at h3;have hn:x.n.toNat<cs.length:=ZD;have:=(h2 x.n.toNat hn).1;simp only[Bv,Jq,decide_eq_true_eq]at this;rw[D2 hn]at h3;omega
   ·simp only[Jq,decide_eq_true_eq]at h3;have:=argsN_in (op:=x.op);omega
  have hp:∀p∈cs[k].blocks[b].aa,rIn cs[k] p.to/\(∀v∈p.args,rIn cs[k] v)/\p.args.length=(Qz (gnx cs[k]) (b:Int) cs[k].blocks.length).length:=λp hp=>by
   have:=ph p hp;simp only[phiG,Bw,Jq,Jao,decide_eq_true_eq,Qj]at this;obtain⟨⟨⟨_,a1⟩,a2⟩,a3⟩:=this;have hgn:(λi=>(cs[k].blocks.map BlkD.next).getD i [])=gnx cs[k]:=rfl;rw[hgn]at a1;exact⟨⟨ZD,ZD⟩,λv hv=>by have:=a2 v hv;exact⟨ZD,ZD⟩,ZD⟩
  refine⟨hj.2,λv hv=>?_,hj.1,λhn=>?_,λx hx=>(hi x hx).1,λx hx=>(hi x hx).2,λp h=>(hp p h).1,λp h=>(hp p h).2.1,λp h=>(hp p h).2.2,dk⟩
  ·have:=nx v hv;simp only[AC,decide_eq_true_eq,Qj]at this;omega
  ·rw[if_neg hn,decide_eq_true_eq]at j2;exact⟨ZD,ZD⟩
 ·have a1:=DH (f:=cntQ) (Jd hk);have a2:=DH (f:=AH) (Jd hb);simp only[cntQ,AH]at *;omega
variable {q:CodeD}
theorem Fa {b:Nat}(h:b<q.blocks.length):(Ac q).on b=if q.blocks[b].jump=1 then []else [q.blocks[b].on.toNat]:=by simp[Ac,h]
theorem F5 {b:Nat}(h:b<q.blocks.length):(Ac q).ins b=q.blocks[b].ins.map λx=>(AU x,toN x.args):=by simp[Ac,h]
theorem IA {b:Nat}(h:b<q.blocks.length):(Ac q).ph b=q.blocks[b].aa.map λp=>p.to.toNat:=by simp[Ac,h]
theorem ER {b m:Nat}(h:m<q.blocks.length):(Ac q).ea b m=q.blocks[m].aa.map λp=>(p.args.getD ((Qz (gnx q) (m:Int) q.blocks.length).idxOf (b:Int)) 0).toNat:=by simp[Ac,Df,h]
theorem Cz {b:Nat}(h:b<q.blocks.length):gnx q b=q.blocks[b].next:=by simp[gnx,Jb,h]
theorem CodeD.ok.next (h:q.ok){b m:Nat}(hb:b<q.blocks.length)(hm:m∈(Ac q).nx b):m<q.blocks.length/\(m:Int)∈gnx q b:=by
 obtain⟨v,hv,rfl⟩:=Jk.1 hm;have fx:=hv;rw[Cz hb]at fx;have:=(h.bs b hb).nx v fx;refine⟨ZD,?_⟩;have e:((v.toNat:Nat):Int)=v:=ZD
 rw[e];exact hv
theorem CodeD.ok.fitsF (h:q.ok):(Ac q).fits:=λb hb m hm=>(h.next hb hm).1
theorem CodeD.ok.ix (h:q.ok){b m:Nat}(hb:b<q.blocks.length)(hm:(m:Int)∈gnx q b):(Qz (gnx q) (m:Int) q.blocks.length).idxOf (b:Int)<(Qz (gnx q) (m:Int) q.blocks.length).length:=by
 refine Jaf ?_;simp only[Qz,Jk,Jai,J6];exact⟨b,⟨hb,J3.2 hm⟩,rfl⟩
theorem CodeD.ok.bdF (h:q.ok):(Ac q).bd q.ab.toNat:=by
 refine⟨λb hb r hr=>?_,λb hb x hx r hr=>?_,λb hb m hm r hr=>?_⟩
 ·rw[Fa hb]at hr;split at hr
  ·simp at hr
  ·have:=(h.bs b hb).on ‹_›;simp only[Ja]at hr;obtain⟨a,b⟩:=this;omega
 ·rw[F5 hb]at hx;obtain⟨y,hy,rfl⟩:=Jk.1 hx;obtain⟨v,hv,rfl⟩:=Jk.1 hr;obtain⟨a,b⟩:=(h.bs b hb).args y hy v hv;omega
 ·obtain⟨h1,h2⟩:=h.next hb hm;rw[ER h1]at hr;obtain⟨p,hp,rfl⟩:=Jk.1 hr;have mP:=h.ix hb h2;have:=(h.bs m h1).pal p hp;have bz:p.args.getD ((Qz (gnx q) (m:Int) q.blocks.length).idxOf (b:Int)) 0∈p.args:=by
   rw[Jb,Ji ZD];exact Jd _
  obtain⟨a,b⟩:=(h.bs m h1).pargs p hp _ bz;omega
theorem IsIx.idx {ns:List Int}{v r:Int}(h:IsIx ns v r)(hm:v∈ns):r=(ns.idxOf v:Nat):=by
 rcases h with ⟨_,hn⟩|⟨i,rfl,h1,h2,h3⟩
 ·exact absurd hm hn
 ·have h4:ns[i]=v:=by rw[<-h2,Jb,Ji h1];rfl
  have h5:ns.idxOf v=i:=by
   have e:ns=ns.take i++ns[i]::ns.drop (i+1):=by rw[<-Jy h1,Ja9]
   rw[e,List.idxOf_append,if_neg h3,h4];simp[Jad];omega
  rw[h5]
def Mem (bs:List Bool)(S:RS'):Prop:=∀r,bs.getD r false=true↔S r
theorem Mem.congr {bs:List Bool}{S T:RS'}(h:Mem bs S)(hST:∀r,S r↔T r):Mem bs T:=λr=>(h r).trans (hST r)
theorem Kc (S:List Bool)(x y:Nat)(v:Bool):(S.set x v).getD y false=(if y=x/\x<S.length then v else S.getD y false):=by
 simp only[Jb,Jak];by_cases h:x=y
 ·subst h;by_cases h2:x<S.length <;> simp[h2]
 ·have:¬y=x:=λe=>h e.symm;simp[h,this]
theorem Mem.ins {bs:List Bool}{S:RS'}(h:Mem bs S){x:Nat}(hx:x<bs.length):Mem (bs.set x true) (λr=>r=x\/S r):=λr=>by
 rw[Kc];by_cases hr:r=x
 ·simp[hr,hx]
 ·simp only[hr,false_and,if_false,false_or];exact h r
theorem Mem.del {bs:List Bool}{S:RS'}(h:Mem bs S){x:Nat}(hx:x<bs.length):Mem (bs.set x false) (λr=>S r/\r≠x):=λr=>by
 rw[Kc];by_cases hr:r=x
 ·simp[hr,hx]
 ·simp only[hr,false_and,if_false,ne_eq,not_false_eq_true,and_true];exact h r
theorem Mem.lt {bs:List Bool}{S:RS'}(h:Mem bs S){r:Nat}(hr:S r):r<bs.length:=by
 have:=(h r).2 hr;refine Jaw λhn=>?_;rw[Jb,Jv ZD]at this;exact absurd this ZF
theorem Mem.none (n:Nat):Mem (List.replicate n false) λ_=>False:=λr=>by
 rw[Jb,Jah];split <;> simp
end Go.AE.Y
namespace Go.AE.Y
attribute [local go_sem] cond_true cond_false Bool.not_true Bool.not_false
open Go.Proofs.Tryz
variable {H H0:Heap}{K:V->Heap->Prop}{E L:List (Nat×Obj)}
def AB (x:InsD):Int:=if AK x.op then x.to else -1
theorem Kr {x:InsD}(hK:K (.c (.int .i64 (AB x))) H):Qv prog P4 [.ag x.cells] H K:=by
 refine Qc Ab Qa9o ?_;refine ZA ?_;refine Wa ?_;refine GM ?_;refine Wv ?_ ?_
 ·intro hc;refine Wr ?_;rw[AB,hc,if_pos rfl]at hK;exact hK
 ·intro hc;refine Ze ?_
  refine Wr ?_;rw[AB,hc,if_neg ZF]at hK;exact hK
theorem KL {x:InsD}(hK:K (.c (.int .i64 (AB x))) H):Qv prog Pz [.ag x.cells] H K:=by
 refine Qc Ab Qa84 ?_;refine ZA ?_;refine Wa ?_;refine Dj ?_;simp only[go_sem,Qxf];refine Wv ?_ ?_
 ·intro hc;have hc:=Bf hc;refine Za ?_;refine Zm ?_;rw[AB,hc,if_neg ZF]at hK;exact hK
 ·intro hc;have hc:=A8 hc;refine Ze ?_
  refine Wr ?_;rw[AB,hc,if_pos rfl]at hK;exact hK
theorem Iv {l:List Int}{a:Nat}(h:a<l.length):(toN l).take (a+1)=(toN l).take a++[(l.getD a 0).toNat]:=by
 have h':a<(toN l).length:=by simpa[toN]using h
 rw[Jg h'];simp[toN,Jb,h]
theorem CZ {l:List Int}{a:Nat}(h:a<l.length):l.getD a 0∈l:=by
 rw[Jb,Ji h];exact Jd h
theorem rIn.nat {q:CodeD}{v:Int}(h:rIn q v):v=(v.toNat:Int)/\v.toNat<q.ab.toNat:=by obtain⟨a,b⟩:=h;omega
structure CodeR (F:Heap)(X:List Nat)(bc:C)(q:CodeD):Prop where
 ow:bc.ai=false
 s:∀H1:Heap,(∀m,F m≠.none->m∉X->H1 m=F m)->Slc H1 5 (Ql q.blocks) bc
theorem CodeR.sl (F:Heap)(X:List Nat)(fl:Bool)(q:CodeD):CodeR F X (.sl fl 5 (Ql q.blocks)) q:=⟨rfl,λ_ _=>.mk' _ _ _ _⟩
theorem CodeR.rd {F H:Heap}{X:List Nat}{bc:C}{q:CodeD}{E L:List (Nat×Obj)}(h:CodeR F X bc q)(kn:Kn F H E L)(hX:∀x∈E.map Prod.fst,x∈X):Slc H 5 (Ql q.blocks) bc:=
 h.s H λm hm hx=>kn.chg m hm λhh=>hx (hX m hh)
theorem CodeR.facts {F H:Heap}{X:List Nat}{bc:C}{q:CodeD}{E L:List (Nat×Obj)}(h:CodeR F X bc q)(kn:Kn F H E L)(hX:∀x∈E.map Prod.fst,x∈X) :
  aZ H bc=True/\ax bc=q.blocks.length/\bc.aN=5/\rowsOf H bc=Ql q.blocks:=
 have s:=h.rd kn hX
 ⟨eq_true s.ok,by rw[s.len,Qj],s.sz,s.rows⟩
theorem CodeR.mid {F H:Heap}{bc:C}{q:CodeD}{L:List (Nat×Obj)}(h:CodeR F [] bc q)(kn:Kn F H [] L):CodeR H (L.map Prod.fst) bc q:=
 ⟨h.ow,λH1 hh=>h.s H1 λm hm _=>by
  have h1:=kn.chg m hm ZF;rw[hh m (by rw[h1];exact hm) λhx=>?_,h1];obtain⟨p,hp,he⟩:=Jk.1 hx;exact hm (he▸kn.loc p hp)⟩
theorem CodeR.nil {F:Heap}{X:List Nat}{bc:C}{q:CodeD}(h:CodeR F X bc q):CodeR F [] bc q:=⟨h.ow,λH1 hh=>h.s H1 λm hm _=>hh m hm ZF⟩
theorem CodeR.ah {F:Heap}{X:List Nat}{q:CodeD}{z:Nat}(hz:F z=.vec 5 (Ql q.blocks))(hX:z∉X):CodeR F X (.ah z 5 0 q.blocks.length) q:=
 ⟨rfl,λH1 hh=>by
  have h1:H1 z=.vec 5 (Ql q.blocks):=by rw[hh z Zbb hX,hz]
  exact⟨by simp only[aZ,h1,Qj];exact⟨trivial,ZD⟩,rfl,by simp only[rowsOf,h1,Jal];exact Jc (by rw[Qj];exact Jf _),by simp only[ax,Qj]⟩⟩
set_option maxHeartbeats 2000000 in
theorem Qa8x {q:CodeD}{bc:C}{ic oc cb:C}{orows:List (List C)}{b:Nat}{i:Int}{bs:List Bool}{W:RS'}(ho:q.ok)(db:CodeR H [] bc q)(hb:b<q.blocks.length)(hi:-1<=i)(kX:i<q.blocks[b].ins.length)
  (kn:Kn H0 H E L) (hs:Slc H 1 orows oc) (bM:oc.ai=false) (nN:ic.ai=false) (bG:b<orows.length) (a8:orows.getD b []=[cb]) (bW:Slc H 1 (Qm bs) cb) (jV:cb.ai=false) (ak:bs.length=q.ab.toNat) (hm:Mem bs W)
  (hK:∀y bs' H',bs'.length=q.ab.toNat->Mem bs' ((Ac q).beh W b (i+1).toNat)->Kn H0 H' E (L++[(y,.vec 1 (Qm bs'))])->K (.c (.ah y 1 0 q.ab.toNat)) H') :
  Qv prog RC [.ag [.int .i64 q.params,.int .i64 q.ab,bc],.ag [ic,oc],.c (.int .i64 b),.c (.int .i64 i)] H K:=by
 have bH:=ho.r0;have dC:=ho.r1;obtain⟨y,hy⟩:∃y,q.blocks[b]=y:=⟨_,rfl⟩;have bu:y.ok q b:=ZaM
 have ck:y.ins.length<=1200/\y.aa.length<=1200:=by rw[<-hy];exact ho.il b hb
 rw[hy]at kX;have lF:(Ac q).on b=if y.jump=1 then []else [y.on.toNat]:=by rw[Fa hb,hy]
 have gu:(Ac q).ins b=y.ins.map λx=>(AU x,toN x.args):=by rw[F5 hb,hy]
 have ay:=eq_true hs.ok;have dJ:=hs.len;have hoz:=hs.sz;have iI:=hs.rows;have fk:=eq_true bW.ok;have vi:=bW.len;have vf:=bW.sz;have vh:=bW.rows;refine Qc Ab Qa9g ?_;refine Qa ?_;have iT:=db.ow;simp only[go_sem];refine Qa ?_;simp only[go_sem,bM,jV,ay,dJ,hoz,iI,bG,a8,fk,vi,vf,vh,Qu,ak,J8,Jn,Jj];refine⟨.inl trivial,Hp _,by simp only[LIM];omega,λy9 fZ H1 h1=>?_⟩;have kn:=kn.al fZ h1;simp only[go_sem,Qyd];refine Qa ?_;have fO:=db.s H1 λm hm _=>by
  have be:m≠y9:=λhh=>hm (by rw[hh];exact fZ);rw[h1,Heap.af _ _ be]
 have bn:=eq_true fO.ok;have fP:=fO.len;have gB:=fO.sz;have fc:=fO.rows;simp only[go_sem,iT,bn,fP,gB,fc,hb,Qj,Q9 _ _ hb,BlkD.cells,hy];intro x10 eH H2 h2;have kn:=kn.al eH h2;have eH:=kn.l (L++[(y9,Obj.vec 1 (Qm bs))]).length (l:=x10) (o:=.st [.sl true 2 [],.sl true 4 [],.int .i64 0,.int .i64 0,.sl true 1 []]) ZF;simp only[go_sem,Qye,eH];intro H3 h3;have kn:Kn H0 H3 E ((L++[(y9,.vec 1 (Qm bs))])++[(x10,blkC y)]):=by
  have:=kn.aB (L++[(y9,Obj.vec 1 (Qm bs))]).length (x:=x10) (o:=.st [.sl true 2 [],.sl true 4 [],.int .i64 0,.int .i64 0,.sl true 1 []]) ZF h3;simpa[blkC]using this
 have getx:∀{bs1:List Bool} {H4:Heap},Kn H0 H4 E ((L++[(y9,.vec 1 (Qm bs1))])++[(x10,blkC y)])->H4 x10=.st [.sl false 2 (Q8 y.aa),.sl false 4 (Af y.ins),.int .i64 y.jump,.int .i64 y.on,.sl false 1 (Qb y.next)]/\H4 y9=.vec 1 (Qm bs1):=λ{bs1 H4} kn=>
  ⟨(kn.get (x10,blkC y) ZF).1,(kn.get (y9,.vec 1 (Qm bs1)) ZF).1⟩
 have putx:∀{bs1 bs2:List Bool} {H4 H5:Heap},Kn H0 H4 E ((L++[(y9,.vec 1 (Qm bs1))])++[(x10,blkC y)])->H5=H4.set y9 (.vec 1 (Qm bs2))->Kn H0 H5 E ((L++[(y9,.vec 1 (Qm bs2))])++[(x10,blkC y)]):=λ{bs1 bs2 H4 H5} kn h=>by
  have:=kn.aB L.length (x:=y9) (o:=.vec 1 (Qm bs1)) ZF h;simpa using this
 have b8:∀(bs1:List Bool),bs1.length=q.ab.toNat->(Qm bs1).take q.ab.toNat=Qm bs1:=λbs1 h=>Jc Zae;refine Q3 (Qa ?_);obtain⟨eH,fZ⟩:=getx kn;simp only[go_sem,eH];refine Az (λe2 H4=>∃(bs1:List Bool),bs1.length=q.ab.toNat/\Mem bs1 ((Ac q).endS W b)/\Kn H0 H4 E ((L++[(y9,.vec 1 (Qm bs1))])++[(x10,blkC y)])/\
  lk 3 e2=.c (.int .i64 i)/\lk 9 e2=.c (.ah y9 1 0 q.ab.toNat)/\lk 10 e2=.c (.ptr x10 0)) ?_ ?_
 ·intro Q br _ _;refine Ww ?_ ?_
  ·intro hc;have hj:¬y.jump=1:=ZG
   obtain⟨hv,b6⟩:=(bu.on hj).nat;have eJ:y.on.toNat<bs.length:=ZD
   generalize hr:y.on.toNat=r at *;refine Qp ?_;simp only[go_sem,eH,fZ,hv,b6,Qu,ak,BS,Qx _ _ eJ,Jj,Jf];intro H4 h4;refine br _ _ ⟨_,by rw[Jo];exact ak,?_,putx kn h4,rfl,rfl,rfl⟩;refine (hm.ins ZD).congr λz=>?_;rw[Flo.endS,lF,if_neg hj];simp[or_comm]
  ·intro hc;have hj:y.jump=1:=ZG
   refine Ze ?_
   refine br _ _ ⟨bs,ak,?_,kn,rfl,rfl,rfl⟩;refine hm.congr λz=>?_;rw[Flo.endS,lF,if_pos hj];simp
 ·rintro e2 H4 ⟨bs1,ak,hm,kn,l3,l9,l10⟩;obtain⟨eH,fZ⟩:=getx kn;refine Q3 (Qa ?_);simp only[go_sem,l3,l9,l10,eH,A0];intro _;refine⟨Qo,?_⟩;refine Qg (Qd (Qs (λm e1 H1=>∃(k:Nat) (j:Int) (bs1:List Bool),m=k/\k<=y.ins.length/\i+1<=k/\j=(k:Int)-1/\bs1.length=q.ab.toNat/\Mem bs1 ((Ac q).beh W b k)/\Kn H0 H1 E ((L++[(y9,.vec 1 (Qm bs1))])++[(x10,blkC y)])/\
   e1=[(3,.c (.int .i64 i)),(9,.c (.ah y9 1 0 q.ab.toNat)),(10,.c (.ptr x10 0)),(11,.c (.int .i64 j))]) y.ins.length ?_ ?_))
  ·refine⟨y.ins.length,_,bs1,rfl,Jf _,ZD,rfl,ak,hm.congr λz=>?_,kn,rfl⟩;rw[Flo.beh_end _ _ _ (by rw[gu,Je];exact Jf _)]
  ·rintro m e1 H5 ⟨k,j,bs1,rfl,hk,rW,po,ak,hm,kn,rfl⟩;obtain⟨eH,fZ⟩:=getx kn;refine Wa ?_;refine Wv ?_ ?_
   ·intro hc;have mS:i<j:=ZG;obtain⟨k,rfl⟩:∃k',m=k'+1:=⟨m-1,ZD⟩;have hj:j=(k:Int):=ZD;subst hj;have dd:k<y.ins.length:=ZD;obtain⟨x,hx⟩:∃x,y.ins[k]=x:=⟨_,rfl⟩;have gL:x∈y.ins:=(by rw[<-hx];exact Jd dd);have fS:(Ac q).beh W b k=Dd (AU x,toN x.args) ((Ac q).beh W b (k+1)):=by
     rw[Flo.beh_step _ _ _ (by rw[gu,Je];exact dd)];simp only[gu,Jac,hx]
    refine Ze ?_
    refine Az (λe2 H6=>∃(bs2:List Bool),bs2.length=q.ab.toNat/\Mem bs2 ((Ac q).beh W b k)/\Kn H0 H6 E ((L++[(y9,.vec 1 (Qm bs2))])++[(x10,blkC y)])/\
     lk 3 e2=.c (.int .i64 i)/\lk 9 e2=.c (.ah y9 1 0 q.ab.toNat)/\lk 10 e2=.c (.ptr x10 0)/\lk 11 e2=.c (.int .i64 k)) ?_ ?_
    ·intro Q br _ _;refine Qd (Qa ?_);simp only[go_sem,eH,dd,A0,BR _ _ dd,InsD.cK,InsD.bt,InsD.len4,hx];refine Kr ?_;simp only[go_sem,Qyf];refine Wa ?_;refine Az (λe2 H6=>∃(bs2:List Bool),bs2.length=q.ab.toNat/\Mem bs2 (λr=>(Ac q).beh W b (k+1) r/\AU x≠some r)/\Kn H0 H6 E ((L++[(y9,.vec 1 (Qm bs2))])++[(x10,blkC y)])/\
      lk 3 e2=.c (.int .i64 i)/\lk 9 e2=.c (.ah y9 1 0 q.ab.toNat)/\lk 10 e2=.c (.ptr x10 0)/\lk 11 e2=.c (.int .i64 k)) ?_ ?_
     ·intro Q br _ _;refine Ww ?_ ?_
      ·intro ao;have cF:AK x.op=true:=by
        cases cF:AK x.op with
        |true=>rfl
        |false=>simp[AB,cF]at ao
       obtain⟨hv,b6⟩:=(bu.to x gL cF).nat;have eJ:x.to.toNat<bs1.length:=ZD;have jO:AB x=x.to:=(by rw[AB,cF];rfl);have dX:AU x=some x.to.toNat:=Za3;rw[jO];rw[dX]at br;generalize hr:x.to.toNat=r at *;refine Qp ?_;simp only[go_sem,fZ,hv,b6,Qu,ak,BS,Qx _ _ eJ,Jj,Jf];intro H6 h6;refine br _ _ ⟨_,by rw[Jo];exact ak,?_,putx kn h6,rfl,rfl,rfl,rfl⟩;refine (hm.del ZD).congr λz=>?_;simp[eq_comm]
      ·intro ao;have cF:AK x.op=false:=by
        cases cF:AK x.op with
        |false=>rfl
        |true=>
         have:=(bu.to x gL cF).1;simp[AB,cF]at ao;omega
       have dX:AU x=none:=Za3;rw[dX]at br;refine Ze ?_
       exact br _ _ ⟨bs1,ak,hm.congr λz=>ZF,kn,rfl,rfl,rfl,rfl⟩
     ·rintro e2 H6 ⟨bs2,ak,hm,kn,l3,l9,l10,l11⟩;refine Qa ?_;simp only[go_sem,l3,l9,l10,l11];refine Qd (Qs (λm e1 H1=>∃(a:Nat) (bs2:List Bool),m=x.args.length-a/\a<=x.args.length/\bs2.length=q.ab.toNat/\Mem bs2 (λr=>r∈(toN x.args).take a\/((Ac q).beh W b (k+1) r/\AU x≠some r))/\Kn H0 H1 E ((L++[(y9,.vec 1 (Qm bs2))])++[(x10,blkC y)])/\
       e1=[(3,.c (.int .i64 i)),(9,.c (.ah y9 1 0 q.ab.toNat)),(10,.c (.ptr x10 0)),(11,.c (.int .i64 k)),(13,.c (.int .i64 a))]) x.args.length ?_ ?_)
      ·exact⟨0,bs2,ZD,ZD,ak,hm.congr λz=>ZF,kn,rfl⟩
      ·rintro m2 e1 H7 ⟨a,bs2,eK,ha,ak,hm,kn,rfl⟩;obtain⟨eH,fZ⟩:=getx kn;refine Q3 (Qa ?_);simp only[go_sem,eH,dd,A0,BR _ _ dd,InsD.cells,hx,Qe];intro dk;simp only[LIM]at dk;refine Wv ?_ ?_
       ·intro ao;have ae:a<x.args.length:=ZI;obtain⟨hv,b6⟩:=(bu.args x gL _ (CZ ae)).nat;have eW:=Iv ae;have eJ:(x.args.getD a 0).toNat<bs2.length:=ZD;generalize hr:(x.args.getD a 0).toNat=r at *;refine Ze ?_
        refine Wt ?_;simp only[go_sem,eH,fZ,dd,A0,BR _ _ dd,InsD.cells,hx,ae,Qe,Qn _ _ ae,hv,b6,Qu,ak,BS,Qx _ _ eJ,Jj,Jf];intro H8 h8;refine Zg ?_;refine⟨Qo,x.args.length-(a+1),ZD,a+1,_,rfl,ZD,by rw[Jo];exact ak,?_,putx kn h8,rfl⟩;refine (hm.ins ZD).congr λz=>?_;rw[eW];simp only[Jp,Ja];constructor
        ·rintro (h|h|h)
         ·exact .inl (.inr h)
         ·exact .inl (.inl h)
         ·exact .inr h
        ·rintro ((h|h)|h)
         ·exact .inr (.inl h)
         ·exact .inl h
         ·exact .inr (.inr h)
       ·intro ao;have aY:x.args.length<=a:=ZI;refine Zb ?_;refine br _ _ ⟨bs2,ak,hm.congr λz=>?_,kn,rfl,rfl,rfl,rfl⟩;rw[fS,Jc (by simpa[toN]using aY)];rfl
    ·rintro e2 H6 ⟨bs2,ak,hm,kn,l3,l9,l10,l11⟩;refine Qp ?_;simp only[go_sem,X.next,l3,l9,l10,l11];exact⟨Qo,k,ZD,k,(k:Int)-1,bs2,rfl,ZD,ZD,rfl,ak,hm,kn,rfl⟩
   ·intro hc;have aP:¬i<j:=ZG;refine Wn ?_;have e1:(i+1).toNat=m:=ZD;exact hK y9 bs1 H5 ak (by rw[e1];exact hm) kn.drop
end Go.AE.Y
namespace Go.AE.Y
attribute [local go_sem] cond_true cond_false Bool.not_true Bool.not_false
open Go.Proofs.Tryz
variable {H H0 F:Heap}{K:V->Heap->Prop}{E L:List (Nat×Obj)}
theorem PY (ks:List Nat)(b:Nat):updE (.int .i64 (b:Int)) (.c (.bool true)) (Ai ks)=Ai (addK ks b):=by
 by_cases h:b∈ks
 ·rw[addK,if_pos h]
  induction ks with
  |nil=>simp at h
  |cons k ks ih=>
   by_cases hk:b=k
   ·subst hk;simp[Ai,updE,AD]
   ·have fu:¬(b:Int)=(k:Int):=ZD;have ih:=ih (by simpa[hk]using h);simp only[Ai,Jt,updE,AD,fu,decide_false,Jbc,if_false]at ih⊢;rw[ih]
 ·rw[addK,if_neg h];exact Qblu ks b h
theorem KT (ks:List Nat)(b:Nat):delE (.int .i64 (b:Int)) (Ai ks)=Ai (ks.erase b):=by
 induction ks with
 |nil=>simp[Ai,delE]
 |cons k ks ih=>
  by_cases hk:b=k
  ·subst hk;simp[Ai,delE,AD]
  ·have fu:¬(b:Int)=(k:Int):=ZD
   have dK:(k == b)=false:=ZJ
   simp only[Ai,Jt,delE,AD,fu,decide_false,Jbc,if_false,List.erase_cons,dK]at ih⊢;rw[ih]
theorem D4 {ks:List Nat}{b R:Nat}(h:∀x∈ks,x<R)(hb:b<R):∀x∈addK ks b,x<R:=λx hx=>by
 rcases addK_mem.1 hx with h1|h1
 ·exact h x h1
 ·omega
theorem Vt {M ver R:Nat}{ks:List Nat}{args:List Int}{fl:Bool}(hM:H M=.map ver (Ai ks))(bE:ks.Nodup)(ae:∀x∈ks,x<R)(hR:R<=300)(nS:∀v∈args,0<=v/\v.toNat<R)
  (hK:∀ver' ks' H',Upd H H' [(M,.map ver' (Ai ks'))]->ks'.Nodup->(∀r,r∈ks'↔r∈ks\/r∈toN args)->K (.c (.mp M)) H') :
  Qv prog Tn [.c (.mp M),.c (.sl fl 1 (Qb args))] H K:=by
 refine Q0 ?_;refine Qc Ab Qab4 ?_;have kn:=Kn.start1 hM ZF;refine Wg ?_;simp only[go_sem,Qe];intro dk;simp only[LIM]at dk;refine Qg (Qd (Qs (λm e1 H1=>∃(i ver1:Nat) (ks1:List Nat),m=args.length-i/\i<=args.length/\ks1.Nodup/\(∀x∈ks1,x<R)/\(∀r,r∈ks1↔r∈ks\/r∈(toN args).take i)/\Kn H H1 [(M,.map ver1 (Ai ks1))] []/\
  e1=[(0,.c (.mp M)),(7,.c (.sl fl 1 (Qb args))),(8,.c (.int .i64 args.length)),(9,.c (.int .i64 i))]) args.length ?_ ?_))
 ·exact⟨0,ver,ks,ZD,ZD,bE,ae,ZF,kn,rfl⟩
 ·clear hM kn;rintro m e1 H1 ⟨i,ver1,ks1,hm,hi,fm,dT,bz,kn,rfl⟩;have hM:=kn.e 0 rfl;have dd:=En fm dT;refine Za ?_;refine Wv ?_ ?_
  ·intro hc;have hl:i<args.length:=ZG
   have hv:=nS _ (CZ hl);have b8:=Iv hl;have qf:args.getD i 0=((args.getD i 0).toNat:Int):=ZD
   generalize hr:(args.getD i 0).toNat=r at *;refine Ze ?_
   refine Wh ?_;simp only[go_sem,hl,Qe,Qn _ _ hl,qf];refine Qp ?_;simp only[go_sem,hM,Gp,Eg,PY];refine⟨by simp only[LIM];omega,λH2 h2=>?_⟩;have kn:=kn.stE 0 rfl h2;refine Zg ?_;refine⟨Qo,args.length-(i+1),ZD,i+1,ver1+1,addK ks1 r,rfl,ZD,Pa fm,D4 dT hv.2,λx=>?_,kn,rfl⟩;rw[addK_mem,bz,b8,Jp,Ja,or_assoc]
  ·intro hc;have aY:args.length<=i:=ZG
   refine Wn ?_;refine⟨_,.c _ _ (.same _ rfl),hK ver1 ks1 _ kn.fin fm λr=>?_⟩;rw[bz,Jc (by simpa[toN]using aY)]
structure SetO where
 c:C
 lg:List (Nat×Obj)
 ks:List Nat
structure SetO.ok (R:Nat)(s:SetO):Prop where
 nd:s.ks.Nodup
 lt:∀x∈s.ks,x<R
 m:(s.c=.mnil/\s.lg=[]/\s.ks=[])\/∃M ver,s.c=.mp M/\s.lg=[(M,.map ver (Ai s.ks))]
def Be (ss:List SetO):List (List C):=ss.map λs=>[s.c]
theorem CV (ss:List SetO):(Be ss).length=ss.length:=by simp[Be]
theorem GT (ss:List SetO)(i:Nat)(h:i<ss.length):(Be ss).getD i []=[ss[i].c]:=by simp[Be,Jb,h]
theorem SetO.ok.ai {R:Nat}{s:SetO}(h:s.ok R):s.c.ai=false:=by rcases h.m with ⟨h,_⟩|⟨M,ver,h,_⟩ <;> rw[h] <;> rfl
theorem SetO.ok.len {R:Nat}{s:SetO}(h:s.ok R):s.ks.length<=R:=En h.nd h.lt
def imE (q:CodeD)(fl:Bool)(l yi yp:Nat)(ss:List SetO)(pr:List (List C)):List (Nat×Obj):=
 [(l,.st [.int .i64 q.params,.int .i64 q.ab,.sl fl 5 (Ql q.blocks),.ah yi 1 0 q.blocks.length,.ah yp 1 0 q.blocks.length]),(yi,.vec 1 (Be ss)),(yp,.vec 1 pr)]++ss.flatMap SetO.lg
structure imOk (q:CodeD)(ss:List SetO)(pr:List (List C)):Prop where
 l:ss.length=q.blocks.length
 s:∀s∈ss,s.ok q.ab.toNat
 pl:pr.length=q.blocks.length
 p:∀b,b<q.blocks.length->∃fl,pr.getD b []=[.sl fl 1 (Qb (Qz (gnx q) (b:Int) q.blocks.length))]
def tabS (ss:List SetO)(b:Nat):RS':=λr=>r∈((ss[b]?.map SetO.ks).getD [])
theorem Ia {ss:List SetO}{b:Nat}(h:b<ss.length)(r:Nat):tabS ss b r↔r∈ss[b].ks:=by simp[tabS,h]
variable {q:CodeD}{fl:Bool}{l yi yp:Nat}{ss:List SetO}{pr:List (List C)}
theorem DL (kn:Kn F H (imE q fl l yi yp ss pr) L):H l=.st [.int .i64 q.params,.int .i64 q.ab,.sl fl 5 (Ql q.blocks),.ah yi 1 0 q.blocks.length,.ah yp 1 0 q.blocks.length]/\H yi=.vec 1 (Be ss)/\H yp=.vec 1 pr:=
 ⟨kn.e 0 rfl,kn.e 1 rfl,kn.e 2 rfl⟩
theorem GB (kn:Kn F H (imE q fl l yi yp ss pr) L){s:SetO}(hs:s∈ss){M ver:Nat}(hl:s.lg=[(M,.map ver (Ai s.ks))]):H M=.map ver (Ai s.ks):=
 (kn.get (M,.map ver (Ai s.ks)) (Jm _ (Jh _ (Ja5.2 ⟨s,hs,by rw[hl];simp⟩)))).1
set_option maxHeartbeats 4000000 in
theorem Vi {b:Nat}(ho:q.ok)(hb:b<q.blocks.length)(dY:imOk q ss pr)(kn:Kn F H (imE q fl l yi yp ss pr) [])
  (hK:∀M ver ks H',ks.Nodup->(∀x∈ks,x<q.ab.toNat)->(∀r,r∈ks↔(Ac q).outT (tabS ss) b r)->Kn F H' (imE q fl l yi yp ss pr) [(M,.map ver (Ai ks))]->K (.c (.mp M)) H') :
  Qv prog SV [.c (.ptr l 0),.c (.int .i64 b)] H K:=by
 have bH:=ho.r0;have dC:=ho.r1;have bf:=ho.b1;have sT:(Ac q).n=q.blocks.length:=rfl;have eA:=dY.l;have cP:=dY.pl;have pN:=ho.bdF;obtain⟨y,hy⟩:∃y,q.blocks[b]=y:=⟨_,rfl⟩;have bu:y.ok q b:=ZaM
 have fd:(Ac q).nx b=y.next.map Int.toNat:=by rw[<-hy,<-Cz hb];rfl
 have cC:=bu.nxl;have iA:(Be ss).take q.blocks.length=Be ss:=Jc (by rw[CV];omega);have uC:pr.take q.blocks.length=pr:=Jc ZD;refine Qc Ab Qans ?_;refine Wd ?_;intro M hM H1 h1;have kn:Kn F H1 (imE q fl l yi yp ss pr) [(M,.map 0 (Ai []))]:=kn.al hM h1;obtain⟨hl,cU,dN⟩:=DL kn;simp only[go_sem,Qmx];refine Q3 (Qa ?_);simp only[go_sem,hl,hb,Qj,Q9 _ _ hb,BlkD.cells,hy];refine HQ ZD λns H2 hu sD bz ak=>?_;have kn:=kn.aw hu;simp only[go_sem,Qmy,Qe];intro _;have dq:∀v∈ns,∃m:Nat,v=(m:Int)/\m<q.blocks.length/\m∈(Ac q).nx b/\(m:Int)∈gnx q b:=λv hv=>by
  have fx:=(bz v).1 hv;have:=bu.nx v fx;refine⟨v.toNat,ZD,ZD,?_,?_⟩
  ·rw[fd];exact Jk.2 ⟨v,fx,rfl⟩
  ·rw[Cz hb,hy];have:((v.toNat:Nat):Int)=v:=ZD
   rw[this];exact fx
 clear hl cU dN hM h1;refine Qg (Qd (Qs (λm e1 H1=>∃(i ver:Nat) (ks:List Nat),m=ns.length-i/\i<=ns.length/\ks.Nodup/\(∀x∈ks,x<q.ab.toNat)/\(∀r,r∈ks↔∃v∈ns.take i,tabS ss v.toNat r\/r∈(Ac q).ea b v.toNat)/\
  Kn F H1 (imE q fl l yi yp ss pr) [(M,.map ver (Ai ks))]/\
  e1=[(0,.c (.ptr l 0)),(1,.c (.int .i64 b)),(5,.c (.mp M)),(22,.c (.sl false 1 (Qb ns))),(23,.c (.int .i64 ns.length)),(24,.c (.int .i64 i))]) ns.length ?_ ?_))
 ·exact⟨0,0,[],ZD,ZD,ZF,ZF,ZF,kn,rfl⟩
 ·clear kn hu;rintro m e1 H3 ⟨i,ver,ks,hm,hi,bE,ae,ev,kn,rfl⟩;refine Za ?_;refine Wv ?_ ?_
  ·intro hc;have ck:i<ns.length:=ZG
   obtain⟨d,hd,nP,hdF,hdx⟩:=dq _ (CZ ck);have b8:ns.take (i+1)=ns.take i++[(d:Int)]:=by
    rw[Jg ck,<-hd];simp[Jb,ck]
   have mW:d<ss.length:=ZD
   obtain⟨s,hs⟩:∃s,ss[d]=s:=⟨_,rfl⟩;have fy:s∈ss:=by rw[<-hs];exact Jd mW
   have gE:=dY.s s fy;have fi:=gE.ai;have nz:∀r,tabS ss d r↔r∈s.ks:=λr=>by rw[Ia mW,hs]
   obtain⟨flp,gm⟩:=dY.p d nP;obtain⟨z,hz⟩:∃z,q.blocks[d]=z:=⟨_,rfl⟩;have lA:z.ok q d:=by rw[<-hz];exact ho.bs d nP
   have jU:(Ac q).ea b d=z.aa.map λp=>(p.args.getD ((Qz (gnx q) (d:Int) q.blocks.length).idxOf (b:Int)) 0).toNat:=by rw[ER nP,hz]
   have mP:=ho.ix hb hdx;have kG:(b:Int)∈Qz (gnx q) (d:Int) q.blocks.length:=Ja0.1 mP;generalize bp:(Qz (gnx q) (d:Int) q.blocks.length).idxOf (b:Int)=at_ at *;refine Ze ?_
   refine Az (λe2 H2=>∃(ver:Nat) (ks:List Nat),ks.Nodup/\(∀x∈ks,x<q.ab.toNat)/\(∀r,r∈ks↔∃v∈ns.take (i+1),tabS ss v.toNat r\/r∈(Ac q).ea b v.toNat)/\
    Kn F H2 (imE q fl l yi yp ss pr) [(M,.map ver (Ai ks))]/\
    lk 0 e2=.c (.ptr l 0)/\lk 1 e2=.c (.int .i64 b)/\lk 5 e2=.c (.mp M)/\lk 22 e2=.c (.sl false 1 (Qb ns))/\lk 23 e2=.c (.int .i64 ns.length)/\lk 24 e2=.c (.int .i64 i)) ?_ ?_
   ·intro Q br _ _;refine Qd (Qa ?_);simp only[go_sem,ck,Qe,Qn _ _ ck,hd];refine Az (λe2 H2=>∃(ver:Nat) (ks1:List Nat),ks1.Nodup/\(∀x∈ks1,x<q.ab.toNat)/\(∀r,r∈ks1↔r∈ks\/r∈s.ks)/\
     Kn F H2 (imE q fl l yi yp ss pr) [(M,.map ver (Ai ks1))]/\
     lk 0 e2=.c (.ptr l 0)/\lk 1 e2=.c (.int .i64 b)/\lk 5 e2=.c (.mp M)/\lk 7 e2=.c (.int .i64 d)/\lk 22 e2=.c (.sl false 1 (Qb ns))/\lk 23 e2=.c (.int .i64 ns.length)/\lk 24 e2=.c (.int .i64 i)) ?_ ?_
    ·intro Q br _ _;obtain⟨hl,cU,dN⟩:=DL kn;have hMk:=kn.l 0 rfl;refine Qa ?_;rcases gE.m with ⟨qZ,_,hsk⟩|⟨N,verN,qZ,oG⟩
     ·simp only[go_sem,hl,cU,iA,CV,GT _ _ mW,hs,qZ,nP,eA,Jj,Jf];intro it lM H4 h4;have kn:=kn.al lM h4;have vY:=kn.l 1 rfl;refine Qd (Qs (λm e1 H1=>H1=H4/\e1=[(0,.c (.ptr l 0)),(1,.c (.int .i64 b)),(5,.c (.mp M)),(7,.c (.int .i64 d)),(22,.c (.sl false 1 (Qb ns))),(23,.c (.int .i64 ns.length)),(24,.c (.int .i64 i)),(35,.c (.itr it))]) 0 ⟨rfl,rfl⟩ ?_);rintro m e1 H5 ⟨rfl,rfl⟩;refine Qa ?_;simp only[go_sem,vY,PO,Jaa];refine Qg (Qf rfl (λh=>ZK) λ_=>?_);refine Zb ?_;exact br _ _ ⟨ver,ks,bE,ae,λr=>by rw[hsk];simp,kn.drop (A:=[_]),rfl,rfl,rfl,rfl,rfl,rfl,rfl⟩
     ·have hN:=GB kn fy oG;have hkl2:=gE.len;simp only[go_sem,hl,cU,iA,CV,GT _ _ mW,hs,qZ,nP,eA,hN,Jj,Jf];refine⟨Po gE.nd,λit lM H4 h4=>?_⟩;have kn:=kn.al lM h4;refine Qd (Qs (λm e1 H1=>∃(left:List (C×V)) (cur:Option (C×V)) (ver:Nat) (ks1:List Nat),m=left.length/\(∀y∈left,∃x∈s.ks,y=(C.int .i64 (x:Int),V.c (.bool true)))/\left.Nodup/\ks1.Nodup/\(∀x∈ks1,x<q.ab.toNat)/\
       (∀r,r∈ks1↔r∈ks\/(r∈s.ks/\(C.int .i64 (r:Int),V.c (.bool true))∉left))/\
       Kn F H1 (imE q fl l yi yp ss pr) [(M,.map ver (Ai ks1)),(it,.iter (some (N,verN)) left cur)]/\
       e1=[(0,.c (.ptr l 0)),(1,.c (.int .i64 b)),(5,.c (.mp M)),(7,.c (.int .i64 d)),(22,.c (.sl false 1 (Qb ns))),(23,.c (.int .i64 ns.length)),(24,.c (.int .i64 i)),(35,.c (.itr it))]) (Ai s.ks).length ?_ ?_)
      ·refine⟨Ai s.ks,none,ver,ks,rfl,λy hy=>?_,Po gE.nd,bE,ae,λr=>?_,kn,rfl⟩
       ·obtain⟨x,hx,rfl⟩:=Jk.1 hy;exact⟨x,hx,rfl⟩
       ·constructor
        ·exact .inl
        ·rintro (h|⟨h1,h2⟩)
         ·exact h
         ·exact absurd (Jk.2 ⟨r,h1,rfl⟩) h2
      ·clear kn h4 lM;rintro m e1 H5 ⟨left,cur,ver1,ks1,rfl,eR,vF,fm,dT,jd,kn,rfl⟩;have hN:=GB kn fy oG;have hM5:=kn.l 0 rfl;have vX:=kn.l 1 rfl;have dd:=En fm dT;refine Zn vX hN ?_;refine⟨⟨_,rfl⟩,λkP=>?_,λy left' fg cZ kQ rH H6 h6=>?_⟩
       ·subst kP;simp only[go_sem,PO,Jaa];refine Qg (Qf rfl (λh=>ZK) λ_=>?_);refine Zb ?_;exact br _ _ ⟨ver1,ks1,fm,dT,λr=>by rw[jd];simp,kn.drop (A:=[_]),rfl,rfl,rfl,rfl,rfl,rfl,rfl⟩
       ·obtain⟨k,hk,rfl⟩:=eR y fg;have kn:=kn.aB 1 rfl h6;have hN6:=GB kn fy oG;have vW:=kn.l 1 rfl;have hM6:=kn.l 0 rfl;simp only[go_sem,PO,Jaa];refine Qg (Qf rfl (λ_=>?_) (λh=>ZK));refine Ze ?_
        refine Qd (Qa ?_);simp only[go_sem,vW,hN6];refine⟨⟨_,rfl⟩,?_⟩;simp only[go_sem,Qmz,Jaa];refine Qp ?_;simp only[go_sem,hM6,Gp,Eg,PY];refine⟨by simp only[LIM];omega,λH7 h7=>?_⟩;have kn:=kn.aB 0 rfl h7;simp only[X.next];refine⟨left'.length,ZD,left',_,ver1+1,addK ks1 k,rfl,λy hy=>eR y ((cZ y).1 hy).1,kQ,Pa fm,D4 dT (gE.lt k hk),λr=>?_,kn,by trivial⟩;rw[addK_mem,jd,cZ];simp only[ne_eq,Prod.mk.injEq,C.int.injEq,true_and,and_true,not_and,Classical.not_not];constructor
        ·rintro ((h|⟨h1,h2⟩)|h)
         ·exact .inl h
         ·exact .inr ⟨h1,λh3=>absurd h3 h2⟩
         ·subst h;exact .inr ⟨hk,λ_=>rfl⟩
        ·rintro (h|⟨h1,h2⟩)
         ·exact .inl (.inl h)
         ·by_cases h3:(C.int .i64 (r:Int),V.c (.bool true))∈left
          ·have:=h2 h3;exact .inr ZD
          ·exact .inl (.inr ⟨h1,h3⟩)
    ·rintro e2 H4 ⟨ver1,ks1,fm,dT,jd,kn,l0,l1,l5,l7,l22,l23,l24⟩;obtain⟨hl,cU,dN⟩:=DL kn;refine Qa ?_;simp only[go_sem,l0,l1,l5,l7,l22,l23,l24,hl,dN,uC,cP,nP,gm,Jj,Jf];refine Im (.mk' _ _ _ _) rfl λr hr=>?_;have hr:=hr.idx kG;rw[bp]at hr;subst hr;simp only[go_sem,Qm0,l0,l1,l5,l7,l22,l23,l24];refine Qa ?_;simp only[go_sem,hl,nP,Qj,Q9 _ _ nP,BlkD.cells,hz,Q5];intro ik;simp only[LIM]at ik;refine Qd (Qs (λm e1 H1=>∃(i2 ver2:Nat) (ks2:List Nat),m=z.aa.length-i2/\i2<=z.aa.length/\ks2.Nodup/\(∀x∈ks2,x<q.ab.toNat)/\(∀r,r∈ks2↔(r∈ks\/r∈s.ks)\/r∈((Ac q).ea b d).take i2)/\
      Kn F H1 (imE q fl l yi yp ss pr) [(M,.map ver2 (Ai ks2))]/\
      e1=[(0,.c (.ptr l 0)),(1,.c (.int .i64 b)),(5,.c (.mp M)),(9,.c (.int .i64 at_)),(22,.c (.sl false 1 (Qb ns))),(23,.c (.int .i64 ns.length)),(24,.c (.int .i64 i)),(59,.c (.sl false 2 (Q8 z.aa))),(60,.c (.int .i64 z.aa.length)),(61,.c (.int .i64 i2))]) z.aa.length ?_ ?_)
     ·exact⟨0,ver1,ks1,ZD,ZD,fm,dT,λr=>by rw[jd];simp,kn,rfl⟩
     ·clear kn hl cU dN;rintro m e1 H5 ⟨i2,ver2,ks2,eK,kX,fF,aI,gU,kn,rfl⟩;have dd:=En fF aI;refine Za ?_;refine Wv ?_ ?_
      ·intro ao;have ft:i2<z.aa.length:=ZI;obtain⟨p,hp⟩:∃p,z.aa[i2]=p:=⟨_,rfl⟩;have dI:p∈z.aa:=(by rw[<-hp];exact Jd ft);have jx:=lA.pal p dI;have dk:at_<p.args.length:=ZD;obtain⟨hv,b6⟩:=(lA.pargs p dI _ (CZ dk)).nat;have eW:((Ac q).ea b d).take (i2+1)=((Ac q).ea b d).take i2++[(p.args.getD at_ 0).toNat]:=by
        rw[Jg (by rw[jU,Je];exact ft)];simp[jU,hp]
       generalize hr:(p.args.getD at_ 0).toNat=r at *;refine Ze ?_
       refine Wh ?_;simp only[go_sem,ft,Q5,Br _ _ ft,PhiD.cells,hp];intro x11 eG H6 h6;have kn:=kn.al eG h6;have eG:=kn.l 1 rfl;simp only[go_sem,Qm1,eG];intro H7 h7;have kn:Kn F H7 (imE q fl l yi yp ss pr) [(M,.map ver2 (Ai ks2)),(x11,.st [.int .i64 p.to,.sl false 1 (Qb p.args)])]:=kn.aB 1 rfl h7;have eG:=kn.l 1 rfl;have hM7:=kn.l 0 rfl;refine Qp ?_;simp only[go_sem,eG,hM7,dk,Qe,Qn _ _ dk,hv,Gp,Eg,PY];refine⟨by simp only[LIM];omega,λH8 h8=>?_⟩;have kn:=kn.aB 0 rfl h8;refine Zg ?_;refine⟨Qo,z.aa.length-(i2+1),ZD,i2+1,ver2+1,addK ks2 r,rfl,ZD,Pa fF,D4 aI b6,λx=>?_,kn.drop (A:=[_]),rfl⟩;rw[addK_mem,gU,eW,Jp,Ja,or_assoc]
      ·intro ao;have j6:z.aa.length<=i2:=ZI;refine Zb ?_;refine br _ _ ⟨ver2,ks2,fF,aI,λr=>?_,kn,rfl,rfl,rfl,rfl,rfl,rfl⟩;have hte:((Ac q).ea b d).take i2=(Ac q).ea b d:=Jc (by rw[jU,Je];exact j6);rw[gU,ev,b8,hte];constructor
       ·rintro ((⟨v,hv,h⟩|h)|h)
        ·exact⟨v,Jm _ hv,h⟩
        ·exact⟨(d:Int),Jh _ ZF,.inl ((nz r).2 h)⟩
        ·exact⟨(d:Int),Jh _ ZF,.inr h⟩
       ·rintro⟨v,hv,h⟩;rcases Jp.1 hv with hv|hv
        ·exact .inl (.inl ⟨v,hv,h⟩)
        ·simp only[Ja]at hv;subst hv;rcases h with h|h
         ·exact .inl (.inr ((nz r).1 h))
         ·exact .inr h
   ·rintro e2 H4 ⟨ver1,ks1,fm,dT,vL,kn,l0,l1,l5,l22,l23,l24⟩;refine Qp ?_;simp only[go_sem,X.next,l0,l1,l5,l22,l23,l24];exact⟨Qo,ns.length-(i+1),ZD,i+1,ver1,ks1,rfl,ZD,fm,dT,vL,kn,rfl⟩
  ·intro hc;have aY:ns.length<=i:=ZG
   rw[Jc aY]at ev;refine Wn ?_;refine hK M ver ks H3 bE ae (λr=>?_) kn;rw[ev];constructor
   ·rintro⟨v,hv,h⟩;exact⟨v.toNat,by rw[fd];exact Jk.2 ⟨v,(bz v).1 hv,rfl⟩,h⟩
   ·rintro⟨d,hd,h⟩;rw[fd]at hd;obtain⟨v,hv,rfl⟩:=Jk.1 hd;exact⟨v,(bz v).2 hv,h⟩
end Go.AE.Y
namespace Go.AE.Y
attribute [local instance] Classical.propDecidable
def tab (zs:List (Nat×List Bool))(b:Nat):RS':=λr=>(((zs[b]?).map Prod.snd).getD []).getD r false=true
variable {zs zi zo:List (Nat×List Bool)}{F:Flo}
theorem E4 {b:Nat}(h:b<zs.length)(r:Nat):tab zs b r↔zs[b].2.getD r false=true:=by simp[tab,h]
theorem Iw {b:Nat}{x:Nat×List Bool}(h:b<zs.length)(r:Nat):tab (zs.set b x) b r↔x.2.getD r false=true:=by simp[tab,h]
theorem GI {b c:Nat}{x:Nat×List Bool}(h:c≠b):tab (zs.set b x) c=tab zs c:=by
 funext r
 simp only[tab];rw[Jbb (λe=>h e.symm)]
theorem Og {α:Type}{l:List α}{i:Nat}{x:α}(h:l[i]? = some x):l.set i x=l:=by
 have hi:=(List.getElem?_eq_some_iff.1 h).1;refine Jay λj=>?_;rw[Jak];by_cases gy:i=j
 ·subst gy;rw[if_pos rfl,if_pos hi,h]
 ·rw[if_neg gy]
theorem FA {a b:List Bool}(hl:a.length=b.length)(h:∀r,a.getD r false=true->b.getD r false=true):cnt a<=cnt b/\(∀r,a.getD r false≠b.getD r false->cnt a<cnt b):=by
 induction a generalizing b with
 |nil=>
  cases b with
  |nil=>exact⟨Jf _,λr hr=>absurd rfl hr⟩
  |cons=>simp at hl
 |cons x a ih=>
  cases b with
  |nil=>simp at hl
  |cons y b=>
   have ih':=ih (b:=b) Zaf λr hr=>by have:=h (r+1);simpa using this Zaj
   have h0:x=true->y=true:=by have:=h 0;simpa using this
   have hc:∀(z:Bool) (l:List Bool),cnt (z::l)=cnt l+(if z=true then 1 else 0):=λz l=>by
    simp only[cnt,List.count_cons];cases z <;> simp
   rw[hc,hc];refine⟨?_,λr hr=>?_⟩
   ·cases x with
    |false=>have:=ih'.1;cases y <;> simp <;> omega
    |true=>rw[h0 rfl];have:=ih'.1;simp;omega
   ·cases r with
    |zero=>
     have ka:x≠y:=Zaj
     cases x with
     |true=>exact absurd (h0 rfl).symm ka
     |false=>
      cases y with
      |false=>exact absurd rfl ka
      |true=>have:=ih'.1;simp;omega
    |succ r=>
     have:=ih'.2 r Zaj
     cases x with
     |false=>cases y <;> simp <;> omega
     |true=>rw[h0 rfl];simp;omega
def At (zs:List (Nat×List Bool)):Nat:=(zs.map λp=>cnt p.2).sum
theorem Iu {b:Nat}{x:Nat×List Bool}(h:b<zs.length):At (zs.set b x)+cnt zs[b].2=At zs+cnt x.2:=by
 induction zs generalizing b with
 |nil=>simp at h
 |cons z zs ih=>
  cases b with
  |zero=>simp[At];omega
  |succ b=>
   have:=ih (b:=b) ZP;simp only[At,Jbg,Jt,Ja4,J1]at this⊢;omega
theorem Dt {R:Nat}(h:∀p∈zs,p.2.length=R):At zs<=zs.length * R:=by
 induction zs with
 |nil=>simp[At]
 |cons z zs ih=>
  have h1:=C0 z.2;rw[h z Jw]at h1;have h2:=ih λp hp=>h p (Ju _ hp);simp only[At,Jt,Ja4,Jl,Jbn]at *;omega
structure LvInv (F:Flo)(zi zo:List (Nat×List Bool)):Prop where
 bi:∀b,b<F.n->∀r,tab zi b r->F.LI b r
 bo:∀b,b<F.n->∀r,tab zo b r->F.LO b r
 post:∀b,b<F.n->∀r,tab zi b r->F.thru (tab zo b) b r
def LvCl (F:Flo)(zi zo:List (Nat×List Bool))(b:Nat):Prop:=(∀r,F.outT (tab zi) b r->tab zo b r)/\∀r,F.thru (tab zo b) b r->tab zi b r
theorem LvInv.done (h:LvInv F zi zo)(hf:F.fits)(hc:∀b,b<F.n->LvCl F zi zo b):∀b,b<F.n->∀r,(tab zi b r↔F.LI b r)/\(tab zo b r↔F.LO b r):=by
 have hp:F.Pre (tab zi):=λb hb r hr=>(hc b hb).2 r (Flo.thru_mono (hc b hb).1 b r hr);intro b hb r;refine⟨Flo.is_least hp h.bi hb r,h.bo b hb r,λhr=>(hc b hb).1 r ?_⟩;exact Flo.outT_mono hf (λc hc r hr=>(Flo.is_least hp h.bi hc r).2 hr) hb r hr
theorem LvInv.step {R z w y b:Nat}{bs bw bs1 nb:List Bool}{a a1 a2:Bool}(h:LvInv F zi zo)(hf:F.fits)(hb:b<F.n)(ck:zi.length=F.n)(dJ:zo.length=F.n)(wY:∀p∈zi,p.2.length=R)(hRo:∀p∈zo,p.2.length=R)
  (mL:bs1.length=R) (nG:nb.length=R) (lA:zo[b]? = some (z,bs)) (nq:zi[b]? = some (w,bw))
  (g1:∀r,bs.getD r false=true->bs1.getD r false=true) (g2:∀r,bs1.getD r false=true->F.LO b r) (g3:∀r,F.outT (tab zi) b r->bs1.getD r false=true)
  (g4:∀r,nb.getD r false=true↔F.thru (λr=>bs1.getD r false=true) b r)
  (k1:a1=true->a=true\/cnt bs<cnt bs1) (k2:a1=false->a=false/\bs1=bs)
  (k3:a2=true->a1=true\/∃r,nb.getD r false≠bw.getD r false) (k4:a2=false->a1=false/\∀r,r<R->nb.getD r false=bw.getD r false) :
  LvInv F (zi.set b (y,nb)) (zo.set b (z,bs1))/\At zi+At zo<=At (zi.set b (y,nb))+At (zo.set b (z,bs1))/\
   (a2=true->a=true\/At zi+At zo<At (zi.set b (y,nb))+At (zo.set b (z,bs1)))/\
   (a2=false->a=false/\LvCl F (zi.set b (y,nb)) (zo.set b (z,bs1)) b/\∀c,LvCl F zi zo c->LvCl F (zi.set b (y,nb)) (zo.set b (z,bs1)) c):=by
 have bA:b<zi.length:=ZD
 have dr:b<zo.length:=ZD
 have ezo:zo[b]=(z,bs):=by rw[Ji dr]at lA;simpa using lA
 have ezi:zi[b]=(w,bw):=by rw[Ji bA]at nq;simpa using nq
 have nI:bs.length=R:=hRo (z,bs) (by rw[<-ezo];exact Jd dr);have kT:bw.length=R:=wY (w,bw) (by rw[<-ezi];exact Jd bA);have tzo:∀r,tab zo b r↔bs.getD r false=true:=λr=>by rw[E4 dr,ezo]
 have tzi:∀r,tab zi b r↔bw.getD r false=true:=λr=>by rw[E4 bA,ezi]
 have tzo':∀r,tab (zo.set b (z,bs1)) b r↔bs1.getD r false=true:=λr=>Iw dr r;have tzi':∀r,tab (zi.set b (y,nb)) b r↔nb.getD r false=true:=λr=>Iw bA r;have jq:∀r,bw.getD r false=true->nb.getD r false=true:=λr hr=>by
  rw[g4];exact Flo.thru_mono (λr hr=>g1 r ((tzo r).1 hr)) b r (h.post b hb r ((tzi r).2 hr))
 have c1:=FA (a:=bs) (b:=bs1) ZD g1;have c2:=FA (a:=bw) (b:=nb) ZD jq;have t1:=Iu (zs:=zo) (x:=(z,bs1)) dr;have t2:=Iu (zs:=zi) (x:=(y,nb)) bA;rw[ezo]at t1;rw[ezi]at t2;simp only at t1 t2;refine⟨⟨λc hc r hr=>?_,λc hc r hr=>?_,λc hc r hr=>?_⟩,by have:=c1.1;have:=c2.1;omega,λha=>?_,λha=>?_⟩
 ·by_cases bW:c=b
  ·subst bW;rw[tzi',g4]at hr;exact Flo.LI_pre hf c hb r (Flo.thru_mono g2 c r hr)
  ·rw[GI bW]at hr;exact h.bi c hc r hr
 ·by_cases bW:c=b
  ·subst bW;rw[tzo']at hr;exact g2 r hr
  ·rw[GI bW]at hr;exact h.bo c hc r hr
 ·by_cases bW:c=b
  ·subst bW;rw[tzi',g4]at hr;exact Flo.thru_mono (λr hr=>(tzo' r).2 hr) c r hr
  ·rw[GI bW]at hr⊢;exact h.post c hc r hr
 ·rcases k3 ha with h1|⟨r,hr⟩
  ·rcases k1 h1 with h2|h2
   ·exact .inl h2
   ·right;have:=c2.1;omega
  ·right;have:=c2.2 r (λe=>hr e.symm);have:=c1.1;omega
 ·obtain⟨h1,h2⟩:=k4 ha;obtain⟨h3,h4⟩:=k2 h1;have mD:∀r,nb.getD r false=bw.getD r false:=λr=>by
   by_cases hr:r<R
   ·exact h2 r hr
   ·rw[Jb,Jb,Jv ZD,Jv ZD]
  have ti:tab (zi.set b (y,nb))=tab zi:=by
   funext c r
   by_cases bW:c=b
   ·subst bW;refine propext ?_;rw[tzi',tzi,mD]
   ·rw[GI bW]
  have to:tab (zo.set b (z,bs1))=tab zo:=by
   funext c r
   by_cases bW:c=b
   ·subst bW;refine propext ?_;rw[tzo',tzo,h4]
   ·rw[GI bW]
  refine⟨h3,⟨λr hr=>?_,λr hr=>?_⟩,λc hc=>?_⟩
  ·rw[ti]at hr;exact (tzo' r).2 (g3 r hr)
  ·rw[tzi',g4];exact Flo.thru_mono (λr hr=>(tzo' r).1 hr) b r hr
  ·rw[LvCl,ti,to];exact hc
end Go.AE.Y
namespace Go.AE.Y
attribute [local go_sem] cond_true cond_false Bool.not_true Bool.not_false
open Go.Proofs.Tryz
variable {H H0 F:Heap}{K:V->Heap->Prop}{E L:List (Nat×Obj)}
def Ar (R:Nat)(zs:List (Nat×List Bool)):List (List C):=zs.map λp=>[.ah p.1 1 0 R]
def obZ (zs:List (Nat×List Bool)):List (Nat×Obj):=zs.map λp=>(p.1,.vec 1 (Qm p.2))
theorem AZ (R:Nat)(zs:List (Nat×List Bool)):(Ar R zs).length=zs.length:=by simp[Ar]
theorem DS (R:Nat)(zs:List (Nat×List Bool))(i:Nat)(h:i<zs.length):(Ar R zs).getD i []=[.ah zs[i].1 1 0 R]:=by simp[Ar,Jb,h]
theorem O9 {R:Nat}{zs:List (Nat×List Bool)}{i:Nat}{x:Nat×List Bool}(h:i<zs.length)(hx:x.1=zs[i].1):Ar R (zs.set i x)=Ar R zs:=by
 rw[Ar,J5,hx];refine Jay λj=>?_;rw[Jak];split
 ·subst_vars;rw[if_pos ZP];simp[Ar,h]
 ·rfl
def lvE (R yi yo:Nat)(zi zo:List (Nat×List Bool)):List (Nat×Obj):=[(yi,.vec 1 (Ar R zi)),(yo,.vec 1 (Ar R zo))]++(obZ zi++obZ zo)
variable {R yi yo:Nat}{zi zo:List (Nat×List Bool)}
theorem Qb0e {b:Nat}(hb:b<zo.length):(lvE R yi yo zi zo)[2+zi.length+b]? = some (zo[b].1,.vec 1 (Qm zo[b].2)):=by
 have:2+zi.length+b=(zi.length+b)+1+1:=ZD
 rw[lvE,this];simp only[Jab,J8,List.getElem?_cons_succ];rw[Jag (by simp[obZ])];simp[obZ,hb]
theorem XV {b z:Nat}{bs:List Bool}(hb:b<zo.length)(hz:zo[b].1=z):(lvE R yi yo zi zo).set (2+zi.length+b) (z,.vec 1 (Qm bs))=lvE R yi yo zi (zo.set b (z,bs)):=by
 have:2+zi.length+b=(zi.length+b)+1+1:=ZD
 rw[lvE,lvE,this,O9 hb hz.symm];simp only[Jab,J8,Jbg];rw[Jan _ _ (by simp[obZ])];simp[obZ,J5]
theorem Dw {b m z w:Nat}{bs nb:List Bool}(kn:Kn F H (lvE R yi yo zi (zo.set b (z,bs))) L)(hb:b<zo.length)(hz:zo[b].1=z)(hm:m<zi.length)(hw:zi[m]=(w,nb)) :
  H yi=.vec 1 (Ar R zi)/\H yo=.vec 1 (Ar R zo)/\H z=.vec 1 (Qm bs)/\H w=.vec 1 (Qm nb):=by
 refine⟨(kn.get (yi,.vec 1 (Ar R zi)) (by simp[lvE])).1,?_,(kn.get (z,.vec 1 (Qm bs)) ?_).1,(kn.get (w,.vec 1 (Qm nb)) ?_).1⟩
 ·rw[<-O9 (R:=R) (x:=(z,bs)) hb hz.symm];exact (kn.get (yo,.vec 1 (Ar R (zo.set b (z,bs)))) (by simp[lvE])).1
 ·refine Jm _ (Jh _ (Jh _ (Jk.2 ⟨(z,bs),?_,rfl⟩)));exact J7.2 ⟨b,ZW,ZF⟩
 ·exact Jm _ (Jh _ (Jm _ (Jk.2 ⟨(w,nb),by rw[<-hw];exact Jd hm,rfl⟩)))
theorem XW {b z:Nat}{bs bs2:List Bool}{H':Heap}(kn:Kn F H (lvE R yi yo zi (zo.set b (z,bs))) L)(hb:b<zo.length)(h:H'=H.set z (.vec 1 (Qm bs2))):Kn F H' (lvE R yi yo zi (zo.set b (z,bs2))) L:=by
 have aU:b<(zo.set b (z,bs)).length:=ZW
 have:=kn.stE (2+zi.length+b) (x:=z) (o:=.vec 1 (Qm bs)) (by have h:=Qb0e (R:=R) (yi:=yi) (yo:=yo) (zi:=zi) aU;simpa using h) h;rw[XV aU ZF,Jbx]at this;exact this
theorem Ii {b z:Nat}{bs bs2:List Bool}:(lvE R yi yo zi (zo.set b (z,bs))).map Prod.fst=(lvE R yi yo zi (zo.set b (z,bs2))).map Prod.fst:=by
 have e:∀bs:List Bool,(obZ (zo.set b (z,bs))).map Prod.fst=(zo.map Prod.fst).set b z:=λbs=>by
  simp only[obZ,J5,Jam];rfl
 simp only[lvE,Js,Jt,J9,e]
theorem Q5k {bs:List Bool}{r:Nat}(h:bs.getD r false=true):bs.set r true=bs:=by
 refine Jay λj=>?_;rw[Jak];split
 ·subst_vars
  rw[Jb]at h;split
  ·rename_i hl;rw[Ji hl]at h⊢;simp at h;rw[h]
  ·rename_i hl;rw[Jv ZD]
 ·rfl
structure lvOk (R n:Nat)(zi zo:List (Nat×List Bool)):Prop where
 i:zi.length=n
 o:zo.length=n
 li:∀p∈zi,p.2.length=R
 lo:∀p∈zo,p.2.length=R
set_option maxHeartbeats 4000000 in
theorem Qbm5 {q:CodeD}{bc:C}{Xs:List Nat}{b m z:Nat}{bs nb:List Bool}{w:Nat}(ho:q.ok)(db:CodeR F Xs bc q)(hX:∀x∈(lvE q.ab.toNat yi yo zi zo).map Prod.fst,x∈Xs)(hb:b<q.blocks.length)(rA:(m:Int)∈gnx q b)(ay:lvOk q.ab.toNat q.blocks.length zi zo)
  (hz:zo[b]? = some (z,bs)) (hw:zi[m]? = some (w,nb)) {O I:RS'} (hO:Mem bs O) (hI:Mem nb I)
  (kn:Kn F H (lvE q.ab.toNat yi yo zi zo) [])
  (hK:∀(bs':List Bool) (a:Bool) H',bs'.length=q.ab.toNat->Mem bs' (λr=>O r\/I r\/r∈(Ac q).ea b m)->(a=true->cnt bs<cnt bs')->(a=false->bs'=bs)->Kn F H' (lvE q.ab.toNat yi yo zi (zo.set b (z,bs'))) []->K (.c (.bool a)) H') :
  Qv prog Q54 [.ag [.int .i64 q.params,.int .i64 q.ab,bc],.ag [.ah yi 1 0 q.blocks.length,.ah yo 1 0 q.blocks.length],.c (.int .i64 b),.c (.int .i64 m)] H K:=by
 have bH:=ho.r0;have dC:=ho.r1;have bf:=ho.b1;have gH:m<q.blocks.length:=by
  have:=(ho.bs b hb).nx (m:Int) (by rw[<-Cz hb];exact rA);omega
 have mP:=ho.ix hb rA;have kG:(b:Int)∈Qz (gnx q) (m:Int) q.blocks.length:=Ja0.1 mP;obtain⟨y,hy⟩:∃y,q.blocks[m]=y:=⟨_,rfl⟩;have bu:y.ok q m:=by rw[<-hy];exact ho.bs m gH
 have ck:y.ins.length<=1200/\y.aa.length<=1200:=by rw[<-hy];exact ho.il m gH
 have jU:(Ac q).ea b m=y.aa.map λp=>(p.args.getD ((Qz (gnx q) (m:Int) q.blocks.length).idxOf (b:Int)) 0).toNat:=by rw[ER gH,hy]
 generalize bp:(Qz (gnx q) (m:Int) q.blocks.length).idxOf (b:Int)=at_ at *;have dr:b<zo.length:=by rw[ay.o];exact hb
 have jO:m<zi.length:=by rw[ay.i];exact gH
 have dl:zo[b]=(z,bs):=by rw[Ji dr]at hz;simpa using hz
 have fR:zi[m]=(w,nb):=by rw[Ji jO]at hw;simpa using hw
 have qz:zo[b].1=z:=by rw[dl]
 have fQ:zi[m].1=w:=by rw[fR]
 have bG:bs.length=q.ab.toNat:=ay.lo (z,bs) (by rw[<-dl];exact Jd dr);have cC:nb.length=q.ab.toNat:=ay.li (w,nb) (by rw[<-fR];exact Jd jO);have ik:=ay.o;have rV:=ay.i;have bK:zo.set b (z,bs)=zo:=Og hz;have b8:∀(bs1:List Bool),bs1.length=q.ab.toNat->(Qm bs1).take q.ab.toNat=Qm bs1:=λbs1 h=>Jc Zae;have oB:∀(zs:List (Nat×List Bool)),zs.length=q.blocks.length->(Ar q.ab.toNat zs).take q.blocks.length=Ar q.ab.toNat zs:=λzs h=>Jc (by rw[AZ];omega);rw[<-bK]at kn hX;have iT:=db.ow;have hX2:∀(bs1:List Bool),∀x∈(lvE q.ab.toNat yi yo zi (zo.set b (z,bs1))).map Prod.fst,x∈Xs:=λbs1 x hx=>hX x (by rw[Ii (bs2:=bs)]at hx;exact hx);obtain⟨cU,lU,lS,xF⟩:=Dw kn dr qz jO fR;refine Qc Ab Qbnv ?_;refine Wj ?_;simp only[go_sem,cU,xF,oB _ rV,b8 _ cC,AZ,DS _ _ _ jO,fQ,gH,rV,Qu,cC,Jj,Jf,J8,Jn];refine⟨.inl trivial,Hp _,by simp only[LIM];omega,λy9 fZ H1 h1=>?_⟩;have kn:=kn.al fZ h1;simp only[go_sem,Q9z];refine Zh iT ?_;refine CY (rows:=Ql q.blocks) (nx:=gnx q) (db.rd kn hX) iT (Cs H1 q false).x λH2 hu=>?_;have kn:=kn.aw hu;rw[Qj];simp only[go_sem,Q91];refine Dy (.mk' _ _ _ _) rfl λr hr=>?_;have hr:=hr.idx kG;rw[bp]at hr;subst hr;simp only[go_sem,Q90];refine Wa ?_;refine Qg (Qd (Qs (λm1 e1 H1=>∃(i:Nat) (nb1:List Bool),m1=y.aa.length-i/\i<=y.aa.length/\nb1.length=q.ab.toNat/\Mem nb1 (λr=>I r\/r∈((Ac q).ea b m).take i)/\Kn F H1 (lvE q.ab.toNat yi yo zi (zo.set b (z,bs))) [(y9,.vec 1 (Qm nb1))]/\
  e1=[(2,.c (.int .i64 b)),(3,.c (.int .i64 m)),(4,.c (.pp [.int .i64 q.params,.int .i64 q.ab,bc])),(5,.c (.pp [.ah yi 1 0 q.blocks.length,.ah yo 1 0 q.blocks.length])),(9,.c (.ah y9 1 0 q.ab.toNat)),(10,.c (.int .i64 at_)),(11,.c (.int .i64 i))]) y.aa.length ?_ ?_))
 ·exact⟨0,nb,ZD,ZD,cC,hI.congr λr=>ZF,kn,rfl⟩
 ·rintro m1 e1 H3 ⟨i,nb1,vA,hi,cC,hN,kn,rfl⟩;have fZ:=kn.l 0 rfl;obtain⟨bn,fP,gB,fc⟩:=db.facts kn (hX2 bs);refine Q3 (Qa ?_);simp only[go_sem,iT,bn,fP,gB,fc,gH,Q9 _ _ gH,hy,BlkD.cells,Q5];intro _;refine Wv ?_ ?_
  ·intro hc;have ae:i<y.aa.length:=ZG
   have jx:=bu.pal _ (Jd ae);have dk:at_<y.aa[i].args.length:=ZD
   obtain⟨hv,b6⟩:=(bu.pargs _ (Jd ae) _ (CZ dk)).nat;have eW:((Ac q).ea b m).take (i+1)=((Ac q).ea b m).take i++[(y.aa[i].args.getD at_ 0).toNat]:=by
    rw[Jg (by rw[jU,Je];exact ae)];simp[jU]
   have eJ:(y.aa[i].args.getD at_ 0).toNat<nb1.length:=ZD
   generalize hr:(y.aa[i].args.getD at_ 0).toNat=r at *;refine Ze ?_
   refine Wt ?_;simp only[go_sem,iT,bn,fP,gB,fc,gH,Q9 _ _ gH,hy,BlkD.cells,Q5,ae,Br _ _ ae,PhiD.cells,dk,Qe,Qn _ _ dk,hv,b6,fZ,Qu,cC,BS,Qx _ _ eJ,Jj,Jf];intro H4 h4;have kn:=kn.aB 0 rfl h4;refine Zg ?_;refine⟨Qo,y.aa.length-(i+1),ZD,i+1,_,rfl,ZD,by rw[Jo];exact cC,?_,kn,rfl⟩;refine (hN.ins ZD).congr λx=>?_;rw[eW];simp only[Jp,Ja];constructor
   ·rintro (h|h|h)
    ·exact .inr (.inr h)
    ·exact .inl h
    ·exact .inr (.inl h)
   ·rintro (h|h|h)
    ·exact .inr (.inl h)
    ·exact .inr (.inr h)
    ·exact .inl h
  ·intro hc;have aY:y.aa.length<=i:=ZG
   have hN:Mem nb1 (λr=>I r\/r∈(Ac q).ea b m):=hN.congr λr=>by rw[Jc (by rw[jU,Je];exact aY)]
   refine Wc ?_;refine Wa ?_;refine Qg (Qd (Qs (λm1 e1 H1=>∃(i:Nat) (bs1:List Bool) (more:Bool),m1=q.ab.toNat-i/\i<=q.ab.toNat/\bs1.length=q.ab.toNat/\Mem bs1 (λr=>O r\/(r<i/\(I r\/r∈(Ac q).ea b m)))/\(more=true->cnt bs<cnt bs1)/\(more=false->bs1=bs)/\
    Kn F H1 (lvE q.ab.toNat yi yo zi (zo.set b (z,bs1))) [(y9,.vec 1 (Qm nb1))]/\
    e1=[(2,.c (.int .i64 b)),(4,.c (.pp [.int .i64 q.params,.int .i64 q.ab,bc])),(5,.c (.pp [.ah yi 1 0 q.blocks.length,.ah yo 1 0 q.blocks.length])),(9,.c (.ah y9 1 0 q.ab.toNat)),(12,.c (.bool more)),(13,.c (.int .i64 i))]) q.ab.toNat ?_ ?_))
   ·exact⟨0,bs,false,ZD,ZD,bG,hO.congr λr=>ZF,ZF,λ_=>rfl,kn,rfl⟩
   ·rintro m1 e1 H4 ⟨i,bs1,more,vA,hi,hY,hB,tj,tk,kn,rfl⟩;have fZ:=kn.l 0 rfl;obtain⟨cU,lU,lS,xF⟩:=Dw kn dr qz jO fR;refine Wa ?_;refine Wv ?_ ?_
    ·intro hc;have ae:i<q.ab.toNat:=(by have:(i:Int)<q.ab:=(by simpa using hc);omega);have eo:i<nb1.length:=ZD;have aI:i<bs1.length:=ZD;refine Ze ?_
     refine Az (λe2 H2=>∃(bs2:List Bool) (more:Bool),bs2.length=q.ab.toNat/\Mem bs2 (λr=>O r\/(r<i+1/\(I r\/r∈(Ac q).ea b m)))/\(more=true->cnt bs<cnt bs2)/\(more=false->bs2=bs)/\
      Kn F H2 (lvE q.ab.toNat yi yo zi (zo.set b (z,bs2))) [(y9,.vec 1 (Qm nb1))]/\
      lk 2 e2=.c (.int .i64 b)/\lk 4 e2=.c (.pp [.int .i64 q.params,.int .i64 q.ab,bc])/\lk 5 e2=.c (.pp [.ah yi 1 0 q.blocks.length,.ah yo 1 0 q.blocks.length])/\lk 9 e2=.c (.ah y9 1 0 q.ab.toNat)/\lk 12 e2=.c (.bool more)/\lk 13 e2=.c (.int .i64 i)) ?_ ?_
     ·intro Q br _ _;refine Qd (Qa ?_);simp only[go_sem,fZ,ae,b8 _ cC,Qu,cC,Qx _ _ eo,Jj,Jf];refine Ww ?_ ?_
      ·intro ao;have r9:=(hN i).1 ao;have xh:Mem (bs1.set i true) (λr=>O r\/(r<i+1/\(I r\/r∈(Ac q).ea b m))):=(hB.ins aI).congr λr=>by
        constructor
        ·rintro (rfl|h|h)
         ·exact .inr ⟨ZD,r9⟩
         ·exact .inl h
         ·exact .inr ⟨ZD,h.2⟩
        ·rintro (h|h)
         ·exact .inr (.inl h)
         ·by_cases rc:r=i
          ·exact .inl rc
          ·exact .inr (.inr ⟨ZD,h.2⟩)
       have n3:∀(e:Env),lk 2 e=.c (.int .i64 b)->lk 4 e=.c (.pp [.int .i64 q.params,.int .i64 q.ab,bc])->lk 5 e=.c (.pp [.ah yi 1 0 q.blocks.length,.ah yo 1 0 q.blocks.length])->lk 9 e=.c (.ah y9 1 0 q.ab.toNat)->lk 12 e=.c (.bool (bif more then true else !bs1.getD i false))->lk 13 e=.c (.int .i64 i)->
         Ad prog M5 (X.inBlock 3 Q) e H4:=by
        intro e l2 l4 l5 l9 l12 l13;refine Qp ?_;simp only[go_sem,l2,l4,l5,l9,l12,l13,lU,lS,oB _ ik,AZ,DS _ _ _ dr,qz,hb,ik,ae,Qu,hY,BS,Qx _ _ aI,Jj,Jf];intro H5 h5;refine br _ _ ⟨bs1.set i true,_,by rw[Jo];exact hY,xh,?_,?_,XW kn dr h5,rfl,rfl,rfl,rfl,rfl,rfl⟩
        ·intro dX
         cases hg:bs1.getD i false with
         |true=>
          rw[Q5k hg];rw[hg]at dX
          cases eB:more with
          |true=>exact tj eB
          |false=>rw[eB]at dX;simp at dX
         |false=>
          rw[Ec aI hg]
          cases eB:more with
          |true=>have:=tj eB;omega
          |false=>rw[tk eB];omega
        ·intro dX
         cases eB:more with
         |true=>rw[eB]at dX;simp at dX
         |false=>
          rw[eB]at dX;have hg:bs1.getD i false=true:=(by simpa using dX);rw[Q5k hg];exact tk eB
       cases eB:more with
       |true=>
        refine Qa ?_;simp only[go_sem,lU,lS,oB _ ik,b8 _ hY,AZ,DS _ _ _ dr,qz,hb,ik,ae,Qu,hY,Qx _ _ aI,Jj,Jf];exact n3 _ rfl rfl rfl rfl (by rw[eB];rfl) rfl
       |false=>
        refine Qa ?_;simp only[go_sem,lU,lS,oB _ ik,b8 _ hY,AZ,DS _ _ _ dr,qz,hb,ik,ae,Qu,hY,Qx _ _ aI,Jj,Jf];exact n3 _ rfl rfl rfl rfl (by rw[eB];rfl) rfl
      ·intro ao;refine Ze ?_
       refine br _ _ ⟨bs1,more,hY,hB.congr λr=>?_,tj,tk,kn,rfl,rfl,rfl,rfl,rfl,rfl⟩;constructor
       ·rintro (h|h)
        ·exact .inl h
        ·exact .inr ⟨ZD,h.2⟩
       ·rintro (h|h)
        ·exact .inl h
        ·by_cases rc:r=i
         ·subst rc;have:=(hN r).2 h.2;rw[this]at ao;exact absurd ao ZF
         ·exact .inr ⟨ZD,h.2⟩
     ·rintro e2 H5 ⟨bs2,more2,sA,hB2,vy,v6,kn,l2,l4,l5,l9,l12,l13⟩;refine Qp ?_;simp only[go_sem,X.next,l2,l4,l5,l9,l12,l13];exact⟨Qo,q.ab.toNat-(i+1),ZD,i+1,bs2,more2,rfl,ZD,sA,hB2,vy,v6,kn,rfl⟩
    ·intro hc;have aY:q.ab.toNat<=i:=(by have:q.ab<=(i:Int):=(by simpa using hc);omega);refine Wn ?_;refine hK bs1 more H4 hY (hB.congr λr=>?_) tj tk (kn.drop (A:=[]));constructor
     ·rintro (h|h)
      ·exact .inl h
      ·exact .inr h.2
     ·rintro (h|h)
      ·exact .inl h
      ·have:r<nb1.length:=hN.lt h;exact .inr ⟨ZD,h⟩
end Go.AE.Y
namespace Go.AE.Y
attribute [local go_sem] cond_true cond_false Bool.not_true Bool.not_false
open Go.Proofs.Tryz
variable {H H0 F:Heap}{K:V->Heap->Prop}{E L:List (Nat×Obj)}
def Ck (zs:List (Nat×List Bool)):List (List C):=zs.map λp=>[.sl false 1 (Qm p.2)]
theorem OB (zs:List (Nat×List Bool)):(Ck zs).length=zs.length:=by simp[Ck]
theorem KZ (zs:List (Nat×List Bool))(i:Nat)(h:i<zs.length):(Ck zs).getD i []=[.sl false 1 (Qm zs[i].2)]:=by simp[Ck,Jb,h]
theorem OA {S:Nat->Bool}{R:Nat}{zs:List (Nat×List Bool)}(hl:∀p∈zs,p.2.length=R)(hH:∀p∈obZ zs,H p.1=p.2/\S p.1=true):FrzR H S (Ar R zs) (Ck zs):=by
 induction zs with
 |nil=>exact .nil
 |cons z zs ih=>
  have h1:=hH (z.1,.vec 1 (Qm z.2)) (by simp[obZ]);refine .cons (.cons ?_ .nil) (ih (λp hp=>hl p (Ju _ hp)) λp hp=>hH p (by simp only[obZ,Jt];exact Ju _ hp));exact (FrzR.same (Hp _)).ah h1.2 h1.1 (by rw[Qu];exact (hl z Jw).symm)
theorem Y6 {α:Type}{l:List α}{i:Nat}{x:α}(h:i<l.length):(l++[x]).Perm (l.set i x++[l[i]]):=by
 have e:∀(m:List α) (hm:i<m.length),m.Perm (m[i]::m.eraseIdx i):=λm hm=>by
  have h1:(m[i]::m.eraseIdx i).Perm m:=by
   rw[List.eraseIdx_eq_take_drop_succ];refine List.perm_middle.symm.trans ?_;rw[<-Jy hm,Ja9]
  exact h1.symm
 have h1:=e l h;have h2:=e (l.set i x) ZP;simp only[Ja8,Jap]at h2;refine (h1.append_right [x]).trans ?_;refine List.Perm.trans ?_ (h2.append_right [l[i]]).symm;simp only[Jab];refine (List.Perm.cons _ Jz).trans ?_;refine List.Perm.trans ?_ (List.Perm.cons _ Jz);exact List.Perm.swap _ _ _
def Qb0d (q:CodeD)(zi zo:List (Nat×List Bool)):Prop:=lvOk q.ab.toNat q.blocks.length zi zo/\∀b,b<q.blocks.length->∀r,(tab zi b r↔(Ac q).LI b r)/\(tab zo b r↔(Ac q).LO b r)
theorem Ih {zs:List (Nat×List Bool)}{b:Nat}(h:b<zs.length):Mem zs[b].2 (tab zs b):=λr=>(E4 h r).symm
theorem Qahh (n r:Nat):(List.replicate n false).getD r false=false:=by
 rw[Jb,Jah];split <;> rfl
def Bs (x2 x3 yi yo n:Nat):List (Nat×Obj):=[(x2,.st [.sl true 1 [],.sl true 1 []]),(x3,.st [.ah yi 1 0 n,.ah yo 1 0 n])]
set_option maxHeartbeats 4000000 in
theorem Km {q:CodeD}{bc:C}(ho:q.ok)(db:CodeR H [] bc q)
  (hK:∀(zi zo:List (Nat×List Bool)) H',Upd H H' []->Qb0d q zi zo->K (.ag [.sl false 1 (Ck zi),.sl false 1 (Ck zo)]) H') :
  Qv prog OW [.ag [.int .i64 q.params,.int .i64 q.ab,bc]] H K:=by
 have bH:=ho.r0;have dC:=ho.r1;have fw:=ho.b0;have bf:=ho.b1;have aL:=ho.fitsF;have sT:(Ac q).n=q.blocks.length:=rfl;obtain⟨R,hR⟩:∃R,q.ab.toNat=R:=⟨_,rfl⟩;obtain⟨n,hn⟩:∃n,q.blocks.length=n:=⟨_,rfl⟩;have lz:q.ab=(R:Int):=ZD
 refine Q0 ?_;have iT:=db.ow;refine Qc Ab Qbnw ?_;refine Za ?_;intro x2 aW H1 h1;have kn:=(Kn.ar H).al aW h1;refine Za ?_;intro x3 aF H2 h2;have kn:=kn.al aF h2;have aF:=kn.l 1 rfl;simp only[go_sem,Q92,aF];intro H3 h3;have kn:Kn H H3 [] [(x2,.st [.sl true 1 [],.sl true 1 []]),(x3,.st [.sl true 1 [],.sl true 1 []])]:=kn.aB 1 rfl h3;refine Qa ?_;obtain⟨bn,fP,gB,fc⟩:=db.facts kn ZF;simp only[go_sem,iT,bn,fP,hn];clear bn fc;intro _;refine Wa ?_;refine Qg (Qd (Qs (λm e1 H1=>∃(i:Nat) (zi zo:List (Nat×List Bool)) (ci co:C) (Li Lo:List (Nat×Obj)),m=n-i/\i<=n/\zi.length=i/\zo.length=i/\(∀p∈zi,p.2=List.replicate R false)/\(∀p∈zo,p.2=List.replicate R false)/\
  Gr Li 1 (Ar R zi) ci/\Gr Lo 1 (Ar R zo) co/\Kn H H1 [] ([(x2,.st [.sl true 1 [],.sl true 1 []]),(x3,.st [ci,co])]++(obZ zi++(obZ zo++(Li++Lo))))/\
  e1=[(1,.c (.pp [.int .i64 q.params,.int .i64 q.ab,bc])),(2,.c (.ptr x2 0)),(3,.c (.ptr x3 0)),(4,.c (.int .i64 n)),(5,.c (.int .i64 i))]) n ?_ ?_))
 ·exact⟨0,[],[],_,_,[],[],ZD,ZD,rfl,rfl,ZF,ZF,.nil 1,.nil 1,kn,rfl⟩
 ·rintro m e1 H4 ⟨i,zi,zo,ci,co,Li,Lo,hm,hi,jY,jX,nq,lA,jS,dV,kn,rfl⟩;refine Wa ?_;refine Wv ?_ ?_
  ·intro hc;have ae:i<n:=ZG
   have sv:=jS.ai;have b9:=dV.ai;have aF:=kn.l 1 rfl;refine Ze ?_
   refine Qg (Qd ?_);refine Aj ?_;simp only[go_sem,aF,sv];refine⟨ZD,by simp only[LIM];omega,λy1 jZ H5 h5=>?_⟩;have kn:Kn H H5 [] (([(x2,.st [.sl true 1 [],.sl true 1 []]),(x3,.st [ci,co])]++(obZ (zi++[(y1,List.replicate R false)])++(obZ zo++Lo)))++Li):=
    (kn.al jZ h5).perm (Qt λf hf h0 hc hp=>by
     have cq:=hc (x2,.st [.sl true 1 [],.sl true 1 []]) [(x3,.st [ci,co])];simp only[hf,obZ,Js,Jt,J9,DJ,hR];omega)
   have aF:=kn.l 1 rfl;simp only[go_sem,Q94,aF,sv];refine kn.bD jS (.mk' _ _ _ _) (by intro r hr;simp at hr;subst hr;rfl) (by simp only[LIM,AZ,Jl,Jn];omega) λci2 Li2 H6 py y7 kn=>?_;have aF:=kn.l 1 rfl;simp only[go_sem,Q93,aF];intro H7 h7;have kn:Kn H H7 [] ([(x2,.st [.sl true 1 [],.sl true 1 []]),(x3,.st [ci2,co])]++(obZ (zi++[(y1,List.replicate R false)])++(obZ zo++Lo))++Li2):=kn.aB 1 rfl h7;have py:Gr Li2 1 (Ar R (zi++[(y1,List.replicate R false)])) ci2:=by
    have:Ar R (zi++[(y1,List.replicate R false)])=Ar R zi++[[C.ah y1 1 0 q.ab.toNat]]:=(by simp[Ar,hR]);rw[this];exact py
   have aF:=kn.l 1 rfl;refine Aw ?_;simp only[go_sem,aF,b9];refine⟨ZD,by simp only[LIM];omega,λy2 lW H8 h8=>?_⟩;have kn:Kn H H8 [] (([(x2,.st [.sl true 1 [],.sl true 1 []]),(x3,.st [ci2,co])]++(obZ (zi++[(y1,List.replicate R false)])++(obZ (zo++[(y2,List.replicate R false)])++Li2)))++Lo):=
    (kn.al lW h8).perm (Qt λf hf h0 hc hp=>by
     simp only[hf,obZ,Js,Jt,J9,DJ,hR];omega)
   have aF:=kn.l 1 rfl;simp only[go_sem,Q96,aF,b9];refine kn.bD dV (.mk' _ _ _ _) (by intro r hr;simp at hr;subst hr;rfl) (by simp only[LIM,AZ,Jl,Jn];omega) λco2 Lo2 H9 px y6 kn=>?_;have aF:=kn.l 1 rfl;simp only[go_sem,Q95,aF];intro H10 dg;have kn:Kn H H10 [] ([(x2,.st [.sl true 1 [],.sl true 1 []]),(x3,.st [ci2,co2])]++(obZ (zi++[(y1,List.replicate R false)])++(obZ (zo++[(y2,List.replicate R false)])++Li2))++Lo2):=kn.aB 1 rfl dg;have px:Gr Lo2 1 (Ar R (zo++[(y2,List.replicate R false)])) co2:=by
    have:Ar R (zo++[(y2,List.replicate R false)])=Ar R zo++[[C.ah y2 1 0 q.ab.toNat]]:=(by simp[Ar,hR]);rw[this];exact px
   refine Zg ?_;refine⟨Qo,n-(i+1),ZD,i+1,zi++[(y1,List.replicate R false)],zo++[(y2,List.replicate R false)],ci2,co2,Li2,Lo2,rfl,ZD,by simp[jY],by simp[jX],?_,?_,py,px,?_,rfl⟩
   ·intro p hp;rcases Jp.1 hp with hp|hp
    ·exact nq p hp
    ·simp at hp;rw[hp]
   ·intro p hp;rcases Jp.1 hp with hp|hp
    ·exact lA p hp
    ·simp at hp;rw[hp]
   ·exact kn.perm (by simp only[Jaj];exact .refl _)
  ·intro hc;have cV:i=n:=by have:n<=i:=ZG;omega
   subst cV;obtain⟨yi,cU,yT⟩:∃yi,ci=.ah yi 1 0 i/\Li=[(yi,.vec 1 (Ar R zi))]:=by
    rcases jS with ⟨_,h,_⟩|⟨y,h1,h2⟩
    ·have:=congrArg List.length h;rw[AZ,jY]at this;simp at this;omega
    ·exact⟨y,by rw[h1,AZ,jY],h2⟩
   obtain⟨yo,bu,yS⟩:∃yo,co=.ah yo 1 0 i/\Lo=[(yo,.vec 1 (Ar R zo))]:=by
    rcases dV with ⟨_,h,_⟩|⟨y,h1,h2⟩
    ·have:=congrArg List.length h;rw[AZ,jX]at this;simp at this;omega
    ·exact⟨y,by rw[h1,AZ,jX],h2⟩
   have kn:Kn H H4 [] (lvE R yi yo zi zo++Bs x2 x3 yi yo i):=by
    refine kn.perm (Qt λf hf h0 hc hp=>?_);rw[yT,yS,cU,bu];have e1:=hc (x2,.st [.sl true 1 [],.sl true 1 []]) [(x3,.st [.ah yi 1 0 i,.ah yo 1 0 i])];have e2:=hc (yi,.vec 1 (Ar R zi)) [(yo,.vec 1 (Ar R zo))];simp only[hf,lvE,Bs];omega
   have cL:lvOk R i zi zo:=⟨jY,jX,λp hp=>by rw[nq p hp];simp,λp hp=>by rw[lA p hp];simp⟩;have bR:∀(zs:List (Nat×List Bool)),(∀p∈zs,p.2=List.replicate R false)->∀b r,¬tab zs b r:=λzs h b r hr=>by
    rw[tab]at hr
    cases hg:zs[b]? with
    |none=>rw[hg]at hr;simp at hr
    |some p=>
     rw[hg]at hr;have:=h p (Jaq hg);simp only[Jav,Ja6,this,Qahh]at hr;exact absurd hr ZF
   have cz:LvInv (Ac q) zi zo:=⟨λb _ r hr=>absurd hr (bR zi nq b r),λb _ r hr=>absurd hr (bR zo lA b r),λb _ r hr=>absurd hr (bR zi nq b r)⟩;refine Zb ?_;refine Wa ?_;clear bR nq lA jS dV yT yS cU bu jY jX hm hc hi;refine Qg (Qd (Qs (λm e1 H1=>∃(zi zo:List (Nat×List Bool)) (a:Bool) (yi yo:Nat),m=(if a=true then 2 * (i * R)+1-(At zi+At zo)else 0)/\lvOk R i zi zo/\LvInv (Ac q) zi zo/\(a=false->∀b,b<i->LvCl (Ac q) zi zo b)/\
    Kn H H1 [] (lvE R yi yo zi zo++Bs x2 x3 yi yo i)/\
    lk 1 e1=.c (.pp [.int .i64 q.params,.int .i64 q.ab,bc])/\lk 2 e1=.c (.ptr x2 0)/\lk 3 e1=.c (.ptr x3 0)/\lk 4 e1=.c (.int .i64 i)/\lk 6 e1=.c (.bool a)) (2 * (i * R)+1-(At zi+At zo)) ?_ ?_))
   ·exact⟨zi,zo,true,yi,yo,rfl,cL,cz,λh=>ZK,kn,rfl,rfl,rfl,rfl,rfl⟩
   ·clear cL cz kn;rintro m e1 H5 ⟨zi,zo,a,yi,yo,hm,cL,cz,cB,kn,l1,l2,l3,l4,l6⟩;have mg:=Dt cL.li;have mf:=Dt cL.lo;rw[cL.i]at mg;rw[cL.o]at mf;refine Q3 (Qa ?_);simp only[go_sem,l1,l2,l3,l4,l6];refine Wv ?_ ?_
    ·intro bp;rw[bp,if_pos rfl]at hm;refine Ze ?_
     refine Wp ?_;refine Za ?_;refine⟨Qo,?_⟩;clear cB;refine Qd (Qs (λm1 e1 H1=>∃(k:Nat) (j:Int) (zi1 zo1:List (Nat×List Bool)) (a:Bool) (yi yo:Nat),m1=k/\k<=i/\j=(k:Int)-1/\lvOk R i zi1 zo1/\LvInv (Ac q) zi1 zo1/\At zi+At zo<=At zi1+At zo1/\
      (a=true->At zi+At zo<At zi1+At zo1)/\(a=false->∀b,k<=b->b<i->LvCl (Ac q) zi1 zo1 b)/\
      Kn H H1 [] (lvE R yi yo zi1 zo1++Bs x2 x3 yi yo i)/\
      e1=[(1,.c (.pp [.int .i64 q.params,.int .i64 q.ab,bc])),(2,.c (.ptr x2 0)),(3,.c (.ptr x3 0)),(4,.c (.int .i64 i)),(6,.c (.bool a)),(7,.c (.int .i64 j))]) i ?_ ?_)
     ·exact⟨i,_,zi,zo,false,yi,yo,rfl,Jf _,rfl,cL,cz,Jf _,λh=>ZK,λ_ b h1 h2=>ZD,kn,rfl⟩
     ·have hTb:At zi+At zo<=2 * (i * R):=ZD;generalize pQ:At zi+At zo=T0 at *;clear cz cL kn mf mg pQ;clear zi zo yi yo;rintro m1 e1 H6 ⟨k,j,zi,zo,a,yi,yo,rfl,hk,po,cL,cz,uB,qR,qT,kn,rfl⟩;have mg:=Dt cL.li;have mf:=Dt cL.lo;rw[cL.i]at mg;rw[cL.o]at mf;refine Wa ?_;refine Wv ?_ ?_
      ·intro hc;have aY:0<=j:=ZG;obtain⟨b,rfl⟩:∃b,m1=b+1:=⟨m1-1,ZD⟩;have hj:j=(b:Int):=ZD;subst hj;have cM:b<i:=ZD;have ew:b<q.blocks.length:=ZD;have dr:b<zo.length:=(by rw[cL.o];exact cM);have bA:b<zi.length:=(by rw[cL.i];exact cM);obtain⟨⟨z,bs⟩,hz⟩:∃p,zo[b]=p:=⟨_,rfl⟩;obtain⟨⟨w,bw⟩,hw⟩:∃p,zi[b]=p:=⟨_,rfl⟩;have dl:zo[b]? = some (z,bs):=(by rw[Ji dr,hz]);have fR:zi[b]? = some (w,bw):=(by rw[Ji bA,hw]);have wC:bs.length=R:=cL.lo (z,bs) (by rw[<-hz];exact Jd dr);have nf:bw.length=R:=cL.li (w,bw) (by rw[<-hw];exact Jd bA);have dX:Mem bs (tab zo b):=(by have:=Ih dr;rw[hz]at this;exact this);have iW:zo.set b (z,bs)=zo:=Og dl;obtain⟨y,hy⟩:∃y,q.blocks[b]=y:=⟨_,rfl⟩;have bu:y.ok q b:=(by rw[<-hy];exact ho.bs b ew);have ck:y.ins.length<=1200/\y.aa.length<=1200:=(by rw[<-hy];exact ho.il b ew);have fd:(Ac q).nx b=y.next.map Int.toNat:=(by rw[<-hy,<-Cz ew];rfl);have dB:(Ac q).ph b=y.aa.map λp=>p.to.toNat:=(by rw[IA ew,hy]);refine Ze ?_
       refine Az (λe2 H2=>∃(zi2 zo2:List (Nat×List Bool)) (a2:Bool) (yi yo:Nat),lvOk R i zi2 zo2/\LvInv (Ac q) zi2 zo2/\At zi+At zo<=At zi2+At zo2/\
        (a2=true->a=true\/At zi+At zo<At zi2+At zo2)/\(a2=false->a=false/\LvCl (Ac q) zi2 zo2 b/\∀c,LvCl (Ac q) zi zo c->LvCl (Ac q) zi2 zo2 c)/\
        Kn H H2 [] (lvE R yi yo zi2 zo2++Bs x2 x3 yi yo i)/\
        lk 1 e2=.c (.pp [.int .i64 q.params,.int .i64 q.ab,bc])/\lk 2 e2=.c (.ptr x2 0)/\lk 3 e2=.c (.ptr x3 0)/\lk 4 e2=.c (.int .i64 i)/\lk 6 e2=.c (.bool a2)/\lk 7 e2=.c (.int .i64 b)) ?_ ?_
       ·intro Q br _ _;refine Qd (Q3 ?_);refine Za ?_;refine Qg (Qd (Qs (λm2 e1 H1=>∃(i2:Nat) (bs1:List Bool) (a1:Bool),m2=y.next.length-i2/\i2<=y.next.length/\bs1.length=R/\(∀r,bs.getD r false=true->bs1.getD r false=true)/\(∀r,bs1.getD r false=true->(Ac q).LO b r)/\
         (∀m∈((Ac q).nx b).take i2,∀r,tab zi m r\/r∈(Ac q).ea b m->bs1.getD r false=true)/\(a1=true->a=true\/cnt bs<cnt bs1)/\(a1=false->a=false/\bs1=bs)/\
         Kn H H1 [] (lvE R yi yo zi (zo.set b (z,bs1))++Bs x2 x3 yi yo i)/\
         e1=[(1,.c (.pp [.int .i64 q.params,.int .i64 q.ab,bc])),(2,.c (.ptr x2 0)),(3,.c (.ptr x3 0)),(4,.c (.int .i64 i)),(6,.c (.bool a1)),(7,.c (.int .i64 b)),(8,.c (.int .i64 i2))]) y.next.length ?_ ?_))
        ·exact⟨0,bs,a,ZD,ZD,wC,λr h=>h,λr h=>cz.bo b ew r ((dX r).1 h),ZF,λh=>.inl h,λh=>⟨h,rfl⟩,by rw[iW];exact kn,rfl⟩
        ·rintro m2 e1 H7 ⟨i2,bs1,a1,eK,kX,gC,g1,g2,g3,k1,k2,kn,rfl⟩;have aF:H7 x3=.st [.ah yi 1 0 i,.ah yo 1 0 i]:=(kn.get (x3,.st [.ah yi 1 0 i,.ah yo 1 0 i]) Zbe).1;obtain⟨bn,_,_,fc⟩:=db.facts kn ZF;refine Q3 (Qa ?_);simp only[go_sem,iT,bn,fP,gB,fc,ew,Q9 _ _ ew,hy,BlkD.cells,Qe];intro _;refine Wv ?_ ?_
         ·intro ao;have ae:i2<y.next.length:=ZI;have hnl2:=bu.nxl;have bQ:y.next.getD i2 0=y.next[i2]:=(by simp[Jb,ae]);have rA:y.next[i2]∈gnx q b:=(by rw[Cz ew,hy];exact Jd ae);have hmr:=bu.nx _ (Jd ae);obtain⟨mm,eB⟩:=Ja1 (show 0<=y.next[i2]by omega);have jO:mm<zi.length:=(by rw[cL.i];omega);have v8:mm∈(Ac q).nx b:=(by rw[fd];exact Jk.2 ⟨y.next[i2],Jd ae,by rw[eB];rfl⟩);have b8:((Ac q).nx b).take (i2+1)=((Ac q).nx b).take i2++[mm]:=by
           rw[Jg (by rw[fd,Je];exact ae)];congr 1;simp only[fd,Jac,eB];rfl
          rw[eB]at rA bQ;have wG:b<(zo.set b (z,bs1)).length:=(by simpa using dr);have vC:lvOk R i zi (zo.set b (z,bs1)):=⟨cL.i,by rw[Jo];exact cL.o,cL.li,λp hp=>by
           rcases Jr hp with hp|rfl
           ·exact cL.lo p hp
           ·exact gC⟩
          refine Ze ?_
          refine Wu ?_;simp only[go_sem,aF,iT,bn,fP,gB,fc,ew,Q9 _ _ ew,hy,BlkD.cells,ae,Qe,Qn _ _ ae,bQ];subst hR;subst hn;refine Qbm5 (F:=H7) (z:=z) (bs:=bs1) (w:=zi[mm].1) (nb:=zi[mm].2) (O:=λr=>bs1.getD r false=true) (I:=tab zi mm) ho (db.mid kn) (λx hx=>by rw[Js];exact Jm _ hx) ew rA vC (by rw[List.getElem?_set_self dr]) (by rw[Ji jO]) (λr=>Iff.rfl) (Ih jO) kn.mid λbs2 f H8 wJ fq pB nO k2'=>?_;rw[Jbx]at k2';have kn:=(kn.comp k2' Ii).drop;have stepT:∀a1',(a1'=(f || a1))->∃m,m<m2/\∃(i5:Nat) (bs1:List Bool) (a1:Bool),m=y.next.length-i5/\i5<=y.next.length/\bs1.length=q.ab.toNat/\(∀r,bs.getD r false=true->bs1.getD r false=true)/\(∀r,bs1.getD r false=true->(Ac q).LO b r)/\
            (∀m∈((Ac q).nx b).take i5,∀r,tab zi m r\/r∈(Ac q).ea b m->bs1.getD r false=true)/\(a1=true->a=true\/cnt bs<cnt bs1)/\(a1=false->a=false/\bs1=bs)/\
            Kn H H8 [] (lvE q.ab.toNat yi yo zi (zo.set b (z,bs1))++Bs x2 x3 yi yo q.blocks.length)/\
            [(1,V.c (.pp [.int .i64 q.params,.int .i64 q.ab,bc])),(2,.c (.ptr x2 0)),(3,.c (.ptr x3 0)),(4,.c (.int .i64 q.blocks.length)),(6,.c (.bool a1')),(7,.c (.int .i64 b)),(8,.c (.int .i64 ((i2:Int)+1)))]=[(1,.c (.pp [.int .i64 q.params,.int .i64 q.ab,bc])),(2,.c (.ptr x2 0)),(3,.c (.ptr x3 0)),(4,.c (.int .i64 q.blocks.length)),(6,.c (.bool a1)),(7,.c (.int .i64 b)),(8,.c (.int .i64 i5))]:=by
           intro a1' sH;refine⟨y.next.length-(i2+1),ZD,i2+1,bs2,a1',rfl,ZD,wJ,λr hr=>(fq r).2 (.inl (g1 r hr)),λr hr=>?_,λm hm r hr=>?_,λha=>?_,λha=>?_,kn,rfl⟩
           ·rcases (fq r).1 hr with h|h|h
            ·exact g2 r h
            ·exact⟨mm,v8,.inl (cz.bi mm (aL b ew mm v8) r h)⟩
            ·exact⟨mm,v8,.inr h⟩
           ·rw[b8]at hm;rcases Jp.1 hm with hm|hm
            ·exact (fq r).2 (.inl (g3 m hm r hr))
            ·simp only[Ja]at hm;subst hm;exact (fq r).2 (.inr hr)
           ·have c1:cnt bs<=cnt bs1:=(FA ZD g1).1
            cases hf:f with
            |true=>have:=pB hf;right;omega
            |false=>
             rw[nO hf];rw[sH,hf]at ha;exact k1 Zax
           ·rw[sH]at ha;have qp:f=false:=by cases hf:f with
             |true=>rw[hf]at ha;simp at ha
             |false=>rfl
            rw[qp]at ha;obtain⟨q1,q2⟩:=k2 Zax;exact⟨q1,by rw[nO qp,q2]⟩
          cases yy:f with
          |true=>
           simp only[go_sem,R4];refine Zg ?_;exact⟨Qo,stepT true (by rw[yy];rfl)⟩
          |false=>
           simp only[go_sem,R4];refine Zg ?_;exact⟨Qo,stepT a1 (by rw[yy];rfl)⟩
         ·intro ao;have j6:y.next.length<=i2:=ZI;have g3:∀r,(Ac q).outT (tab zi) b r->bs1.getD r false=true:=λr ⟨m,hm,hr⟩=>
           g3 m (by rw[Jc (by rw[fd,Je];exact j6)];exact hm) r hr
          refine Zb ?_;refine Zn aF iT ?_;have wG:b<(zo.set b (z,bs1)).length:=(by simpa using dr);obtain⟨lV,oh,od,o7⟩:=Dw kn.mid dr (by rw[hz]) bA hw;have eA:Slc H7 1 (Ar R zo) (.ah yo 1 0 i):=⟨by simp only[aZ,oh,AZ,cL.o];exact⟨trivial,ZD⟩,rfl,by simp only[rowsOf,oh,Jal];exact Jc (by rw[AZ,cL.o];exact Jf _),by simp only[ax,AZ,cL.o]⟩;have gG:Slc H7 1 (Qm bs1) (.ah z 1 0 R):=⟨by simp only[aZ,od,Qu,gC];exact⟨trivial,ZD⟩,rfl,by simp only[rowsOf,od,Jal];exact Jc (by rw[Qu,gC];exact Jf _),by simp only[ax,Qu,gC]⟩;refine Qa8x (i:=-1) (ic:=.ah yi 1 0 i) (bc:=bc) (W:=λr=>bs1.getD r false=true) ho (db.mid kn).nil ew ZD ZD kn eA rfl rfl (by rw[AZ];exact dr) (by rw[DS _ _ _ dr,hz]) gG rfl (by rw[hR];exact gC) (λr=>Iff.rfl) λy9 nb0 H8 mB lH kn=>?_;rw[hR]at mB;simp only[go_sem,Q3z,hR];refine Wa ?_;refine Qg (Qd (Qs (λm2 e1 H1=>∃(i2:Nat) (nb:List Bool),m2=y.aa.length-i2/\i2<=y.aa.length/\nb.length=R/\Mem nb (λr=>(Ac q).beh (λr=>bs1.getD r false=true) b 0 r/\r∉((Ac q).ph b).take i2)/\
           Kn H H1 [] ((lvE R yi yo zi (zo.set b (z,bs1))++Bs x2 x3 yi yo i)++[(y9,.vec 1 (Qm nb))])/\
           e1=[(1,.c (.pp [.int .i64 q.params,.int .i64 q.ab,bc])),(2,.c (.ptr x2 0)),(3,.c (.ptr x3 0)),(4,.c (.int .i64 i)),(6,.c (.bool a1)),(7,.c (.int .i64 b)),(9,.c (.ah y9 1 0 R)),(10,.c (.int .i64 i2))]) y.aa.length ?_ ?_))
          ·exact⟨0,nb0,ZD,ZD,mB,lH.congr λr=>ZF,kn,rfl⟩
          ·clear lH mB kn;rintro m3 e1 H9 ⟨i3,nb,nF,hi3,cC,lG,kn,rfl⟩;have fZ:H9 y9=.vec 1 (Qm nb):=(kn.get (y9,.vec 1 (Qm nb)) ZF).1;have htkn:(Qm nb).take R=Qm nb:=Jc Zae;obtain⟨bn,_,_,fc⟩:=db.facts kn ZF;refine Q3 (Qa ?_);simp only[go_sem,iT,bn,fP,gB,fc,ew,Q9 _ _ ew,hy,BlkD.cells,Q5];intro _;refine Wv ?_ ?_
           ·intro bk;have aV:i3<y.aa.length:=ZM;obtain⟨hv,b6⟩:=(bu.pto _ (Jd aV)).nat;rw[hR]at b6;have ky:((Ac q).ph b).take (i3+1)=((Ac q).ph b).take i3++[(y.aa[i3].to).toNat]:=by
             rw[Jg (by rw[dB,Je];exact aV)];simp[dB]
            have eJ:(y.aa[i3].to).toNat<nb.length:=ZD;generalize hr:(y.aa[i3].to).toNat=r at *;refine Ze ?_
            refine Wt ?_;simp only[go_sem,iT,bn,fP,gB,fc,ew,Q9 _ _ ew,hy,BlkD.cells,aV,Q5,Br _ _ aV,PhiD.cells,hv,b6,fZ,Qu,cC,BS,Qx _ _ eJ,Jj,Jf];intro H10 dg;have kn:=kn.aB (lvE R yi yo zi (zo.set b (z,bs1))++Bs x2 x3 yi yo i).length (x:=y9) (o:=.vec 1 (Qm nb)) ZF dg;refine Zg ?_;refine⟨Qo,y.aa.length-(i3+1),ZD,i3+1,nb.set r false,rfl,ZD,by rw[Jo];exact cC,?_,ZO,rfl⟩;refine (lG.del eJ).congr λx=>?_;rw[ky];simp only[Jp,Ja,not_or,and_assoc]
           ·intro bk;have p9:y.aa.length<=i3:=ZM;have lG:Mem nb ((Ac q).thru (λr=>bs1.getD r false=true) b):=lG.congr λr=>(by rw[Jc (by rw[dB,Je];exact p9)];rfl);refine Zb ?_;refine Wa ?_;refine Qg (Qd (Qs (λm4 e1 H1=>∃(i4:Nat) (a2:Bool),m4=R-i4/\i4<=R/\H1=H9/\(a2=true->a1=true\/∃r,nb.getD r false≠bw.getD r false)/\(a2=false->a1=false/\∀r,r<i4->nb.getD r false=bw.getD r false)/\
             e1=[(1,.c (.pp [.int .i64 q.params,.int .i64 q.ab,bc])),(2,.c (.ptr x2 0)),(3,.c (.ptr x3 0)),(4,.c (.int .i64 i)),(6,.c (.bool a2)),(7,.c (.int .i64 b)),(9,.c (.ah y9 1 0 R)),(11,.c (.int .i64 i4))]) R ?_ ?_))
            ·exact⟨0,a1,ZD,ZD,rfl,λh=>.inl h,λh=>⟨h,λr hr=>ZD⟩,rfl⟩
            ·have aF:H9 x3=.st [.ah yi 1 0 i,.ah yo 1 0 i]:=(kn.get (x3,.st [.ah yi 1 0 i,.ah yo 1 0 i]) Zbe).1;have knA:=kn.drop;obtain⟨lV,oh,od,o7⟩:=Dw knA.mid dr (by rw[hz]) bA hw;rintro m4 e1 H10 ⟨i4,a2,yg,hi4,rfl,k3,k4,rfl⟩;have oB:∀(zs:List (Nat×List Bool)),zs.length=i->(Ar R zs).take i=Ar R zs:=λzs h=>Jc (by rw[AZ];omega);have qi:∀(bs:List Bool),bs.length=R->(Qm bs).take R=Qm bs:=λbs h=>Jc Zae;have fQ:zi[b].1=w:=(by rw[hw]);have kW:=cL.i;refine Wa ?_;refine Wv ?_ ?_
             ·intro bN;have gn:i4<R:=(by have:(i4:Int)<q.ab:=(by simpa using bN);omega);have rG:i4<nb.length:=ZD;have rE:i4<bw.length:=ZD;refine Ze ?_
              refine Az (λe2 H2=>∃(a3:Bool),H2=H10/\(a3=true->a2=true\/nb.getD i4 false≠bw.getD i4 false)/\(a3=false->a2=false/\nb.getD i4 false=bw.getD i4 false)/\
               lk 1 e2=.c (.pp [.int .i64 q.params,.int .i64 q.ab,bc])/\lk 2 e2=.c (.ptr x2 0)/\lk 3 e2=.c (.ptr x3 0)/\lk 4 e2=.c (.int .i64 i)/\lk 6 e2=.c (.bool a3)/\lk 7 e2=.c (.int .i64 b)/\lk 9 e2=.c (.ah y9 1 0 R)/\lk 11 e2=.c (.int .i64 i4)) ?_ ?_
              ·intro Q br _ _;refine Qd ?_
               cases ly:a2 with
               |true=>
                refine Aw ?_;simp only[go_sem,aF,lV,o7,fZ,oB _ kW,qi _ cC,qi _ nf,AZ,DS _ _ _ bA,fQ,cM,kW,gn,Qu,cC,nf,Qx _ _ rG,Qx _ _ rE,Jj,Jf];exact br _ _ ⟨true,rfl,λ_=>.inl ly,λh=>ZK,rfl,rfl,rfl,rfl,rfl,rfl,rfl,rfl⟩
               |false=>
                refine Aw ?_;simp only[go_sem,aF,lV,o7,fZ,oB _ kW,qi _ cC,qi _ nf,AZ,DS _ _ _ bA,fQ,cM,kW,gn,Qu,cC,nf,Qx _ _ rG,Qx _ _ rE,Jj,Jf];refine br _ _ ⟨_,rfl,λh=>?_,λh=>?_,rfl,rfl,rfl,rfl,rfl,rfl,rfl,rfl⟩
                ·right;intro he;rw[he]at h;simp at h
                ·exact⟨ly,ZP⟩
              ·rintro e2 H11 ⟨a3,rfl,q1,q2,l1,l2,l3,l4,l6,l7,l9,l11⟩;refine Qp ?_;simp only[go_sem,X.next,l1,l2,l3,l4,l6,l7,l9,l11];refine⟨Qo,R-(i4+1),ZD,i4+1,a3,rfl,ZD,λh=>?_,λh=>?_,rfl⟩
               ·rcases q1 h with h1|h1
                ·exact k3 h1
                ·exact .inr ⟨i4,h1⟩
               ·obtain⟨h1,h2⟩:=q2 h;obtain⟨h3,h4⟩:=k4 h1;refine⟨h3,λr hr=>?_⟩;by_cases rc:r<i4
                ·exact h4 r rc
                ·have:r=i4:=ZD;subst this;exact h2
             ·intro bN;have pz:i4=R:=(by have:¬(i4:Int)<q.ab:=(by simpa using bN);omega);subst pz;refine Zb ?_;refine Qp ?_;simp only[go_sem,aF,lV,AZ,DS _ _ _ bA,cM,kW,Jj,Jf];intro H11 dG;have a8:(Ar i4 zi).set b [.ah y9 1 0 i4]=Ar i4 (zi.set b (y9,nb)):=(by rw[Ar,Ar,J5]);rw[a8]at dG;have m7:obZ (zi.set b (y9,nb))=(obZ zi).set b (y9,.vec 1 (Qm nb)):=(by rw[obZ,obZ,J5]);have th:=Y6 (l:=obZ zi) (i:=b) (x:=(y9,Obj.vec 1 (Qm nb))) (by simpa[obZ]using bA);have kn:Kn H H11 [] ((lvE i4 yi yo (zi.set b (y9,nb)) (zo.set b (z,bs1))++Bs x2 x3 yi yo i)++[(obZ zi)[b]'(by simpa[obZ]using bA)]):=by
               have k5:Kn H H11 [] ((([(yi,.vec 1 (Ar i4 (zi.set b (y9,nb)))),(yo,.vec 1 (Ar i4 (zo.set b (z,bs1))))]++(obZ zi++obZ (zo.set b (z,bs1))))++Bs x2 x3 yi yo i)++[(y9,.vec 1 (Qm nb))]):=kn.aB 0 (x:=yi) (o:=.vec 1 (Ar i4 zi)) rfl dG;refine k5.perm (Qt λf hf h0 hc hp=>?_);have e1:=hp _ _ th;simp only[hf]at e1;simp only[lvE,hf,m7];omega
              have kn:=kn.drop;have aR:=cz.step (y:=y9) aL ew (cL.i.trans hn.symm) (cL.o.trans hn.symm) cL.li cL.lo gC cC dl fR g1 g2 g3 (λr=>lG r) k1 k2 k3 k4;obtain⟨s1,s2,s3,s4⟩:=aR;refine br _ _ ⟨zi.set b (y9,nb),zo.set b (z,bs1),a2,yi,yo,⟨by rw[Jo];exact cL.i,by rw[Jo];exact cL.o,λp hp=>?_,λp hp=>?_⟩,s1,s2,s3,s4,kn,rfl,rfl,rfl,rfl,rfl,rfl⟩
              ·rcases Jr hp with hp|rfl
               ·exact cL.li p hp
               ·exact cC
              ·rcases Jr hp with hp|rfl
               ·exact cL.lo p hp
               ·exact gC
       ·rintro e2 H7 ⟨zi2,zo2,a2,yi2,yo2,vB,kV,t1,t2,t3,kn,l1,l2,l3,l4,l6,l7⟩;refine Qp ?_;simp only[go_sem,X.next,l1,l2,l3,l4,l6,l7];refine⟨Qo,b,ZD,b,(b:Int)-1,zi2,zo2,a2,yi2,yo2,rfl,ZD,rfl,vB,kV,ZD,λha=>?_,λha c db cn=>?_,kn,rfl⟩
        ·rcases t2 ha with h|h
         ·have:=qR h;omega
         ·omega
        ·obtain⟨u1,u2,u3⟩:=t3 ha;by_cases bW:c=b
         ·subst bW;exact u2
         ·exact u3 c (qT u1 c ZD cn)
      ·intro hc;have vE:¬0<=j:=ZG;have iP:m1=0:=ZD;subst iP;refine Zb ?_;refine⟨if a=true then 2 * (i * R)+1-(At zi+At zo)else 0,?_,zi,zo,a,yi,yo,rfl,cL,cz,λha b hb=>qT ha b ZD hb,kn,by first|exact⟨rfl,rfl,rfl,rfl⟩|exact rfl|trivial⟩;split
       ·have:=qR ‹_›;omega
       ·omega
    ·intro wN;have cB:=cB wN;have cS:=cz.done aL λb hb=>cB b (by rw[<-hn];exact hb);have aF:H5 x3=.st [.ah yi 1 0 i,.ah yo 1 0 i]:=(kn.get (x3,.st [.ah yi 1 0 i,.ah yo 1 0 i]) Zbe).1;have aW:H5 x2=.st [.sl true 1 [],.sl true 1 []]:=(kn.get (x2,.st [.sl true 1 [],.sl true 1 []]) Zbe).1;refine Zb ?_;refine Zn aW aF ?_;intro H6 h6;have kn:Kn H H6 [] (lvE R yi yo zi zo++[(x2,.st [.ah yi 1 0 i,.ah yo 1 0 i]),(x3,.st [.ah yi 1 0 i,.ah yo 1 0 i])]):=by
      have:=kn.aB (lvE R yi yo zi zo).length (x:=x2) (o:=.st [.sl true 1 [],.sl true 1 []]) Zbe h6;simpa[Bs]using this
     have aW:H6 x2=.st [.ah yi 1 0 i,.ah yo 1 0 i]:=(kn.get (x2,.st [.ah yi 1 0 i,.ah yo 1 0 i]) ZF).1;have hg:∀p∈lvE R yi yo zi zo,H6 p.1=p.2/\un H p.1=true:=λp hp=>⟨(kn.get p (Jh _ (Jm _ hp))).1,BE (kn.loc p (Jm _ hp))⟩;have g1:=hg (yi,.vec 1 (Ar R zi)) (by simp[lvE]);have g2:=hg (yo,.vec 1 (Ar R zo)) (by simp[lvE]);refine Zj aW ?_;refine⟨_,(FrzL.cons (FrzR.ah g1.2 g1.1 (by rw[AZ,cL.i]) (OA cL.li λp hp=>hg p (by simp only[lvE];exact Jh _ (Jm _ hp))))
      (FrzL.cons (FrzR.ah g2.2 g2.1 (by rw[AZ,cL.o]) (OA cL.lo λp hp=>hg p (by simp only[lvE];exact Jh _ (Jh _ hp)))) FrzL.nil)).ag,hK zi zo _ kn.fin ⟨by rw[hR,hn];exact cL,λb hb=>cS b hb⟩⟩
end Go.AE.Y
namespace Go.AE.Y
attribute [local go_sem] cond_true cond_false Bool.not_true Bool.not_false
open Go.Proofs.Tryz
variable {H H0:Heap}{K:V->Heap->Prop}{E L:List (Nat×Obj)}
def Cy (ls:List (List Nat)):List (List C):=ls.map λl=>[.sl false 1 (Q7 l)]
theorem KG (ls:List (List Nat)):(Cy ls).length=ls.length:=by simp[Cy]
theorem Qa8z (ls:List (List Nat))(i:Nat)(h:i<ls.length):(Cy ls).getD i []=[.sl false 1 (Q7 ls[i])]:=by simp[Cy,Jb,h]
theorem Qa80 (ls:List (List Nat)):∀r∈Cy ls,an r=true:=by intro r hr;obtain⟨x,_,rfl⟩:=Jk.1 hr;rfl
theorem Qa81 (ls:List (List Nat))(l:List Nat):Cy ls++[[.sl false 1 (Q7 l)]]=Cy (ls++[l]):=by simp[Cy]
noncomputable def AP (q:CodeD):List (List Nat):=(List.range q.blocks.length).map λb=>ascL q.ab.toNat ((Ac q).LI b)
noncomputable def Ch (cs:List CodeD)(k:Int)(f:CodeD->List (List Nat)):List (List Nat):=if hasG cs k=true then match cs[k.toNat]? with
 |some q=>f q
 |none=>[]else []
theorem FI {cs:List CodeD}{k:Int}(h:hasG cs k=true):∃(m:Nat) (hm:m<cs.length),k=(m:Int)/\cs[m].ok:=by
 simp only[hasG,Jq,decide_eq_true_eq]at h;obtain⟨h1,h2,h3⟩:=h;refine⟨k.toNat,ZD,ZD,CA h1 _⟩
end Go.AE.Y
namespace Go.AE.Y
attribute [local instance] Classical.propDecidable
def asS (S:Nat->List Nat)(b:Nat):RS':=λr=>r∈S b
structure ImInv (F:Flo)(R:Nat)(S:Nat->List Nat):Prop where
 below:F.Below (asS S)
 post:∀b,b<F.n->∀r,asS S b r->F.inT (asS S) b r
 nd:∀b,(S b).Nodup
 lt:∀b,∀r∈S b,r<R
variable {F:Flo}{R:Nat}{S:Nat->List Nat}
theorem ImInv.same {b:Nat}{ks:List Nat}(h:ImInv F R S)(hb:b<F.n)(bE:ks.Nodup)(ev:∀r,r∈ks↔F.inT (asS S) b r)(hl:ks.length=(S b).length):∀r,F.inT (asS S) b r->asS S b r:=λr hr=>
 Qa0p (h.nd b) (λx hx=>(ev x).2 (h.post b hb x hx)) ZD r ((ev r).2 hr)
theorem ImInv.step {b:Nat}{ks:List Nat}(h:ImInv F R S)(hf:F.fits)(hb:b<F.n)(bE:ks.Nodup)(ae:∀r∈ks,r<R)(ev:∀r,r∈ks↔F.inT (asS S) b r)(hl:¬ks.length=(S b).length) :
  ImInv F R (λc=>if c=b then ks else S c)/\tot F.n S<tot F.n (λc=>if c=b then ks else S c):=by
 have jq:∀r,r∈S b->r∈ks:=λr hr=>(ev r).2 (h.post b hb r hr);have aP:=Se (h.nd b) jq;have hS:∀c,c<F.n->∀r,asS S c r->asS (λc=>if c=b then ks else S c) c r:=λc _ r hr=>by
  simp only[asS];by_cases hc:c=b
  ·subst hc;rw[if_pos rfl];exact jq r hr
  ·rw[if_neg hc];exact hr
 refine⟨⟨λc hc r hr=>?_,λc hc r hr=>?_,λc=>?_,λc r hr=>?_⟩,TP hb (λc hc=>?_) ?_⟩
 ·simp only[asS]at hr;by_cases bW:c=b
  ·subst bW;rw[if_pos rfl]at hr;exact h.below.inT hf hb r ((ev r).1 hr)
  ·rw[if_neg bW]at hr;exact h.below c hc r hr
 ·have h1:F.inT (asS S) c r:=by
   simp only[asS]at hr;by_cases bW:c=b
   ·subst bW;rw[if_pos rfl]at hr;exact (ev r).1 hr
   ·rw[if_neg bW]at hr;exact h.post c hc r hr
  exact Flo.inT_mono hf hS hc r h1
 ·by_cases bW:c=b
  ·subst bW;simpa using bE
  ·simpa[bW]using h.nd c
 ·by_cases bW:c=b
  ·subst bW;exact ae r Zaj
  ·exact h.lt c r (by simpa[bW]using hr)
 ·by_cases bW:c=b
  ·subst bW;simpa using aP
  ·simp[bW]
 ·simp only[if_pos];omega
theorem ImInv.done (h:ImInv F R S)(hc:∀b,b<F.n->∀r,F.inT (asS S) b r->asS S b r){b:Nat}(hb:b<F.n)(r:Nat):r∈S b↔F.LI b r:=
 Flo.is_least hc h.below hb r
theorem ImInv.bound (h:ImInv F R S):tot F.n S<=F.n * R:=TQ λb _=>En (h.nd b) (h.lt b)
theorem ImInv.start:ImInv F R λ_=>[]:=⟨λb _ r hr=>absurd hr (by simp[asS]),λb _ r hr=>absurd hr (by simp[asS]),λ_=>ZF,λ_ r hr=>by simp at hr⟩
end Go.AE.Y
namespace Go.AE.Y
attribute [local go_sem] cond_true cond_false Bool.not_true Bool.not_false
open Go.Proofs.Tryz
variable {H H0 F:Heap}{K:V->Heap->Prop}{E L:List (Nat×Obj)}
variable {q:CodeD}{fl:Bool}{l yi yp:Nat}{ss:List SetO}{pr:List (List C)}
theorem IF {ks:List Nat}{b R:Nat}(h:∀x∈ks,x<R):∀x∈ks.erase b,x<R:=λx hx=>h x (List.mem_of_mem_erase hx)
theorem KD {ks:List Nat}{b x:Nat}(h:ks.Nodup):x∈ks.erase b↔x∈ks/\x≠b:=by rw[List.Nodup.mem_erase_iff h,and_comm]
set_option maxHeartbeats 4000000 in
theorem Qbrj {b:Nat}{i:Int}(ho:q.ok)(hb:b<q.blocks.length)(hi:-1<=i)(kX:i<q.blocks[b].ins.length)(dY:imOk q ss pr)(kn:Kn F H (imE q fl l yi yp ss pr) [])
  (hK:∀M ver ks H',ks.Nodup->(∀x∈ks,x<q.ab.toNat)->(∀r,r∈ks↔(Ac q).beh ((Ac q).outT (tabS ss) b) b (i+1).toNat r)->Kn F H' (imE q fl l yi yp ss pr) [(M,.map ver (Ai ks))]->K (.c (.mp M)) H') :
  Qv prog To [.c (.ptr l 0),.c (.int .i64 b),.c (.int .i64 i)] H K:=by
 have bH:=ho.r0;have dC:=ho.r1;obtain⟨y,hy⟩:∃y,q.blocks[b]=y:=⟨_,rfl⟩;have bu:y.ok q b:=ZaM
 have ck:y.ins.length<=1200/\y.aa.length<=1200:=by rw[<-hy];exact ho.il b hb
 rw[hy]at kX;have lF:(Ac q).on b=if y.jump=1 then []else [y.on.toNat]:=by rw[Fa hb,hy]
 have gu:(Ac q).ins b=y.ins.map λx=>(AU x,toN x.args):=by rw[F5 hb,hy]
 refine Qc Ab Qab3 ?_;refine Wd ?_;refine Vi ho hb dY kn λM ver ks H1 bE ae ev kn=>?_;generalize (Ac q).outT (tabS ss) b=W at *;obtain⟨hl,_,_⟩:=DL kn;simp only[go_sem,Qiv];refine Qa ?_;simp only[go_sem,hl,hb,Qj,Q9 _ _ hb,BlkD.cells,hy];intro x8 aS H2 h2;have kn:=kn.al aS h2;have aS:=kn.l 1 rfl;simp only[go_sem,Qiw,aS];intro H3 h3;have kn:Kn F H3 (imE q fl l yi yp ss pr) [(M,.map ver (Ai ks)),(x8,blkC y)]:=kn.aB 1 rfl h3;refine Q3 (Qa ?_);have aS:H3 x8=.st [.sl false 2 (Q8 y.aa),.sl false 4 (Af y.ins),.int .i64 y.jump,.int .i64 y.on,.sl false 1 (Qb y.next)]:=kn.l 1 rfl;have hM:=kn.l 0 rfl;have dd:=En bE ae;simp only[go_sem,aS];refine FZ ?_;refine Az (λe2 H4=>∃(ver:Nat) (ks1:List Nat),ks1.Nodup/\(∀x∈ks1,x<q.ab.toNat)/\(∀r,r∈ks1↔(Ac q).endS W b r)/\Kn F H4 (imE q fl l yi yp ss pr) [(M,.map ver (Ai ks1)),(x8,blkC y)]/\
  lk 2 e2=.c (.int .i64 i)/\lk 7 e2=.c (.mp M)/\lk 8 e2=.c (.ptr x8 0)) ?_ ?_
 ·intro Q br _ _;refine Ww ?_ ?_
  ·intro hc;have hj:¬y.jump=1:=Za7
   obtain⟨hv,b6⟩:=(bu.on hj).nat;generalize hr:y.on.toNat=r at *;refine Qp ?_;simp only[go_sem,aS,hM,hv,Gp,Eg,PY];refine⟨by simp only[LIM];omega,λH4 h4=>?_⟩;have kn:=kn.aB 0 rfl h4;refine br _ _ ⟨_,addK ks r,Pa bE,D4 ae b6,λx=>?_,kn,rfl,rfl,rfl⟩;rw[addK_mem,ev,Flo.endS,lF,if_neg hj,Ja]
  ·intro hc;have hj:y.jump=1:=by
    have:=bu.jmp;simp at hc;omega
   refine Ze ?_
   refine br _ _ ⟨ver,ks,bE,ae,λx=>?_,kn,rfl,rfl,rfl⟩;rw[ev,Flo.endS,lF,if_pos hj];simp
 ·clear ev bE ae kn aS hM dd;rintro e2 H4 ⟨ver,ks,bE,ae,ev,kn,l2,l7,l8⟩;have aS:H4 x8=.st [.sl false 2 (Q8 y.aa),.sl false 4 (Af y.ins),.int .i64 y.jump,.int .i64 y.on,.sl false 1 (Qb y.next)]:=kn.l 1 rfl;refine Q3 (Qa ?_);simp only[go_sem,l2,l7,l8,aS,A0];intro _;refine⟨Qo,?_⟩;refine Qg (Qd (Qs (λm e1 H1=>∃(k:Nat) (j:Int) (ver:Nat) (ks:List Nat),m=k/\k<=y.ins.length/\i+1<=k/\j=(k:Int)-1/\ks.Nodup/\(∀x∈ks,x<q.ab.toNat)/\(∀r,r∈ks↔(Ac q).beh W b k r)/\Kn F H1 (imE q fl l yi yp ss pr) [(M,.map ver (Ai ks)),(x8,blkC y)]/\
   lk 2 e1=.c (.int .i64 i)/\lk 7 e1=.c (.mp M)/\lk 8 e1=.c (.ptr x8 0)/\lk 9 e1=.c (.int .i64 j)) y.ins.length ?_ ?_))
  ·refine⟨y.ins.length,_,ver,ks,rfl,Jf _,ZD,rfl,bE,ae,λr=>?_,kn,rfl,rfl,rfl,rfl⟩;rw[ev,Flo.beh_end _ _ _ (by rw[gu,Je];exact Jf _)]
  ·clear ev bE ae kn aS l2 l7 l8;rintro m e1 H5 ⟨k,j,ver,ks,rfl,hk,rW,po,bE,ae,ev,kn,l2,l7,l8,l9⟩;have aS:H5 x8=.st [.sl false 2 (Q8 y.aa),.sl false 4 (Af y.ins),.int .i64 y.jump,.int .i64 y.on,.sl false 1 (Qb y.next)]:=kn.l 1 rfl;refine Q3 (Qa ?_);simp only[go_sem,l2,l7,l8,l9];refine Wv ?_ ?_
   ·intro hc;have mS:i<j:=ZG;obtain⟨k,rfl⟩:∃k',m=k'+1:=⟨m-1,ZD⟩;have hj:j=(k:Int):=ZD;subst hj;have dd:k<y.ins.length:=ZD;obtain⟨x,hx⟩:∃x,y.ins[k]=x:=⟨_,rfl⟩;have gL:x∈y.ins:=(by rw[<-hx];exact Jd dd);have fS:(Ac q).beh W b k=Dd (AU x,toN x.args) ((Ac q).beh W b (k+1)):=by
     rw[Flo.beh_step _ _ _ (by rw[gu,Je];exact dd)];simp only[gu,Jac,hx]
    refine Ze ?_
    refine Az (λe2 H6=>∃(ver:Nat) (ks:List Nat),ks.Nodup/\(∀x∈ks,x<q.ab.toNat)/\(∀r,r∈ks↔(Ac q).beh W b k r)/\Kn F H6 (imE q fl l yi yp ss pr) [(M,.map ver (Ai ks)),(x8,blkC y)]/\
     lk 2 e2=.c (.int .i64 i)/\lk 7 e2=.c (.mp M)/\lk 8 e2=.c (.ptr x8 0)/\lk 9 e2=.c (.int .i64 k)) ?_ ?_
    ·intro Q br _ _;refine Qd (Q3 ?_);refine Qa ?_;simp only[go_sem,aS,dd,A0,BR _ _ dd,InsD.cK,InsD.bt,InsD.len4,hx];refine KL ?_;simp only[go_sem,Qix];refine Wa ?_;refine Az (λe2 H6=>∃(ver:Nat) (ks1:List Nat),ks1.Nodup/\(∀x∈ks1,x<q.ab.toNat)/\(∀r,r∈ks1↔(Ac q).beh W b (k+1) r/\AU x≠some r)/\Kn F H6 (imE q fl l yi yp ss pr) [(M,.map ver (Ai ks1)),(x8,blkC y)]/\
      lk 2 e2=.c (.int .i64 i)/\lk 7 e2=.c (.mp M)/\lk 8 e2=.c (.ptr x8 0)/\lk 9 e2=.c (.int .i64 k)) ?_ ?_
     ·intro Q br _ _;refine Ww ?_ ?_
      ·intro ao;have cF:AK x.op=true:=by
        cases cF:AK x.op with
        |true=>rfl
        |false=>simp[AB,cF]at ao
       obtain⟨hv,b6⟩:=(bu.to x gL cF).nat;have jO:AB x=x.to:=(by rw[AB,cF];rfl);have dX:AU x=some x.to.toNat:=Za3;have hM:=kn.l 0 rfl;rw[jO];rw[dX]at br;generalize hr:x.to.toNat=r at *;refine Qp ?_;simp only[go_sem,hM,hv,Gp,Eg,KT];intro H6 h6;have kn:=kn.aB 0 rfl h6;refine br _ _ ⟨_,ks.erase r,bE.erase _,IF ae,λz=>?_,kn,rfl,rfl,rfl,rfl⟩;rw[KD bE,ev];simp[eq_comm]
      ·intro ao;have cF:AK x.op=false:=by
        cases cF:AK x.op with
        |false=>rfl
        |true=>
         have:=(bu.to x gL cF).1;simp[AB,cF]at ao;omega
       have dX:AU x=none:=Za3;rw[dX]at br;refine Ze ?_
       exact br _ _ ⟨ver,ks,bE,ae,λz=>by rw[ev];simp,kn,rfl,rfl,rfl,rfl⟩
     ·clear ev bE ae kn aS l2 l7 l8 l9;rintro e2 H6 ⟨ver,ks,bE,ae,ev,kn,l2,l7,l8,l9⟩;have aS:H6 x8=.st [.sl false 2 (Q8 y.aa),.sl false 4 (Af y.ins),.int .i64 y.jump,.int .i64 y.on,.sl false 1 (Qb y.next)]:=kn.l 1 rfl;have hM:=kn.l 0 rfl;refine Qp ?_;simp only[go_sem,l2,l7,l8,l9,aS,dd,A0,BR _ _ dd,InsD.cells,hx];refine Vt (R:=q.ab.toNat) hM bE ae ZD (λv hv=>by have:=(bu.args x gL v hv);exact⟨this.1,this.nat.2⟩) λver' ks' H7 hu kQ j4=>?_;have kn:=kn.callL 0 rfl hu ZF;refine br _ _ ⟨ver',ks',kQ,λz hz=>?_,λr=>?_,kn,rfl,rfl,rfl,rfl⟩
      ·rcases (j4 z).1 hz with h|h
       ·exact ae z h
       ·obtain⟨v,hv,rfl⟩:=Jk.1 h;exact (bu.args x gL v hv).nat.2
      ·rw[j4,ev,fS];exact Or.comm
    ·clear ev bE ae kn aS l2 l7 l8 l9;rintro e2 H6 ⟨ver,ks,bE,ae,ev,kn,l2,l7,l8,l9⟩;refine Qp ?_;simp only[go_sem,l2,l7,l8,l9];refine⟨Qo,?_⟩;show ∃m,_;exact⟨k,ZD,k,(k:Int)-1,ver,ks,rfl,ZD,ZD,rfl,bE,ae,ev,kn,rfl,rfl,rfl,rfl⟩
   ·intro hc;have aP:¬i<j:=ZG;refine Qq ?_;try simp only[go_sem,X.next]
    refine Zh l7 ?_;refine Zc ?_;have e1:(i+1).toNat=m:=ZD;exact hK M ver ks H5 bE ae (λr=>by rw[e1];exact ev r) (kn.drop (A:=[_]))
end Go.AE.Y
namespace Go.AE.Y
attribute [local go_sem] cond_true cond_false Bool.not_true Bool.not_false
open Go.Proofs.Tryz
variable {H H0 F:Heap}{K:V->Heap->Prop}{E L:List (Nat×Obj)}
def A1 (ss:List SetO)(b:Nat):List Nat:=(ss[b]?.map SetO.ks).getD []
theorem X0 {ss:List SetO}{b:Nat}(h:b<ss.length):A1 ss b=ss[b].ks:=by simp[A1,h]
theorem Qbsn {ss:List SetO}{b:Nat}{s:SetO}(h:b<ss.length):A1 (ss.set b s)=λc=>if c=b then s.ks else A1 ss c:=by
 funext c
 by_cases hc:c=b
 ·subst hc;simp[A1,h]
 ·simp only[A1,hc,if_false];rw[Jbb (λe=>hc e.symm)]
set_option maxHeartbeats 4000000 in
theorem Qbs0 {q:CodeD}{fl:Bool}(ho:q.ok)(kn:Kn H0 H E L)
  (hK:∀l yi yp ss pr H',imOk q ss pr->(∀b,b<q.blocks.length->∀r,tabS ss b r↔(Ac q).LI b r)->Kn H0 H' E (imE q fl l yi yp ss pr++L)->K (.c (.ptr l 0)) H') :
  Qv prog RF [.ag [.int .i64 q.params,.int .i64 q.ab,.sl fl 5 (Ql q.blocks)]] H K:=by
 have bH:=ho.r0;have dC:=ho.r1;have fw:=ho.b0;have bf:=ho.b1;have aL:=ho.fitsF;have sT:(Ac q).n=q.blocks.length:=rfl;obtain⟨n,hn⟩:∃n,q.blocks.length=n:=⟨_,rfl⟩;refine Qc Ab Qa9a ?_;refine Za ?_;refine Aj ?_;simp only[go_sem,Qj,hn];refine⟨by simp only[LIM];omega,λyi cU H1 h1=>?_⟩;have kn:=kn.al cU h1;simp only[go_sem,Qxz];intro l hl H2 h2;have kn:=kn.al hl h2;simp only[go_sem,Qxy];refine Q3 (Qa ?_);simp only[go_sem,Qj,hn];intro _;refine Qg (Qd (Qs (λm e1 H1=>∃(i:Nat) (cp:C) (Lg:List (Nat×Obj)) (pr:List (List C)),m=n-i/\i<=n/\pr.length=i/\(∀b,b<i->∃fl,pr.getD b []=[.sl fl 1 (Qb (Qz (gnx q) (b:Int) n))])/\(∀r∈pr,an r=true)/\Gr Lg 1 pr cp/\
  Kn H0 H1 E (([(l,.st [.int .i64 q.params,.int .i64 q.ab,.sl fl 5 (Ql q.blocks),.ah yi 1 0 n,cp]),(yi,.vec 1 (List.replicate n [.mnil]))]++L)++Lg)/\
  e1=[(1,.c (.pp [.int .i64 q.params,.int .i64 q.ab,.sl fl 5 (Ql q.blocks)])),(3,.c (.ptr l 0)),(19,.c (.int .i64 n)),(20,.c (.int .i64 i))]) n ?_ ?_))
 ·refine⟨0,_,[],[],ZD,ZD,rfl,λb hb=>ZD,ZF,.nil 1,?_,rfl⟩;refine kn.perm (Qt λf hf h0 hc hp=>?_);have e1:=hc (l,.st [.int .i64 q.params,.int .i64 q.ab,.sl fl 5 (Ql q.blocks),.ah yi 1 0 n,.sl true 1 []]) [(yi,.vec 1 (List.replicate n [.mnil]))];simp only[hf,e1,h0];omega
 ·clear kn h1 h2 hl cU;rintro m e1 H3 ⟨i,cp,Lg,pr,hm,hi,cP,gm,sZ,aq,kn,rfl⟩;have jV:=aq.ai;refine Za ?_;refine Wv ?_ ?_
  ·intro hc;have ae:i<n:=ZG
   have hltq:i<q.blocks.length:=ZD
   have hl:=kn.l 0 rfl;refine Ze ?_
   refine Wm ?_;refine Aw ?_;simp only[go_sem,hl,jV];refine FD (rows:=Ql q.blocks) (nx:=gnx q) (Cs _ q fl) λfl' H4 hu=>?_;have kn:=kn.aw hu;have hl:=kn.l 0 rfl;have cV:(decide (0<=(i:Int))&&decide ((i:Int)<=((Ql q.blocks).length:Int)-1))=true:=by rw[Qj];simp;omega
   rw[DK,if_pos cV,Qj,hn];simp only[go_sem,Qx1,hl,jV];refine kn.bD aq (.mk' _ _ _ _) (by intro r hr;simp at hr;subst hr;rfl) (by simp only[LIM,Jl,Jn];omega) λcp2 Lg2 H5 cG w7 kn=>?_;have hl:=kn.l 0 rfl;simp only[go_sem,Qx0,hl,w7];intro H6 h6;have kn:=kn.aB 0 rfl h6;refine Zg ?_;refine⟨Qo,n-(i+1),ZD,i+1,cp2,Lg2,pr++[[.sl fl' 1 (Qb (Qz (gnx q) (i:Int) n))]],rfl,ZD,by simp[cP],λb hb=>?_,?_,cG,kn,rfl⟩
   ·by_cases bA:b<i
    ·obtain⟨fl2,h⟩:=gm b bA;refine⟨fl2,?_⟩;rw[<-h];simp[Jb,List.getElem?_append_left (show b<pr.length by omega)]
    ·have:b=i:=ZD;subst this;refine⟨fl',?_⟩;rw[Jb,Jag ZD];simp[cP]
   ·intro r hr;rcases Jp.1 hr with hr|hr
    ·exact sZ r hr
    ·simp at hr;subst hr;rfl
  ·intro hc;have cV:i=n:=by have:n<=i:=ZG;omega
   subst cV;obtain⟨yp,dN,yU⟩:∃yp,cp=.ah yp 1 0 i/\Lg=[(yp,.vec 1 pr)]:=by
    rcases aq with ⟨_,h,_⟩|⟨y,h1,h2⟩
    ·rw[h]at cP;simp at cP;omega
    ·exact⟨y,by rw[h1,cP],h2⟩
   have gO:Be (List.replicate i (SetO.mk .mnil [] []))=List.replicate i [.mnil]:=by simp[Be]
   have sj:(List.replicate i (SetO.mk .mnil [] [])).flatMap SetO.lg=[]:=by
    rw[Ja2];intro x hx;rw[J0 hx]
   have kn:Kn H0 H3 E (imE q fl l yi yp (List.replicate i (SetO.mk .mnil [] [])) pr++L):=by
    refine kn.perm (Qt λf hf h0 hc hp=>?_);rw[yU,dN];simp only[imE,gO,sj,hn,hf,h0];have e1:=hc (l,.st [.int .i64 q.params,.int .i64 q.ab,.sl fl 5 (Ql q.blocks),.ah yi 1 0 i,.ah yp 1 0 i]) [(yi,.vec 1 (List.replicate i [.mnil])),(yp,.vec 1 pr)];have e2:=hc (l,.st [.int .i64 q.params,.int .i64 q.ab,.sl fl 5 (Ql q.blocks),.ah yi 1 0 i,.ah yp 1 0 i]) [(yi,.vec 1 (List.replicate i [.mnil]))];have e3:=hc (yi,.vec 1 (List.replicate i [.mnil])) [(yp,.vec 1 pr)];omega
   have rL:A1 (List.replicate i (SetO.mk .mnil [] []))=λ_=>[]:=by
    funext b
    simp only[A1];rw[Jah];split <;> rfl
   have cz:ImInv (Ac q) q.ab.toNat (A1 (List.replicate i (SetO.mk .mnil [] []))):=by rw[rL];exact .start
   have dY:imOk q (List.replicate i (SetO.mk .mnil [] [])) pr:=by
    refine⟨ZaF,λs hs=>?_,ZD,λb hb=>by rw[hn];exact gm b ZD⟩;rw[J0 hs];exact⟨ZF,ZF,.inl ⟨rfl,rfl,rfl⟩⟩
   generalize List.replicate i (SetO.mk .mnil [] [])=ss at kn cz dY;clear gO sj rL yU dN aq jV gm cP sZ hc hm hi;refine Zb ?_;refine Wa ?_;refine Qg (Qd (Qs (λm e1 H1=>∃(ss:List SetO) (a:Bool),m=(if a=true then i * q.ab.toNat+1-tot i (A1 ss)else 0)/\imOk q ss pr/\ImInv (Ac q) q.ab.toNat (A1 ss)/\(a=false->∀b,b<i->∀r,(Ac q).inT (asS (A1 ss)) b r->asS (A1 ss) b r)/\
    Kn H0 H1 E (imE q fl l yi yp ss pr++L)/\
    lk 1 e1=.c (.pp [.int .i64 q.params,.int .i64 q.ab,.sl fl 5 (Ql q.blocks)])/\lk 3 e1=.c (.ptr l 0)/\lk 5 e1=.c (.bool a)) (i * q.ab.toNat+1-tot i (A1 ss)) ?_ ?_))
   ·exact⟨ss,true,rfl,dY,cz,λh=>ZK,kn,rfl,rfl,rfl⟩
   ·clear cz dY kn;clear ss;rintro m e1 H4 ⟨ss,a,hm,dY,cz,cB,kn,l1,l3,l5⟩;have qi:=cz.bound;rw[sT,hn]at qi;refine Q3 (Qa ?_);simp only[go_sem,l1,l3,l5];refine Wv ?_ ?_
    ·intro bp;rw[bp,if_pos rfl]at hm;refine Ze ?_
     refine Wp ?_;refine Qa ?_;simp only[go_sem,Qj,hn];intro _;refine⟨Qo,?_⟩;clear cB;refine Qd (Qs (λm1 e1 H1=>∃(k:Nat) (j:Int) (ss1:List SetO) (a:Bool),m1=k/\k<=i/\j=(k:Int)-1/\imOk q ss1 pr/\ImInv (Ac q) q.ab.toNat (A1 ss1)/\tot i (A1 ss)<=tot i (A1 ss1)/\
      (a=true->tot i (A1 ss)<tot i (A1 ss1))/\(a=false->∀b,k<=b->b<i->∀r,(Ac q).inT (asS (A1 ss1)) b r->asS (A1 ss1) b r)/\
      Kn H0 H1 E (imE q fl l yi yp ss1 pr++L)/\
      e1=[(1,.c (.pp [.int .i64 q.params,.int .i64 q.ab,.sl fl 5 (Ql q.blocks)])),(3,.c (.ptr l 0)),(5,.c (.bool a)),(6,.c (.int .i64 j))]) i ?_ ?_)
     ·exact⟨i,_,ss,false,rfl,Jf _,rfl,dY,cz,Jf _,λh=>ZK,λ_ b h1 h2=>ZD,kn,rfl⟩
     ·generalize pQ:tot i (A1 ss)=T0 at *;clear cz dY kn pQ;clear ss;rintro m1 e1 H5 ⟨k,j,ss,a,rfl,hk,po,dY,cz,uB,qR,qT,kn,rfl⟩;have uD:=cz.bound;rw[sT,hn]at uD;refine Wa ?_;refine Wv ?_ ?_
      ·intro hc;have aY:0<=j:=ZG;obtain⟨b,rfl⟩:∃b,m1=b+1:=⟨m1-1,ZD⟩;have hj:j=(b:Int):=ZD;subst hj;have cM:b<i:=ZD;have ew:b<q.blocks.length:=ZD;have eA:=dY.l;have fO:b<ss.length:=ZD;obtain⟨s,hs⟩:∃s,ss[b]=s:=⟨_,rfl⟩;have fy:s∈ss:=(by rw[<-hs];exact Jd fO);have gE:=dY.s s fy;obtain⟨y,hy⟩:∃y,q.blocks[b]=y:=⟨_,rfl⟩;have bu:y.ok q b:=(by rw[<-hy];exact ho.bs b ew);have ck:y.ins.length<=1200/\y.aa.length<=1200:=(by rw[<-hy];exact ho.il b ew);have dB:(Ac q).ph b=y.aa.map λp=>p.to.toNat:=(by rw[IA ew,hy]);have yE:b<(Ac q).n:=ew;refine Ze ?_
       refine Az (λe2 H2=>∃(ss2:List SetO) (a2:Bool),imOk q ss2 pr/\ImInv (Ac q) q.ab.toNat (A1 ss2)/\tot i (A1 ss)<=tot i (A1 ss2)/\
        (a2=true->a=true\/tot i (A1 ss)<tot i (A1 ss2))/\(a2=false->a=false/\ss2=ss/\∀r,(Ac q).inT (asS (A1 ss)) b r->asS (A1 ss) b r)/\
        Kn H0 H2 E (imE q fl l yi yp ss2 pr++L)/\
        lk 1 e2=.c (.pp [.int .i64 q.params,.int .i64 q.ab,.sl fl 5 (Ql q.blocks)])/\lk 3 e2=.c (.ptr l 0)/\lk 5 e2=.c (.bool a2)/\lk 6 e2=.c (.int .i64 b)) ?_ ?_
       ·intro Q br _ _;refine Wp ?_;refine Qbrj (F:=H5) (i:=-1) ho ew ZD ZD dY kn.mid λM ver ks H6 bE ae ev k2=>?_;have kn:=kn.comp k2 rfl;simp only[go_sem,Qx2];refine Q3 (Qa ?_);simp only[go_sem,ew,Qj,Q9 _ _ ew,hy,BlkD.cells,Q5];intro cP;simp only[LIM]at cP;obtain⟨B,hB⟩:∃B,imE q fl l yi yp ss pr++L=B:=⟨_,rfl⟩;rw[hB]at kn;refine Qg (Qd (Qs (λm2 e1 H1=>∃(i2 ver:Nat) (ks2:List Nat),m2=y.aa.length-i2/\i2<=y.aa.length/\ks2.Nodup/\(∀x∈ks2,x<q.ab.toNat)/\(∀r,r∈ks2↔r∈ks/\r∉((Ac q).ph b).take i2)/\Kn H0 H1 E (B++[(M,.map ver (Ai ks2))])/\
         e1=[(1,.c (.pp [.int .i64 q.params,.int .i64 q.ab,.sl fl 5 (Ql q.blocks)])),(3,.c (.ptr l 0)),(5,.c (.bool a)),(6,.c (.int .i64 b)),(7,.c (.mp M)),(53,.c (.sl false 2 (Q8 y.aa))),(54,.c (.int .i64 y.aa.length)),(55,.c (.int .i64 i2))]) y.aa.length ?_ ?_))
        ·exact⟨0,ver,ks,ZD,ZD,bE,ae,λr=>ZF,kn,rfl⟩
        ·clear kn;rintro m2 e1 H7 ⟨i2,ver2,ks2,eK,kX,fF,aI,rK,kn,rfl⟩;refine Za ?_;refine Wv ?_ ?_
         ·intro ao;have ft:i2<y.aa.length:=ZI;obtain⟨p,hp⟩:∃p,y.aa[i2]=p:=⟨_,rfl⟩;have dI:p∈y.aa:=(by rw[<-hp];exact Jd ft);obtain⟨hv,b6⟩:=(bu.pto p dI).nat;have ky:((Ac q).ph b).take (i2+1)=((Ac q).ph b).take i2++[p.to.toNat]:=by
           rw[Jg (by rw[dB,Je];exact ft)];simp[dB,hp]
          generalize hr:p.to.toNat=r at *;refine Ze ?_
          refine Wh ?_;simp only[go_sem,ft,Q5,Br _ _ ft,PhiD.cells,hp];intro x9 i6 H8 h8;have kn:=kn.al i6 h8;have i6:H8 x9=.st [.int .i64 0,.sl true 1 []]:=(kn.get (x9,.st [.int .i64 0,.sl true 1 []]) ZF).1;simp only[go_sem,Qx3,i6];intro H9 h9;have kn:Kn H0 H9 E ((B++[(M,.map ver2 (Ai ks2))])++[(x9,.st [.int .i64 p.to,.sl false 1 (Qb p.args)])]):=by
           have:=kn.aB (B++[(M,Obj.map ver2 (Ai ks2))]).length (x:=x9) (o:=.st [.int .i64 0,.sl true 1 []]) ZF h9;simpa using this
          have i6:H9 x9=.st [.int .i64 p.to,.sl false 1 (Qb p.args)]:=(kn.get (x9,.st [.int .i64 p.to,.sl false 1 (Qb p.args)]) ZF).1;have kn:=kn.drop;have hM:H9 M=.map ver2 (Ai ks2):=(kn.get (M,.map ver2 (Ai ks2)) ZF).1;refine Qp ?_;simp only[go_sem,i6,hM,hv,Gp,Eg,KT];intro H10 dg;have kn:Kn H0 H10 E (B++[(M,.map (ver2+1) (Ai (ks2.erase r)))]):=by
           have:=kn.aB B.length (x:=M) (o:=.map ver2 (Ai ks2)) ZF dg;simpa using this
          refine Zg ?_;refine⟨Qo,y.aa.length-(i2+1),ZD,i2+1,ver2+1,ks2.erase r,rfl,ZD,fF.erase _,IF aI,λz=>?_,kn,rfl⟩;rw[KD fF,rK,ky];simp only[Jp,Ja,not_or,and_assoc]
         ·intro ao;have j6:y.aa.length<=i2:=ZI;have rJ:∀r,r∈ks2↔(Ac q).inT (asS (A1 ss)) b r:=λr=>by
           rw[rK,ev,Jc (by rw[dB,Je];exact j6)];rfl
          have dd:=En fF aI;subst hB;obtain⟨hl,cU,dN⟩:=DL (kn.drop).mid;have hM:H7 M=.map ver2 (Ai ks2):=(kn.get (M,.map ver2 (Ai ks2)) ZF).1;have iA:(Be ss).take i=Be ss:=Jc (by rw[CV];omega);have iq:A1 ss b=s.ks:=(by rw[X0 fO,hs]);have xR:ss.length=i:=ZD;refine Zb ?_;have qZ:AY H7 s.c/\AQ H7 s.c=Ai s.ks/\s.c.ai=false:=by
           refine⟨?_,?_,gE.ai⟩ <;> rcases gE.m with ⟨h1,_,h2⟩|⟨N,v,h1,h2⟩
           ·rw[h1];trivial
           ·have:=GB (kn.drop).mid fy h2;rw[h1];simp only[AY,this]
           ·rw[h1,h2];rfl
           ·have:=GB (kn.drop).mid fy h2;rw[h1];simp only[AQ,this]
          obtain⟨dR,wx,w8⟩:=qZ;have dR:=eq_true dR;have xQ:=gE.len;have vj:AY H7 (.mp M)=True:=(by simp only[AY,hM]);have ww:AQ H7 (.mp M)=Ai ks2:=(by simp only[AQ,hM]);refine Aj ?_;simp only[go_sem,hl,cU,hM,iA,CV,GT _ _ fO,hs,cM,hn,xR,dR,wx,w8,vj,ww,Eg,Jj,Jf];refine Ww ?_ ?_
          ·intro bk;have be:¬ks2.length=(A1 ss b).length:=(by rw[iq];simp at bk;omega);obtain⟨g1,g2⟩:=cz.step aL yE fF aI rJ be;rw[sT,hn]at g2;have j4:=Qbsn (s:=⟨.mp M,[(M,.map ver2 (Ai ks2))],ks2⟩) fO;refine Qp ?_;simp only[go_sem,hl,cU,iA,CV,GT _ _ fO,hs,cM,hn,xR,Jj,Jf];intro H8 h8;have a8:(Be ss).set b [.mp M]=Be (ss.set b ⟨.mp M,[(M,.map ver2 (Ai ks2))],ks2⟩):=(by simp[Be,J5]);rw[a8]at h8;have k5:Kn H0 H8 E (((([(l,.st [.int .i64 q.params,.int .i64 q.ab,.sl fl 5 (Ql q.blocks),.ah yi 1 0 q.blocks.length,.ah yp 1 0 q.blocks.length]),(yi,.vec 1 (Be (ss.set b ⟨.mp M,[(M,.map ver2 (Ai ks2))],ks2⟩))),(yp,.vec 1 pr)]++ss.flatMap SetO.lg)++L)++[(M,.map ver2 (Ai ks2))])):=kn.aB 1 (x:=yi) (o:=.vec 1 (Be ss)) rfl h8;have kn:Kn H0 H8 E ((imE q fl l yi yp (ss.set b ⟨.mp M,[(M,.map ver2 (Ai ks2))],ks2⟩) pr++L)++ss[b].lg):=by
            refine k5.perm (Qt λf hf h0 hc hp=>?_);have e1:=hp _ _ (Cr SetO.lg ss b fO);have e2:=hp _ _ (C1 SetO.lg ss b ⟨.mp M,[(M,.map ver2 (Ai ks2))],ks2⟩ fO);simp only[hf]at e1 e2;simp only[imE,hf];omega
           have kn:=kn.drop;simp only[go_sem,Qtj];refine br _ _ ⟨ss.set b ⟨.mp M,[(M,.map ver2 (Ai ks2))],ks2⟩,true,⟨by rw[Jo];exact eA,λs2 dQ=>?_,dY.pl,dY.p⟩,by rw[j4];exact g1,by rw[j4];exact Jby g2,λ_=>.inr (by rw[j4];exact g2),λh=>ZK,kn,rfl,rfl,rfl,rfl⟩;rcases Jr dQ with h|rfl
           ·exact dY.s s2 h
           ·exact⟨fF,aI,.inr ⟨M,ver2,rfl,rfl⟩⟩
          ·intro bk;have mV:ks2.length=(A1 ss b).length:=(by rw[iq];simp at bk;omega);refine Ze ?_
           exact br _ _ ⟨ss,a,dY,cz,Jf _,λh=>.inl h,λh=>⟨h,rfl,cz.same yE fF rJ mV⟩,kn.drop,rfl,rfl,rfl,rfl⟩
       ·rintro e2 H6 ⟨ss2,a2,wi,kV,t1,t2,t3,kn,l1,l3,l5,l6⟩;refine Qp ?_;simp only[go_sem,X.next,l1,l3,l5,l6];refine⟨Qo,b,ZD,b,(b:Int)-1,ss2,a2,rfl,ZD,rfl,wi,kV,ZD,λha=>?_,λha c db cn=>?_,kn,rfl⟩
        ·rcases t2 ha with h|h
         ·have:=qR h;omega
         ·omega
        ·obtain⟨u1,u2,u3⟩:=t3 ha;rw[u2];by_cases bW:c=b
         ·subst bW;exact u3
         ·exact qT u1 c ZD cn
      ·intro hc;have vE:¬0<=j:=ZG;have iP:m1=0:=ZD;subst iP;refine Qq ?_;try simp only[go_sem,X.next]
       refine⟨if a=true then i * q.ab.toNat+1-tot i (A1 ss)else 0,?_,ss,a,rfl,dY,cz,λha b hb=>qT ha b ZD hb,kn,by first|exact⟨rfl,rfl⟩|exact rfl|trivial⟩;split
       ·have:=qR ‹_›;omega
       ·omega
    ·intro wN;have cB:=cB wN;refine Wn ?_;exact hK l yi yp ss pr H4 dY (λb hb r=>cz.done (λb hb=>cB b ZD) hb r) kn
variable {q:CodeD}{fl:Bool}{l yi yp:Nat}{ss:List SetO}{pr:List (List C)}
theorem Qay6 (hK:∀H',Upd H H' []->K (.c (.sl false 1 (Q7 []))) H'):Qv prog Ip [.c .mnil] H K:=by
 refine Q0 ?_;refine Qc Ab Qgz ?_;refine Wd ?_;refine Wa ?_;intro it lM H1 h1;have kn:=(Kn.ar H).al lM h1;have wb:=kn.l 0 rfl;refine Qg (Qd (Qs (λm e1 H2=>H2=H1/\e1=[(3,.c (.sl true 1 [])),(6,.c (.itr it))]) 0 ⟨rfl,rfl⟩ ?_));rintro m e1 H2 ⟨rfl,rfl⟩;refine Qa ?_;simp only[go_sem,wb,PX,Jaa];refine Qg (Qf rfl (λh=>ZK) λ_=>?_);refine Wc ?_;refine In trivial rfl rfl ?_;refine Wr ?_;exact⟨_,.c _ _ FrzR.nil.sl,hK _ kn.fin⟩
theorem Qbf0 {R:Nat}{s:SetO}(gE:s.ok R)(hR:R<=300)(hm:∀M ver,s.lg=[(M,.map ver (Ai s.ks))]->H M=.map ver (Ai s.ks))(hK:∀H',Upd H H' []->K (.c (.sl false 1 (Q7 (ascL R (λr=>r∈s.ks))))) H') :
  Qv prog Ip [.c s.c] H K:=by
 have dd:=gE.len;rcases gE.m with ⟨h1,_,h2⟩|⟨M,ver,h1,h2⟩
 ·rw[h1];refine Qay6 λH' hu=>?_;have e:ascL R (λr=>r∈s.ks)=[]:=by rw[h2];simp[ascL]
  have:=hK H' hu;rw[e]at this;exact this
 ·rw[h1];refine Qay7 (hm M ver h2) gE.nd ZU λlst H' hu sD bz=>?_;have e:lst=ascL R (λr=>r∈s.ks):=Dq sD Qbrg λx=>by
   rw[bz,ascL_mem];exact⟨λh=>⟨gE.lt x h,h⟩,λh=>h.2⟩
  rw[e];exact hK H' hu
theorem Qbtl (ho:q.ok)(dY:imOk q ss pr)(kn:Kn F H (imE q fl l yi yp ss pr) [])
  (hK:∀t Lg H',Gr Lg 1 (Cy ((List.range q.blocks.length).map λb=>ascL q.ab.toNat (tabS ss b))) t->Kn F H' (imE q fl l yi yp ss pr) Lg->K (.c t) H') :
  Qv prog TK [.c (.ah yi 1 0 q.blocks.length),.c (.fn PT [])] H K:=by
 have bf:=ho.b1;have dC:=ho.r1;have eA:=dY.l;have iA:(Be ss).take q.blocks.length=Be ss:=Jc (by rw[CV];omega);refine Qc Ab Qn7 ?_;refine Wd ?_;refine Q3 (Qa ?_);obtain⟨hl,cU,_⟩:=DL kn;simp only[go_sem,cU,CV,eA,Jj,Jf];intro _;refine Qg (Qd (Qs (λm e1 H1=>∃(i:Nat) (t:C) (Lg:List (Nat×Obj)),m=q.blocks.length-i/\i<=q.blocks.length/\Gr Lg 1 (Cy ((List.range i).map λb=>ascL q.ab.toNat (tabS ss b))) t/\Kn F H1 (imE q fl l yi yp ss pr) ([]++Lg)/\
  e1=[(1,.c (.fn PT [])),(5,.c t),(8,.c (.ah yi 1 0 q.blocks.length)),(9,.c (.int .i64 q.blocks.length)),(10,.c (.int .i64 i))]) q.blocks.length ?_ ?_))
 ·exact⟨0,_,[],ZD,ZD,.nil 1,kn,rfl⟩
 ·clear kn hl cU;rintro m e1 H1 ⟨i,t,Lg,hm,hi,aq,kn,rfl⟩;have eb:=aq.ai;refine Zh eb ?_;refine Wv ?_ ?_
  ·intro hc;have ae:i<q.blocks.length:=ZG
   have tn:i<ss.length:=ZD
   obtain⟨s,hs⟩:∃s,ss[i]=s:=⟨_,rfl⟩;have fy:s∈ss:=by rw[<-hs];exact Jd tn
   have gE:=dY.s s fy;have fi:=gE.ai;obtain⟨_,cU,_⟩:=DL kn;refine Ze ?_
   refine Wh ?_;simp only[go_sem,eb,cU,iA,CV,GT _ _ tn,hs,fi,ae,eA,Jj,Jf];refine Qp ?_;simp only[go_sem,eb,fi,Jat,J9];refine Qc Ab Qaga ?_;refine Zh fi ?_;refine Zh fi ?_;refine Qbf0 gE ZD (λM ver h=>GB kn fy h) λH2 hu=>?_;have kn:=kn.aw hu;simp only[go_sem,Qkf];refine Zc ?_;simp only[go_sem,Qdl,eb];refine kn.bD (B:=[]) aq (.mk' _ _ _ _) (by intro r hr;simp at hr;subst hr;rfl) (by simp only[KG,Je,Jbj,LIM,Jl,Jn];omega) λt2 Lg2 H3 cG ee kn=>?_;simp only[go_sem,Qdk,ee];refine Qp ?_;simp only[go_sem,X.next,ee];refine⟨Qo,q.blocks.length-(i+1),ZD,i+1,t2,Lg2,rfl,ZD,?_,kn,rfl⟩;have e:tabS ss i=λr=>r∈s.ks:=by funext r;rw[<-hs];exact propext (Ia tn r)
   rw[Jau,Js,List.map_singleton,<-Qa81,e];exact cG
  ·intro hc;have aY:i=q.blocks.length:=by have:q.blocks.length<=i:=ZG;omega
   subst aY;refine Zb ?_;refine Zh eb ?_;refine Zj eb ?_;exact hK t Lg H1 aq kn
theorem Qa8s {cs:List CodeD}{fl:Bool}{k:Int}(aL:∀c∈cs,c.fits)(hK:∀(H':Heap),Upd H H' []->K (.c (.sl false 1 (Cy (Ch cs k AP)))) H') :
  Qv prog Sg [.ag [.sl fl 3 (Qw cs)],.c (.int .i64 k)] H K:=by
 refine Q0 ?_;refine Qc Ab Qaz9 ?_;refine Wf ?_;refine IJ aL λH1 hu=>?_;have kn:=(Kn.ar H).aw hu;simp only[go_sem,Qs9];refine Wv ?_ ?_
 ·intro hc;have hc:=Bf hc;refine Za ?_;refine Zm ?_;have hK:=hK _ kn.fin;rw[Ch,hc]at hK;exact⟨_,.c _ _ FrzR.nil.sl,hK⟩
 ·intro hc;have hc:=A8 hc;obtain⟨m,hm,rfl,ay⟩:=FI hc;have sr:Ch cs m AP=AP cs[m]:=by rw[Ch,if_pos hc];simp[hm]
  rw[sr]at hK;refine Ze ?_
  refine Qa ?_;simp only[go_sem,hm,Q6,Bd _ _ hm,CodeD.cells];refine Qbs0 ay kn λl yi yp ss pr H2 dY cL kn=>?_;obtain⟨hl,_,_⟩:=DL kn.mid;simp only[go_sem,Qtb,hl];refine Qbtl (F:=H2) ay dY kn.mid λt Lg H3 aq k2=>?_;have kn:=kn.comp k2 rfl;simp only[go_sem,Qta,aq.ai];refine Qk ?_;simp only[go_sem,X.next,Q4,Aa,Ja,forall_eq,RS.op,aq.ai];have e:((List.range cs[m].blocks.length).map λb=>ascL cs[m].ab.toNat (tabS ss b))=AP cs[m]:=
   List.map_congr_left λb hb=>Qbhs (cL b (J6.1 hb))
  rw[e]at aq;exact⟨_,.c _ _ (aq.frz kn (Qa80 _)),hK _ kn.fin⟩
end Go.AE.Y
namespace Go.AE.Y
attribute [local go_sem] cond_true cond_false Bool.not_true Bool.not_false
open Go.Proofs.Tryz
variable {H H0:Heap}{K:V->Heap->Prop}{E B Lg:List (Nat×Obj)}
theorem D5 {S:Nat->Bool}{a b a' b':V}(h:FrzV H S a a')(k:FrzV H S b b'):FrzV H S (.tup [a,b]) (.tup [a',b']):=by
 refine .tup _ _ rfl λj x x' h1 h2=>?_
 match j with
 |0=>simp at h1 h2;subst h1;subst h2;exact h
 |1=>simp at h1 h2;subst h1;subst h2;exact k
 |j+2=>simp at h1
theorem OI {S:Nat->Bool}(cs:List CodeD):FrzV H S (.ag [.sl false 3 (Qw cs)]) (.ag [.sl false 3 (Qw cs)]):=FrzL.ag (.cons (FrzR.same (DV cs)).sl .nil)
theorem UnitOk.fits {cs:List CodeD}(h:UnitOk cs):∀c∈cs,c.fits:=λc hc=>(h.2.2 c hc).f
end Go.AE.Y
namespace Go.AE.Y
attribute [local go_sem] cond_true cond_false Bool.not_true Bool.not_false
open Go.Proofs.Tryz
variable {H H0 F:Heap}{K:V->Heap->Prop}{E L:List (Nat×Obj)}
def kRow (y:BlkD)(pc:C):List C:=[pc,.sl false 4 (Af y.ins),.int .i64 y.jump,.int .i64 y.on,.sl false 1 (Qb y.next)]
structure BlkD.cl (y:BlkD):Prop where
 i:y.ins.length<=2 ^ 38
 p:y.aa.length<=2 ^ 38
 n:y.next.length<=LIM
 ia:∀x∈y.ins,x.args.length<=LIM
 pa:∀x∈y.aa,x.args.length<=LIM
structure KBlk where
 y:BlkD
 pc:C
 pl:List (Nat×Obj)
def KBlk.row (b:KBlk):List C:=kRow b.y b.pc
def KBlk.ok (b:KBlk):Prop:=Gr b.pl 2 (Q8 b.y.aa) b.pc
theorem KBlk.an {b:KBlk}(h:b.ok):Go.AE.an b.row=true:=by
 have:=h.ai;simp only[Go.AE.an,KBlk.row,kRow,Jbw,List.all_nil,this];rfl
end Go.AE.Y
namespace Go.AE.Y
attribute [local go_sem] cond_true cond_false Bool.not_true Bool.not_false
open Go.Proofs.Tryz
variable {H H0 F:Heap}{K:V->Heap->Prop}{E L B pl:List (Nat×Obj)}
theorem Qbi4 (l:List PhiD)(i:Nat)(x:PhiD):(Q8 l).set i x.cells=Q8 (l.set i x):=by simp[Q8,J5]
end Go.AE.Y
namespace Go.AE.Y
attribute [local go_sem] cond_true cond_false Bool.not_true Bool.not_false
open Go.Proofs.Tryz
variable {H H0 F:Heap}{K:V->Heap->Prop}{E L B:List (Nat×Obj)}{q:CodeD}
theorem CodeD.ok.fts (h:q.ok):q.fits:=λy hy=>by
 obtain⟨b,hb,rfl⟩:=J7.1 hy;have:=h.il b hb;omega
end Go.AE.Y
namespace Go.AE
variable {H0 H H':Heap}{E L B Lg:List (Nat×Obj)}{S:Nat->Bool}
theorem Kn.ex (kn:Kn H0 H E (B++Lg)):∃S:Nat->Bool,(∀p∈Lg,H p.1=p.2/\S p.1=true)/\(∀p∈B,H p.1=p.2/\S p.1=false)/\FrzH H S (H.frz S)/\Kn H0 (H.frz S) E B:=by
 have hd:=kn.dL;rw[Js]at hd;obtain⟨d1,d2,d3⟩:=Jbk.1 hd;have keyB:∀m,m∉Lg.map Prod.fst->(Lg.map Prod.fst).contains m=false:=λm hm=>by
  cases hc:(Lg.map Prod.fst).contains m with
  |false=>rfl
  |true=>exact absurd (J3.1 hc) hm
 have key:∀m,m∉Lg.map Prod.fst->(H.frz λm=>(Lg.map Prod.fst).contains m) m=H m:=λm hm=>by
  simp only[Heap.frz,keyB m hm];rfl
 have hB:∀p∈B,p.1∉Lg.map Prod.fst:=λp hp hh=>d3 _ (Ax hp) _ hh rfl;refine⟨λm=>(Lg.map Prod.fst).contains m,λp hp=>⟨(kn.get p (Jh _ (Jh _ hp))).1,J3.2 (Ax hp)⟩,
  λp hp=>⟨(kn.get p (Jh _ (Jm _ hp))).1,keyB _ (hB p hp)⟩,CL _ _,?_⟩
 refine⟨λp hp=>?_,kn.ext,λp hp=>kn.loc p (Jm _ hp),kn.dE,d1,λm hm hx=>?_⟩
 ·have hg:H p.1=p.2/\p.2≠.none:=kn.get p (by
   rcases Jp.1 hp with h|h
   ·exact Jm _ h
   ·exact Jh _ (Jm _ h))
  refine⟨?_,hg.2⟩;rw[key p.1 (λhh=>?_)];exact hg.1;rcases Jp.1 hp with h|h
  ·obtain⟨r,hr,he⟩:=Jk.1 hh;exact kn.ext p h (he▸kn.loc r (Jh _ hr))
  ·exact hB p h hh
 ·rw[key m (λhh=>?_)]
  ·exact kn.chg m hm hx
  ·obtain⟨r,hr,he⟩:=Jk.1 hh;exact hm (he▸kn.loc r (Jh _ hr))
theorem FT {e e':Env}(h:∀p∈e',FrzV H S (lk p.1 e) p.2):∀t,FrzV H S (lk t e) (lk t e'):=λt=>by
 induction e' with
 |nil=>exact .unk _
 |cons p e' ih=>
  obtain⟨s,v⟩:=p;by_cases ht:t=s
  ·subst ht;have:=h (t,v) Jw;simpa[lk]using this
  ·have:=ih λp hp=>h p (Ju _ hp);simpa[lk,ht]using this
theorem FrzO.vecR {sz:Nat}{rows rows':List (List C)}(h:Y.FrzR H S rows rows')(hn:∀r∈rows,an r=true):FrzO H S (.vec sz rows) (.vec sz rows'):=by
 refine .vec sz rows rows' h.spec.1 (λi r r' h1 h2=>(h.spec.2 i r r' h1 h2).spec.1) λi r r' j c c' h1 h2 h3 h4=>.inr ⟨?_,(h.spec.2 i r r' h1 h2).spec.2 j c c' h3 h4⟩;exact Y.noOw_mem hn r (Jaq h1) c (Jaq h3)
end Go.AE
namespace Go.AE.Y
variable {H H0:Heap}{E L R B Lg:List (Nat×Obj)}{S:Nat->Bool}
theorem DO {α:Type}{f g:α->List C}:∀(l:List α),(∀x∈l,FrzL H S (f x) (g x))->FrzR H S (l.map f) (l.map g)
 |[],_=>.nil
 |x::l,h=>.cons (h x Jw) (DO l λy hy=>h y (Ju _ hy))
theorem Qbr9 {is:List OIns}(h:Held H S (is.flatMap OIns.lg)):FrzR H S (is.map OIns.row) (Af (is.map OIns.d)):=by
 rw[Af,Jam];exact DO is λx hx=>x.frz (h.m hx)
theorem Qbok {ph:List OPhi}(ho:∀p∈ph,p.ok)(h:Held H S (ph.flatMap OPhi.lg)):FrzR H S (ph.map OPhi.row) (Q8 (ph.map OPhi.d)):=by
 rw[Q8,Jam];exact DO ph λx hx=>x.frz (ho x hx) (h.m hx)
theorem OBlk.gh {o:OBlk}(ay:o.ok){x8:Nat}(kn:Kn H0 H E ([(x8,.st o.row)]++(R++o.lg))) :
  ∃S H3 pl,FrzH H S H3/\Gr pl 2 (Q8 o.d.aa) o.pc/\Kn H0 H3 E ([(x8,.st (kRow o.d o.pc))]++(R++pl)):=by
 have kn:Kn H0 H E (([(x8,.st o.row)]++(o.pl++R))++(o.nx.lg++(o.aa.flatMap OPhi.lg++(o.ins.flatMap OIns.lg++o.il)))):=kn.perm (Qt λf hf h0 hc hp=>by
  simp only[hf,OBlk.lg];omega)
 obtain⟨S,hS,hB,ir,kn⟩:=kn.ex;have tH:Held H S (o.nx.lg++(o.aa.flatMap OPhi.lg++(o.ins.flatMap OIns.lg++o.il))):=hS;have fM:=Gr.frzM ay.i tH.r.r.r (Qbr9 tH.r.r.l);have dB:=Qbok ay.a tH.r.l;have fd:=o.nx.frz tH.l;have aS:=hB (x8,.st o.row) ZF;have f1:FrzH H S ((H.frz S).set x8 (.st (kRow o.d o.pc))):=ir.set aS.2 (by
  rw[aS.1];exact FrzKL.st (.same (.cons ay.i.ai fM (.same (.same (.cons rfl fd .nil))))))
 have kn:=kn.setL (o':=.st (kRow o.d o.pc)) 0 rfl ZF;have kn:Kn H0 ((H.frz S).set x8 (.st (kRow o.d o.pc))) E ([(x8,.st (kRow o.d o.pc))]++(o.pl++R)):=kn;rcases ay.p with ⟨h1,h2,h3⟩|⟨z,h1,h2⟩
 ·have uZ:o.aa=[]:=List.map_eq_nil_iff.1 h2;refine⟨S,_,[],f1,?_,by rw[h3]at kn;simpa using kn⟩;rw[h1];simp only[OBlk.d,uZ,J9];exact .nil 2
 ·rw[h2]at kn;have hz:=hB (z,.vec 2 (o.aa.map OPhi.row)) Zan;have bR:∀r∈o.aa.map OPhi.row,Go.AE.an r=true:=λr hr=>by
   obtain⟨p,hp,rfl⟩:=Jk.1 hr;exact p.an (ay.a p hp)
  refine⟨S,_,[(z,.vec 2 (Q8 o.d.aa))],f1.set (o:=.vec 2 (Q8 o.d.aa)) hz.2 (by rw[hz.1];exact .vecR dB bR),?_,?_⟩
  ·rw[h1];exact .mk _ _ _ (by simp[OBlk.d,Q5])
  ·have kn:=kn.setL (o':=.vec 2 (Q8 o.d.aa)) 1 rfl ZF;exact kn.perm (Qt λf hf h0 hc hp=>by
    show f ([(x8,_)]++([(z,_)]++R))=_;simp only[hf];omega)
def Ae (q:CodeD)(b:Nat):BlkD:=q.blocks.getD b ⟨[],[],0,0,[]⟩
theorem AG {q:CodeD}{b:Nat}(h:b<q.blocks.length):Ae q b=q.blocks[b]:=by simp[Ae,Jb,h]
theorem Dm {q:CodeD}{b:Nat}(h:b<q.blocks.length):gnx q b=(Ae q b).next:=by rw[AG h,Cz h]
structure Pk (q:CodeD)(l:List Nat):Prop where
 n:l.length<=160
 z:l[0]? = some 0
 lt:∀x∈l,x<q.blocks.length
 cl:∀x∈l,∀v∈gnx q x,v.toNat∈l
def pkY (q:CodeD)(P:List Int)(b:Nat):BlkD:=⟨(Ae q b).aa,(Ae q b).ins,(Ae q b).jump,(Ae q b).on,(Ae q b).next.map λv=>P.getD v.toNat 0⟩
def pkN (q:CodeD)(P:List Int)(l:List Nat):Nat->List Int:=λi=>(l.map λb=>(pkY q P b).next).getD i []
structure PkB (q:CodeD)(P:List Int)(b:Nat)(y:BlkD):Prop where
 j:y.jump=(Ae q b).jump
 o:y.on=(Ae q b).on
 i:y.ins=(Ae q b).ins
 n:y.next=(pkY q P b).next
 t:y.aa.map PhiD.to=(Ae q b).aa.map PhiD.to
def PkA (q:CodeD)(P:List Int)(l:List Nat)(j:Nat)(p:PhiD):Prop:=p.args.length=(Qz (pkN q P l) (j:Int) l.length).length/\∀v∈p.args,rIn q v
structure PkR (q d:CodeD):Prop where
 ok:d.ok
 p:d.params=q.params
 r:d.ab=q.ab
 i:∀y∈d.blocks,∃y0∈q.blocks,y.ins=y0.ins/\y.aa.length=y0.aa.length
variable {q:CodeD}{P:List Int}{l:List Nat}
theorem Pk.get (hp:Pk q l){j:Nat}(hj:j<l.length):l.getD j 0=l[j]/\l[j]∈l/\l[j]<q.blocks.length:=
 ⟨by simp[Jb,hj],Jd hj,hp.lt _ (Jd hj)⟩
theorem Pk.to (ho:q.ok)(hp:Pk q l)(hP:B0 q.blocks.length l P){b:Nat}(hb:b∈l){w:Int}(hw:w∈(Ae q b).next):1<=w/\w.toNat<P.length/\∃i,∃h:i<l.length,l[i]=w.toNat/\P.getD w.toNat 0=(i:Int)/\1<=i:=by
 have ae:=hp.lt b hb;have h1:1<=w/\w<q.blocks.length:=by
  rw[AG ae]at hw;exact (ho.bs b ae).nx w hw
 have h2:=hp.cl b hb w (by rw[Dm ae];exact hw);obtain⟨i,hi,h3,h4⟩:=hP.2 _ h2;refine⟨h1.1,by rw[hP.1];exact hp.lt _ h2,i,hi,h3,h4,?_⟩;have hz:=hp.z;by_cases h0:i=0
 ·subst h0;rw[Ji hi,h3]at hz;have:=Jbu hz;omega
 ·omega
theorem E7 {j:Nat}(hj:j<l.length):pkN q P l j=(pkY q P l[j]).next:=by simp[pkN,Jb,hj]
theorem Pk.preds (ho:q.ok)(hp:Pk q l)(hP:B0 q.blocks.length l P){j:Nat}(hj:j<l.length){m:Int}(hm:m∈Qz (pkN q P l) (j:Int) l.length) :
  ∃j',∃h:j'<l.length,m=(j':Int)/\((l[j']:Nat):Int)∈Qz (gnx q) ((l[j]:Nat):Int) q.blocks.length:=by
 simp only[Qz,Jk,Jai,J6]at hm;obtain⟨j',⟨h1,h2⟩,rfl⟩:=hm;refine⟨j',h1,rfl,?_⟩;have h3:=J3.1 h2;rw[E7 h1]at h3;obtain⟨w,hw,h4⟩:=Jk.1 h3;obtain⟨g1,g2⟩:=(hp.get h1).2;obtain⟨w1,_,i,hi,h5,h6,_⟩:=hp.to ho hP g1 hw;have gy:i=j:=ZD
 subst gy;simp only[Qz,Jk,Jai,J6];refine⟨l[j'],⟨g2,J3.2 ?_⟩,rfl⟩;rw[Dm g2,h5];have e:((w.toNat:Nat):Int)=w:=ZD
 rw[e];exact hw
theorem CodeD.ok.sg (h:q.ok):q.sg:=⟨by have:=h.b1;omega,λy hy=>by
 obtain⟨b,hb,rfl⟩:=J7.1 hy;have h1:=h.il b hb;have h2:=h.bs b hb;have h3:=h2.nxl;have h4:=h.b1;refine⟨ZD,ZD,ZD,λx hx=>by have:=h2.al x hx;omega,λx hx=>?_⟩;have:=h2.pal x hx;have h5:=Ct (gnx q) (b:Int) q.blocks.length;omega⟩
theorem Qb0f (ho:q.ok)(hp:Pk q l)(hP:B0 q.blocks.length l P){d:CodeD}(h1:d.params=q.params)(h2:d.ab=q.ab)(hl:d.blocks.length=l.length)
  (hb:∀j (h:j<d.blocks.length),PkB q P (l.getD j 0) d.blocks[j]/\∀p∈d.blocks[j].aa,PkA q P l j p):PkR q d:=by
 have hg:gnx d=pkN q P l:=by
  funext i
  by_cases hi:i<l.length
  ·have bS:i<d.blocks.length:=ZD
   rw[E7 hi,Cz bS,(hb i bS).1.n,(hp.get hi).1]
  ·have bS:¬i<d.blocks.length:=ZD
   rw[gnx,pkN,Jb,Jb,Jv (by simpa using bS),Jv Zah]
 have hr:∀v,rIn q v->rIn d v:=λv hv=>by simp only[rIn,h2]at hv⊢;exact hv
 have gp:0<l.length:=by
  have:=hp.z
  cases l with
  |nil=>simp at this
  |cons=>simp
 have hn:=hp.n;refine⟨⟨by rw[h2];exact ho.r0,by rw[h2];exact ho.r1,ZD,ZD,λb h=>?_,λb h=>?_⟩,h1,h2,λy hy=>?_⟩
 ·have bG:b<l.length:=ZD
  obtain⟨g,ga⟩:=hb b h;obtain⟨e1,e2,e3⟩:=hp.get bG;rw[e1]at g;have o:=ho.bs _ e3;rw[<-AG e3]at o;have gt:∀p∈d.blocks[b].aa,rIn q p.to:=λp bX=>by
   have:p.to∈d.blocks[b].aa.map PhiD.to:=Jk.2 ⟨p,bX,rfl⟩;rw[g.t]at this;obtain⟨p0,iG,he⟩:=Jk.1 this;rw[<-he];exact o.pto p0 iG
  refine⟨by rw[g.n];simpa[pkY]using o.nxl,λv hv=>?_,by rw[g.j];exact o.jmp,λhj=>by rw[g.j]at hj;rw[g.o];exact hr _ (o.on hj),λx hx v hv=>?_,λx hx hm=>?_,λx hx=>hr _ (gt x hx),λx hx v hv=>hr _ ((ga x hx).2 v hv),λx hx=>?_,λx hx=>?_⟩
  ·rw[g.n]at hv;obtain⟨w,hw,rfl⟩:=Jk.1 hv;obtain⟨_,_,i,hi,_,h6,h7⟩:=hp.to ho hP e2 hw;rw[h6];omega
  ·rw[g.i]at hx;exact hr _ (o.args x hx v hv)
  ·rw[g.i]at hx;exact hr _ (o.to x hx hm)
  ·rw[(ga x hx).1,hg,hl]
  ·rw[g.i]at hx;exact o.al x hx
 ·have bG:b<l.length:=ZD
  obtain⟨g,ga⟩:=hb b h;obtain⟨e1,e2,e3⟩:=hp.get bG;rw[e1]at g;have gi:=g.i;have h3:=congrArg List.length g.t;rw[AG e3]at gi h3;have:=ho.il _ e3;simp only[Je]at h3;rw[gi];omega
 ·obtain⟨b,h,rfl⟩:=J7.1 hy;have bG:b<l.length:=ZD
  obtain⟨g,ga⟩:=hb b h;obtain⟨e1,e2,e3⟩:=hp.get bG;rw[e1]at g;have gi:=g.i;have h3:=congrArg List.length g.t;rw[AG e3]at gi h3;simp only[Je]at h3;exact⟨_,Jd e3,gi,h3⟩
theorem Qbtk {α:Type}{f:α->α}{l:List α}{k:Nat}(hk:k<l.length):((l.take k).map f++l.drop k).set k (f l[k])=(l.take (k+1)).map f++l.drop (k+1):=by
 have h1:((l.take k).map f).length=k:=ZJ
 rw[Jan _ _ ZD,h1,Jbm,Jy hk,Jbh,Jg hk,Js];simp
end Go.AE.Y
namespace Go.AE.Y
attribute [local go_sem] cond_true cond_false Bool.not_true Bool.not_false
open Go.Proofs.Tryz
variable {H H0:Heap}{K:V->Heap->Prop}{E B Lg:List (Nat×Obj)}
theorem OBlk.row_eq (o:OBlk):o.row=[o.pc,o.ic,.int .i64 o.jump,.int .i64 o.on,.ah o.nx.y 1 0 o.nx.ns.length]:=rfl
def OBlk.rest (o:OBlk):List (Nat×Obj):=o.aa.flatMap OPhi.lg++(o.pl++(o.ins.flatMap OIns.lg++o.il))
theorem OBlk.lg_eq (o:OBlk):o.lg=[(o.nx.y,.vec 1 (Qb o.nx.ns))]++o.rest:=rfl
theorem KBlk.row_eq (b:KBlk):b.row=[b.pc,.sl false 4 (Af b.y.ins),.int .i64 b.y.jump,.int .i64 b.y.on,.sl false 1 (Qb b.y.next)]:=rfl
structure PkS (q:CodeD)(P:List Int)(l:List Nat)(i:Nat)(ks:List KBlk):Prop where
 n:ks.length=l.length
 b:∀j (h:j<ks.length),PkB q P (l.getD j 0) ks[j].y
 ok:∀b∈ks,b.ok
 a:∀j (h:j<ks.length),j<i->∀p∈ks[j].y.aa,PkA q P l j p
 u:∀j (h:j<ks.length),i<=j->ks[j].y.aa=(Ae q (l.getD j 0)).aa
theorem DT {α β:Type}{f:α->List β}:∀{l:List α} {i:Nat} (h:i<l.length),(l.flatMap f).Perm (f l[i]++(l.eraseIdx i).flatMap f)
 |[],i,h=>ZK
 |x::l,0,h=>ZF
 |x::l,i+1,h=>by
  have:=DT (f:=f) (l:=l) (i:=i) ZP;simp only[Jbi,J1,List.eraseIdx_cons_succ];refine (List.Perm.append_left _ this).trans ?_;rw[<-Jaj,<-Jaj];exact List.Perm.append_right _ Jz
theorem vslc {H:Heap}{z sz n:Nat}{rows:List (List C)}(h:H z=.vec sz rows)(hn:n=rows.length):Slc H sz rows (.ah z sz 0 n):=by
 subst hn;exact⟨by simp only[aZ,h,Jj,Jf,and_self],rfl,by simp only[rowsOf,h,Jal,Jbq],rfl⟩
variable {q:CodeD}{P:List Int}{l:List Nat}{ks:List KBlk}
theorem PkS.step {i:Nat}(hS:PkS q P l i ks)(hi:i<ks.length){ph:List PhiD}{pl:List (Nat×Obj)}(h1:ph.map PhiD.to=(Ae q (l.getD i 0)).aa.map PhiD.to)(h2:∀p∈ph,PkA q P l i p)(hg:Gr pl 2 (Q8 ph) ks[i].pc) :
  PkS q P l (i+1) (ks.set i ⟨⟨ph,ks[i].y.ins,ks[i].y.jump,ks[i].y.on,ks[i].y.next⟩,ks[i].pc,pl⟩):=by
 have hb:=hS.b i hi;refine⟨by rw[Jo];exact hS.n,λj h=>?_,λw hw=>?_,λj h hj=>?_,λj h hj=>?_⟩
 ·have h':j<ks.length:=ZP
  rw[J2];split
  ·rename_i e;subst e;exact⟨hb.j,hb.o,hb.i,hb.n,h1⟩
  ·exact hS.b j h'
 ·rcases Jr hw with h|rfl
  ·exact hS.ok w h
  ·exact hg
 ·have h':j<ks.length:=ZP
  rw[J2];split
  ·rename_i e;subst e;exact h2
  ·exact hS.a j h' ZD
 ·have h':j<ks.length:=ZP
  rw[J2];split
  ·omega
  ·exact hS.u j h' ZD
theorem PkS.rows {i:Nat}{ph:List PhiD}{pl:List (Nat×Obj)}(hi:i<ks.length):(ks.set i ⟨⟨ph,ks[i].y.ins,ks[i].y.jump,ks[i].y.on,ks[i].y.next⟩,ks[i].pc,pl⟩).map KBlk.row=ks.map KBlk.row:=by
 rw[J5];have:(KBlk.mk ⟨ph,ks[i].y.ins,ks[i].y.jump,ks[i].y.on,ks[i].y.next⟩ ks[i].pc pl).row=(ks.map KBlk.row)[i]'Zah:=by simp[KBlk.row,kRow]
 rw[this,List.set_getElem_self]
end Go.AE.Y
namespace Go.AE.Y
attribute [local go_sem] cond_true cond_false Bool.not_true Bool.not_false
open Go.Proofs.Tryz
variable {H H0:Heap}{K:V->Heap->Prop}{E B Lg:List (Nat×Obj)}{q:CodeD}
abbrev Plc:=Int×Int
def pRow (p:Plc):List C:=[.sl true 1 [[.int .i64 p.1],[.int .i64 p.2]]]
def AA (ps:List Plc):List (List C):=ps.map pRow
theorem BW (ps:List Plc):(AA ps).length=ps.length:=by simp[AA]
theorem Qbi8 (ps:List Plc)(i:Nat)(h:i<ps.length):(AA ps).getD i []=pRow ps[i]:=by simp[AA,Jb,h]
theorem GX (ps:List Plc):∀r∈AA ps,an r=true:=by intro r hr;obtain⟨x,_,rfl⟩:=Jk.1 hr;rfl
def phS (q:CodeD)(b k r:Nat):List Plc:=(((Ae q b).aa.take k).filter λp=>decide (p.to=(r:Int))).map λ_=>((b:Int),(-1:Int))
def Ea (q:CodeD)(b i:Nat):Int:=(((Ae q b).ins[i]?).map AB).getD (-1)
def inS (q:CodeD)(b j r:Nat):List Plc:=((List.range j).filter λi=>decide (Ea q b i=(r:Int))).map λ(i:Nat)=>((b:Int),(i:Int))
def blS (q:CodeD)(b r:Nat):List Plc:=phS q b (Ae q b).aa.length r++inS q b (Ae q b).ins.length r
def A6 (q:CodeD)(b r:Nat):List Plc:=(List.range b).flatMap λb=>blS q b r
def Am (q:CodeD)(r:Nat):List Plc:=A6 q q.blocks.length r
def AR (q:CodeD):List (List C):=(List.range q.ab.toNat).map λr=>[.sl false 1 (AA (Am q r))]
theorem IW {b k r:Nat}(h:k<(Ae q b).aa.length):phS q b (k+1) r=phS q b k r++if (Ae q b).aa[k].to=(r:Int)then [((b:Int),(-1:Int))]else []:=by
 rw[phS,phS,Jg h,Jbd,Js];congr 1;by_cases hc:(Ae q b).aa[k].to=(r:Int)
 ·rw[if_pos hc];simp[hc]
 ·rw[if_neg hc];simp[hc]
theorem Fo {b i:Nat}(h:i<(Ae q b).ins.length):Ea q b i=AB (Ae q b).ins[i]:=by simp[Ea,h]
theorem D7 {b j r:Nat}:inS q b (j+1) r=inS q b j r++if Ea q b j=(r:Int)then [((b:Int),(j:Int))]else []:=by
 rw[inS,inS,Jau,Jbd,Js];congr 1;by_cases hc:Ea q b j=(r:Int)
 ·rw[if_pos hc];simp[hc]
 ·rw[if_neg hc];simp[hc]
theorem Q07 {b r:Nat}:A6 q (b+1) r=A6 q b r++blS q b r:=by simp[A6,Jau]
theorem Rq (x:InsD):(AK x.op=true/\AB x=x.to)\/(AK x.op=false/\AB x=-1):=by
 cases h:AK x.op with
 |true=>exact .inl ⟨rfl,by simp[AB,h]⟩
 |false=>exact .inr ⟨rfl,by simp[AB,h]⟩
structure SReg where
 ps:List Plc
 c:C
 lg:List (Nat×Obj)
def SReg.row (s:SReg):List C:=[s.c]
def SReg.ok (s:SReg):Prop:=Gr s.lg 1 (AA s.ps) s.c
structure SInv (R N:Nat)(F:Nat->List Plc)(ss:List SReg):Prop where
 n:ss.length=R
 f:∀r (h:r<ss.length),ss[r].ps=F r
 ok:∀s∈ss,s.ok
 l:∀s∈ss,s.ps.length<=N
variable {R N:Nat}{F F':Nat->List Plc}{ss:List SReg}
theorem SInv.get (h:SInv R N F ss){x:Nat}(hx:x<R):∃s∈ss,∃dv:x<ss.length,ss[x]=s/\s.ps=F x/\s.ok/\s.ps.length<=N/\(ss.map SReg.row).getD x []=[s.c]:=
 have dv:x<ss.length:=by rw[h.n];exact hx
 ⟨ss[x],Jd dv,dv,rfl,h.f x dv,h.ok _ (Jd dv),h.l _ (Jd dv),by simp[Jb,dv,SReg.row]⟩
theorem SInv.put (h:SInv R N F ss){x:Nat}(hx:x<R){p:Plc}{t:C}{Lg:List (Nat×Obj)}(hg:Gr Lg 1 (AA (F x++[p])) t)(hF:∀r,F' r=if r=x then F x++[p]else F r) :
  SInv R (N+1) F' (ss.set x ⟨F x++[p],t,Lg⟩):=by
 obtain⟨s,hs,dv,e1,e2,e3,e4,_⟩:=h.get hx;refine⟨by rw[Jo];exact h.n,λr hr=>?_,λw hw=>?_,λw hw=>?_⟩
 ·rw[J2,hF];split
  ·rename_i e;rw[if_pos e.symm]
  ·rename_i e;rw[if_neg (λhh=>e hh.symm)];exact h.f r Zaj
 ·rcases Jr hw with hw|rfl
  ·exact h.ok w hw
  ·exact hg
 ·rcases Jr hw with hw|rfl
  ·have:=h.l w hw;omega
  ·rw[e2]at e4;simp only[J4,Jl,Jn];omega
theorem SInv.same (h:SInv R N F ss)(hF:∀r,r<R->F' r=F r):SInv R N F' ss:=⟨h.n,λr hr=>by rw[h.f r hr,hF r (by rw[<-h.n];exact hr)],h.ok,h.l⟩
theorem SInv.up (h:SInv R N F ss){M:Nat}(hM:N<=M):SInv R M F ss:=⟨h.n,h.f,h.ok,λs hs=>by have:=h.l s hs;omega⟩
def ssL (o:Nat)(ss:List SReg):List (Nat×Obj):=[(o,.vec 1 (ss.map SReg.row))]++ss.flatMap SReg.lg
theorem GJ {o x:Nat}{s:SReg}(hx:x<ss.length)(hs:ss[x]=s):(ssL o ss).Perm (([(o,.vec 1 (ss.map SReg.row))]++(ss.eraseIdx x).flatMap SReg.lg)++s.lg):=by
 subst hs;have:=DT (f:=SReg.lg) hx;rw[ssL];refine Qt λf hf h0 hc hp=>?_;have:=hp _ _ this;simp only[hf]at this⊢;omega
theorem DD {o x:Nat}{s:SReg}(hx:x<ss.length):(([(o,Obj.vec 1 ((ss.set x s).map SReg.row))]++(ss.eraseIdx x).flatMap SReg.lg)++s.lg).Perm (ssL o (ss.set x s)):=by
 have h1:=GJ (o:=o) (ss:=ss.set x s) (x:=x) (s:=s) (by rw[Jo];exact hx) ZF;rw[Jap]at h1;exact h1.symm
set_option maxHeartbeats 4000000 in
theorem Kl {fl:Bool}(ho:q.ok)(hK:∀H',Upd H H' []->K (.c (.sl false 1 (AR q))) H') :
  Qv prog OU [.ag [.int .i64 q.params,.int .i64 q.ab,.sl fl 5 (Ql q.blocks)]] H K:=by
 have bH:=ho.r0;have dC:=ho.r1;have bf:=ho.b1;obtain⟨R,hR⟩:∃R:Nat,q.ab.toNat=R:=⟨_,rfl⟩;have lz:q.ab=(R:Int):=ZD
 refine Q0 ?_;refine Qc Ab Qbn0 ?_;refine Za ?_;refine Zh lz ?_;refine⟨by simp only[LIM];omega,λo jN H1 h1=>?_⟩;have kn:Kn H H1 [] (ssL o (List.replicate R ⟨[],.sl true 1 [],[]⟩)):=by
  have e:(List.replicate R (SReg.mk [] (.sl true 1 []) [])).flatMap SReg.lg=[]:=Ja2.2 λs hs=>by rw[J0 hs]
  have:=(Kn.ar H).al jN h1;rw[ssL,e];simpa[SReg.row]using this
 simp only[go_sem,NF];have nX:SInv R 0 (A6 q 0) (List.replicate R ⟨[],.sl true 1 [],[]⟩):=⟨ZF,λr h=>by simp[A6],λs hs=>by rw[J0 hs];exact .nil 1,λs hs=>by rw[J0 hs];simp⟩;generalize List.replicate R (SReg.mk [] (.sl true 1 []) [])=ss0 at *;refine Wa ?_;refine Qg (Qd (Qs (λm e1 H1=>∃(b N:Nat) (ss:List SReg),m=q.blocks.length-b/\b<=q.blocks.length/\N<=b * 2400/\SInv R N (A6 q b) ss/\Kn H H1 [] (ssL o ss)/\
  lk 1 e1=.c (.pp [.int .i64 q.params,.int .i64 (R:Int),.sl fl 5 (Ql q.blocks)])/\lk 3 e1=.c (.ah o 1 0 R)/\lk 4 e1=.c (.int .i64 b)) q.blocks.length ?_ ?_))
 ·exact⟨0,0,ss0,ZD,ZD,ZD,nX,kn,rfl,rfl,rfl⟩
 ·clear kn nX h1 jN;clear ss0;rintro m e1 H1 ⟨b,N,ss,hm,hb,iV,hS,kn,l1,l3,l4⟩;refine Q3 (Qa ?_);simp only[go_sem,l1,l3,l4,Qj];try intro _
  refine Wv ?_ ?_
  ·intro hc;have ae:b<q.blocks.length:=ZG
   obtain⟨y,hy⟩:∃y,q.blocks[b]=y:=⟨_,rfl⟩;have cW:Ae q b=y:=by rw[AG ae,hy]
   have bu:=ho.bs b ae;have ck:=ho.il b ae;rw[hy]at bu ck;refine Ze ?_
   refine Qg (Qd ?_);refine Wa ?_;refine Qg (Qd (Qs (λm e1 H1=>∃(k N:Nat) (ss:List SReg),m=y.aa.length-k/\k<=y.aa.length/\N<=b * 2400+k/\SInv R N (λr=>A6 q b r++phS q b k r) ss/\Kn H H1 [] (ssL o ss)/\
    lk 1 e1=.c (.pp [.int .i64 q.params,.int .i64 (R:Int),.sl fl 5 (Ql q.blocks)])/\lk 3 e1=.c (.ah o 1 0 R)/\lk 4 e1=.c (.int .i64 b)/\lk 5 e1=.c (.int .i64 k)) y.aa.length ?_ ?_))
   ·exact⟨0,N,ss,ZD,ZD,Jbl iV (Jbr _ _),hS.same λr _=>by simp[phS],kn,rfl,rfl,rfl,rfl⟩
   ·clear kn hS l1 l3 l4;clear ss iV;clear N;rintro m2 e2 H2 ⟨k,N,ss,eK,hk,iV,hS,kn,l1,l3,l4,l5⟩;refine Q3 (Qa ?_);simp only[go_sem,l1,l3,l4,l5,ae,Qj,Q9 _ _ ae,BlkD.cells,hy,Q5];try intro _
    refine Wv ?_ ?_
    ·intro ao;have aI:k<y.aa.length:=ZI;obtain⟨p,hp⟩:∃p,y.aa[k]=p:=⟨_,rfl⟩;have dI:p∈y.aa:=(by rw[<-hp];exact Jd aI);obtain⟨hv,b6⟩:=(bu.pto p dI).nat;have k7:∀r,phS q b (k+1) r=phS q b k r++if p.to=(r:Int)then [((b:Int),(-1:Int))]else []:=λr=>by
      have:=IW (q:=q) (b:=b) (k:=k) (r:=r) (by rw[cW];exact aI);simp only[cW,hp]at this;exact this
     refine Ze ?_
     refine Qg (Qd ?_);rw[hR]at b6;generalize hx:p.to.toNat=x at *;obtain⟨s,fy,d9,kz,oH,aE,eA,iB⟩:=hS.get b6;have fi:=aE.ai;refine Qa ?_;simp only[go_sem,ae,Qj,Q9 _ _ ae,BlkD.cells,hy,Q5,aI,Br _ _ aI,PhiD.cells,hp];have kn:=kn.perm (GJ d9 kz);have aX:H2 o=.vec 1 (ss.map SReg.row):=(kn.get (o,.vec 1 (ss.map SReg.row)) ZF).1;have dA:(ss.map SReg.row).length=R:=(by rw[Je,hS.n]);have ju:(ss.map SReg.row).take R=ss.map SReg.row:=Jc ZD;refine Qp ?_;simp only[go_sem,aX,dA,ju,hv,b6,iB,fi,Jj,Jf];refine kn.bD (new:=AA [((b:Int),(-1:Int))]) aE (.mk' _ _ _ _) (GX _) (by simp only[BW,LIM,Jl,Jn];omega) λt2 Lg2 H3 eC ee kn=>?_;have aX:H3 o=.vec 1 (ss.map SReg.row):=(kn.get (o,.vec 1 (ss.map SReg.row)) ZF).1;simp only[go_sem,NE,aX,dA,b6,iB,Jj,Jf];intro H4 h4;obtain⟨s',eX⟩:∃s':SReg,s'=⟨(A6 q b x++phS q b k x)++[((b:Int),(-1:Int))],t2,Lg2⟩:=⟨_,rfl⟩;have bK:(ss.map SReg.row).set x [t2]=(ss.set x s').map SReg.row:=(by rw[J5,eX];rfl);rw[bK]at h4;have kn:Kn H H4 [] (([(o,.vec 1 ((ss.set x s').map SReg.row))]++(ss.eraseIdx x).flatMap SReg.lg)++s'.lg):=by
      have e:s'.lg=Lg2:=(by rw[eX]);rw[e];exact kn.aB 0 rfl h4
     have kn:=kn.perm (DD d9);refine Zi ?_;refine⟨Qo,?_⟩;show ∃m,_;refine⟨y.aa.length-(k+1),ZD,k+1,N+1,ss.set x s',rfl,ZD,ZD,?_,kn,rfl,rfl,rfl,rfl⟩;rw[eX];refine (hS.put b6 (p:=((b:Int),(-1:Int))) (t:=t2) (Lg:=Lg2) ?_ λr=>?_)
     ·have:AA ((A6 q b x++phS q b k x)++[((b:Int),(-1:Int))])=AA s.ps++AA [((b:Int),(-1:Int))]:=(by rw[oH];simp[AA]);rw[this];exact eC
     ·show A6 q b r++phS q b (k+1) r=_;rw[k7];by_cases eM:r=x
      ·subst eM;rw[if_pos rfl,if_pos hv];simp
      ·rw[if_neg eM,if_neg ZD];simp
    ·intro ao;have nM:k=y.aa.length:=(by have:y.aa.length<=k:=(by simpa using ao);omega);subst nM;refine Wc ?_;refine Qd (Qs (λm e1 H1=>∃(j N:Nat) (ss:List SReg),m=y.ins.length-j/\j<=y.ins.length/\N<=b * 2400+y.aa.length+j/\SInv R N (λr=>A6 q b r++phS q b y.aa.length r++inS q b j r) ss/\Kn H H1 [] (ssL o ss)/\
      lk 1 e1=.c (.pp [.int .i64 q.params,.int .i64 (R:Int),.sl fl 5 (Ql q.blocks)])/\lk 3 e1=.c (.ah o 1 0 R)/\lk 4 e1=.c (.int .i64 b)/\lk 7 e1=.c (.int .i64 j)) y.ins.length ?_ ?_)
     ·exact⟨0,N,ss,ZD,ZD,Jbl iV (Jbr _ _),hS.same λr _=>by simp[inS],kn,rfl,rfl,rfl,rfl⟩
     ·clear kn hS l1 l3 l4 l5;clear ss iV;clear N;rintro m3 e3 H3 ⟨j,N,ss,nF,hj,iV,hS,kn,l1,l3,l4,l7⟩;refine Q3 (Qa ?_);simp only[go_sem,l1,l3,l4,l7,ae,Qj,Q9 _ _ ae,BlkD.cells,hy,A0];try intro _
      refine Wv ?_ ?_
      ·intro bk;have aV:j<y.ins.length:=ZM;obtain⟨x,hx⟩:∃x,y.ins[j]=x:=⟨_,rfl⟩;have gL:x∈y.ins:=(by rw[<-hx];exact Jd aV);have rD:Ea q b j=AB x:=by
        have:=Fo (q:=q) (b:=b) (i:=j) ZaT;simp only[cW,hx]at this;exact this
       refine Ze ?_
       refine Az (λe2 H2=>∃(N:Nat) (ss:List SReg),N<=b * 2400+y.aa.length+(j+1)/\SInv R N (λr=>A6 q b r++phS q b y.aa.length r++inS q b (j+1) r) ss/\Kn H H2 [] (ssL o ss)/\
        lk 1 e2=.c (.pp [.int .i64 q.params,.int .i64 (R:Int),.sl fl 5 (Ql q.blocks)])/\lk 3 e2=.c (.ah o 1 0 R)/\lk 4 e2=.c (.int .i64 b)/\lk 7 e2=.c (.int .i64 j)) ?_ ?_
       ·intro Q br _ _;refine Qd (Qa ?_);simp only[go_sem,ae,Qj,Q9 _ _ ae,BlkD.cells,hy,aV,A0,BR _ _ aV,InsD.cK,InsD.bt,InsD.len4,hx];refine Kr ?_;simp only[go_sem,ND];refine Za ?_;refine Ww ?_ ?_
        ·intro bN;have aY:0<=AB x:=ZQ;have cF:AK x.op=true/\AB x=x.to:=by
          rcases Rq x with h|⟨_,h⟩
          ·exact h
          ·omega
         obtain⟨hv,b6⟩:=(bu.to x gL cF.1).nat;rw[<-cF.2,hR]at b6;rw[<-cF.2]at hv;clear cF;generalize hx:(AB x).toNat=z at *;obtain⟨s,fy,d9,kz,oH,aE,eA,iB⟩:=hS.get b6;have fi:=aE.ai;have kn:=kn.perm (GJ d9 kz);have aX:H3 o=.vec 1 (ss.map SReg.row):=(kn.get (o,.vec 1 (ss.map SReg.row)) ZF).1;have dA:(ss.map SReg.row).length=R:=(by rw[Je,hS.n]);have ju:(ss.map SReg.row).take R=ss.map SReg.row:=Jc ZD;refine Qp ?_;simp only[go_sem,aX,dA,ju,hv,b6,iB,fi,Jj,Jf];refine kn.bD (new:=AA [((b:Int),(j:Int))]) aE (.mk' _ _ _ _) (GX _) (by simp only[BW,LIM,Jl,Jn];omega) λt2 Lg2 H4 eC ee kn=>?_;have aX:H4 o=.vec 1 (ss.map SReg.row):=(kn.get (o,.vec 1 (ss.map SReg.row)) ZF).1;simp only[go_sem,NB,aX,dA,b6,iB,Jj,Jf];intro H5 h5;obtain⟨s',eX⟩:∃s':SReg,s'=⟨(A6 q b z++phS q b y.aa.length z++inS q b j z)++[((b:Int),(j:Int))],t2,Lg2⟩:=⟨_,rfl⟩;have bK:(ss.map SReg.row).set z [t2]=(ss.set z s').map SReg.row:=(by rw[J5,eX];rfl);rw[bK]at h5;have kn:Kn H H5 [] (([(o,.vec 1 ((ss.set z s').map SReg.row))]++(ss.eraseIdx z).flatMap SReg.lg)++s'.lg):=by
          have e:s'.lg=Lg2:=(by rw[eX]);rw[e];exact kn.aB 0 rfl h5
         have kn:=kn.perm (DD d9);refine br _ _ ⟨N+1,ss.set z s',ZD,?_,kn,rfl,rfl,rfl,rfl⟩;rw[eX];refine (hS.put b6 (p:=((b:Int),(j:Int))) (t:=t2) (Lg:=Lg2) ?_ λr=>?_)
         ·have:AA ((A6 q b z++phS q b y.aa.length z++inS q b j z)++[((b:Int),(j:Int))])=AA s.ps++AA [((b:Int),(j:Int))]:=(by rw[oH];simp[AA]);rw[this];exact eC
         ·show A6 q b r++phS q b y.aa.length r++inS q b (j+1) r=_;rw[D7,rD];by_cases eM:r=z
          ·subst eM;rw[if_pos rfl,if_pos hv];simp
          ·rw[if_neg eM,if_neg ZD];simp
        ·intro bN;have oX:¬0<=AB x:=ZQ;refine Ze ?_
         refine br _ _ ⟨N,ss,ZD,hS.same λr _=>?_,kn,rfl,rfl,rfl,rfl⟩;rw[D7,rD,if_neg ZD];simp
       ·rintro e4 H4 ⟨N,ss,iV,hS,kn,l1,l3,l4,l7⟩;refine Qp ?_;simp only[go_sem,l1,l3,l4,l7];refine⟨Qo,?_⟩;show ∃m,_;exact⟨y.ins.length-(j+1),ZD,j+1,N,ss,rfl,ZD,iV,hS,kn,rfl,rfl,rfl,rfl⟩
      ·intro bk;have lL:j=y.ins.length:=(by have:y.ins.length<=j:=(by simpa using bk);omega);subst lL;refine Zb ?_;refine Zi ?_;refine⟨Qo,?_⟩;show ∃m,_;refine⟨q.blocks.length-(b+1),ZD,b+1,N,ss,rfl,ZD,ZD,hS.same λr _=>?_,kn,rfl,rfl,rfl⟩;rw[Q07,blS,cW];simp
  ·intro hc;have iv:b=q.blocks.length:=by have:q.blocks.length<=b:=ZG;omega
   subst iv;refine Wn ?_;have aX:=kn.l 0 rfl;have bz:∀p∈ssL o ss,H1 p.1=p.2/\un H p.1=true:=λp hp=>⟨(kn.get p (Jh _ hp)).1,BE (kn.loc p hp)⟩;have cx:FrzR H1 (un H) (ss.map SReg.row) (AR q):=by
    have e:AR q=ss.map λs=>[C.sl false 1 (AA s.ps)]:=by
     rw[AR,hR];refine Jbp (by simp[hS.n]) λi h1 h2=>?_;have h3:i<ss.length:=Zag;simp only[Jac,Jbe,hS.f i h3];rfl
    rw[e];exact DO ss λs hs=>.cons (Gr.frzM (hS.ok s hs) (λp hp=>bz p (Jh _ (Ja5.2 ⟨s,hs,hp⟩))) (FrzR.same (GX _))) .nil
   exact⟨_,.c _ _ (cx.ah (kn.un 0 rfl) aX (by rw[Je,hS.n])),hK _ kn.fin⟩
end Go.AE.Y
namespace Go.AE.Y
def mix {α:Type}(f:α->α)(is:List α)(k:Nat):List α:=(is.take k).map f++is.drop k
theorem Xg {α:Type}(f:α->α)(is:List α)(k:Nat):(mix f is k).length=is.length:=by
 simp only[mix,J4,Je,Jad,List.length_drop];omega
theorem VE {α:Type}{f:α->α}{is:List α}{i:Nat}(h:i<is.length)(h2:i<(mix f is i).length):(mix f is i)[i]=is[i]:=by
 have hl:((is.take i).map f).length=i:=by rw[Je,Jad];omega
 simp only[mix];rw[List.getElem_append_right ZD];simp only[hl,Jbm,List.getElem_drop,Nat.add_zero]
theorem Xf {α:Type}{f:α->α}{is:List α}{i:Nat}(h:i<is.length):(mix f is i).set i (f is[i])=mix f is (i+1):=by
 have hl:((is.take i).map f).length=i:=by rw[Je,Jad];omega
 rw[mix,mix,Jan _ _ ZD,hl,Jbm,Jy h,Jbh,Jg h,Js,Jaj];rfl
theorem Qbtm {α:Type}(f:α->α)(is:List α):mix f is 0=is:=by simp[mix]
theorem Xh {α:Type}(f:α->α)(is:List α){i:Nat}(h:is.length<=i):mix f is i=is.map f:=by
 rw[mix,Jc h,Ja7 h,Jat]
attribute [local go_sem] cond_true cond_false Bool.not_true Bool.not_false
attribute [local instance] Classical.propDecidable
open Go.Proofs.Tryz
variable {H H0:Heap}{K:V->Heap->Prop}
def nwA (q:CodeD)(P:List Int)(l:List Nat)(i:Nat)(args:List Int):List Int:=
 (Qz (pkN q P l) (i:Int) l.length).map λw=>args.getD ((Qz (gnx q) ((l.getD i 0:Nat):Int) q.blocks.length).idxOf ((l.getD w.toNat 0:Nat):Int)) 0
def nwP (q:CodeD)(P:List Int)(l:List Nat)(i:Nat)(p:PhiD):PhiD:=⟨p.to,nwA q P l i p.args⟩
structure PkZ (q:CodeD)(P:List Int)(l:List Nat)(i:Nat)(ks:List KBlk):Prop where
 n:ks.length=l.length
 b:∀j (h:j<ks.length),PkB q P (l.getD j 0) ks[j].y
 ok:∀b∈ks,b.ok
 a:∀j (h:j<ks.length),j<i->ks[j].y.aa=(Ae q (l.getD j 0)).aa.map (nwP q P l j)
 u:∀j (h:j<ks.length),i<=j->ks[j].y.aa=(Ae q (l.getD j 0)).aa
variable {q:CodeD}{P:List Int}{l:List Nat}{ks:List KBlk}
theorem PkZ.step {i:Nat}(hS:PkZ q P l i ks)(hi:i<ks.length){ph:List PhiD}{pl:List (Nat×Obj)}(h1:ph.map PhiD.to=(Ae q (l.getD i 0)).aa.map PhiD.to)(h2:ph=(Ae q (l.getD i 0)).aa.map (nwP q P l i))(hg:Gr pl 2 (Q8 ph) ks[i].pc) :
  PkZ q P l (i+1) (ks.set i ⟨⟨ph,ks[i].y.ins,ks[i].y.jump,ks[i].y.on,ks[i].y.next⟩,ks[i].pc,pl⟩):=by
 have hb:=hS.b i hi;refine⟨by rw[Jo];exact hS.n,λj h=>?_,λw hw=>?_,λj h hj=>?_,λj h hj=>?_⟩
 ·have h':j<ks.length:=ZP
  rw[J2];split
  ·rename_i e;subst e;exact⟨hb.j,hb.o,hb.i,hb.n,h1⟩
  ·exact hS.b j h'
 ·rcases Jr hw with h|rfl
  ·exact hS.ok w h
  ·exact hg
 ·have h':j<ks.length:=ZP
  rw[J2];split
  ·rename_i e;subst e;exact h2
  ·exact hS.a j h' ZD
 ·have h':j<ks.length:=ZP
  rw[J2];split
  ·omega
  ·exact hS.u j h' ZD
def pkX (q:CodeD)(P:List Int)(l:List Nat)(i:Nat):BlkD:=⟨(Ae q (l.getD i 0)).aa.map (nwP q P l i),(Ae q (l.getD i 0)).ins,(Ae q (l.getD i 0)).jump,(Ae q (l.getD i 0)).on,(pkY q P (l.getD i 0)).next⟩
def pkD (q:CodeD)(P:List Int)(l:List Nat):CodeD:=⟨q.params,q.ab,(List.range l.length).map (pkX q P l)⟩
theorem Vj (ho:q.ok)(hp:Pk q l)(hP:B0 q.blocks.length l P){j:Nat}(hj:j<l.length){p:PhiD}(h:p∈(Ae q (l.getD j 0)).aa.map (nwP q P l j)):PkA q P l j p:=by
 obtain⟨p0,h0,rfl⟩:=Jk.1 h;obtain⟨g0,g1,g2⟩:=hp.get hj;have bu:=ho.bs _ g2;rw[g0,AG g2]at h0;refine⟨by rw[nwP,nwA,Je],λv hv=>?_⟩;obtain⟨w,hw,rfl⟩:=Jk.1 hv;obtain⟨j',cQ,rfl,dX⟩:=hp.preds ho hP hj hw;have e:l.getD ((j':Int)).toNat 0=l[j']:=by rw[Jax];exact (hp.get cQ).1
 rw[e,g0];have dk:=bu.pal p0 h0;have mP:(Qz (gnx q) ((l[j]:Nat):Int) q.blocks.length).idxOf ((l[j']:Nat):Int)<p0.args.length:=by
  rw[dk];exact Jaf dX
 exact bu.pargs p0 h0 _ (CZ mP)
set_option maxHeartbeats 8000000 in
theorem Qbi5 {H0 H:Heap}{E:List (Nat×Obj)}{Q:X->Env->Heap->Prop}{e:Env}{fl fl2:Bool}{x4 x6 zb:Nat}{ks0:List KBlk}(ho:q.ok)(hp:Pk q l)(hP:B0 q.blocks.length l P)(hS:PkZ q P l 0 ks0)
  (kn:Kn H0 H E ([(x4,.st [.int .i64 0,.int .i64 0,.sl true 5 []]),(x6,.st [.int .i64 q.params,.int .i64 q.ab,.ah zb 5 0 l.length]),(zb,.vec 5 (ks0.map KBlk.row))]++ks0.flatMap KBlk.pl))
  (l1:lk 1 e=.c (.sl fl2 1 (Q7 l))) (l2:lk 2 e=.c (.pp [.int .i64 q.params,.int .i64 q.ab,.sl fl 5 (Ql q.blocks)])) (l4:lk 4 e=.c (.ptr x4 0)) (l6:lk 6 e=.c (.ptr x6 0))
  (hQ:∀(e:Env) (H':Heap) (ks:List KBlk),PkZ q P l l.length ks->Kn H0 H' E ([(x4,.st [.int .i64 q.params,.int .i64 q.ab,.ah zb 5 0 l.length]),(x6,.st [.int .i64 q.params,.int .i64 q.ab,.ah zb 5 0 l.length]),(zb,.vec 5 (ks.map KBlk.row))]++ks.flatMap KBlk.pl)->
   lk 4 e=.c (.ptr x4 0)->Q .ret e H'):Ad prog Q9h Q e H:=by
 have bf:=ho.b1;have nG:=hp.n;obtain⟨X4,yL⟩:∃o,o=Obj.st [.int .i64 0,.int .i64 0,.sl true 5 []]:=⟨_,rfl⟩;obtain⟨X6,nU⟩:∃o,o=Obj.st [.int .i64 q.params,.int .i64 q.ab,.ah zb 5 0 l.length]:=⟨_,rfl⟩;rw[<-yL,<-nU]at kn;refine Q3 (Qa ?_);simp only[go_sem,l1,l2,l4,l6];refine Qg (Qd (Qs (λm e1 H1=>∃(i:Nat) (ks:List KBlk),m=l.length-i/\i<=l.length/\PkZ q P l i ks/\
  Kn H0 H1 E ([(x4,X4),(x6,X6),(zb,.vec 5 (ks.map KBlk.row))]++ks.flatMap KBlk.pl)/\
  lk 1 e1=.c (.sl fl2 1 (Q7 l))/\lk 2 e1=.c (.pp [.int .i64 q.params,.int .i64 q.ab,.sl fl 5 (Ql q.blocks)])/\lk 4 e1=.c (.ptr x4 0)/\lk 6 e1=.c (.ptr x6 0)/\lk 10 e1=.c (.int .i64 i)) l.length ?_ ?_))
 ·exact⟨0,ks0,ZD,ZD,hS,kn,rfl,rfl,rfl,rfl,rfl⟩
 ·clear kn hS l1 l2 l4 l6;rintro m e1 H1 ⟨i,ks,hm,hi,hS,kn,l1,l2,l4,l6,l10⟩;have dd:=hS.n;refine Q3 (Qa ?_);simp only[go_sem,l1,l2,l4,l6,l10,Q1];try intro _
  refine Wv ?_ ?_
  ·intro hc;have ae:i<l.length:=ZG
   have nL:i<ks.length:=ZD
   obtain⟨b,hb⟩:∃b,l[i]=b:=⟨_,rfl⟩;have qr:b∈l:=by rw[<-hb];exact Jd ae
   have cM:=hp.lt b qr;have bQ:l.getD i 0=b:=by simp[Jb,ae,hb]
   obtain⟨kb,iq⟩:∃kb,ks[i]=kb:=⟨_,rfl⟩;have mM:Gr kb.pl 2 (Q8 kb.y.aa) kb.pc:=by rw[<-iq];exact hS.ok _ (Jd nL)
   have hkbB:PkB q P b kb.y:=by have:=hS.b i nL;rw[bQ,iq]at this;exact this
   have vR:kb.y.aa=(Ae q b).aa:=by have:=hS.u i nL (Jf _);rw[bQ,iq]at this;exact this
   have bu:=ho.bs b cM;have ck:=ho.il b cM;rw[<-AG cM]at bu ck;obtain⟨R,hR⟩:∃R,(ks.eraseIdx i).flatMap KBlk.pl=R:=⟨_,rfl⟩;have jg:(ks.flatMap KBlk.pl).Perm (kb.pl++R):=by rw[<-hR,<-iq];exact DT nL
   obtain⟨RW,lP⟩:∃RW,ks.map KBlk.row=RW:=⟨_,rfl⟩;have bv:RW.length=l.length:=by rw[<-lP,Je,dd]
   have bq:RW.getD i []=[kb.pc,.sl false 4 (Af kb.y.ins),.int .i64 kb.y.jump,.int .i64 kb.y.on,.sl false 1 (Qb kb.y.next)]:=by
    rw[<-lP,Jb];simp only[Jaz,Ji nL,iq,Jav,Ja6];exact kb.row_eq
   have bC:RW.take l.length=RW:=Jc ZD;rw[lP]at kn;have ba:H1 x6=X6:=(kn.get (x6,X6) ZF).1;rw[nU]at ba;refine Ze ?_
   refine Qg (Qd ?_);refine Aj ?_;simp only[go_sem,ae,Q1,Bk _ _ ae,bQ];refine CY (nx:=gnx q) (.mk' _ _ _ _) rfl (Cs H1 q fl).x λH2 hu=>?_;have kn:=kn.aw hu;simp only[go_sem,Q3p,Qj];obtain⟨olds,dJ⟩:∃o,Qz (gnx q) (b:Int) q.blocks.length=o:=⟨_,rfl⟩;rw[dJ];have ba:H2 x6=X6:=(kn.get (x6,X6) ZF).1;rw[nU]at ba;have cN:H2 zb=.vec 5 RW:=(kn.get (zb,.vec 5 RW) ZF).1;refine Zh ba ?_;refine CY (nx:=pkN q P l) (vslc cN bv.symm) rfl (λj hj=>?_) λH3 hu=>?_
   ·have cQ:j<ks.length:=ZD;have fK:j<l.length:=ZD;have yt:=hS.b j cQ;rw[(hp.get fK).1]at yt;refine⟨ks[j].pc,.sl false 4 (Af ks[j].y.ins),.int .i64 ks[j].y.jump,.int .i64 ks[j].y.on,false,?_⟩;rw[<-lP,Jb];simp only[Jaz,Ji cQ,Jav,Ja6];rw[E7 fK,<-yt.n];exact KBlk.row_eq _
   have kn:=kn.aw hu;rw[bv];obtain⟨news,m9⟩:∃o,Qz (pkN q P l) (i:Int) l.length=o:=⟨_,rfl⟩;rw[m9];have cC:news.length<=l.length:=by rw[<-m9];exact Ct _ _ _
   simp only[go_sem,Q3q];refine Za ?_;have kn:Kn H0 H3 E (([(x4,X4),(x6,X6),(zb,.vec 5 RW)]++R)++kb.pl):=kn.perm (Qt λf hf h0 hc hp=>by
    have:=hp _ _ jg;simp only[hf]at this⊢;omega)
   refine Qd (Qs (λm e1 H1=>∃(k:Nat) (ph:List PhiD) (pl:List (Nat×Obj)),m=ph.length-k/\k<=ph.length/\ph=mix (nwP q P l i) (Ae q b).aa k/\Gr pl 2 (Q8 ph) kb.pc/\
    Kn H0 H1 E (([(x4,X4),(x6,X6),(zb,.vec 5 RW)]++R)++pl)/\
    lk 1 e1=.c (.sl fl2 1 (Q7 l))/\lk 2 e1=.c (.pp [.int .i64 q.params,.int .i64 q.ab,.sl fl 5 (Ql q.blocks)])/\lk 4 e1=.c (.ptr x4 0)/\lk 6 e1=.c (.ptr x6 0)/\lk 10 e1=.c (.int .i64 i)/\lk 11 e1=.c (.sl false 1 (Qb olds))/\lk 12 e1=.c (.sl false 1 (Qb news))/\lk 13 e1=.c (.int .i64 k)) kb.y.aa.length ?_ ?_)
   ·exact⟨0,kb.y.aa,kb.pl,ZD,ZD,by rw[vR,Qbtm],mM,kn,rfl,rfl,rfl,rfl,rfl,rfl,rfl,rfl⟩
   ·clear kn ba cN jg hu l1 l2 l4 l6 l10;rintro m2 e2 H4 ⟨k,ph,pl,eK,hk,ml,aq,kn,l1,l2,l4,l6,l10,l11,l12,l13⟩;have mj:ph.length=(Ae q b).aa.length:=(by rw[ml,Xg]);have ba:H4 x6=X6:=(kn.get (x6,X6) ZF).1;rw[nU]at ba;have cN:H4 zb=.vec 5 RW:=(kn.get (zb,.vec 5 RW) ZF).1;have jw:=aq.ai;have gS:=eq_true (aq.get kn).1;have eP:=aq.ax;rw[Q5]at eP;refine Q3 (Qa ?_);simp only[go_sem,l1,l2,l4,l6,l10,l11,l12,l13,ba,cN,bv,bC,bq,ae,jw,gS,eP,Jj,Jf];try intro _
    refine Wv ?_ ?_
    ·intro ao;have aI:k<ph.length:=ZI;obtain⟨z,kH,cP⟩:∃z,kb.pc=.ah z 2 0 ph.length/\pl=[(z,.vec 2 (Q8 ph))]:=by
      rcases aq with ⟨_,h,_⟩|⟨y,h1,h2⟩
      ·have:=congrArg List.length h;rw[Q5]at this;simp only[Jn]at this;omega
      ·exact⟨y,by rw[h1,Q5],h2⟩
     rw[kH]at bq;rw[cP]at kn;clear jw gS eP;obtain⟨p,uY⟩:∃p,ph[k]=p:=⟨_,rfl⟩;have iP:k<(Ae q b).aa.length:=ZD;have iG:(Ae q b).aa[k]=p:=by
      rw[<-uY];subst ml;exact (VE iP aI).symm
     have dI:p∈(Ae q b).aa:=(by rw[<-iG];exact Jd iP);obtain⟨NA,xg⟩:∃NA,nwA q P l i p.args=NA:=⟨_,rfl⟩;have hNl:NA.length=news.length:=(by rw[<-xg,nwA,Je,m9]);have jx:p.args.length=olds.length:=(by rw[<-dJ];exact bu.pal p dI);have ve:=bu.pargs p dI;have rj:(Q8 ph).take ph.length=Q8 ph:=Jc (by rw[Q5];omega);have mo:(Q8 ph).getD k []=[.int .i64 p.to,.sl false 1 (Qb p.args)]:=(by rw[Br _ _ aI,uY];rfl);refine Ze ?_
     refine Qg (Qd ?_);refine Wf ?_;refine Qg (Qd (Qs (λm e1 H1=>∃(j:Nat) (av:List Int) (t:C) (Lg:List (Nat×Obj)),m=news.length-j/\j<=news.length/\av=NA.take j/\Gr Lg 1 (Qb av) t/\
      Kn H0 H1 E (([(x4,X4),(x6,X6),(zb,.vec 5 RW)]++R++[(z,.vec 2 (Q8 ph))])++Lg)/\
      lk 1 e1=.c (.sl fl2 1 (Q7 l))/\lk 2 e1=.c (.pp [.int .i64 q.params,.int .i64 q.ab,.sl fl 5 (Ql q.blocks)])/\lk 4 e1=.c (.ptr x4 0)/\lk 6 e1=.c (.ptr x6 0)/\lk 10 e1=.c (.int .i64 i)/\lk 11 e1=.c (.sl false 1 (Qb olds))/\lk 12 e1=.c (.sl false 1 (Qb news))/\lk 13 e1=.c (.int .i64 k)/\
      lk 14 e1=.c t/\lk 15 e1=.c (.int .i64 j)) news.length ?_ ?_))
     ·exact⟨0,[],_,[],ZD,ZD,ZF,.nil 1,ZO,rfl,rfl,rfl,rfl,rfl,rfl,rfl,rfl,rfl,rfl⟩
     ·clear kn ba cN l1 l2 l4 l6 l10 l11 l12 l13;rintro m3 e3 H5 ⟨j,av,t,Lg,nF,hj,sC,mS,kn,l1,l2,l4,l6,l10,l11,l12,l13,l14,l15⟩;have eb:=mS.ai;have pO:av.length=j:=(by rw[sC,Jad];omega);refine Q3 (Qa ?_);simp only[go_sem,l1,l2,l4,l6,l10,l11,l12,l13,l14,l15,Qe];try intro _
      refine Wv ?_ ?_
      ·intro bk;have aV:j<news.length:=ZM;have xZ:news[j]∈Qz (pkN q P l) (i:Int) l.length:=(by rw[m9];exact Jd aV);obtain⟨j',cQ,vp,dX⟩:=hp.preds ho hP ae xZ;rw[hb,dJ]at dX;have wn:news.getD j 0=(j':Int):=(by rw[<-vp];simp[Jb,aV]);have sa:l.getD j' 0=l[j']:=(by simp[Jb,cQ]);have ba:H5 x6=X6:=(kn.get (x6,X6) ZF).1;rw[nU]at ba;have cN:H5 zb=.vec 5 RW:=(kn.get (zb,.vec 5 RW) ZF).1;have hz:H5 z=.vec 2 (Q8 ph):=(kn.get (z,.vec 2 (Q8 ph)) ZF).1;refine Ze ?_
       refine Wu ?_;simp only[go_sem,ba,cN,hz,bv,bC,bq,ae,aI,rj,mo,Q5,aV,Qe,Qn _ _ aV,wn,cQ,Q1,Bk _ _ cQ,sa,Jj,Jf];refine Dy (ns:=olds) (.mk' _ _ _ _) rfl λr hr=>?_;obtain⟨a,ha⟩:∃a,olds.idxOf ((l[j']:Nat):Int)=a:=⟨_,rfl⟩;have ra:r=(a:Int):=(by rw[<-ha];exact hr.idx dX);have dk:a<olds.length:=(by rw[<-ha];exact Jaf dX);have hNj:j<NA.length:=ZD;have hNv:NA[j]=p.args.getD a 0:=by
        subst xg;simp only[nwA,Jac,bQ,dJ];have e:(Qz (pkN q P l) (i:Int) l.length)[j]'(by rw[m9];exact aV)=(j':Int):=by
         subst m9;exact vp
        rw[e,Jax,sa,ha]
       have sG:a<p.args.length:=ZD;simp only[go_sem,Q3s,ra,ba,cN,hz,bv,bC,bq,ae,aI,rj,mo,Q5,sG,Qe,Qn _ _ sG,Jj,Jf];refine kn.bD (new:=Qb [p.args.getD a 0]) mS (.mk' _ _ _ _) (Qy _) (by simp only[Qe,LIM,Jl,Jn];omega) λt2 Lg2 H6 pw ee kn=>?_;simp only[go_sem,Q3r];refine Zi ?_;refine⟨Qo,?_⟩;show ∃m,_;refine⟨news.length-(j+1),ZD,j+1,av++[p.args.getD a 0],t2,Lg2,rfl,ZD,by rw[sC,Jg hNj,hNv],by rw[CO];exact pw,kn,rfl,rfl,rfl,rfl,rfl,rfl,rfl,rfl,rfl,ZE⟩
      ·intro bk;have lL:j=news.length:=(by have:news.length<=j:=(by simpa using bk);omega);have sC:av=NA:=(by rw[sC,Jc (by omega)]);subst sC;have gO:=Xf (f:=nwP q P l i) iP;rw[iG,nwP,xg]at gO;refine Zb ?_;obtain⟨S,pR,qt,ir,kn⟩:=kn.ex;have qo:FrzC H5 S t (.sl false 1 (Qb av)):=Gr.frzM mS pR (FrzR.same (Qy _));refine c_gh (Gk S (FT ?_) ir) (e':=[(1,.c (.sl fl2 1 (Q7 l))),(2,.c (.pp [.int .i64 q.params,.int .i64 q.ab,.sl fl 5 (Ql q.blocks)])),(4,.c (.ptr x4 0)),(6,.c (.ptr x6 0)),(10,.c (.int .i64 i)),(11,.c (.sl false 1 (Qb olds))),(12,.c (.sl false 1 (Qb news))),(13,.c (.int .i64 k)),(14,.c (.sl false 1 (Qb av)))]) ?_
       ·simp only[Jba];exact⟨.c _ _ (.same _ rfl),.c _ _ (.same _ rfl),.c _ _ (.same _ rfl),.c _ _ (.same _ rfl),.c _ _ (.same _ rfl),.c _ _ (.same _ rfl),.c _ _ (.same _ rfl),.c _ _ (.same _ rfl),.c _ _ qo,ZF⟩
       generalize H5.frz S=H6 at *;have ba:H6 x6=X6:=(kn.get (x6,X6) ZF).1;rw[nU]at ba;have cN:H6 zb=.vec 5 RW:=(kn.get (zb,.vec 5 RW) ZF).1;have hz:H6 z=.vec 2 (Q8 ph):=(kn.get (z,.vec 2 (Q8 ph)) ZF).1;have bK:(Q8 ph).set k [.int .i64 p.to,.sl false 1 (Qb av)]=Q8 (ph.set k ⟨p.to,av⟩):=Qbi4 ph k ⟨p.to,av⟩;refine Qp ?_;simp only[go_sem,ba,cN,hz,bv,bC,bq,ae,aI,mo,bK,Q5,Jj,Jf];intro H7 h7;have kn:Kn H0 H7 E (([(x4,X4),(x6,X6),(zb,.vec 5 RW)]++R)++[(z,.vec 2 (Q8 (ph.set k ⟨p.to,av⟩)))]):=by
        have:=kn.aB ([(x4,X4),(x6,X6),(zb,Obj.vec 5 RW)]++R).length (x:=z) (o:=.vec 2 (Q8 ph)) ZF h7;simpa using this
       refine Zi ?_;refine⟨Qo,?_⟩;show ∃m,_;refine⟨ph.length-(k+1),ZD,k+1,ph.set k ⟨p.to,av⟩,_,by rw[Jo],by rw[Jo];omega,by rw[ml];exact gO,?_,kn,rfl,rfl,rfl,rfl,rfl,rfl,rfl,ZE⟩;rw[kH];exact .mk _ _ _ (by rw[Q5,Jo])
    ·intro ao;have aY:ph.length<=k:=ZI;refine Zb ?_;refine Zi ?_;refine⟨Qo,?_⟩;show ∃m,_;have kG:ph=(Ae q b).aa.map (nwP q P l i):=(by rw[ml,Xh _ _ (by omega)]);have aR:=hS.step nL (ph:=ph) (pl:=pl) (by rw[bQ,kG,Jam];rfl) (by rw[bQ];exact kG) (by rw[iq];exact aq);have eY:=PkS.rows (ks:=ks) (ph:=ph) (pl:=pl) nL;have dQ:=DT (f:=KBlk.pl) (l:=ks.set i ⟨⟨ph,ks[i].y.ins,ks[i].y.jump,ks[i].y.on,ks[i].y.next⟩,ks[i].pc,pl⟩) (i:=i) (by rw[Jo];exact nL);rw[Ja8,Jap,hR]at dQ;generalize ks.set i ⟨⟨ph,ks[i].y.ins,ks[i].y.jump,ks[i].y.on,ks[i].y.next⟩,ks[i].pc,pl⟩=ks' at *;have kn:Kn H0 H4 E ([(x4,X4),(x6,X6),(zb,.vec 5 (ks'.map KBlk.row))]++ks'.flatMap KBlk.pl):=by
      rw[eY,lP];refine kn.perm (Qt λf hf h0 hc hp=>?_);have:=hp _ _ dQ;simp only[hf]at this⊢;omega
     exact⟨l.length-(i+1),ZD,i+1,ks',rfl,ZD,aR,kn,rfl,rfl,rfl,rfl,ZE⟩
  ·intro hc;have mQ:i=l.length:=by have:l.length<=i:=ZG;omega
   subst mQ;refine Zb ?_;have bO:=kn.l 0 rfl;have ba:=kn.l 1 rfl;rw[nU]at ba;rw[yL]at bO;refine Zn bO ba ?_;intro H2 h2;have kn:=kn.aB 0 rfl h2;refine Qk ?_;refine hQ _ _ ks hS ?_ ZE;rw[nU]at kn;exact kn
set_option maxHeartbeats 8000000 in
theorem Qbif {q:CodeD}{fl fl2:Bool}{l:List Nat}(ho:q.ok)(hp:Pk q l)
  (hK:∀(d:CodeD) z H',PkR q d->(∃P,B0 q.blocks.length l P/\d=pkD q P l)->Kn H H' [] [(z,.vec 5 (Ql d.blocks))]->K (.ag [.int .i64 d.params,.int .i64 d.ab,.ah z 5 0 d.blocks.length]) H') :
  Qv prog OY [.ag [.int .i64 q.params,.int .i64 q.ab,.sl fl 5 (Ql q.blocks)],.c (.sl fl2 1 (Q7 l))] H K:=by
 have bf:=ho.b1;have nG:=hp.n;have gp:0<l.length:=by
  have:=hp.z
  cases l with
  |nil=>simp at this
  |cons=>simp
 refine CX ?_;refine Qc Ab Qbnq ?_;refine Za ?_;intro x4 bO H1 h1;have kn:=(Kn.ar H).al bO h1;refine Qa ?_;simp only[go_sem,Qj];try intro _
 refine Qbig (n:=q.blocks.length) ZD ZD hp.lt λP H2 hP hu=>?_;have kn:=kn.aw hu;simp only[go_sem,Q9i];refine Za ?_;intro x6 ba H3 h3;have kn:=kn.al ba h3;have ba:=kn.l 1 rfl;simp only[go_sem,Q9j,ba];intro H4 h4;have kn:Kn H H4 [] [(x4,.st [.int .i64 0,.int .i64 0,.sl true 5 []]),(x6,.st [.int .i64 q.params,.int .i64 q.ab,.sl true 5 []])]:=kn.aB 1 rfl h4;refine Wa ?_;refine Qg (Qd (Qs (λm e1 H1=>∃(ks:List KBlk) (bc:C) (bl:List (Nat×Obj)),m=l.length-ks.length/\ks.length<=l.length/\ks.map KBlk.y=(l.take ks.length).map (pkY q P)/\(∀b∈ks,b.ok)/\Gr bl 5 (ks.map KBlk.row) bc/\
  Kn H H1 [] (([(x4,.st [.int .i64 0,.int .i64 0,.sl true 5 []]),(x6,.st [.int .i64 q.params,.int .i64 q.ab,bc])]++ks.flatMap KBlk.pl)++bl)/\
  lk 1 e1=.c (.sl fl2 1 (Q7 l))/\lk 2 e1=.c (.pp [.int .i64 q.params,.int .i64 q.ab,.sl fl 5 (Ql q.blocks)])/\lk 4 e1=.c (.ptr x4 0)/\lk 5 e1=.c (.sl false 1 (Qb P))/\lk 6 e1=.c (.ptr x6 0)/\lk 7 e1=.c (.int .i64 ks.length)) l.length ?_ ?_))
 ·exact⟨[],_,[],ZF,ZF,ZF,ZF,.nil 5,ZO,rfl,rfl,rfl,rfl,rfl,rfl⟩
 ·clear kn ba;rintro m e1 H5 ⟨ks,bc,bl,hm,dd,tr,rM,aq,kn,l1,l2,l4,l5,l6,l7⟩;have iT:=aq.ai;refine Q3 (Qa ?_);simp only[go_sem,l1,l2,l4,l5,l6,l7,Q1];try intro _
  refine Wv ?_ ?_
  ·intro hc;have ae:ks.length<l.length:=ZG
   obtain⟨b,hb⟩:∃b,l[ks.length]=b:=⟨_,rfl⟩;have qr:b∈l:=by rw[<-hb];exact Jd ae
   have cM:=hp.lt b qr;have bQ:l.getD ks.length 0=b:=by simp[Jb,ae,hb]
   refine Ze ?_
   refine Qg (Qd ?_);refine Aj ?_;simp only[go_sem,ae,Q1,Bk _ _ ae,bQ,cM,Qj,Q9 _ _ cM,BlkD.take5,BlkD.bt,BlkD.len5];refine Q1j (ho.sg.bs _ (Jd cM)) λo H6 k2 ay eZ _=>?_;have kn:=kn.comp0 k2;rw[<-AG cM]at eZ;have bM:=o.an ay;have jw:=ay.p.ai;have nN:=ay.i.ai;simp only[go_sem,Q9l];intro x8 aS H7 h7;have kn:=(kn.al aS h7).perm Jz;have aS:=kn.l 0 rfl;simp only[go_sem,Q9k,aS,o.row_eq,ae,Q1,Bk _ _ ae,bQ,cM,Qj,Q9 _ _ cM,BlkD.take5,BlkD.bt,BlkD.len5];intro H8 h8;have kn:Kn H H8 [] ([(o.nx.y,.vec 1 (Qb o.nx.ns))]++([(x8,.st [o.pc,o.ic,.int .i64 o.jump,.int .i64 o.on,.ah o.nx.y 1 0 o.nx.ns.length])]++(([(x4,.st [.int .i64 0,.int .i64 0,.sl true 5 []]),(x6,.st [.int .i64 q.params,.int .i64 q.ab,bc])]++ks.flatMap KBlk.pl)++bl)++o.rest)):=
    (kn.aB 0 rfl h8).perm (Qt λf hf h0 hc hp=>by
     show f ([(x8,_)]++(_++_))=_;simp only[o.lg_eq,hf];omega)
   clear aS;have dq:o.nx.ns=(Ae q b).next:=Zbc
   have hns2:o.nx.ns.length<=2:=by rw[dq,AG cM];exact (ho.bs b cM).nxl
   refine Wa ?_;refine Qg (Qd (Qs (λm e1 H1=>∃(k:Nat) (ns:List Int),m=o.nx.ns.length-k/\k<=o.nx.ns.length/\ns=(o.nx.ns.take k).map (λv=>P.getD v.toNat 0)++o.nx.ns.drop k/\
    Kn H H1 [] ([(o.nx.y,.vec 1 (Qb ns))]++([(x8,.st [o.pc,o.ic,.int .i64 o.jump,.int .i64 o.on,.ah o.nx.y 1 0 o.nx.ns.length])]++(([(x4,.st [.int .i64 0,.int .i64 0,.sl true 5 []]),(x6,.st [.int .i64 q.params,.int .i64 q.ab,bc])]++ks.flatMap KBlk.pl)++bl)++o.rest))/\
    lk 1 e1=.c (.sl fl2 1 (Q7 l))/\lk 2 e1=.c (.pp [.int .i64 q.params,.int .i64 q.ab,.sl fl 5 (Ql q.blocks)])/\lk 4 e1=.c (.ptr x4 0)/\lk 5 e1=.c (.sl false 1 (Qb P))/\lk 6 e1=.c (.ptr x6 0)/\lk 7 e1=.c (.int .i64 ks.length)/\lk 8 e1=.c (.ptr x8 0)/\lk 9 e1=.c (.int .i64 k)) o.nx.ns.length ?_ ?_))
   ·exact⟨0,o.nx.ns,ZD,ZD,ZF,kn,rfl,rfl,rfl,rfl,rfl,rfl,rfl,rfl⟩
   ·clear kn;rintro m2 e2 H9 ⟨k,ns,eK,hk,kM,kn,l1,l2,l4,l5,l6,l7,l8,l9⟩;have cC:ns.length=o.nx.ns.length:=(by rw[kM];simp;omega);have aS:H9 x8=.st [o.pc,o.ic,.int .i64 o.jump,.int .i64 o.on,.ah o.nx.y 1 0 o.nx.ns.length]:=(kn.get (x8,.st [o.pc,o.ic,.int .i64 o.jump,.int .i64 o.on,.ah o.nx.y 1 0 o.nx.ns.length]) ZF).1;have hy:=kn.l 0 rfl;refine Q3 (Qa ?_);simp only[go_sem,l1,l2,l4,l5,l6,l7,l8,l9,aS,hy,Qe,cC,Jj,Jf];try intro _
    refine Wv ?_ ?_
    ·intro ao;have aI:k<o.nx.ns.length:=ZI;obtain⟨w,hw⟩:∃w,o.nx.ns[k]=w:=⟨_,rfl⟩;have nr:w∈(Ae q b).next:=(by rw[<-dq,<-hw];exact Jd aI);obtain⟨w1,w2,_⟩:=hp.to ho hP qr nr;have wo:ns.getD k 0=w:=by
      rw[kM,Jb,Jag (by rw[Je,Jad];exact Nat.min_le_left _ _)];simp[aI,hw,Nat.min_eq_left (Jby aI)]
     have rN:k<ns.length:=ZD;have b8:(Qb ns).take o.nx.ns.length=Qb ns:=Jc ZZ;have fS:=Qbtk (f:=λv=>P.getD v.toNat 0) aI;rw[hw]at fS;have hwe:w=(w.toNat:Int):=ZD;refine Ze ?_
     refine Wu ?_;generalize hr:w.toNat=r at *;simp only[go_sem,aS,hy,b8,aI,Qe,cC,Qn _ _ rN,wo,hwe,w2,Qn _ _ w2,C3,Jj,Jf];intro H10 dg;have kn:=kn.aB 0 rfl dg;refine Zi ?_;refine⟨Qo,?_⟩;show ∃m,_;exact⟨o.nx.ns.length-(k+1),ZD,k+1,ns.set k (P.getD r 0),rfl,ZD,by rw[kM];exact fS,kn,rfl,rfl,rfl,rfl,rfl,rfl,rfl,rfl⟩
    ·intro ao;have aY:o.nx.ns.length<=k:=ZI;rw[Jc aY,List.drop_eq_nil_of_le aY,Jat]at kM;refine Zb ?_;obtain⟨o2,jN⟩:∃o2:OBlk,o2=⟨o.aa,o.pc,o.pl,o.ins,o.ic,o.il,o.jump,o.on,⟨ns,o.nx.y⟩⟩:=⟨_,rfl⟩;have fk:o2.ok:=(by rw[jN];exact⟨ay.p,ay.i,ay.a⟩);have cD:o2.d=pkY q P b:=by
      rw[jN,pkY,<-eZ];simp only[OBlk.d,kM]
     have vd:o2.pc=o.pc:=(by rw[jN]);have kn:Kn H H9 [] ([(x8,.st o2.row)]++((([(x4,.st [.int .i64 0,.int .i64 0,.sl true 5 []]),(x6,.st [.int .i64 q.params,.int .i64 q.ab,bc])]++ks.flatMap KBlk.pl)++bl)++o2.lg)):=by
      have er:o2.row=[o.pc,o.ic,.int .i64 o.jump,.int .i64 o.on,.ah o.nx.y 1 0 o.nx.ns.length]:=(by rw[jN,OBlk.row_eq,cC]);have el:o2.lg=[(o.nx.y,.vec 1 (Qb ns))]++o.rest:=(by rw[jN];rfl);rw[er,el];exact kn.perm (Qt λf hf h0 hc hp=>by simp only[hf];omega)
     obtain⟨S,H10,pl,ir,tv,kn⟩:=OBlk.gh fk kn;rw[cD,vd]at tv kn;refine c_gh (Gk S (FT ?_) ir) (e':=[(1,.c (.sl fl2 1 (Q7 l))),(2,.c (.pp [.int .i64 q.params,.int .i64 q.ab,.sl fl 5 (Ql q.blocks)])),(4,.c (.ptr x4 0)),(5,.c (.sl false 1 (Qb P))),(6,.c (.ptr x6 0)),(7,.c (.int .i64 ks.length)),(8,.c (.ptr x8 0))]) ?_
     ·simp only[Jba];exact⟨.c _ _ (.same _ rfl),.c _ _ (.same _ rfl),.c _ _ (.same _ rfl),.c _ _ (.same _ rfl),.c _ _ (.same _ rfl),.c _ _ (.same _ rfl),.c _ _ (.same _ rfl),ZF⟩
     clear ir aS hy;have kn:Kn H H10 [] (([(x6,.st [.int .i64 q.params,.int .i64 q.ab,bc])]++([(x8,.st (kRow (pkY q P b) o.pc))]++([(x4,.st [.int .i64 0,.int .i64 0,.sl true 5 []])]++(ks.flatMap KBlk.pl++pl))))++bl):=
      kn.perm (Qt λf hf h0 hc hp=>by
       have e:∀(a b:Nat×Obj),f [a,b]=f [a]+f [b]:=λa b=>hc a [b];simp only[hf,e];omega)
     have ba:=kn.l 0 rfl;have aS:=kn.l 1 rfl;obtain⟨kb,iq⟩:∃kb:KBlk,kb=⟨pkY q P b,o.pc,pl⟩:=⟨_,rfl⟩;have vQ:kRow (pkY q P b) o.pc=kb.row:=(by rw[iq];rfl);have mM:kb.ok:=(by rw[iq];exact tv);have yj:=KBlk.an mM;rw[vQ]at aS kn;have vO:kb.row.length=5:=rfl;have vK:kb.row.take 5=kb.row:=rfl;have hka:(kb.row.all λc=>!c.ai)=true:=yj;refine Qp ?_;simp only[go_sem,ba,aS,iT,vO,vK,hka];refine kn.bD (new:=[kb.row]) aq (.mk' _ _ _ _) (by intro r hr;simp only[Ja]at hr;rw[hr];exact yj) (by simp only[Je,LIM,Jl,Jn];omega) λbc2 bl2 H11 cG hbw2 kn=>?_;have ba:=kn.l 0 rfl;simp only[go_sem,Q9m,ba];intro H12 f0;have kn:Kn H H12 [] ((([(x4,.st [.int .i64 0,.int .i64 0,.sl true 5 []]),(x6,.st [.int .i64 q.params,.int .i64 q.ab,bc2])]++(ks++[kb]).flatMap KBlk.pl)++bl2)++[(x8,.st kb.row)]):=
      (kn.aB 0 rfl f0).perm (Qt λf hf h0 hc hp=>by
       have e:∀(a b:Nat×Obj),f [a,b]=f [a]+f [b]:=λa b=>hc a [b];have ek:kb.pl=pl:=(by rw[iq]);show f ([(x6,_)]++([(x8,_)]++([(x4,_)]++(ks.flatMap KBlk.pl++pl)))++bl2)=_;simp only[List.flatMap_append,Jbi,List.flatMap_nil,Jat,ek,hf,e];omega)
     refine Zi ?_;refine⟨Qo,?_⟩;show ∃m,_;refine⟨l.length-(ks.length+1),ZD,ks++[kb],bc2,bl2,ZF,by simp only[J4,Jl,Jn];omega,?_,λw hw=>?_,by rw[Js];exact cG,kn.drop,rfl,rfl,rfl,rfl,rfl,ZE⟩
     ·simp only[J4,Jl,Jn,Jj];rw[Js,tr,Jg ae,Js,hb,iq];rfl
     ·rcases Jp.1 hw with hw|hw
      ·exact rM w hw
      ·simp only[Ja]at hw;rw[hw];exact mM
  ·intro hc;have nM:ks.length=l.length:=by have:l.length<=ks.length:=ZG;omega
   rw[nM,Jbq]at tr;obtain⟨zb,rfl,rfl⟩:∃z,bc=.ah z 5 0 l.length/\bl=[(z,.vec 5 (ks.map KBlk.row))]:=by
    rcases aq with ⟨_,h,_⟩|⟨y,h1,h2⟩
    ·have:=congrArg List.length h;simp only[Je,Jn]at this;omega
    ·exact⟨y,by rw[h1,Je,nM],h2⟩
   have hS:PkZ q P l 0 ks:=by
    have hg:∀j (h:j<ks.length),ks[j].y=pkY q P (l.getD j 0):=λj h=>by
     have hj:j<l.length:=ZD;have h1:(ks.map KBlk.y)[j]? = some ks[j].y:=ZaY;rw[tr]at h1;simp only[Jaz,Ji hj,Jav]at h1;rw[(hp.get hj).1];exact (Jbu h1).symm
    exact⟨nM,λj h=>by rw[hg j h];exact⟨rfl,rfl,rfl,rfl,rfl⟩,rM,λj h h0=>ZD,λj h _=>by rw[hg j h];rfl⟩
   have kn:Kn H H5 [] ([(x4,.st [.int .i64 0,.int .i64 0,.sl true 5 []]),(x6,.st [.int .i64 q.params,.int .i64 q.ab,.ah zb 5 0 l.length]),(zb,.vec 5 (ks.map KBlk.row))]++ks.flatMap KBlk.pl):=
    kn.perm (Qt λf hf h0 hc hp=>by
     have e2:∀(a b:Nat×Obj),f [a,b]=f [a]+f [b]:=λa b=>hc a [b];have e3:∀(a b c:Nat×Obj),f [a,b,c]=f [a]+f [b]+f [c]:=λa b c=>(by rw[hc a [b,c],e2];omega);simp only[hf,e2,e3];omega)
   clear tr rM nM aq;refine Zb ?_;refine Qbi5 (fl:=fl) (fl2:=fl2) ho hp hP hS kn rfl rfl rfl rfl λe6 H6 ks hS kn l4=>?_;have bO:=kn.l 0 rfl;simp only[go_sem,Q4,Aa,Ja,forall_eq,RS.op,l4,bO];obtain⟨d,hd⟩:∃d:CodeD,d=⟨q.params,q.ab,ks.map KBlk.y⟩:=⟨_,rfl⟩;have pH:d.blocks.length=l.length:=by rw[hd];simpa using hS.n
   have hR:=Qb0f (d:=d) ho hp hP (by rw[hd]) (by rw[hd]) pH λj h=>by
    have hj:j<ks.length:=(by rw[hS.n];omega);have e:d.blocks[j]=ks[j].y:=(by subst hd;simp);rw[e];refine⟨hS.b j hj,λp ej=>?_⟩;rw[hS.a j hj ZD]at ej;exact Vj ho hp hP ZD ej
   have hde:d=pkD q P l:=by
    rw[hd,pkD];congr 1;refine Jbp (by simp[hS.n]) λj h1 h2=>?_;have hj:j<ks.length:=Zaw;simp only[Jac,Jbe];have hB:=hS.b j hj;have hA:=hS.a j hj (by have:=hS.n;omega);rw[pkX];obtain⟨y,hy⟩:∃y,ks[j].y=y:=⟨_,rfl⟩;rw[hy]at hB hA⊢;cases y;simp only at hA;obtain⟨e1,e2,e3,e4,_⟩:=hB;simp only at e1 e2 e3 e4;rw[hA,e1,e2,e3,e4]
   have kn:Kn H H6 [] ([(zb,.vec 5 (ks.map KBlk.row))]++(([(x4,.st [.int .i64 q.params,.int .i64 q.ab,.ah zb 5 0 l.length])]++[(x6,.st [.int .i64 q.params,.int .i64 q.ab,.ah zb 5 0 l.length])])++ks.flatMap KBlk.pl)):=
    kn.perm (Qt λf hf h0 hc hp=>by
     have e3:∀(a b c:Nat×Obj),f [a,b,c]=f [a]+f [b]+f [c]:=λa b c=>(by rw[hc a [b,c],hc b [c]];omega);simp only[hf,e3];omega)
   obtain⟨S,pR,qt,ir,kn⟩:=kn.ex;have hz:=qt (zb,.vec 5 (ks.map KBlk.row)) ZF;have cx:FrzR H6 S (ks.map KBlk.row) (Ql d.blocks):=by
    rw[hd];show FrzR H6 S (ks.map KBlk.row) (Ql (ks.map KBlk.y));rw[Ql,Jam];refine DO ks λk hk=>?_;refine .cons (Gr.frzM (hS.ok k hk) (λp hp=>pR p (Jh _ (Ja5.2 ⟨k,hk,hp⟩))) (FrzR.same (Qa9s _))) (.cons (Qi rfl) (.cons (Qi rfl) (.cons (Qi rfl) (.cons (Qi rfl) .nil))))
   have bR:∀r∈ks.map KBlk.row,Go.AE.an r=true:=λr hr=>by
    obtain⟨k,hk,rfl⟩:=Jk.1 hr;exact KBlk.an (hS.ok k hk)
   refine⟨S,.ag [.int .i64 q.params,.int .i64 q.ab,.ah zb 5 0 l.length],_,FrzL.ag (.cons (Qi rfl) (.cons (Qi rfl) (.cons (.same _ rfl) .nil))),ir.set (o:=.vec 5 (Ql d.blocks)) hz.2 (by rw[hz.1];exact .vecR cx bR),?_⟩;have:=hK d zb _ hR ⟨P,hP,hde⟩ (kn.setL (o':=.vec 5 (Ql d.blocks)) 0 rfl ZF);rw[pH,hR.p,hR.r]at this;exact this
end Go.AE.Y
namespace Go.AE.Y
attribute [local go_sem] cond_true cond_false Bool.not_true Bool.not_false
open Go.Proofs.Tryz
variable {H H0:Heap}{K:V->Heap->Prop}{E B Lg:List (Nat×Obj)}{q:CodeD}
theorem CodeD.ok.gd (h:q.ok):q.gd:=⟨h.b0,h.b1,λy hy=>by
 obtain⟨b,hb,rfl⟩:=J7.1 hy;exact (h.bs b hb).nxl,h.fts,h.sg⟩
theorem CodeD.ok.fitB (h:q.ok):A4 q.blocks.length (gnx q)=true:=by
 have h1:(List.range q.blocks.length).all (λi=>(gnx q i).all λx=>decide (0<=x/\x<=(q.blocks.length:Int)-1))=true:=by
  simp only[Jao,J6,decide_eq_true_eq];intro b hb x hx;rw[Cz hb]at hx;have:=(h.bs b hb).nx x hx;omega
 have h2:decide (0<q.blocks.length)=true:=decide_eq_true h.b0;simp only[A4,h1,Jbv]
 first|exact h2|simpa using h.b0
theorem CodeD.ok.rchPk (h:q.ok):Pk q (rchL q.blocks.length (nxN (gnx q))):=by
 have fw:=h.b0;have bf:=h.b1;refine⟨?_,?_,λx hx=>?_,λx hx v hv=>?_⟩
 ·have:=List.length_filter_le (Al (nxN (gnx q)) (-1)) (List.range q.blocks.length);rw[Jbj]at this;rw[rchL];omega
 ·obtain⟨m,hm⟩:∃m,q.blocks.length=m+1:=⟨q.blocks.length-1,ZD⟩;have h0:Al (nxN (gnx q)) (-1) 0=true:=rchB_iff.2 (.refl ZD);rw[rchL,hm,List.range_succ_eq_map,List.filter_cons,h0];rfl
 ·rw[rchL,Jai,J6]at hx;exact hx.1
 ·rw[rchL,Jai,J6]at hx⊢;have xK:=hv;rw[Cz hx.1]at xK;have:=(h.bs x hx.1).nx v xK;refine⟨ZD,rchB_iff.2 (.step (rchB_iff.1 hx.2) (Jk.2 ⟨v,hv,rfl⟩) ZD)⟩
theorem Qbid {fl:Bool}(ho:q.ok)(hK:∀(d:CodeD) z H',PkR q d->(∃P,B0 q.blocks.length (rchL q.blocks.length (nxN (gnx q))) P/\d=pkD q P (rchL q.blocks.length (nxN (gnx q))))->Kn H H' [] [(z,.vec 5 (Ql d.blocks))]->K (.ag [.int .i64 d.params,.int .i64 d.ab,.ah z 5 0 d.blocks.length]) H') :
  Qv prog Hg [.ag [.int .i64 q.params,.int .i64 q.ab,.sl fl 5 (Ql q.blocks)]] H K:=by
 refine CX ?_;refine Qc Ab Qbnn ?_;refine Za ?_;intro x2 aW H1 h1;have kn:=(Kn.ar H).al aW h1;refine ZB ?_;refine Qay8 (rows:=Ql q.blocks) (nx:=gnx q) (GC ho.gd) ZaC λH2 hu=>?_;have kn:=kn.aw hu;rw[Qj];simp only[go_sem,Q89];refine Qbif ho ho.rchPk λd z H3 hR hP k2=>?_;have kn:=kn.comp0 k2;have aW:=kn.l 0 rfl;simp only[go_sem,Q88,aW];intro H4 h4;have kn:Kn H H4 [] ([(x2,.st [.int .i64 d.params,.int .i64 d.ab,.ah z 5 0 d.blocks.length])]++[(z,.vec 5 (Ql d.blocks))]):=kn.aB 0 rfl h4;have aW:=kn.l 0 rfl;refine Zj aW ?_;obtain⟨S,pR,qt,ir,kn⟩:=(kn.perm Jz).ex;exact⟨S,_,_,FrzL.ag (.cons (Qi rfl) (.cons (Qi rfl) (.cons (.same _ rfl) .nil))),ir,hK d z _ hR hP kn⟩
theorem Qbm0 {fl:Bool}(ho:q.ok)(hK:∀(d:CodeD) z H',PkR q d->Kn H H' [] [(z,.vec 5 (Ql d.blocks))]->K (.ag [.int .i64 d.params,.int .i64 d.ab,.ah z 5 0 d.blocks.length]) H') :
  Qv prog Hg [.ag [.int .i64 q.params,.int .i64 q.ab,.sl fl 5 (Ql q.blocks)]] H K:=Qbid ho λd z H' hR _ kn=>hK d z H' hR kn
def zRow (v:Int):List C:=[.int .i64 1,.int .i64 v,.sl true 1 [],.int .i64 0]
def zIns (v:Int):InsD:=⟨1,v,[],0⟩
theorem YM {S:Nat->Bool}(vs:List Int):FrzR H S (vs.map zRow) (Af (vs.map zIns)):=by
 rw[Af,Jam];exact DO vs λv _=>.cons (Qi rfl) (.cons (Qi rfl) (.cons FrzR.nil.sl (.cons (Qi rfl) .nil)))
theorem Qbri {d:CodeD}(ho:d.ok)(h9:∀y∈d.blocks,y.ins.length<=900/\y.aa.length<=900){vs:List Int}(hv:∀v∈vs,rIn d v)(hl:vs.length<=300){y:BlkD}{ys:List BlkD}(hd:d.blocks=y::ys) :
  (CodeD.mk d.params d.ab (⟨y.aa,vs.map zIns++y.ins,y.jump,y.on,y.next⟩::ys)).ok:=by
 obtain⟨y',dO⟩:∃y':BlkD,y'=⟨y.aa,vs.map zIns++y.ins,y.jump,y.on,y.next⟩:=⟨_,rfl⟩;obtain⟨d',cY⟩:∃d':CodeD,d'=⟨d.params,d.ab,y'::ys⟩:=⟨_,rfl⟩;rw[<-dO,<-cY];have ak:d'.blocks.length=d.blocks.length:=by rw[cY,hd];rfl
 have iN:d'.blocks.map BlkD.next=d.blocks.map BlkD.next:=by rw[cY,hd,dO];rfl
 have hg:gnx d'=gnx d:=by funext i;rw[gnx,gnx,iN]
 have hr:∀v,rIn d v->rIn d' v:=λv h=>by simp only[rIn,cY]at h⊢;exact h
 have h9y:=h9 y (by rw[hd];exact Jw);have iC:d'.ab=d.ab:=by rw[cY]
 refine⟨by rw[iC];exact ho.r0,by rw[iC];exact ho.r1,by rw[ak];exact ho.b0,by rw[ak];exact ho.b1,λb h=>?_,λb h=>?_⟩
 ·have h':b<d.blocks.length:=ZD
  have o:=ho.bs b h';have cV:∀x∈d'.blocks[b].ins,x∈d.blocks[b].ins\/∃v∈vs,x=zIns v:=λx hx=>by
   cases b with
   |zero=>
    simp only[cY,Jae,dO]at hx;rcases Jp.1 hx with hx|hx
    ·obtain⟨v,hv,rfl⟩:=Jk.1 hx;exact .inr ⟨v,hv,rfl⟩
    ·left;simp only[hd,Jae];exact hx
   |succ b=>left;simp only[cY,hd,J1]at hx⊢;exact hx
  have e:d'.blocks[b].aa=d.blocks[b].aa/\d'.blocks[b].jump=d.blocks[b].jump/\d'.blocks[b].on=d.blocks[b].on/\d'.blocks[b].next=d.blocks[b].next:=by
   cases b with
   |zero=>simp only[cY,hd,Jae,dO,and_self]
   |succ b=>simp only[cY,hd,J1,and_self]
  obtain⟨e1,e2,e3,e4⟩:=e;refine⟨by rw[e4];exact o.nxl,λv hv=>by rw[e4]at hv;rw[ak];exact o.nx v hv,by rw[e2];exact o.jmp,λhj=>by rw[e2]at hj;rw[e3];exact hr _ (o.on hj),λx hx v hv=>?_,λx hx hm=>?_,
   λp hp=>by rw[e1]at hp;exact hr _ (o.pto p hp),λp hp v hv=>by rw[e1]at hp;exact hr _ (o.pargs p hp v hv),λp hp=>by rw[e1]at hp;rw[hg,ak];exact o.pal p hp,λx hx=>?_⟩
  ·rcases cV x hx with h|⟨v',_,rfl⟩
   ·exact hr _ (o.args x h v hv)
   ·simp[zIns]at hv
  ·rcases cV x hx with h|⟨v',fx,rfl⟩
   ·exact hr _ (o.to x h hm)
   ·exact hr _ (hv v' fx)
  ·rcases cV x hx with h|⟨v',_,rfl⟩
   ·exact o.al x h
   ·simp[zIns]
 ·have h':b<d.blocks.length:=ZD
  have o:=ho.il b h'
  cases b with
  |zero=>
   simp only[cY,Jae,dO,J4,Je];omega
  |succ b=>simp only[cY,hd,J1]at o⊢;exact o
set_option maxHeartbeats 4000000 in
theorem Qbii {fl:Bool}(ho:q.ok)(fj:0<=q.params)(h9:∀y∈q.blocks,y.ins.length<=900/\y.aa.length<=900)
  (hK:∀(d:CodeD) H',d.ok->d.params=q.params->d.ab=q.ab->(∀y∈d.blocks,y.aa.length<=900)->Upd H H' []->K (.ag d.cells) H') :
  Qv prog Rt [.ag [.int .i64 q.params,.int .i64 q.ab,.sl fl 5 (Ql q.blocks)]] H K:=by
 refine Q0 ?_;refine Qc Ab Qbit ?_;refine Za ?_;intro x2 aW H1 h1;have kn:=(Kn.ar H).al aW h1;refine Za ?_;refine Qbm0 ho λd z H2 hR k2=>?_;have kn:=kn.comp0 k2;have mY:=hR.ok;have w4:∀y∈d.blocks,y.ins.length<=900/\y.aa.length<=900:=λy hy=>by
  obtain⟨y0,qc,h1,h2⟩:=hR.i y hy;rw[h1,h2];exact h9 y0 qc
 have fj:0<=d.params:=by rw[hR.p];exact fj
 have bH:=mY.r0;have dC:=mY.r1;have fw:=mY.b0;have bf:=mY.b1;simp only[go_sem,Q31];intro x3 aF H3 h3;have kn:=(kn.al aF h3).perm Jz;have aF:=kn.l 0 rfl;simp only[go_sem,Q30,aF];intro H4 h4;have kn:Kn H H4 [] ([(x3,.st [.int .i64 d.params,.int .i64 d.ab,.ah z 5 0 d.blocks.length]),(x2,.st [.int .i64 0,.int .i64 0,.sl true 5 []]),(z,.vec 5 (Ql d.blocks))]):=kn.aB 0 rfl h4;have aF:=kn.l 0 rfl;have hz:=kn.l 2 rfl;refine Zh aF ?_;refine Km mY (CodeR.ah hz ZF) λzi zo H5 hu cL=>?_;have kn:=kn.aw hu;obtain⟨y,ys,qb⟩:∃y ys,d.blocks=y::ys:=by
  cases hb:d.blocks with
  |nil=>rw[hb]at fw;simp at fw
  |cons y ys=>exact⟨y,ys,rfl⟩
 have ik:0<zi.length:=by rw[cL.1.i];exact fw
 obtain⟨nd,bE⟩:∃nd,zi[0].2=nd:=⟨_,rfl⟩;have oZ:nd.length=d.ab.toNat:=by rw[<-bE];exact cL.1.li _ (Jd ik)
 simp only[go_sem,Q32,ik,OB,KZ _ _ ik,bE];refine⟨Jbs 0,?_⟩;refine Za ?_;have aF:=kn.l 0 rfl;refine Q3 (Qa ?_);simp only[go_sem,aF];refine Qg (Qd (Qs (λm e1 H1=>∃(r:Int) (vs:List Int) (t:C) (Lg:List (Nat×Obj)),m=(d.ab-r).toNat/\0<=r/\(r<=d.ab\/r=d.params)/\(vs.length:Int)<=r/\(vs=[]\/r<=d.ab)/\(∀v∈vs,rIn d v)/\Gr Lg 4 (vs.map zRow) t/\
  Kn H H1 [] ([(x3,.st [.int .i64 d.params,.int .i64 d.ab,.ah z 5 0 d.blocks.length]),(x2,.st [.int .i64 0,.int .i64 0,.sl true 5 []]),(z,.vec 5 (Ql d.blocks))]++Lg)/\
  lk 2 e1=.c (.ptr x2 0)/\lk 3 e1=.c (.ptr x3 0)/\lk 4 e1=.c (.sl false 1 (Qm nd))/\lk 5 e1=.c t/\lk 6 e1=.c (.int .i64 r)) (d.ab-d.params).toNat ?_ ?_))
 ·exact⟨d.params,[],_,[],rfl,fj,.inr rfl,fj,.inl rfl,ZF,.nil 4,ZO,rfl,rfl,rfl,rfl,rfl⟩
 ·clear kn aF hz;rintro m e1 H6 ⟨r,vs,t,Lg,hm,hr,jM,b6,qf,qJ,aq,kn,l2,l3,l4,l5,l6⟩;have eb:=aq.ai;have aF:=kn.l 0 rfl;refine Q3 (Qa ?_);simp only[go_sem,l2,l3,l4,l5,l6,aF];refine Wv ?_ ?_
  ·intro hc;have ae:r<d.ab:=ZG
   obtain⟨rn,hrn⟩:∃rn:Nat,r=(rn:Int):=⟨r.toNat,ZD⟩;subst hrn;have dA:rn<nd.length:=ZD
   refine Ze ?_
   refine Az (λe2 H2=>∃(vs:List Int) (t:C) (Lg:List (Nat×Obj)),(vs.length:Int)<=(rn:Int)+1/\(∀v∈vs,rIn d v)/\Gr Lg 4 (vs.map zRow) t/\
    Kn H H2 [] ([(x3,.st [.int .i64 d.params,.int .i64 d.ab,.ah z 5 0 d.blocks.length]),(x2,.st [.int .i64 0,.int .i64 0,.sl true 5 []]),(z,.vec 5 (Ql d.blocks))]++Lg)/\
    lk 2 e2=.c (.ptr x2 0)/\lk 3 e2=.c (.ptr x3 0)/\lk 4 e2=.c (.sl false 1 (Qm nd))/\lk 5 e2=.c t/\lk 6 e2=.c (.int .i64 (rn:Int))) ?_ ?_
   ·intro Q br _ _;refine Qd (Qa ?_);simp only[go_sem,dA,Qu,Qx _ _ dA];refine Ww ?_ ?_
    ·intro ao;refine Zi ?_;refine kn.bD (new:=[zRow (rn:Int)]) aq (.mk' _ _ _ _) (by intro w hw;simp only[Ja]at hw;rw[hw];rfl) (by simp only[Je,LIM,Jl,Jn];omega) λt2 Lg2 H7 cG ee kn=>?_;simp only[go_sem,Q33];refine br _ _ ⟨vs++[(rn:Int)],t2,Lg2,by simp only[J4,Jl,Jn];omega,λv hv=>?_,by rw[Js];exact cG,kn,rfl,rfl,rfl,rfl,rfl⟩;rcases Jp.1 hv with hv|hv
     ·exact qJ v hv
     ·simp only[Ja]at hv;rw[hv];exact⟨ZD,ae⟩
    ·intro ao;refine Ze ?_
     exact br _ _ ⟨vs,t,Lg,ZD,qJ,aq,kn,rfl,rfl,rfl,rfl,rfl⟩
   ·rintro e2 H7 ⟨vs,t,Lg,b6,qJ,aq,kn,l2,l3,l4,l5,l6⟩;have eb:=aq.ai;refine Qp ?_;simp only[go_sem,l2,l3,l4,l5,l6];refine⟨Qo,?_⟩;show ∃m,_;exact⟨(d.ab-((rn:Int)+1)).toNat,ZD,(rn:Int)+1,vs,t,Lg,rfl,ZD,.inl ZD,b6,.inr ZD,qJ,aq,kn,rfl,rfl,rfl,rfl,rfl⟩
  ·intro hc;have ux:vs.length<=300:=by
    rcases qf with rfl|h
    ·simp
    ·omega
   have aY:d.ab<=r:=ZG
   have hz:=kn.l 2 rfl;have h0:0<(Ql d.blocks).length:=by rw[Qj];exact fw
   have sB:(Ql d.blocks).getD 0 []=[.sl false 2 (Q8 y.aa),.sl false 4 (Af y.ins),.int .i64 y.jump,.int .i64 y.on,.sl false 1 (Qb y.next)]:=by rw[qb];rfl
   have ng:(Ql d.blocks).take d.blocks.length=Ql d.blocks:=Jc (by rw[Qj];exact Jf _);have fg:=w4 y (by rw[qb];exact Jw);refine Zb ?_;refine Aj ?_;simp only[go_sem,aF,hz,Qj,fw,sB,ng,Jj,Jf,Jbs];refine kn.bD (new:=Af y.ins) aq (.mk' _ _ _ _) (Q6g _) (by simp only[Je,A0,LIM];omega) λt2 Lg2 H7 cG ee kn=>?_;have aF:=kn.l 0 rfl;have hz:=kn.l 2 rfl;simp only[go_sem,Q34,aF,hz,Qj,fw,sB,Jj,Jf,Jbs];intro H8 h8;have bK:∀R:List C,(Ql d.blocks).set 0 R=R::Ql ys:=λR=>by rw[qb];rfl
   rw[bK]at h8;have kn:Kn H H8 [] ([(x3,.st [.int .i64 d.params,.int .i64 d.ab,.ah z 5 0 d.blocks.length]),(x2,.st [.int .i64 0,.int .i64 0,.sl true 5 []]),(z,.vec 5 ([.sl false 2 (Q8 y.aa),t2,.int .i64 y.jump,.int .i64 y.on,.sl false 1 (Qb y.next)]::Ql ys))]++Lg2):=kn.aB 2 rfl h8;have aW:=kn.l 1 rfl;have aF:=kn.l 0 rfl;refine Zn aW aF ?_;intro H9 xt;have kn:Kn H H9 [] ([(x3,.st [.int .i64 d.params,.int .i64 d.ab,.ah z 5 0 d.blocks.length]),(x2,.st [.int .i64 d.params,.int .i64 d.ab,.ah z 5 0 d.blocks.length]),(z,.vec 5 ([.sl false 2 (Q8 y.aa),t2,.int .i64 y.jump,.int .i64 y.on,.sl false 1 (Qb y.next)]::Ql ys))]++Lg2):=kn.aB 1 rfl xt;have aW:=kn.l 1 rfl;have hz:=kn.l 2 rfl;have hzu:=kn.un 2 rfl;refine Zj aW ?_;have gu:FrzC H9 (un H) t2 (.sl false 4 (Af (vs.map zIns++y.ins))):=by
    have:Af (vs.map zIns++y.ins)=Af (vs.map zIns)++Af y.ins:=(by simp[Af]);rw[this];exact cG.frzR kn ((YM vs).app (FrzR.same (Q6g _)))
   have cx:FrzR H9 (un H) ([.sl false 2 (Q8 y.aa),t2,.int .i64 y.jump,.int .i64 y.on,.sl false 1 (Qb y.next)]::Ql ys) (Ql (⟨y.aa,vs.map zIns++y.ins,y.jump,y.on,y.next⟩::ys)):=
    .cons (.cons (Qi rfl) (.cons gu (.cons (Qi rfl) (.cons (Qi rfl) (.cons (Qi rfl) .nil))))) (FrzR.same (MS _))
   have pH:d.blocks.length=(⟨y.aa,vs.map zIns++y.ins,y.jump,y.on,y.next⟩::ys:List BlkD).length:=by rw[qb];rfl
   refine⟨_,FrzL.ag (.cons (Qi rfl) (.cons (Qi rfl) (.cons (cx.ah hzu hz (by rw[pH,Jl,Jl,Qj])) .nil))),hK (CodeD.mk d.params d.ab (⟨y.aa,vs.map zIns++y.ins,y.jump,y.on,y.next⟩::ys)) _ (Qbri mY w4 qJ ux qb) hR.p hR.r (λw hw=>?_) kn.fin⟩;rcases Jbf.1 hw with rfl|hw
   ·exact fg.2
   ·exact (w4 w (by rw[qb];exact Ju _ hw)).2
end Go.AE.Y
namespace Go.AE.Y
open Go.Proofs.Tryz
variable {H H0:Heap}{K:V->Heap->Prop}{E B Lg:List (Nat×Obj)}
def Gq (Lg:List (Nat×Obj))(W:List Nat)(c:C):Prop:=
 (c=.sl true 1 []/\W=[]/\Lg=[])\/∃z st R,c=.ah z 1 st W.length/\Lg=[(z,.vec 1 R)]/\(R.drop st).take W.length=Q7 W/\st+W.length<=R.length
theorem Gq.ai {W:List Nat}{c:C}(h:Gq Lg W c):c.ai=false:=by rcases h with ⟨rfl,_⟩|⟨z,st,R,rfl,_⟩ <;> rfl
theorem Gq.aN {W:List Nat}{c:C}(h:Gq Lg W c):c.aN=1:=by rcases h with ⟨rfl,_⟩|⟨z,st,R,rfl,_⟩ <;> rfl
theorem Gq.ax {W:List Nat}{c:C}(h:Gq Lg W c):ax c=W.length:=by rcases h with ⟨rfl,rfl,_⟩|⟨z,st,R,rfl,_⟩ <;> rfl
theorem Gq.get {W:List Nat}{c:C}(h:Gq Lg W c)(kn:Kn H0 H E (B++Lg)):aZ H c/\rowsOf H c=Q7 W:=by
 rcases h with ⟨rfl,rfl,_⟩|⟨z,st,R,rfl,rfl,h1,h2⟩
 ·exact⟨trivial,rfl⟩
 ·have hz:H z=.vec 1 R:=(kn.get (z,.vec 1 R) ZF).1;exact⟨by simp[aZ,hz,h2],by simp[rowsOf,hz,h1]⟩
theorem Gr.gq {W:List Nat}{c:C}(h:Gr Lg 1 (Q7 W) c):Gq Lg W c:=by
 rcases h with ⟨h1,h2,h3⟩|⟨y,h1,h2⟩
 ·refine .inl ⟨h1,?_,h3⟩;have:=congrArg List.length h2;rw[Q1]at this;exact Ja3.1 this
 ·exact .inr ⟨y,0,Q7 W,by rw[h1,Q1],h2,by rw[Jal,Jc (by rw[Q1];exact Jf _)],by rw[Q1];omega⟩
theorem Kn.growQ {K:V->Heap->Prop}{W new:List Nat}{b c:C}(kn:Kn H0 H E (B++Lg))(hc:Gq Lg W c)(hb:Slc H 1 (Q7 new) b)(h2:W.length+new.length<=LIM)
  (h:∀t Lg' H',Gq Lg' (W++new) t->t.ai=false->Kn H0 H' E (B++Lg')->K (.c t) H'):appQ H 1 c b K:=by
 rcases hc with ⟨rfl,rfl,rfl⟩|⟨z,st,R,rfl,rfl,h3,h4⟩
 ·refine Kn.bD (new:=Q7 new) kn (.nil 1) hb (Cu _) (by simp only[Q1,Jn]at *;omega) λt Lg' H' hg ht k=>h t Lg' H' (Gr.gq ?_) ht k;simpa using hg
 ·have hz:H z=.vec 1 R:=(kn.get (z,.vec 1 R) ZF).1;refine⟨hb.ok,hb.sz,?_⟩;simp only[hz,hb.rows,hb.len,h3,Q1];refine⟨trivial,trivial,h4,Cu _,h2,λl' cZ H' dt=>?_⟩;have hg:Gr [(l',.vec 1 (Q7 (W++new)))] 1 (Q7 (W++new)) (.ah l' 1 0 (W.length+new.length)):=.mk _ _ _ (by simp[Q1]);refine h _ _ H' (Gr.gq hg) rfl ?_;have:=kn.ap B.length (y:=z) (o:=.vec 1 R) ZF cZ dt;rw[Gi];simpa using this
end Go.AE.Y
