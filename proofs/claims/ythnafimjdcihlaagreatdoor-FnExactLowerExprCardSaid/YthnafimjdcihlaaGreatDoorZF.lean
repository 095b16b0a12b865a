/- Part 6 of the proof: the engine, codes, walks and plain laws, each named where it stands. -/
import Derived.Test.YthnafimjdcihlaaGreatDoorZE
import Derived.Below
import Derived.Laws.Runes
import Derived.OpenShut
import Derived.WalkLawsBesides
import Derived.WalkSmall
import Derived.WideKeyElems2
open Nat (reduceEqDiff reduceAdd reduceLeDiff reduceLT)
set_option linter.unusedVariables false
set_option linter.unusedSimpArgs false
set_option maxRecDepth 4000
set_option maxHeartbeats 8000000
open Array renaming getElem?_toList->Jab,getElem?_eq_some_iff->Jaj,getElem?_eq_none->Jan
open Bool renaming and_eq_true->Jq,not_false->Jy,not_true->Jaf,and_false->Jau
open Int renaming le_refl->Jay
open List renaming mem_singleton->Ja,getD_cons_zero->Jb,getD_cons_succ->Jc,take_of_length_le->Jd,cons_append->Je,take_succ_eq_append_getElem->Jf,append_assoc->Jg,append_nil->Jh,getD_eq_getElem?_getD->Ji,length_cons->Jj,singleton_append->Jk,take_append_drop->Jl,nil_append->Jm,drop_eq_getElem_cons->Jn,getElem?_map->Jo,length_eq_zero_iff->Jp,perm_append_comm->Jr,map_cons->Js,length_append->Jt,map_append->Ju,getElem?_eq_getElem->Jv,mem_map->Jw,getElem?_append_right->Jx,mem_cons->Jz,mem_append->J0,getElem_mem->J2,not_mem_nil->J3,drop_of_length_le->J4,length_take->J5,nodup_append->J7,forall_mem_cons->J8,mem_iff_getElem->J9,getElem?_eq_none->Jac,map_nil->Jad,mem_of_getElem?->Jae,length_nil->Jah,all_eq_true->Jam,map_map->Jap,getElem?_inj->Jar,any_eq_true->Jas,nodup_cons->Jat,all_cons->Jav
open List.cons renaming injEq->Jao
open Nat renaming mul_le_mul_right->J6,le_refl->Jaa,add_assoc->Jag,zero_le->Jai,sub_self->Jak,succ_mul->Jal,eq_zero_or_pos->Jaq,le_trans->Jaw,lt_or_ge->Jax
open Option.some renaming inj->J1,injEq->Jaz
namespace Go.AE.Y
open Go.Proofs.Tryz
variable {H:Heap}{K:V→Heap→Prop}
theorem OW {x7:Nat}{q:CodeD}{v:Int}(h7:H x7=.st q.cells)(hr:-(2^62)≤q.ae)(dm:q.ae≤2^62)(hK:K (.c (.bool (decide (0≤v∧v≤q.ae-1)))) H) :
  Qi prog I1 [.c (.int .i64 v),.c (.ptr x7 0)] H K:=by
 refine Qb Ab Qa4w ?_;refine Qa ?_;simp only[go_sem];refine Qa ?_;simp only[go_sem,h7,CodeD.cells];refine⟨Ql,?_⟩;refine Dh ?_;simp only[go_sem,Qx7];refine Qg ?_;simp only[go_sem,Qq,Q1,AO,Ja,forall_eq,RS.op];have e:(decide (0≤v)&&decide (v≤q.ae-1))=decide (0≤v∧v≤q.ae-1):=by simp
 rw[e];exact hK
theorem Qblx {x7 x8:Nat}{q:CodeD}{v:Int}(h7:H x7=.st q.cells)(h8:H x8=.st [.fn I1 [.ptr x7 0]])(hr:-(2^62)≤q.ae)(dm:q.ae≤2^62)(hK:K (.c (.bool (!decide (0≤v∧v≤q.ae-1)))) H) :
  Qi prog RW [.c (.int .i64 v),.c (.ptr x8 0)] H K:=by
 refine Qb Ab Qa4x ?_;refine Qa ?_;simp only[go_sem];refine Qa ?_;simp only[go_sem,h8,Je,Jm,Js,Jad];refine OW h7 hr dm ?_;simp only[go_sem,Qx8];refine Qg ?_;simp only[go_sem,Qq,Q1,AO,Ja,forall_eq,RS.op];exact hK
theorem FY (p:Int→Bool)(l:List Int):(l.any fun x=>!p x) = !l.all p:=by
 induction l with
 |nil=>rfl
 |cons x l ih=>simp only[List.any_cons,Jav,ih];cases p x <;> simp
theorem V0 {cs:List CodeD}{fl:Bool}{k:Nat}{x:InsD}(hk:k<cs.length)(hr:0≤cs[k].ae)(dm:cs[k].ae≤300)(bP:cs.length≤100)(hK:∀(H':Heap),Upd H H' []→K (.c (.bool (insG cs k x))) H') :
  Qi prog Q9k [.ag [.sl fl 3 (Qk cs)],.c (.int .i64 k),.ag x.cells] H K:=by
 refine A0 ?_;refine Qb Ab Qbl5 ?_;refine Qa ?_;simp only[go_sem,InsD.cells];refine Qa ?_;simp only[go_sem,hk,Bi,DK _ _ hk,CodeD.cells];intro x7 dY H1 h1;have kn:=(Kn.aw H).al dY h1;have dY:=kn.l 0 rfl;simp only[go_sem,NK,dY];intro H2 h2;have kn:=kn.aT 0 rfl h2;refine Qa ?_;simp only[go_sem];intro x8 dw H3 h3;have kn:=kn.al dw h3;have dw:=kn.l 1 rfl;simp only[go_sem,NJ,dw];intro H4 h4;have kn:Kn H H4 [] [(x7,.st cs[k].cells),(x8,.st [.fn I1 [.ptr x7 0]])]:=kn.aT 1 rfl h4;have h7:H4 x7=.st cs[k].cells:=kn.l 0 rfl;have h8:=kn.l 1 rfl;have kP:=FN hk;have retf:∀(b:Bool) (e:Env),insG cs k x=b→lk 6 e=.c (.bool b)→Qq AB (unK H K) .ret e H4:=by
  intro b e h1 h3;simp only[go_sem,Qq,Q1,AB,Ja,forall_eq,RS.op,h3];rw[←h1];exact⟨_,.c _ _ (Qj rfl),hK _ kn.fin⟩
 refine Qp (Qa ?_);simp only[go_sem];refine Kd ?_;simp only[go_sem,NI];have rest2:∀(E1:Env) (b:Bool),insH cs[k].ae x=true→insT cs[k].ae x=(!b)→lk 1 E1=.c (.int .i64 k)→lk 3 E1=.c (.pp [.sl fl 3 (Qk cs)])→lk 5 E1=.c (.pp [.int .i64 x.op,.int .i64 x.to,.sl false 1 (intsOf x.args),.int .i64 x.n])→lk 45 E1=.c (.bool b)→
   Ag prog (s_im_insOk_8.seq NS) (Qq AB (unK H K)) E1 H4:=by
  intro E1 b aV br l1 l3 l5 l45;refine Qe (Qc l45 ?_ ?_)
  ·intro hc;refine Qa ?_;simp only[go_sem];refine Qg ?_;simp only[go_sem];exact retf false _ (by rw[insG,kP,br,hc];simp) (by simp[lk])
  intro hc;rw[hc]at br;have hG:insG cs k x=insL cs k x:=by rw[insG,kP,aV,br];rfl
  have rK:1≤x.op∧x.op≤14:=by
   simp only[insH,Jq,decide_eq_true_eq]at aV;exact aV.1
  refine Qd ?_;simp only[go_sem];refine Qp (Qa ?_);simp only[go_sem,l1,l3,l5];refine Qe (Qf ?_);refine Qa ?_;simp only[go_sem];refine Qc rfl ?_ ?_
  ·intro hc;have aK:x.op=1:=of_decide_eq_true hc;have hL:insL cs k x=(decide ((x.args.length:Int)=0)&&(decide (0≤x.n)&&decide (x.n≤255))):=by
    rw[insL,if_neg (by omega)];simp[Cc,aK]
   refine Qa ?_;simp only[go_sem,Qm];intro _;refine⟨fun hb=>?_,fun hb=>?_⟩
   ·refine XV ?_;simp only[go_sem,Ry];refine Qg ?_;simp only[go_sem];refine retf _ _ ?_ (by simp[lk];rfl);have aR:x.args=[]:=Jp.1 (by have:=of_decide_eq_true hb;omega);rw[hG,hL];simp[aR]
   ·simp only[go_sem,Ry,hb];refine Qg ?_;simp only[go_sem];exact retf false _ (by rw[hG,hL,hb];rfl) (by simp[lk])
  intro bE;have kY:¬x.op=1:=of_decide_eq_false bE;refine Qa ?_;simp only[go_sem];refine Qc rfl ?_ ?_
  ·intro hc;have aK:x.op=14:=of_decide_eq_true hc;rw[insL,if_pos aK]at hG;refine Ak ?_;simp only[go_sem];refine⟨Ql,?_⟩;refine Dh ?_;by_cases cI:0≤x.n∧x.n≤(k:Int)-1
   ·obtain⟨m,hm⟩:=Int.eq_ofNat_of_zero_le cI.1;have eR:m<cs.length:=(by omega);have h1:(0≤(m:Int))=True:=eq_true (by omega);have h2:((m:Int)≤(k:Int)-1)=True:=eq_true (by omega);simp only[go_sem,PL,hm,h1,h2,eR,decide_true,Bool.and_self,Bi,DK _ _ eR,CodeD.cells,Qm];refine Qg ?_;simp only[go_sem];refine retf _ _ ?_ (by simp[lk];rfl);rw[hG,hm,Int.toNat_natCast,EO eR];simp only[h1,h2,and_self,decide_true,Bool.true_and]
   ·have fg:(decide (0≤x.n)&&decide (x.n≤(k:Int)-1))=false:=(by simpa using cI);have nR:decide (0≤x.n∧x.n≤(k:Int)-1)=false:=(by simpa using cI);by_cases hm:x.n.toNat<cs.length
    ·simp only[go_sem,PL,fg,DK _ _ hm,CodeD.cells];refine Qg ?_;simp only[go_sem];exact retf false _ (by rw[hG,nR];rfl) (by simp[lk])
    ·have ev:(Qk cs).getD x.n.toNat []=[]:=by
      rw[Ji,Jac (by rw[Bi];omega)];rfl
     simp only[go_sem,PL,fg,ev,List.take_nil,List.headD_nil];refine Qg ?_;simp only[go_sem];exact retf false _ (by rw[hG,nR];rfl) (by simp[lk])
  ·intro hc;have aK:¬x.op=14:=of_decide_eq_false hc;have hA:Cc x.op=BY x.op:=by
    rw[Cc,BY,if_neg kY,if_neg kY];split
    ·rfl
    ·rw[if_pos (by omega)]
   have hL:insL cs k x=(decide (x.n=0)&&decide ((x.args.length:Int)=BY x.op)):=by
    rw[insL,if_neg aK,hA];by_cases hn:x.n=0
    ·simp[hn]
    ·simp[hn,kY]
   refine Qd ?_;simp only[go_sem];refine Ak ?_;simp only[go_sem,Qm];refine⟨fun hb=>?_,fun hb=>?_⟩
   ·refine Qbpv ?_;simp only[go_sem,RF,hb,Qm];refine Qg ?_;refine retf _ _ ?_ (by simp[lk];rfl);have aR:=of_decide_eq_true hb;rw[hG,hL];simp[aR]
   ·simp only[go_sem,RF,hb,Qm];refine Qg ?_;exact retf false _ (by rw[hG,hL,hb];rfl) (by simp[lk])
 have rest:∀(E1:Env) (b:Bool),insH cs[k].ae x=(!b)→lk 1 E1=.c (.int .i64 k)→lk 3 E1=.c (.pp [.sl fl 3 (Qk cs)])→lk 5 E1=.c (.pp [.int .i64 x.op,.int .i64 x.to,.sl false 1 (intsOf x.args),.int .i64 x.n])→lk 8 E1=.c (.ptr x8 0)→lk 24 E1=.c (.bool b)→
   Ag prog (s_im_insOk_4.seq NL) (Qq AB (unK H K)) E1 H4:=by
  intro E1 b hb l1 l3 l5 l8 l24;refine Qe (Qc l24 ?_ ?_)
  ·intro hc;refine Qa ?_;simp only[go_sem];refine Qg ?_;simp only[go_sem];exact retf false _ (by rw[insG,kP,hb,hc];rfl) (by simp[lk])
  intro hc;rw[hc]at hb;refine Qd ?_;simp only[go_sem];refine Qp (Qa ?_);simp only[go_sem,l5];refine FG ?_
  cases eR:BF x.op with
  |true=>
   simp only[go_sem,Jy,Rz,l5,l8,h8];refine OW h7 (by omega) (by omega) ?_;have hT:insT cs[k].ae x=decide (0≤x.to∧x.to≤cs[k].ae-1):=by rw[insT,eR];rfl
   cases hd:decide (0≤x.to∧x.to≤cs[k].ae-1)with
   |true=>
    simp only[go_sem,cond_true,Jaf,Jy,PB,l5];refine FG ?_;simp only[go_sem,cond_false,Jaf,Jy,PC,l1,l3,l5,eR];exact rest2 _ false hb (by rw[hT,hd];rfl) (by simp[lk]) (by simp[lk]) (by simp[lk]) (by simp[lk])
   |false=>
    simp only[go_sem,cond_true,Jaf,Jy,PB,PC,l1,l3,l5];exact rest2 _ true hb (by rw[hT,hd];rfl) (by simp[lk]) (by simp[lk]) (by simp[lk]) (by simp[lk])
  |false=>
   have hT:insT cs[k].ae x=decide (x.to=-1):=by rw[insT,eR];rfl
   simp only[go_sem,cond_false,Jy,Rz,PB,l5,l8,h8];refine FG ?_;simp only[go_sem,cond_true,cond_false,Jy,PC,l1,l3,l5,eR];refine rest2 _ (!decide (x.to=-1)) hb ?_ ?_ ?_ ?_ ?_
   ·rw[hT];simp
   ·rfl
   ·rfl
   ·rfl
   ·rfl
 cases hi:(decide (1≤x.op)&&decide (x.op≤14))with
 |false=>
  simp only[go_sem,R0];refine rest _ true ?_ (by simp[lk]) (by simp[lk]) (by simp[lk]) (by simp[lk]) (by simp[lk]);have:decide (1≤x.op∧x.op≤14)=false:=by simpa using hi
  rw[insH,this];rfl
 |true=>
  simp only[go_sem];refine RY (p:=fun r=>!decide (0≤r∧r≤cs[k].ae-1)) (.mk' _ _ _ _) rfl (fun v K' hv cL=>Qblx h7 h8 (by omega) (by omega) cL) ?_;simp only[go_sem,R0];refine rest _ (x.args.any fun r=>!decide (0≤r∧r≤cs[k].ae-1)) ?_ (by simp[lk]) (by simp[lk]) (by simp[lk]) (by simp[lk]) (by simp[lk]);have:decide (1≤x.op∧x.op≤14)=true:=by simpa using hi
  rw[insH,this,FY,Cb];simp
end Go.AE.Y
namespace Go.AE.Y
attribute [local go_sem] cond_true cond_false Bool.not_true Bool.not_false
open Go.Proofs.Tryz
variable {H:Heap}{K:V→Heap→Prop}
theorem Qa9x {fl:Bool}{l:List InsD}{f:Nat}{caps:List C}{p:InsD→Bool}
  (hf:∀(x:InsD) (H1:Heap) (K':V→Heap→Prop),x∈l→(∀H2,Upd H1 H2 []→K' (.c (.bool (p x))) H2)→Qi prog f ([.ag x.cells]++caps.map .c) H1 K')
  (hK:∀(r:Int) (H':Heap),Upd H H' []→decide (0≤r)=l.any p→K (.c (.int .i64 r)) H') :
  Qi prog SN [.c (.sl fl 4 (At l)),.c (.fn f caps)] H K:=by
 refine A0 ?_;refine Qb Ab Qacl ?_;refine Qa ?_;simp only[go_sem];refine Qp (Qa ?_);simp only[go_sem,Co];intro hl;simp only[LIM]at hl;refine Qe (Qf (Qu (fun m e1 H1=>∃(i:Nat),m=l.length-i∧i≤l.length∧Kn H H1 [] []∧(∀x∈l.take i,p x=false)∧e1=[(0,.c (.sl fl 4 (At l))),(1,.c (.fn f caps)),(7,.c (.int .i64 l.length)),(8,.c (.int .i64 i))]) l.length ?_ ?_))
 ·exact⟨0,by omega,by omega,Kn.aw H,by simp,rfl⟩
 ·rintro m e1 H1 ⟨i,hm,hi,kn,aD,rfl⟩;refine Qa ?_;simp only[go_sem];refine Qe (Qc rfl ?_ ?_)
  ·intro hc;have aa:i<l.length:=by simpa using hc
   refine Qd ?_;simp only[go_sem];refine Qe (Qf ?_);refine Qa ?_;simp only[go_sem];refine Qa ?_;simp only[go_sem,aa,Co,O1 _ _ aa,InsD.b9,InsD.aX,InsD.len4];refine hf _ _ _ (J2 aa) fun H2 hu=>?_;have kn:=kn.aI hu;refine Qc rfl ?_ ?_
   ·intro ao;refine Qa ?_;simp only[go_sem];refine Qg ?_;simp only[go_sem,X.next,Qq,Q1,Aa,Ja,forall_eq,RS.op];refine⟨_,.c _ _ (Qj rfl),hK _ _ kn.fin ?_⟩;have:l.any p=true:=Jas.2 ⟨_,J2 aa,ao⟩;rw[this];simp
   ·intro ao;refine Qd ?_;simp only[go_sem];refine Qn ?_;simp only[go_sem,X.next];refine⟨Ql,l.length-(i+1),by omega,i+1,rfl,by omega,kn,?_,rfl⟩;rw[Jf aa];intro x hx;rcases J0.1 hx with hx|hx
    ·exact aD x hx
    ·simp only[Ja]at hx;subst hx;exact ao
  ·intro hc;have aC:l.length≤i:=by simpa using hc
   rw[Jd aC]at aD;refine Qr ?_;simp only[go_sem,X.next];refine Qa ?_;simp only[go_sem];refine Qg ?_;simp only[go_sem,Qq,Q1,Aa,Ja,forall_eq,RS.op];refine⟨_,.c _ _ (Qj rfl),hK _ _ kn.fin ?_⟩;have:l.any p=false:=by
    cases hc:l.any p with
    |false=>rfl
    |true=>obtain⟨x,hx,hp⟩:=Jas.1 hc;rw[aD x hx]at hp;exact absurd hp (by simp)
   rw[this];rfl
theorem Qaoo {fl:Bool}{l:List InsD}{f:Nat}{caps:List C}{p:InsD→Bool}
  (hf:∀(x:InsD) (H1:Heap) (K':V→Heap→Prop),x∈l→(∀H2,Upd H1 H2 []→K' (.c (.bool (p x))) H2)→Qi prog f ([.ag x.cells]++caps.map .c) H1 K')
  (hK:∀(H':Heap),Upd H H' []→K (.c (.bool (l.any p))) H') :
  Qi prog To [.c (.sl fl 4 (At l)),.c (.fn f caps)] H K:=by
 refine Qb Ab Q1q ?_;refine Qa ?_;simp only[go_sem];refine Qa ?_;simp only[go_sem];refine Qa9x hf fun r H' hu hr=>?_;simp only[go_sem,Qhk];refine Qg ?_;simp only[go_sem,Qq,Q1,Aa,Ja,forall_eq,RS.op];rw[hr];exact hK _ hu
theorem Q9h {x5:Nat}{q:CodeD}{v:Int}(h5:H x5=.st q.cells)(hr:-(2^62)≤q.ae)(dm:q.ae≤2^62)(hK:K (.c (.bool (decide (0≤v∧v≤q.ae-1)))) H) :
  Qi prog CK [.c (.int .i64 v),.c (.ptr x5 0)] H K:=by
 refine Qb Ab Qawp ?_;refine Qa ?_;simp only[go_sem];refine Qa ?_;simp only[go_sem,h5,CodeD.cells];refine⟨Ql,?_⟩;refine Dh ?_;simp only[go_sem,Qs2];refine Qg ?_;simp only[go_sem,Qq,Q1,AO,Ja,forall_eq,RS.op];have e:(decide (0≤v)&&decide (v≤q.ae-1))=decide (0≤v∧v≤q.ae-1):=by simp
 rw[e];exact hK
theorem Qbfd {x5:Nat}{q:CodeD}{v:Int}(h5:H x5=.st q.cells)(hb:q.blocks.length≤2 ^ 38)(hK:K (.c (.bool (!AN (Qx q.blocks).length v))) H) :
  Qi prog Sx [.c (.int .i64 v),.c (.ptr x5 0)] H K:=by
 refine Qb Ab Qawq ?_;refine Qa ?_;simp only[go_sem];refine Qa ?_;simp only[go_sem,h5,CodeD.cells,AQ];intro _;refine⟨Ql,?_⟩;refine Dh ?_;simp only[go_sem,Qs3];refine Qg ?_;simp only[go_sem,Qq,Q1,AO,Ja,forall_eq,RS.op];have e:(decide (1≤v)&&decide (v≤(q.blocks.length:Int)-1))=AN (Qx q.blocks).length v:=by simp[AN,AQ]
 rw[e];exact hK
theorem Qbfe {cs:List CodeD}{fl:Bool}{k:Nat}{x:InsD}(hk:k<cs.length)(hr:0≤cs[k].ae)(dm:cs[k].ae≤300)(bP:cs.length≤100)(hK:∀(H':Heap),Upd H H' []→K (.c (.bool (!insG cs k x))) H') :
  Qi prog Sw [.ag x.cells,.c (.pp [.sl fl 3 (Qk cs)]),.c (.pp [.int .i64 k])] H K:=by
 refine Qb Ab Qawr ?_;refine Qa ?_;simp only[go_sem,InsD.cells];refine Qa ?_;simp only[go_sem];refine V0 hk hr dm bP fun H' hu=>?_;simp only[go_sem,Qs4];refine Qg ?_;simp only[go_sem,Qq,Q1,Aa,Ja,forall_eq,RS.op];exact hK _ hu
theorem Qbff {x5 x6:Nat}{q:CodeD}{v:Int}(h5:H x5=.st q.cells)(h6:H x6=.st [.fn CK [.ptr x5 0]])(hr:-(2^62)≤q.ae)(dm:q.ae≤2^62)(hK:K (.c (.bool (!decide (0≤v∧v≤q.ae-1)))) H) :
  Qi prog Sv [.c (.int .i64 v),.c (.ptr x6 0)] H K:=by
 refine Qb Ab Qaws ?_;refine Qa ?_;simp only[go_sem];refine Qa ?_;simp only[go_sem,h6,Je,Jm,Js,Jad];refine Q9h h5 hr dm ?_;simp only[go_sem,Qs5];refine Qg ?_;simp only[go_sem,Qq,Q1,AO,Ja,forall_eq,RS.op];exact hK
attribute [local instance] Classical.propDecidable
def blkC (b:BlkD):Obj:=.st [.sl false 2 (Az b.am),.sl false 4 (At b.ins),.int .i64 b.jump,.int .i64 b.on,.sl false 1 (intsOf b.next)]
theorem NX {cs:List CodeD}{k:Nat}{hk:k<cs.length}(h:¬Bz cs k hk):decide (Bz cs k hk)=false:=decide_eq_false h
theorem Y0 {cs:List CodeD}{fl:Bool}{k:Nat}(hk:k<cs.length)(bP:cs.length≤100)(ba:cs[k].fits)(hK:∀(H':Heap),Upd H H' []→K (.c (.bool (decide (Bz cs k hk)))) H') :
  Qi prog Q1c [.ag [.sl fl 3 (Qk cs)],.c (.int .i64 k)] H K:=by
 refine A0 ?_;refine Qb Ab Qbf2 ?_;have retf:∀(v:Bool) (e:Env) (H':Heap) (L:List (Nat×Obj)),decide (Bz cs k hk)=v→Kn H H' [] L→lk 4 e=.c (.bool v)→Qq Aa (unK H K) .ret e H':=by
  intro v e H' L hb kn h3;simp only[go_sem,Qq,Q1,Aa,Ja,forall_eq,RS.op,h3];rw[←hb];exact⟨_,.c _ _ (Qj rfl),hK _ kn.fin⟩
 obtain⟨q,hq⟩:∃q,cs[k]=q:=⟨_,rfl⟩;have hP:Bz cs k hk=(C8 q=true∧∀(b:Nat) (h:b<q.blocks.length),blkG cs k b q q.blocks[b]=true):=by subst hq;rfl
 refine Qa ?_;simp only[go_sem];refine Qa ?_;simp only[go_sem,hk,Bi,DK _ _ hk,CodeD.cells,hq];intro x5 cC H1 h1;have kn:=(Kn.aw H).al cC h1;have cC:=kn.l 0 rfl;simp only[go_sem,Q8h,cC];intro H2 h2;have kn:Kn H H2 [] [(x5,.st q.cells)]:=kn.aT 0 rfl h2;have cC:H2 x5=.st [.int .i64 q.params,.int .i64 q.ae,.sl false 5 (Qx q.blocks)]:=kn.l 0 rfl;refine Qp (Qa ?_);simp only[go_sem,cC];refine Dh ?_;have rest0:∀(b:Bool) (E1:Env),C8 q=(!b)→lk 2 E1=.c (.pp [.sl fl 3 (Qk cs)])→lk 3 E1=.c (.pp [.int .i64 k])→lk 5 E1=.c (.ptr x5 0)→lk 36 E1=.c (.bool b)→
   Ag prog (s_im_codeOk_4.seq Q8g) (Qq Aa (unK H K)) E1 H2:=by
  intro b E1 hb l2 l3 l5 l36;refine Qe (Qc l36 ?_ ?_)
  ·intro hc;refine Qa ?_;simp only[go_sem];refine Qg ?_;simp only[go_sem];exact retf false _ _ _ (NX fun h=>by rw[hP,hb,hc]at h;simp at h) kn (by simp[lk])
  intro hc;rw[hc]at hb;have aR:=hb;simp only[C8,Jy,Jq,decide_eq_true_eq]at aR;obtain⟨bM,gV,fq,i3⟩:0≤q.ae∧q.ae≤300∧0<q.blocks.length∧q.blocks.length≤160:=by omega
  refine Qd ?_;simp only[go_sem];refine Qa ?_;simp only[go_sem,l5];intro x6 fX H3 h3;have kn:=kn.al fX h3;have fX:=kn.l 1 rfl;simp only[go_sem,Q8i,fX,l2,l3,l5];intro H4 h4;have kn:Kn H H4 [] [(x5,.st q.cells),(x6,.st [.fn CK [.ptr x5 0]])]:=kn.aT 1 rfl h4;have cC:H4 x5=.st [.int .i64 q.params,.int .i64 q.ae,.sl false 5 (Qx q.blocks)]:=kn.l 0 rfl;refine Qp (Qa ?_);simp only[go_sem,cC,AQ];intro _;refine Qe (Qf (Qu (fun m e1 H1=>∃(j:Nat),m=q.blocks.length-j∧j≤q.blocks.length∧(∀(i:Nat) (hi:i<q.blocks.length),i<j→blkG cs k i q q.blocks[i]=true)∧Kn H H1 [] [(x5,.st q.cells),(x6,.st [.fn CK [.ptr x5 0]])]∧
   e1=[(2,.c (.pp [.sl fl 3 (Qk cs)])),(3,.c (.pp [.int .i64 k])),(5,.c (.ptr x5 0)),(6,.c (.ptr x6 0)),(39,.c (.sl false 5 (Qx q.blocks))),(40,.c (.int .i64 q.blocks.length)),(41,.c (.int .i64 j))]) q.blocks.length ?_ ?_))
  ·exact⟨0,by omega,by omega,fun _ _ h=>by omega,kn,rfl⟩
  ·rintro m e1 H5 ⟨j,hm,hj,fR,kn,rfl⟩;refine Qa ?_;simp only[go_sem];refine Qe (Qc rfl ?_ ?_)
   ·intro bE;have aa:j<q.blocks.length:=(by simpa using bE);have mA:q.blocks[j].ins.length≤2 ^ 38∧q.blocks[j].am.length≤2 ^ 38:=(by subst hq;exact ba _ (J2 aa));refine Qd ?_;simp only[go_sem];refine LW (fun e2 H2=>Kn H H2 [] [(x5,.st q.cells),(x6,.st [.fn CK [.ptr x5 0]])]∧blkG cs k j q q.blocks[j]=true∧lk 2 e2=.c (.pp [.sl fl 3 (Qk cs)])∧lk 3 e2=.c (.pp [.int .i64 k])∧lk 5 e2=.c (.ptr x5 0)∧lk 6 e2=.c (.ptr x6 0)∧
     lk 39 e2=.c (.sl false 5 (Qx q.blocks))∧lk 40 e2=.c (.int .i64 q.blocks.length)∧lk 41 e2=.c (.int .i64 j)) ?_ ?_
    ·intro Q n5 pD _;replace pD:∀e H',Qq Aa (unK H K) .ret e H'→Q .ret e H':=fun e H' h=>pD e H' (by simpa only[go_sem,X.next]using h);have retq:∀(e:Env) (H':Heap) (L:List (Nat×Obj)),blkG cs k j q q.blocks[j]=false→Kn H H' [] L→lk 4 e=.c (.bool false)→Q .ret e H':=fun e H' L hb kn l4=>
      pD e H' (retf false e H' L (NX fun h=>by rw[hP]at h;rw[h.2 j aa]at hb;exact absurd hb (by simp)) kn l4)
     have ib:blkG cs k j q q.blocks[j]=(Cp q.ae q.blocks[j]&&q.blocks[j].next.all (AN (Qx q.blocks).length)&&q.blocks[j].ins.all (insG cs k)&&q.blocks[j].am.all (phiG q.ae (Bw (gnx q) (j:Int) (Qx q.blocks).length).length j)):=rfl;refine Qf (Qa ?_);simp only[go_sem,aa,AQ,HI _ _ aa,BlkD.cells];obtain⟨y,hy⟩:∃y,q.blocks[j]=y:=⟨_,rfl⟩;rw[hy]at ib retq mA n5;rw[hy];intro x8 dw H6 h6;have kn:=kn.al dw h6;have dw:=kn.l 2 rfl;simp only[go_sem,Q8j,dw];intro H7 h7;have kn:Kn H H7 [] [(x5,.st q.cells),(x6,.st [.fn CK [.ptr x5 0]]),(x8,blkC y)]:=kn.aT 2 rfl h7;have cC:H7 x5=.st [.int .i64 q.params,.int .i64 q.ae,.sl false 5 (Qx q.blocks)]:=kn.l 0 rfl;have iH:H7 x5=.st q.cells:=kn.l 0 rfl;have fX:=kn.l 1 rfl;have dw:H7 x8=.st [.sl false 2 (Az y.am),.sl false 4 (At y.ins),.int .i64 y.jump,.int .i64 y.on,.sl false 1 (intsOf y.next)]:=kn.l 2 rfl;have rest3:∀(E1:Env) (H8:Heap),Cp q.ae y=true→y.next.all (AN (Qx q.blocks).length)=true→y.ins.all (insG cs k)=true→Kn H H8 [] [(x5,.st q.cells),(x6,.st [.fn CK [.ptr x5 0]]),(x8,blkC y)]→
       lk 2 E1=.c (.pp [.sl fl 3 (Qk cs)])→lk 3 E1=.c (.pp [.int .i64 k])→lk 5 E1=.c (.ptr x5 0)→lk 6 E1=.c (.ptr x6 0)→lk 7 E1=.c (.int .i64 j)→lk 8 E1=.c (.ptr x8 0)→
       lk 39 E1=.c (.sl false 5 (Qx q.blocks))→lk 40 E1=.c (.int .i64 q.blocks.length)→lk 41 E1=.c (.int .i64 j)→Ag prog RH (X.inBlock 1 Q) E1 H8:=by
      intro E1 H8 g1 g2 g3 kn l2 l3 l5 l6 l7 l8 l39 l40 l41;have cC:H8 x5=.st [.int .i64 q.params,.int .i64 q.ae,.sl false 5 (Qx q.blocks)]:=kn.l 0 rfl;have cI:(decide (0≤(j:Int))&&decide ((j:Int)≤((Qx q.blocks).length:Int)-1))=true:=(by rw[AQ];simp;omega);refine Qa ?_;simp only[go_sem,cC,l5,l7];refine Qbop (rows:=Qx q.blocks) (nx:=gnx q) (Yb _ q false) fun fl' H9 hu=>?_;have kn:=kn.aI hu;rw[D2,if_pos cI];generalize ll:Bw (gnx q) (j:Int) (Qx q.blocks).length=ps;rw[ll]at ib;simp only[go_sem,Q2r,l2,l3,l5,l6,l7,l8,l39,l40,l41,Qm];intro _;have dw:H9 x8=.st [.sl false 2 (Az y.am),.sl false 4 (At y.ins),.int .i64 y.jump,.int .i64 y.on,.sl false 1 (intsOf y.next)]:=kn.l 2 rfl;refine Qa ?_;simp only[go_sem,dw,Cn];intro _;refine Qf (Qu (fun m e1 H1=>∃(i:Nat),m=y.am.length-i∧i≤y.am.length∧(y.am.take i).all (phiG q.ae ps.length j)=true∧Kn H H1 [] [(x5,.st q.cells),(x6,.st [.fn CK [.ptr x5 0]])]∧
       e1=[(2,.c (.pp [.sl fl 3 (Qk cs)])),(3,.c (.pp [.int .i64 k])),(5,.c (.ptr x5 0)),(6,.c (.ptr x6 0)),(7,.c (.int .i64 j)),(9,.c (.int .i64 ps.length)),(39,.c (.sl false 5 (Qx q.blocks))),(40,.c (.int .i64 q.blocks.length)),(41,.c (.int .i64 j)),(91,.c (.sl false 2 (Az y.am))),(92,.c (.int .i64 y.am.length)),(93,.c (.int .i64 i))]) y.am.length ?_ ?_)
      ·exact⟨0,by omega,by omega,rfl,kn.drop (A:=[_,_]),rfl⟩
      ·rintro m2 e1 H10 ⟨i,iu,hi,aD,kn,rfl⟩;refine Qa ?_;simp only[go_sem];refine Qe (Qc rfl ?_ ?_)
       ·intro ao;have gQ:i<y.am.length:=(by simpa using ao);refine Qd ?_;simp only[go_sem];refine Qe (Qf ?_);refine Qa ?_;simp only[go_sem,gQ,Cn,Pw _ _ gQ,PhiD.cells];obtain⟨z,hz⟩:∃z,y.am[i]=z:=⟨_,rfl⟩;rw[hz];intro x11 gC H11 mL;have kn:=kn.al gC mL;have gC:=kn.l 2 rfl;simp only[go_sem,Q2s,gC];intro H12 h12;have kn:Kn H H12 [] ([(x5,.st q.cells),(x6,.st [.fn CK [.ptr x5 0]])]++[(x11,.st [.int .i64 z.to,.sl false 1 (intsOf z.args)])]):=kn.aT 2 rfl h12;have iH:H12 x5=.st q.cells:=kn.l 0 rfl;have fX:=kn.l 1 rfl;have gC:=kn.l 2 rfl;have fin:∀(b3:Bool) (E1:Env),phiG q.ae ps.length j z=(!b3)→lk 2 E1=.c (.pp [.sl fl 3 (Qk cs)])→lk 3 E1=.c (.pp [.int .i64 k])→lk 5 E1=.c (.ptr x5 0)→lk 6 E1=.c (.ptr x6 0)→lk 7 E1=.c (.int .i64 j)→lk 9 E1=.c (.int .i64 ps.length)→
          lk 39 E1=.c (.sl false 5 (Qx q.blocks))→lk 40 E1=.c (.int .i64 q.blocks.length)→lk 41 E1=.c (.int .i64 j)→lk 91 E1=.c (.sl false 2 (Az y.am))→lk 92 E1=.c (.int .i64 y.am.length)→lk 93 E1=.c (.int .i64 i)→lk 118 E1=.c (.bool b3)→
          Ag prog Q8d (X.inBlock 3 (X.sq prog Q8e (X.next (fun e2 H2=>∃m,m<m2∧∃(i:Nat),m=y.am.length-i∧i≤y.am.length∧(y.am.take i).all (phiG q.ae ps.length j)=true∧Kn H H2 [] [(x5,.st q.cells),(x6,.st [.fn CK [.ptr x5 0]])]∧
           e2=[(2,.c (.pp [.sl fl 3 (Qk cs)])),(3,.c (.pp [.int .i64 k])),(5,.c (.ptr x5 0)),(6,.c (.ptr x6 0)),(7,.c (.int .i64 j)),(9,.c (.int .i64 ps.length)),(39,.c (.sl false 5 (Qx q.blocks))),(40,.c (.int .i64 q.blocks.length)),(41,.c (.int .i64 j)),(91,.c (.sl false 2 (Az y.am))),(92,.c (.int .i64 y.am.length)),(93,.c (.int .i64 i))])
           (X.inBlock 2 (X.inBlock 1 Q))))) E1 H12:=by
         intro b3 E1 ny l2 l3 l5 l6 l7 l9 l39 l40 l41 l91 l92 l93 l118;refine Qc l118 ?_ ?_
         ·intro b7;refine Qa ?_;simp only[go_sem];refine Qg ?_;simp only[go_sem,X.next];exact retq _ _ _ (by rw[ib,CF gQ (by rw[hz,ny,b7];rfl)];simp) kn (by simp[lk])
         ·intro b7;refine Qd ?_;simp only[go_sem];refine Qn ?_;simp only[go_sem,X.next,l2,l3,l5,l6,l7,l9,l39,l40,l41,l91,l92,l93];exact⟨Ql,y.am.length-(i+1),by omega,i+1,rfl,by omega,by rw[CG gQ,aD,hz,ny,b7];rfl,kn.drop,rfl⟩
        have oC:phiG q.ae ps.length j z=(!decide (j=0)&&decide ((z.args.length:Int)=ps.length)&&Cb q.ae z.args&&decide (0≤z.to∧z.to≤q.ae-1)):=rfl;refine Qa ?_;simp only[go_sem]
        cases lD:decide ((j:Int)=0)with
        |true=>
         have lC:decide (j=0)=true:=(by simpa using lD);simp only[go_sem,I4,I5];exact fin true _ (by rw[oC,lC];rfl) (by simp[lk]) (by simp[lk]) (by simp[lk]) (by simp[lk]) (by simp[lk]) (by simp[lk]) (by simp[lk]) (by simp[lk]) (by simp[lk]) (by simp[lk]) (by simp[lk]) (by simp[lk]) (by simp[lk])
        |false=>
         have lC:decide (j=0)=false:=(by simpa using lD);simp only[go_sem,gC,fX,Js,Jad];refine Q9h iH (by omega) (by omega) ?_
         cases ht:decide (0≤z.to∧z.to≤q.ae-1)with
         |false=>
          simp only[go_sem,I4,I5];exact fin true _ (by rw[oC,ht];simp) (by simp[lk]) (by simp[lk]) (by simp[lk]) (by simp[lk]) (by simp[lk]) (by simp[lk]) (by simp[lk]) (by simp[lk]) (by simp[lk]) (by simp[lk]) (by simp[lk]) (by simp[lk]) (by simp[lk])
         |true=>
          by_cases kd:(z.args.length:Int)=ps.length
          ·simp only[go_sem,I4,gC,Qm,kd,decide_true,Jaf];intro _;refine RY (p:=fun r=>!decide (0≤r∧r≤q.ae-1)) (.mk' _ _ _ _) rfl (fun v K' hv cL=>Qbff iH fX (by omega) (by omega) cL) ?_;simp only[go_sem,I5];refine fin (z.args.any fun r=>!decide (0≤r∧r≤q.ae-1)) _ ?_ (by simp[lk]) (by simp[lk]) (by simp[lk]) (by simp[lk]) (by simp[lk]) (by simp[lk]) (by simp[lk]) (by simp[lk]) (by simp[lk]) (by simp[lk]) (by simp[lk]) (by simp[lk]) (by simp[lk]);rw[oC,lC,ht,FY,kd,Cb];simp
          ·simp only[go_sem,I4,I5,gC,Qm,kd,decide_false,Jy];intro _;exact fin true _ (by rw[oC];simp[kd]) (by simp[lk]) (by simp[lk]) (by simp[lk]) (by simp[lk]) (by simp[lk]) (by simp[lk]) (by simp[lk]) (by simp[lk]) (by simp[lk]) (by simp[lk]) (by simp[lk]) (by simp[lk]) (by simp[lk])
       ·intro ao;have aC:y.am.length≤i:=(by simpa using ao);rw[Jd aC]at aD;refine Qr ?_;simp only[go_sem,X.next];exact n5 _ _ ⟨kn,by rw[ib,g1,g2,g3,aD];rfl,rfl,rfl,rfl,rfl,rfl,rfl,rfl⟩
     have rest2:∀(b1:Bool) (E1:Env),Cp q.ae y=(!b1)→lk 2 E1=.c (.pp [.sl fl 3 (Qk cs)])→lk 3 E1=.c (.pp [.int .i64 k])→lk 5 E1=.c (.ptr x5 0)→lk 6 E1=.c (.ptr x6 0)→lk 7 E1=.c (.int .i64 j)→lk 8 E1=.c (.ptr x8 0)→
       lk 39 E1=.c (.sl false 5 (Qx q.blocks))→lk 40 E1=.c (.int .i64 q.blocks.length)→lk 41 E1=.c (.int .i64 j)→lk 75 E1=.c (.bool b1)→Ag prog (s_im_codeOk_11.seq Q8f) (X.inBlock 1 Q) E1 H7:=by
      intro b1 E1 aV l2 l3 l5 l6 l7 l8 l39 l40 l41 l75;refine Qe (Qc l75 ?_ ?_)
      ·intro ao;refine Qa ?_;simp only[go_sem];refine Qg ?_;simp only[go_sem];exact retq _ _ _ (by rw[ib,aV,ao];simp) kn (by simp[lk])
      intro ao;rw[ao]at aV;refine Qd ?_;simp only[go_sem];refine Qp (Qa ?_);simp only[go_sem,dw,l5,l8];refine RY (p:=fun v=>!AN (Qx q.blocks).length v) (.mk' _ _ _ _) rfl (fun v K' hv cL=>Qbfd iH (by omega) cL) ?_;have fin:∀(b:Bool) (E1:Env) (H8:Heap),(y.next.all (AN (Qx q.blocks).length)&&y.ins.all (insG cs k))=(!b)→Kn H H8 [] [(x5,.st q.cells),(x6,.st [.fn CK [.ptr x5 0]]),(x8,blkC y)]→lk 2 E1=.c (.pp [.sl fl 3 (Qk cs)])→lk 3 E1=.c (.pp [.int .i64 k])→lk 5 E1=.c (.ptr x5 0)→lk 6 E1=.c (.ptr x6 0)→lk 7 E1=.c (.int .i64 j)→lk 8 E1=.c (.ptr x8 0)→
        lk 39 E1=.c (.sl false 5 (Qx q.blocks))→lk 40 E1=.c (.int .i64 q.blocks.length)→lk 41 E1=.c (.int .i64 j)→lk 85 E1=.c (.bool b)→Ag prog (s_im_codeOk_14.seq RH) (X.inBlock 1 Q) E1 H8:=by
       intro b E1 H8 hb kn l2 l3 l5 l6 l7 l8 l39 l40 l41 l85;refine Qe (Qc l85 ?_ ?_)
       ·intro b7;refine Qa ?_;simp only[go_sem];refine Qg ?_;simp only[go_sem];exact retq _ _ _ (by rw[ib,Bool.and_assoc (Cp _ _),hb,b7];simp) kn (by simp[lk])
       ·intro b7;rw[b7]at hb;simp only[Jy,Jq]at hb;refine Qd ?_;simp only[go_sem];exact rest3 E1 H8 aV hb.1 hb.2 kn l2 l3 l5 l6 l7 l8 l39 l40 l41
      rw[FY]
      cases ha:y.next.all (AN (Qx q.blocks).length)with
      |false=>
       simp only[go_sem,Sa,Sb,l2,l3,l5,l6,l7,l8,l39,l40,l41];exact fin true _ _ (by rw[ha];rfl) kn (by simp[lk]) (by simp[lk]) (by simp[lk]) (by simp[lk]) (by simp[lk]) (by simp[lk]) (by simp[lk]) (by simp[lk]) (by simp[lk]) (by simp[lk])
      |true=>
       simp only[go_sem,Sa,dw,l2,l3,l8];refine Qaoo (p:=fun x=>!insG cs k x) (fun x H1 K' hx cL=>Qbfe hk (by rw[hq];exact bM) (by rw[hq];exact gV) bP cL) fun H8 hu=>?_;have kn:=kn.aI hu;simp only[go_sem,Sb,l2,l3,l5,l6,l7,l8,l39,l40,l41];refine fin (y.ins.any fun x=>!insG cs k x) _ _ ?_ kn (by simp[lk]) (by simp[lk]) (by simp[lk]) (by simp[lk]) (by simp[lk]) (by simp[lk]) (by simp[lk]) (by simp[lk]) (by simp[lk]) (by simp[lk]);rw[ha,←List.not_all_eq_any_not];simp
     refine Qp (Ak ?_);simp only[go_sem,dw,Qm];refine Qbgn ?_;have oK:Cp q.ae y=(decide ((y.next.length:Int)=BI y.jump)&&if y.jump=1 then decide (y.on=0)else decide (0≤y.on∧y.on≤q.ae-1)):=rfl;by_cases hn:(y.next.length:Int)=BI y.jump
     ·have qv:y.jump=1∨(y.jump=2∨y.jump=3)∧¬y.jump=1:=by
       rw[BI]at hn;split at hn
       ·exact .inl ‹_›
       ·split at hn
        ·omega
        ·split at hn
         ·omega
         ·omega
      simp only[go_sem,Sc,dw,Qm,hn,decide_true,Jaf];refine He ?_;rcases qv with h1|⟨h1,h2⟩
      ·have hu:(decide (y.jump=2) || decide (y.jump=3))=false:=(by simp[h1]);simp only[go_sem,PM,I2,hu,dw];refine He ?_;simp only[go_sem,I3,hu,dw];exact rest2 (!decide (y.on=0)) _ (by rw[oK,if_pos h1,hn];simp) (by simp[lk]) (by simp[lk]) (by simp[lk]) (by simp[lk]) (by simp[lk]) (by simp[lk]) (by simp[lk]) (by simp[lk]) (by simp[lk]) (by simp[lk])
      ·have hu:(decide (y.jump=2) || decide (y.jump=3))=true:=(by simpa using h1);simp only[go_sem,PM,hu,dw,fX,Je,Jm,Js,Jad];refine Q9h iH (by omega) (by omega) ?_
       cases ho:decide (0≤y.on∧y.on≤q.ae-1)with
       |true=>
        simp only[go_sem,I2,dw];refine He ?_;simp only[go_sem,I3,hu,dw];exact rest2 false _ (by rw[oK,if_neg h2,hn,ho];simp) (by simp[lk]) (by simp[lk]) (by simp[lk]) (by simp[lk]) (by simp[lk]) (by simp[lk]) (by simp[lk]) (by simp[lk]) (by simp[lk]) (by simp[lk])
       |false=>
        simp only[go_sem,I2,I3,dw];exact rest2 true _ (by rw[oK,if_neg h2,ho];simp) (by simp[lk]) (by simp[lk]) (by simp[lk]) (by simp[lk]) (by simp[lk]) (by simp[lk]) (by simp[lk]) (by simp[lk]) (by simp[lk]) (by simp[lk])
     ·simp only[go_sem,Sc,PM,I2,I3,dw,Qm,hn,decide_false,Jy];exact rest2 true _ (by rw[oK];simp[hn]) (by simp[lk]) (by simp[lk]) (by simp[lk]) (by simp[lk]) (by simp[lk]) (by simp[lk]) (by simp[lk]) (by simp[lk]) (by simp[lk]) (by simp[lk])
    ·rintro e2 H8 ⟨kn,hbg,l2,l3,l5,l6,l39,l40,l41⟩;refine Qn ?_;simp only[go_sem,X.next,l2,l3,l5,l6,l39,l40,l41];refine⟨Ql,q.blocks.length-(j+1),by omega,j+1,rfl,by omega,fun i hi jZ=>?_,kn,rfl⟩;by_cases h:i<j
     ·exact fR i hi h
     ·have:i=j:=(by omega);subst this;exact hbg
   ·intro bE;have aC:q.blocks.length≤j:=(by simpa using bE);refine Qr ?_;simp only[go_sem,X.next];refine Qa ?_;simp only[go_sem];refine Qg ?_;exact retf true _ _ _ (decide_eq_true (by rw[hP];exact⟨by rw[hb];rfl,fun b h=>fR b h (by omega)⟩)) kn (by simp[lk])
 have hH:C8 q=(decide (0≤q.params∧q.params≤3)&&decide (q.params≤q.ae∧q.ae≤300)&&decide (1≤(q.blocks.length:Int)∧(q.blocks.length:Int)≤160)):=rfl;by_cases hr:0≤q.ae∧q.ae≤300
 ·have aP:(decide (0≤q.ae)&&decide (q.ae≤300))=true:=by simpa using hr
  simp only[go_sem,RG,aP,cC];refine Dh ?_;by_cases hp:0≤q.params∧q.params≤3∧q.params≤q.ae
  ·have kV:(decide (0≤q.params)&&decide (q.params≤if q.ae<3 then q.ae else 3))=true:=by
    split <;> simp <;> omega
   simp only[go_sem,PN,kV,cC,AQ];intro _;refine Dh ?_;simp only[go_sem,PO];refine rest0 _ _ ?_ (by simp[lk]) (by simp[lk]) (by simp[lk]) (by simp[lk];rfl);have a1:decide (0≤q.params∧q.params≤3)=true:=by simp;omega
   have a2:decide (q.params≤q.ae∧q.ae≤300)=true:=by simp;omega
   rw[hH,a1,a2];simp
  ·have kV:(decide (0≤q.params)&&decide (q.params≤if q.ae<3 then q.ae else 3))=false:=by
    split <;> simp <;> omega
   simp only[go_sem,PN,PO,kV,cC];refine rest0 true _ ?_ (by simp[lk]) (by simp[lk]) (by simp[lk]) (by simp[lk]);rw[hH];simp;omega
 ·have aP:(decide (0≤q.ae)&&decide (q.ae≤300))=false:=by simpa using hr
  simp only[go_sem,RG,PN,PO,aP,cC];refine rest0 true _ ?_ (by simp[lk]) (by simp[lk]) (by simp[lk]) (by simp[lk]);rw[hH];simp;omega
theorem NQ {cs:List CodeD}{fl:Bool}(ba:∀c∈cs,c.fits)(hK:∀(H':Heap),Upd H H' []→K (.c (.bool (BZ cs))) H') :
  Qi prog Sz [.ag [.sl fl 3 (Qk cs)]] H K:=by
 refine A0 ?_;refine Qb Ab Qawn ?_;have retf:∀(b:Bool) (e:Env) (H':Heap) (L:List (Nat×Obj)),BZ cs=b→Kn H H' [] L→lk 2 e=.c (.bool b)→Qq Ad (unK H K) .ret e H':=by
  intro b e H' L hb kn h3;simp only[go_sem,Qq,Q1,Ad,Ja,forall_eq,RS.op,h3];rw[←hb];exact⟨_,.c _ _ (Qj rfl),hK _ kn.fin⟩
 have kn:=Kn.aw H;refine Qa ?_;simp only[go_sem];refine Qp (Qa ?_);simp only[go_sem,Bi];intro bP;refine Dh ?_;simp only[go_sem,Qsx];refine Qe (Qc rfl ?_ ?_)
 ·intro hc;have bK:=Bm hc;refine Qa ?_;simp only[go_sem];refine Qg ?_;simp only[go_sem];exact retf false _ _ _ (HX fun hu=>by have h1:=hu.1;simp at bK;omega) kn (by simp[lk])
 intro hc;have bK:=AK hc;have bX:1≤cs.length∧cs.length≤4:=by simp at bK;omega
 refine Qd ?_;simp only[go_sem];refine Qa ?_;simp only[go_sem];refine Qp (Qa ?_);simp only[go_sem,Bi];intro _;refine Qe (Qf (Qu (fun m e1 H1=>∃(k:Nat),m=cs.length-k∧k≤cs.length∧A8 cntQ (cs.take k)≤k * (160 * 549755813888)∧(∀(i:Nat) (hi:i<cs.length),i<k→Bz cs i hi)∧Kn H H1 [] []∧
  e1=[(1,.c (.pp [.sl fl 3 (Qk cs)])),(3,.c (.int .i64 (A8 cntQ (cs.take k):Nat))),(12,.c (.sl fl 3 (Qk cs))),(13,.c (.int .i64 cs.length)),(14,.c (.int .i64 k))]) cs.length ?_ ?_))
 ·exact⟨0,by omega,by omega,by simp[A8],fun _ _ h=>by omega,kn,rfl⟩
 ·rintro m e1 H1 ⟨k,hm,hk,hsum,fR,kn,rfl⟩;refine Qa ?_;simp only[go_sem];refine Qe (Qc rfl ?_ ?_)
  ·intro ao;have aa:k<cs.length:=by simpa using ao
   have kF:=Fu (f:=cntQ) aa;refine Qd ?_;simp only[go_sem];refine Qe (Qf ?_);refine Qa ?_;simp only[go_sem,aa,Bi,DK _ _ aa,CodeD.cells];obtain⟨q,hq⟩:∃q,cs[k]=q:=⟨_,rfl⟩;have mo:q.fits:=by subst hq;exact ba _ (J2 aa)
   rw[hq];intro x5 cC H2 h2;have kn:=kn.al cC h2;have cC:=kn.l 0 rfl;simp only[go_sem,Qsy,cC];intro H3 h3;have kn:Kn H H3 [] ([]++[(x5,.st [.int .i64 q.params,.int .i64 q.ae,.sl false 5 (Qx q.blocks)])]):=kn.aT 0 rfl h3;refine Qp (Qa ?_);simp only[go_sem];refine Y0 aa (by omega) (by rw[hq];exact mo) fun H4 hu=>?_;have kn:=kn.aI hu;have cC:=kn.l 0 rfl;simp only[go_sem,Qsz];refine Qe (Qc rfl ?_ ?_)
   ·intro b7;have bg:=of_decide_eq_false (Bm b7);refine Qa ?_;simp only[go_sem];refine Qg ?_;simp only[go_sem,X.next];exact retf false _ _ _ (HX fun hu=>bg (hu.2.1 k aa)) kn (by simp[lk])
   ·intro b7;have mN:=of_decide_eq_true (AK b7);have i3:q.blocks.length≤160:=by
     have:=mN.1;rw[hq]at this;simp only[C8,Jq,decide_eq_true_eq]at this;omega
    have hcq:cntQ q≤160 * 549755813888:=Jaw (KO mo) (J6 _ i3);have hk4:k * (160 * 549755813888)≤4 * (160 * 549755813888):=J6 _ (by omega);have gY:(k+1) * (160 * 549755813888)=k * (160 * 549755813888)+160 * 549755813888:=Jal _ _;rw[hq]at kF;refine Qd ?_;simp only[go_sem];refine Qn ?_;simp only[go_sem,cC];refine Qbfc mo i3 fun H5 hu=>?_;have kn:=kn.aI hu;simp only[go_sem,Qs0];refine⟨Ql,?_⟩;refine Qn ?_;simp only[go_sem,X.next];refine⟨Ql,cs.length-(k+1),by omega,k+1,rfl,by omega,by rw[kF,gY];omega,fun i hi hik=>?_,kn.drop,?_⟩
    ·by_cases h:i<k
     ·exact fR i hi h
     ·have:i=k:=(by omega);subst this;exact mN
    ·rw[kF];rfl
  ·intro ao;have aC:cs.length≤k:=by simpa using ao
   rw[Jd aC];refine Qr ?_;simp only[go_sem,X.next];refine Qa ?_;simp only[go_sem];refine Qg ?_;refine retf (decide (((A8 cntQ cs:Nat):Int)≤800)) _ _ _ ?_ kn (by simp[lk]);by_cases hs:A8 cntQ cs≤800
   ·have h1:BZ cs=true:=decide_eq_true ⟨by omega,fun i hi=>fR i hi (by omega),hs⟩;rw[h1];simp;omega
   ·rw[HX fun hu=>hs hu.2.2];simp;omega
end Go.AE.Y
namespace Go.AE.Y
attribute [local go_sem] cond_true cond_false Bool.not_true Bool.not_false
attribute [local instance] Classical.propDecidable
open Go.Proofs.Tryz
variable {H:Heap}{K:V→Heap→Prop}{fns:List Fn}
theorem TF {f:Fn}{fl:Bool}(ga:f.params.length≤3)(fo:Bl f.body)(iD:Qh f.body≤2^34)
  (hK:∀(H':Heap),Upd H H' []→(AW 0 fns f).fits→K (.ag (AW 0 fns f).cells) H'):Qi prog Rh [.ag f.cells,.c (.pp [.sl fl 3 (Ae fns)])] H K:=by
 refine A0 ?_;refine Qb Ab Qmi ?_;refine Qa ?_;simp only[go_sem,Fn.cells];intro x3 eF H1 h1;have kn:=(Kn.aw H).al eF h1;have nG:=fun K=>Qblv (fns:=fns) (f:=f) (fl:=fl) (H:=H1) (K:=K) ga fo iD;simp only[Fn.cells]at nG;refine Qa ?_;simp only[go_sem];refine nG _ fun H2 hu ba=>?_;have kn:=kn.aI hu;have g3:=kn.l 0 rfl;obtain⟨c,hc⟩:∃c,AW 0 fns f=c:=⟨_,rfl⟩;rw[hc]at ba hK⊢;simp only[go_sem,Tt,g3,CodeD.cells];intro H3 h3;have kn:=kn.aT 0 rfl h3;have g3:=kn.l 0 rfl;refine Qg ?_;simp only[go_sem,Qq,Q1,SZ,Ja,forall_eq,RS.op,g3];exact⟨_,FrzL.ag (.cons (Qj rfl) (.cons (Qj rfl) (.cons (FrzR.same (Pu _)).sl .nil))),hK _ kn.fin ba⟩
theorem T8 {g:Fn→CodeD}{f:Nat}{caps:List C}{l:List Fn}{fl:Bool}(dq:l.length≤4)
  (hf:∀x∈l,∀(H1:Heap) (K':V→Heap→Prop),(∀H2,Upd H1 H2 []→(g x).fits→K' (.ag (g x).cells) H2)→Qi prog f ([.ag x.cells]++caps.map .c) H1 K')
  (hK:∀H',Upd H H' []→(∀c∈l.map g,c.fits)→K (.c (.sl false 3 (Qk (l.map g)))) H'):Qi prog Rf [.c (.sl fl 3 (Ae l)),.c (.fn f caps)] H K:=by
 refine A0 ?_;refine Qb Ab Qoi ?_;refine Qa ?_;simp only[go_sem];refine Qa ?_;simp only[go_sem];refine Qp (Qa ?_);simp only[go_sem,Q8];intro hl;simp only[LIM]at hl;refine Qe (Qf (Qu (fun m e1 H1=>∃(i:Nat) (t:C) (Lg:List (Nat×Obj)),m=l.length-i∧i≤l.length∧Gr Lg 3 (Qk ((l.take i).map g)) t∧Kn H H1 [] Lg∧(∀c∈(l.take i).map g,c.fits)∧
  e1=[(1,.c (.fn f caps)),(5,.c t),(8,.c (.sl fl 3 (Ae l))),(9,.c (.int .i64 l.length)),(10,.c (.int .i64 i))]) l.length ?_ ?_))
 ·exact⟨0,_,[],by omega,by omega,.nil 3,Kn.aw H,by simp,rfl⟩
 ·rintro m e1 H1 ⟨i,t,Lg,hm,hi,bQ,kn,jv,rfl⟩;have aE:=bQ.ah;refine Qa ?_;simp only[go_sem,aE];refine Qe (Qc rfl ?_ ?_)
  ·intro hc;have aa:i<l.length:=by simpa using hc
   obtain⟨x,hx⟩:∃x,l[i]=x:=⟨_,rfl⟩;have eO:x∈l:=by rw[←hx];exact J2 aa
   have ef:(l.take (i+1)).map g=(l.take i).map g++[g x]:=by rw[Jf aa,hx];simp
   have aO:Qk ((l.take (i+1)).map g)=Qk ((l.take i).map g)++[(g x).cells]:=by rw[Nw,ef]
   refine Qd ?_;try simp only[go_sem]
   refine Qe (Qf ?_);refine Qa ?_;simp only[go_sem,aE,aa,Q8,Cu _ _ aa,hx,Fn.cells];intro x7 dY H3 h3;have kn:Kn H H3 [] ([(x7,.st [.str [],.sl true 1 [],.sl true 5 []])]++Lg):=(kn.al dY h3).perm Jr;have g7:=kn.l 0 rfl;simp only[go_sem,Tm,g7,aE];intro H4 h4;have kn:Kn H H4 [] ([(x7,.st [.str x.name,.sl false 1 (Q3 x.params),.sl false 5 (Qv x.body)])]++Lg):=kn.aT 0 rfl h4;have g7:=kn.l 0 rfl;refine Qn ?_;simp only[go_sem,g7,aE];have gm:=hf x eO H4;simp only[Fn.cells]at gm;refine gm _ fun H5 hu oM=>?_;have kn:=kn.aI hu;obtain⟨gx,sd⟩:∃gx,g x=gx:=⟨_,rfl⟩;rw[sd]at aO ef oM;rw[sd];simp only[go_sem,Tk,aE,CodeD.cells];refine kn.dk bQ (new:=[gx.cells]) (.mk' _ true 3 _) (by intro r hr;simp only[Ja]at hr;subst hr;rfl) (by simp only[Bi,List.length_map,J5,Jj,Jah,LIM];omega) fun t2 Lg2 H6 fh dZ kn=>?_;simp only[go_sem,Tl,dZ];refine Qn ?_;simp only[go_sem,AE.X.next,dZ];exact⟨Ql,l.length-(i+1),by omega,i+1,t2,Lg2,rfl,by omega,by rw[aO];exact fh,kn.sub (List.sublist_append_right _ _),fun c hc=>by
    rw[ef]at hc;rcases J0.1 hc with h|h
    ·exact jv c h
    ·simp only[Ja]at h;subst h;exact oM,rfl⟩
  ·intro hc;have aC:l.length≤i:=by simpa using hc
   rw[Jd aC]at bQ jv;refine Qr ?_;simp only[go_sem,AE.X.next];refine Qa ?_;simp only[go_sem,aE];refine Qg ?_;simp only[go_sem,Qq,Q1,Aa,Ja,forall_eq,RS.op,aE];exact⟨_,.c _ _ (bQ.frz (B:=[]) kn (HR _)),hK _ kn.fin jv⟩
theorem Qbpr {fl:Bool}(hf:A6 fns≤2^36)(g:GK H)(hK:∀H',Upd H H' []→(∀c∈lowP fns,c.fits)→K (.tup [.ag [.sl false 3 (Qk (lowP fns))],.c (.bool (AH fns))]) H') :
  Qi prog HV [.ag [.sl fl 3 (Ae fns)]] H K:=by
 refine A0 ?_;refine Qb Ab Qr9 ?_;refine Qa ?_;simp only[go_sem];intro x2 eG H1 h1;have kn:=(Kn.aw H).al eG h1;have g2:=kn.l 0 rfl;simp only[go_sem,SY];refine Qp (Qa ?_);simp only[go_sem];refine Kz (by omega) (g.kn kn) fun H2 hu=>?_;have kn:=kn.aI hu;have g2:=kn.l 0 rfl;simp only[go_sem,SX];have bad:∀(e:Env) (H':Heap) (L:List (Nat×Obj)),AH fns=false→Kn H H' [] ((x2,.st [.sl true 3 []])::L)→lk 2 e=.c (.ptr x2 0)→lk 3 e=.c (.bool false)→Qq Dn (unK H K) .ret e H':=by
  intro e H' L hb kn l2 l3;have g2:=kn.l 0 rfl;simp only[go_sem,Qq,Q1,Dn,Jz,J3,or_false,forall_eq_or_imp,forall_eq,RS.op,g2,l2,l3];have:=hK _ kn.fin (by rw[lowP,hb];simp);rw[lowP,hb]at this;refine⟨_,Eu (rows:=[]) (by simp) _,this⟩
 refine Qe (Qc rfl (fun hc=>?_) (fun hc=>?_))
 ·have hb:Bo fns=false:=by simpa using hc
  refine Qa ?_;simp only[go_sem,g2];intro H3 h3;have kn:=kn.aT 0 rfl h3;simp only[go_sem,SW];refine Qg ?_;exact bad _ _ _ (by rw[AH,hb];rfl) kn rfl rfl
 have hb:Bo fns=true:=by simpa using hc
 have hp:=fine_iff.1 hb;have od:AA 0 fns=AA (-1) fns:=hp.low_dd 0 (-1);refine Qd ?_;try simp only[go_sem]
 refine Qa ?_;simp only[go_sem];refine T8 (g:=AW 0 fns) hp.len.2 (fun x hx H3 K3 md=>?_) fun H3 hu ba=>?_
 ·obtain⟨k,hk,rfl⟩:=J9.1 hx;obtain⟨z1,z2,z3⟩:=hp.sizes k hk;exact TF z3 z2 (by omega) md
 have ba:∀c∈AA (-1) fns,c.fits:=by rw[←od];exact ba
 have i5:fns.map (AW 0 fns)=AA (-1) fns:=od;rw[i5];have kn:=kn.aI hu;simp only[go_sem,SU];intro x4 dP H4 h4;have kn:=kn.al dP h4;have g4:=kn.l 1 rfl;simp only[go_sem,SV,g4];intro H5 h5;have kn:Kn H H5 [] [(x2,.st [.sl true 3 []]),(x4,.st [.sl false 3 (Qk (AA (-1) fns))])]:=kn.aT 1 rfl h5;have g4:=kn.l 1 rfl;refine Qp (Qa ?_);simp only[go_sem,g4];refine NQ ba fun H6 hu=>?_;have kn:=kn.aI hu;have g2:=kn.l 0 rfl;have g4:=kn.l 1 rfl;simp only[go_sem,ST];refine Qe (Qc rfl (fun hc=>?_) (fun hc=>?_))
 ·have hg:BZ (AA (-1) fns)=false:=by simpa using hc
  refine Qa ?_;simp only[go_sem,g2];intro H7 h7;have kn:=kn.aT 0 rfl h7;simp only[go_sem,SS];refine Qg ?_;exact bad _ _ _ (by rw[AH,hg,Jau]) kn rfl rfl
 have hg:BZ (AA (-1) fns)=true:=by simpa using hc
 have fO:AH fns=true:=by rw[AH,hb,hg];rfl
 have hP:lowP fns=AA (-1) fns:=by rw[lowP,if_pos fO]
 refine Qd ?_;try simp only[go_sem]
 refine Qa ?_;simp only[go_sem,g2,g4];intro H7 h7;have kn:=kn.aT 0 rfl h7;have g2:=kn.l 0 rfl;simp only[go_sem,SR];refine Qg ?_;simp only[go_sem,Qq,Q1,Dn,Jz,J3,or_false,forall_eq_or_imp,forall_eq,RS.op,g2];have:=hK _ kn.fin (by rw[hP];exact ba);rw[hP,fO]at this;exact⟨_,Eu (HR _) _,this⟩
end Go.AE.Y
namespace Go.AE
variable {H0 H H':Heap}{E L:List (Nat×Obj)}
theorem Kn.getL (kn:Kn H0 H E L){x:Nat}{o:Obj}(hm:(x,o)∈L):H x=o:=(kn.get _ (List.mem_append_right _ hm)).1
end Go.AE
namespace Go.AE.Y
attribute [local go_sem] cond_true cond_false Bool.not_true Bool.not_false
open Go.Proofs.Tryz
variable {H H0 F:Heap}{K:V→Heap→Prop}{E B Lg:List (Nat×Obj)}
theorem Gr.vec {sz:Nat}{rows:List (List C)}{c:C}(h:Gr Lg sz rows c):∀p∈Lg,∃z r,p.2=Obj.vec z r:=by
 rcases h with ⟨_,_,rfl⟩|⟨y,_,rfl⟩
 ·simp
 ·intro p hp;simp only[Ja]at hp;subst hp;exact⟨_,_,rfl⟩
end Go.AE.Y
namespace Go.AE.Y
attribute [local go_sem] cond_true cond_false Bool.not_true Bool.not_false
open Go.Proofs.Tryz
variable {H H0 F:Heap}{K:V→Heap→Prop}{E B Lg:List (Nat×Obj)}{fns:List Fn}
theorem ScOk.upd {H':Heap}{val:Nat→Int}:∀{ls:List Nat} {v:Vars},ScOk val H ls v→(∀m,H m≠.none→H' m=H m)→ScOk val H' ls v
 |[],[],_,_=>trivial
 |_::_,_::_,⟨⟨n,es,h1,h2⟩,h3⟩,hu=>⟨⟨n,es,by rw[hu _ (by rw[h1];nofun),h1],h2⟩,h3.upd hu⟩
end Go.AE.Y
namespace Go.AE.Y
inductive Rt where
 |dn (e:Nat)
 |val (n:Nat)
 |vals (l:List Nat)
 |env (b:Option Nat) (v:Vars)
def Rt.ret:Rt→Rt
 |.env (some n) _=>.val n
 |.env none _=>.val 0
 |r=>r
variable {fns:List Fn}{S:Nat}
def nm (v:Vars):List (List (List UInt8)):=v.map fun b=>b.map Prod.fst
theorem Vc (v:Vars)(s:List UInt8):(v.find s).isSome=true↔s∈(nm v).flatten:=by
 rw[Vars.find,Option.isSome_map,List.find?_isSome];simp only[nm,List.mem_flatten,Jw,decide_eq_true_eq];constructor
 ·rintro⟨p,⟨b,hb,hp⟩,rfl⟩;exact⟨_,⟨b,hb,rfl⟩,Jw.2 ⟨p,hp,rfl⟩⟩
 ·rintro⟨_,⟨b,hb,rfl⟩,hs⟩;obtain⟨p,hp,rfl⟩:=Jw.1 hs;exact⟨p,⟨b,hb,hp⟩,rfl⟩
theorem Yj {v w:Vars}(h:nm v=nm w){s:List UInt8}(hf:(v.find s).isSome=true):(w.find s).isSome=true:=by
 rw[Vc]at hf⊢;rw[←h];exact hf
def isE (v:Vars)(w:Vars)(r:Rt):Prop:=(∃z,r=.dn z)∨(∃v',r=.env none v'∧nm v'=nm w)∨∃b v',r=.env (some b) v'∧(nm v').tail=(nm v).tail
theorem AllV.nm {v w:Vars}(h:nm v=nm w){l:List Ex}(ha:AllV v l):AllV w l:=fun e he ho=>Yj h (ha e he ho)
end Go.AE.Y
namespace Go.AE.Y
attribute [local go_sem] cond_true cond_false Bool.not_true Bool.not_false
open Go.Proofs.Tryz
variable {H H0:Heap}{K:V→Heap→Prop}{L:List (Nat×Obj)}
theorem GK.hideG (g:GK H):GK (Ao H):=by
 obtain⟨ks,rows,h3,h4⟩:=g.sign;have key:∀{l b:Nat} {c:List C},H l=.gl b c→Ao H l=.gl b c:=fun h=>by simp only[Ao,h]
 exact⟨key g.keys,ks,rows,key h3,h4⟩
theorem GK.same {H1:Heap}(g:GK H)(h:∀m,H m≠.none→H1 m=H m):GK H1:=by
 obtain⟨ks,rows,h3,h4⟩:=g.sign;exact⟨(h _ (by rw[g.keys];nofun)).trans g.keys,ks,rows,(h _ (by rw[h3];nofun)).trans h3,h4⟩
end Go.AE.Y
namespace Go.AE.Y
attribute [local go_sem] cond_true cond_false Bool.not_true Bool.not_false
attribute [local instance] Classical.propDecidable
open Go.Proofs.Tryz
variable {H:Heap}{K:V→Heap→Prop}{fns:List Fn}
theorem E6 {L:List (Nat×Obj)}{cs:List C}{c:CodeD}(h:OwL L cs c.cells):∃t,cs=[.int .i64 c.params,.int .i64 c.ae,t]∧OwS L 5 (Qx c.blocks) t:=by
 obtain⟨c1,rfl,h1⟩:=h.inv_atom rfl;obtain⟨c2,rfl,h2⟩:=h1.inv_atom rfl;obtain⟨t,rfl,h3⟩:=h2.inv_one;exact⟨t,rfl,h3⟩
theorem XA {f:Fn}{fl:Bool}(ga:f.params.length≤3)(fo:Bl f.body)(iD:Qh f.body≤2^34)
  (hK:∀(H':Heap) (L:List (Nat×Obj)) (cs:List C),Kn H H' [] L→OwL L cs (AW 0 fns f).cells→(AW 0 fns f).fits→K (.ag cs) H'):Qi prog Rh [.ag f.cells,.c (.pp [.sl fl 3 (Ae fns)])] H K:=by
 refine Qb Ab Qmi ?_;refine Qa ?_;simp only[go_sem,Fn.cells];intro x3 eF H1 h1;have kn:=(Kn.aw H).al eF h1;have nG:=fun K=>Qbl1 (fns:=fns) (f:=f) (fl:=fl) (H:=H1) (K:=K) ga fo iD;simp only[Fn.cells]at nG;refine Qa ?_;simp only[go_sem];refine nG _ fun H2 L cs k2 fk ba=>?_;obtain⟨t,rfl,ho⟩:=E6 fk;have aE:=ho.ah;have kn:=kn.comp0 k2;have g3:=kn.l 0 rfl;simp only[go_sem,Tt,g3,aE];intro H3 h3;have kn:=kn.aT 0 rfl h3;have g3:=kn.l 0 rfl;refine Qg ?_;simp only[go_sem,Qq,Q1,SZ,Ja,forall_eq,RS.op,g3,aE];exact hK _ L _ (kn.sub (List.sublist_append_right [_] _)) fk ba
theorem Xz {g:Fn→CodeD}{f:Nat}{caps:List C}{l:List Fn}{fl:Bool}(dq:l.length≤4)
  (hf:∀x∈l,∀(H1:Heap) (K':V→Heap→Prop),(∀H2 L cs,Kn H1 H2 [] L→OwL L cs (g x).cells→(g x).fits→K' (.ag cs) H2)→Qi prog f ([.ag x.cells]++caps.map .c) H1 K')
  (hK:∀H' L t,Kn H H' [] L→OwS L 3 (Qk (l.map g)) t→(∀c∈l.map g,c.fits)→K (.c t) H'):Qi prog Rf [.c (.sl fl 3 (Ae l)),.c (.fn f caps)] H K:=by
 refine Qb Ab Qoi ?_;refine Qa ?_;simp only[go_sem];refine Qa ?_;simp only[go_sem];refine Qp (Qa ?_);simp only[go_sem,Q8];intro hl;simp only[LIM]at hl;refine Qe (Qf (Qu (fun m e1 H1=>∃(i:Nat) (t:C) (rows:List (List C)) (M Lg:List (Nat×Obj)),m=l.length-i∧i≤l.length∧rows.length=i∧(∀r∈rows,r.length=3)∧Gr Lg 3 rows t∧OwL M rows.flatten (Qk ((l.take i).map g)).flatten∧Kn H H1 [] (M++Lg)∧(∀c∈(l.take i).map g,c.fits)∧
  e1=[(1,.c (.fn f caps)),(5,.c t),(8,.c (.sl fl 3 (Ae l))),(9,.c (.int .i64 l.length)),(10,.c (.int .i64 i))]) l.length ?_ ?_))
 ·exact⟨0,_,[],[],[],by omega,by omega,rfl,by simp,.nil 3,.nil,Kn.aw H,by simp,rfl⟩
 ·rintro m e1 H1 ⟨i,t,rows,M,Lg,hm,hi,bZ,pH,bQ,an,kn,jv,rfl⟩;have aE:=bQ.ah;refine Qa ?_;simp only[go_sem,aE];refine Qe (Qc rfl ?_ ?_)
  ·intro hc;have aa:i<l.length:=by simpa using hc
   obtain⟨x,hx⟩:∃x,l[i]=x:=⟨_,rfl⟩;have eO:x∈l:=by rw[←hx];exact J2 aa
   have ef:(l.take (i+1)).map g=(l.take i).map g++[g x]:=by rw[Jf aa,hx];simp
   refine Qd ?_;try simp only[go_sem]
   refine Qe (Qf ?_);refine Qa ?_;simp only[go_sem,aE,aa,Q8,Cu _ _ aa,hx,Fn.cells];intro x7 dY H3 h3;have kn:Kn H H3 [] ([(x7,.st [.str [],.sl true 1 [],.sl true 5 []])]++(M++Lg)):=(kn.al dY h3).perm Jr;have g7:=kn.l 0 rfl;simp only[go_sem,Tm,g7,aE];intro H4 h4;have kn:Kn H H4 [] ([(x7,.st [.str x.name,.sl false 1 (Q3 x.params),.sl false 5 (Qv x.body)])]++(M++Lg)):=kn.aT 0 rfl h4;have g7:=kn.l 0 rfl;refine Qn ?_;simp only[go_sem,g7,aE];have gm:=hf x eO H4;simp only[Fn.cells]at gm;refine gm _ fun H5 L cs k2 fk oM=>?_;obtain⟨tb,rfl,ho⟩:=E6 fk;have cq:=ho.ah;have kn:=kn.comp0 k2;have kn:Kn H H5 [] (([(x7,.st [.str x.name,.sl false 1 (Q3 x.params),.sl false 5 (Qv x.body)])]++(M++L))++Lg):=kn.perm (by
    simp only[Jg];exact .append_left _ (.append_left _ Jr))
   simp only[go_sem,Tk,aE,cq];refine kn.dk bQ (new:=[[.int .i64 (g x).params,.int .i64 (g x).ae,tb]]) (.mk' _ true 3 _) (by intro r hr;simp only[Ja]at hr;subst hr;simp only[ar,Jav,List.all_nil,cq];rfl) (by simp only[bZ,Jj,Jah,LIM];omega) fun t2 Lg2 H6 fh dZ kn=>?_;simp only[go_sem,Tl,dZ];refine Qn ?_;simp only[go_sem,AE.X.next,dZ];refine⟨Ql,l.length-(i+1),by omega,i+1,t2,_,M++L,Lg2,rfl,by omega,by simp[bZ],?_,fh,?_,kn.sub (.append (List.sublist_append_right _ _) (List.Sublist.refl _)),?_,rfl⟩
   ·intro r hr;rcases J0.1 hr with hr|hr
    ·exact pH r hr
    ·simp only[Ja]at hr;subst hr;rfl
   ·rw[ef,Qk,Ju,List.flatten_append,List.flatten_append];refine an.app ?_;simpa using fk
   ·intro c hc;rw[ef]at hc;rcases J0.1 hc with h|h
    ·exact jv c h
    ·simp only[Ja]at h;subst h;exact oM
  ·intro hc;have aC:l.length≤i:=by simpa using hc
   rw[Jd aC]at an jv;refine Qr ?_;simp only[go_sem,AE.X.next];refine Qa ?_;simp only[go_sem,aE];refine Qg ?_;simp only[go_sem,Qq,Q1,Aa,Ja,forall_eq,RS.op,aE];refine hK _ (Lg++M) t (kn.perm Jr) (bQ.ows ?_ pH ?_ an) jv
   ·simp[Qk,bZ];omega
   ·intro r hr;obtain⟨b,_,rfl⟩:=Jw.1 hr;rfl
theorem O3 {fl:Bool}(hf:A6 fns≤2^36)(g:GK H)(hK:∀H' L x,Kn H H' [] L→OwV L x (.tup [.ag [.sl false 3 (Qk (lowP fns))],.c (.bool (AH fns))])→(∀c∈lowP fns,c.fits)→K x H') :
  Qi prog HV [.ag [.sl fl 3 (Ae fns)]] H K:=by
 refine Qb Ab Qr9 ?_;refine Qa ?_;simp only[go_sem];intro x2 eG H1 h1;have kn:=(Kn.aw H).al eG h1;have g2:=kn.l 0 rfl;simp only[go_sem,SY];refine Qp (Qa ?_);simp only[go_sem];refine Kz (by omega) (g.kn kn) fun H2 hu=>?_;have kn:=kn.aI hu;have g2:=kn.l 0 rfl;simp only[go_sem,SX];have bad:∀(e:Env) (H':Heap) (L:List (Nat×Obj)),AH fns=false→Kn H H' [] ((x2,.st [.sl true 3 []])::L)→lk 2 e=.c (.ptr x2 0)→lk 3 e=.c (.bool false)→Qq Dn K .ret e H':=by
  intro e H' L hb kn l2 l3;have g2:=kn.l 0 rfl;simp only[go_sem,Qq,Q1,Dn,Jz,J3,or_false,forall_eq_or_imp,forall_eq,RS.op,g2,l2,l3];have hP:lowP fns=[]:=by rw[lowP,hb];rfl
  rw[hP,hb]at hK;exact hK _ [] _ (kn.sub (List.nil_sublist _)) (show OwL [] [.bool false,.sl true 3 []] _ from .atom rfl (.sln .nil)) (by simp)
 refine Qe (Qc rfl (fun hc=>?_) (fun hc=>?_))
 ·have hb:Bo fns=false:=by simpa using hc
  refine Qa ?_;simp only[go_sem,g2];intro H3 h3;have kn:=kn.aT 0 rfl h3;simp only[go_sem,SW];refine Qg ?_;exact bad _ _ _ (by rw[AH,hb];rfl) kn rfl rfl
 have hb:Bo fns=true:=by simpa using hc
 have hp:=fine_iff.1 hb;have od:AA 0 fns=AA (-1) fns:=hp.low_dd 0 (-1);refine Qd ?_;try simp only[go_sem]
 refine Qa ?_;simp only[go_sem];refine Xz (g:=AW 0 fns) hp.len.2 (fun x hx H3 K3 md=>?_) fun H3 L t k2 ho ba=>?_
 ·obtain⟨k,hk,rfl⟩:=J9.1 hx;obtain⟨z1,z2,z3⟩:=hp.sizes k hk;exact XA z3 z2 (by omega) md
 have ba:∀c∈AA (-1) fns,c.fits:=by rw[←od];exact ba
 have i5:fns.map (AW 0 fns)=AA (-1) fns:=od;rw[i5]at ho;have aE:=ho.ah;have kn:=kn.comp0 k2;simp only[go_sem,SU,aE];intro x4 dP H4 h4;have kn:=(kn.al dP h4).swap;have g4:=kn.l 1 rfl;simp only[go_sem,SV,g4,aE];intro H5 h5;have kn:Kn H H5 [] ([(x2,.st [.sl true 3 []]),(x4,.st [t])]++L):=kn.aT 1 rfl h5;have g4:=kn.l 1 rfl;refine Qp (Qa ?_);simp only[go_sem,g4,aE];refine Dc (v:=.c (.bool (BZ (AA (-1) fns)))) (lntL L) (args':=[.ag [.sl false 3 (Qk (AA (-1) fns))]]) rfl (Ed (ho.lend fun p hp=>(kn.get p (by simp[hp])).1)) rfl (fun K' hk=>NQ ba hk) ?_;have g2:=kn.l 0 rfl;simp only[go_sem,ST,aE];refine Qe (Qc rfl (fun hc=>?_) (fun hc=>?_))
 ·have hg:BZ (AA (-1) fns)=false:=by simpa using hc
  refine Qa ?_;simp only[go_sem,g2];intro H7 h7;have kn:=kn.aT 0 rfl h7;simp only[go_sem,SS];refine Qg ?_;exact bad _ _ _ (by rw[AH,hg,Jau]) kn rfl rfl
 have hg:BZ (AA (-1) fns)=true:=by simpa using hc
 have fO:AH fns=true:=by rw[AH,hb,hg];rfl
 have hP:lowP fns=AA (-1) fns:=by rw[lowP,if_pos fO]
 refine Qd ?_;try simp only[go_sem]
 refine Qa ?_;simp only[go_sem,g2,g4,aE];intro H7 h7;have kn:Kn H H7 [] ([(x2,.st [t]),(x4,.st [t])]++L):=kn.aT 0 rfl h7;have g2:=kn.l 0 rfl;simp only[go_sem,SR];refine Qg ?_;simp only[go_sem,Qq,Q1,Dn,Jz,J3,or_false,forall_eq_or_imp,forall_eq,RS.op,g2,aE];rw[hP,fO]at hK;exact hK _ L _ (kn.sub (List.sublist_append_right _ _)) (show OwL L [.bool true,t] _ from .atom rfl ho.one) ba
end Go.AE.Y
namespace Go.AE.Y
def Ar:List Int→Nat
 |[]=>0
 |_::r=>1+Ar r
def Bj:List Int→Nat→List Int
 |[],_=>[]
 |_::r,k=>((k:Nat):Int)::Bj r (k+1)
theorem Pz (a b:List Int):Ar (a++b)=Ar a+Ar b:=by
 induction a with
 |nil=>simp[Ar]
 |cons x r ih=>simp only[Je,Ar,ih];omega
theorem OT (a b:List Int)(k:Nat):Bj (a++b) k=Bj a k++Bj b (k+Ar a):=by
 induction a generalizing k with
 |nil=>simp[Bj,Ar]
 |cons x r ih=>simp only[Je,Bj,Ar,ih,Jag]
theorem GF (l:List Int)(k:Nat):(Bj l k).length=l.length:=by
 induction l generalizing k with
 |nil=>rfl
 |cons x r ih=>simp only[Bj,Jj,ih]
theorem Qbly {l:List Int}:∀r∈intsOf l,r.length=1:=by
 intro r hr;obtain⟨x,_,rfl⟩:=Jw.1 hr;rfl
theorem MF (a b:List Int):intsOf (a++b)=intsOf a++intsOf b:=by simp[intsOf]
def PhiD.cntU (x:PhiD):Nat:=1+Ar x.args
def PhiD.mkU (x:PhiD)(k:Nat):PhiD:=⟨((k:Nat):Int),Bj x.args (k+1)⟩
def Qy:List PhiD→Nat
 |[]=>0
 |x::r=>x.cntU+Qy r
def B5:List PhiD→Nat→List PhiD
 |[],_=>[]
 |x::r,k=>x.mkU k::B5 r (k+x.cntU)
theorem Px (a b:List PhiD):Qy (a++b)=Qy a+Qy b:=by
 induction a with
 |nil=>simp[Qy]
 |cons x r ih=>simp only[Je,Qy,ih];omega
theorem Oq (a b:List PhiD)(k:Nat):B5 (a++b) k=B5 a k++B5 b (k+Qy a):=by
 induction a generalizing k with
 |nil=>simp[B5,Qy]
 |cons x r ih=>simp only[Je,B5,Qy,ih,Jag]
theorem GA (l:List PhiD)(k:Nat):(B5 l k).length=l.length:=by
 induction l generalizing k with
 |nil=>rfl
 |cons x r ih=>simp only[B5,Jj,ih]
theorem Qbmm {l:List PhiD}:∀r∈Az l,r.length=2:=by
 intro r hr;obtain⟨x,_,rfl⟩:=Jw.1 hr;rfl
theorem M8 (a b:List PhiD):Az (a++b)=Az a++Az b:=by simp[Az]
def InsD.cntU (x:InsD):Nat:=1+1+Ar x.args+1
def InsD.mkU (x:InsD)(k:Nat):InsD:=⟨((k:Nat):Int),(((k+1):Nat):Int),Bj x.args ((k+1)+1),(((((k+1)+1)+Ar x.args):Nat):Int)⟩
def Q0:List InsD→Nat
 |[]=>0
 |x::r=>x.cntU+Q0 r
def B6:List InsD→Nat→List InsD
 |[],_=>[]
 |x::r,k=>x.mkU k::B6 r (k+x.cntU)
theorem Po (a b:List InsD):Q0 (a++b)=Q0 a+Q0 b:=by
 induction a with
 |nil=>simp[Q0]
 |cons x r ih=>simp only[Je,Q0,ih];omega
theorem OU (a b:List InsD)(k:Nat):B6 (a++b) k=B6 a k++B6 b (k+Q0 a):=by
 induction a generalizing k with
 |nil=>simp[B6,Q0]
 |cons x r ih=>simp only[Je,B6,Q0,ih,Jag]
theorem GG (l:List InsD)(k:Nat):(B6 l k).length=l.length:=by
 induction l generalizing k with
 |nil=>rfl
 |cons x r ih=>simp only[B6,Jj,ih]
theorem Qbpw {l:List InsD}:∀r∈At l,r.length=4:=by
 intro r hr;obtain⟨x,_,rfl⟩:=Jw.1 hr;rfl
theorem O2 (a b:List InsD):At (a++b)=At a++At b:=by simp[At]
def BlkD.cntU (x:BlkD):Nat:=Qy x.am+Q0 x.ins+1+1+Ar x.next
def BlkD.mkU (x:BlkD)(k:Nat):BlkD:=⟨B5 x.am k,B6 x.ins (k+Qy x.am),((((k+Qy x.am)+Q0 x.ins):Nat):Int),(((((k+Qy x.am)+Q0 x.ins)+1):Nat):Int),Bj x.next ((((k+Qy x.am)+Q0 x.ins)+1)+1)⟩
def Ax:List BlkD→Nat
 |[]=>0
 |x::r=>x.cntU+Ax r
def Bd:List BlkD→Nat→List BlkD
 |[],_=>[]
 |x::r,k=>x.mkU k::Bd r (k+x.cntU)
theorem Pv (a b:List BlkD):Ax (a++b)=Ax a+Ax b:=by
 induction a with
 |nil=>simp[Ax]
 |cons x r ih=>simp only[Je,Ax,ih];omega
theorem OO (a b:List BlkD)(k:Nat):Bd (a++b) k=Bd a k++Bd b (k+Ax a):=by
 induction a generalizing k with
 |nil=>simp[Bd,Ax]
 |cons x r ih=>simp only[Je,Bd,Ax,ih,Jag]
theorem GT (l:List BlkD)(k:Nat):(Bd l k).length=l.length:=by
 induction l generalizing k with
 |nil=>rfl
 |cons x r ih=>simp only[Bd,Jj,ih]
theorem Qblf {l:List BlkD}:∀r∈Qx l,r.length=5:=by
 intro r hr;obtain⟨x,_,rfl⟩:=Jw.1 hr;rfl
theorem MM (a b:List BlkD):Qx (a++b)=Qx a++Qx b:=by simp[Qx]
def CodeD.cntU (x:CodeD):Nat:=1+1+Ax x.blocks
def CodeD.mkU (x:CodeD)(k:Nat):CodeD:=⟨((k:Nat):Int),(((k+1):Nat):Int),Bd x.blocks ((k+1)+1)⟩
def Ay:List CodeD→Nat
 |[]=>0
 |x::r=>x.cntU+Ay r
def Bp:List CodeD→Nat→List CodeD
 |[],_=>[]
 |x::r,k=>x.mkU k::Bp r (k+x.cntU)
theorem Pt (a b:List CodeD):Ay (a++b)=Ay a+Ay b:=by
 induction a with
 |nil=>simp[Ay]
 |cons x r ih=>simp only[Je,Ay,ih];omega
theorem OM (a b:List CodeD)(k:Nat):Bp (a++b) k=Bp a k++Bp b (k+Ay a):=by
 induction a generalizing k with
 |nil=>simp[Bp,Ay]
 |cons x r ih=>simp only[Je,Bp,Ay,ih,Jag]
theorem GQ (l:List CodeD)(k:Nat):(Bp l k).length=l.length:=by
 induction l generalizing k with
 |nil=>rfl
 |cons x r ih=>simp only[Bp,Jj,ih]
theorem Qbfg {l:List CodeD}:∀r∈Qk l,r.length=3:=by
 intro r hr;obtain⟨x,_,rfl⟩:=Jw.1 hr;rfl
theorem Nx (a b:List CodeD):Qk (a++b)=Qk a++Qk b:=by simp[Qk]
open Go.Proofs.Tryz
def Qsq:List Item:=[fB 5 false]
def Qsr:List Item:=[mJ 7 20]
def Qss:List Item:=.chk 11 none (.ld 4 true (.t 2))::sJ 1 6 19::Qsr
def Qst:List Item:=mJ 8 18::fI 19 (.ext (.t 8) 0)::fI 20 (.ext (.t 8) 1)::eI 6 (.alloc [.sl true 3 []])::Qss
def Qsu:List Item:=.chk 11 none (.ld 4 true (.t 2))::fI 15 (.bld [.str [],.sl true 1 [],.sl true 5 []] [(0,1,.k (.c (.str [109]))),(1,1,.t 10),(2,1,.t 14)])::fI 16 (.bw 3 [.t 15])::fI 17 (.bld [.sl true 3 []] [(0,1,.t 16)])::aJ 18 HV [.t 17]::Qst
def Qsv:List Item:=[fB 5 false]
def Qaj9:SC:=cT 22 (sR (fI 23 (.bld [.int .i64 0,.int .i64 0,.sl true 5 []] [])::sJ 3 4 23::Qsv) [4,5] .ret) .skip
def Qsw:List Item:=[fB 5 true]
def Qaka:SC:=sR (fJ 24 0 6::lJ 25 24::fI 26 (.iad 3 (.t 25) (kI 0))::tJ 27 3 26::sJ 3 4 27::Qsw) [4,5] .ret
def Qakb:SC:=.seq (sR [mJ 21 7,oJ 22 21] [4,6,22] Qaj9) Qaka
def Qaf2:SC:=.seq (.aH 13 [0,2,3,4,5,1,2,6,7,8,9,10,11,12,13,2,14,15] ( mJ 9 1::tJ 11 4 2::fI 12 (.bw 4 [.t 11])::fI 13 (.bld [.int .i64 0,.str [],.sl true 4 [],.sl true 5 [],.sl true 5 []] [(0,1,kI 7),(2,1,.t 12)])::fI 14 (.bw 5 [.t 13])::aJ 10 SJ [.t 9]::Qsu) [4,6,7]) Qakb
def Qaw8:SC:=sR (vJ 2 0::eI 4 (.alloc [.int .i64 0,.int .i64 0,.sl true 5 []])::Qsq) [1,2,4] Qaf2
def Hx:List RS:=[.cell 4 3 true,.tmp 5]
theorem Qawm:mFn prog IA 2 28 Qaw8 Hx=true:=by kernel_rfl
def Qhc:List Item:=[mJ 5 19]
def Qwq:SC:=cT 21 (sR [fB 4 true] [4] .ret) .skip
def Qhd:List Item:=[mJ 5 24]
def Qwr:SC:=cT 26 (sR [fB 4 true] [4] .ret) .skip
def Qhe:List Item:=[mJ 7 34]
def Qhf:List Item:=sJ 3 6 33::Qhe
def Qhg:List Item:=mJ 27 32::fI 33 (.ext (.t 27) 0)::fI 34 (.ext (.t 27) 1)::eI 6 (.alloc [.int .i64 0,.int .i64 0,.sl true 5 []])::Qhf
def Qhh:List Item:=aJ 32 Sg [.t 29,.t 31]::Qhg
def Qhi:List Item:=mJ 30 1::aJ 31 Fc [.t 30]::Qhh
def Qhj:List Item:=[sJ 4 8 36]
def Qf5:List Item:=eI 8 (.alloc [.int .i64 0,.int .i64 0,.str [],.sl true 4 []])::Qhj
def Qf6:List Item:=[mJ 9 38]
def Qf7:List Item:=[mJ 11 44]
def Qf8:List Item:=sJ 3 10 43::Qf7
def Qf9:List Item:=mJ 39 42::fI 43 (.ext (.t 39) 0)::fI 44 (.ext (.t 39) 1)::eI 10 (.alloc [.int .i64 0,.int .i64 0,.sl true 5 []])::Qf8
def Qga:List Item:=[oJ 48 47,mJ 49 48,gFm 50 49 11,gFm 51 49 7,gF 52 49 (.bin 1 .neq (.t 50) (.t 51)),pT 53 49 52]
def Qth:SC:=cT 53 (sR [fB 4 false] [4] .ret) .skip
def Qgb:List Item:=[oJ 58 57]
def Qgc:List Item:=.chk 54 none (.ld 4 true (.t 8))::aJ 57 Iq [.t 54,.t 56]::Qgb
def Qti:SC:=cT 58 (sR [fB 4 false] [4] .ret) .skip
def Qgd:List Item:=[oJ 63 62]
def Qge:List Item:=aJ 62 PX [.t 59,.t 61]::Qgd
def Qtj:SC:=cT 63 (sR [fB 4 false] [4] .ret) .skip
def Qgf:List Item:=[mJ 12 66]
def Qgg:List Item:=[mJ 12 69]
def Qgh:List Item:=[gF 76 72 (.not (.t 75)),pT 77 72 76,mJ 78 77,gFm 79 78 11,gFm 80 78 7,gF 81 78 (.bin 1 .neq (.t 79) (.t 80)),pT 82 78 81]
def Qtk:SC:=cT 82 (sR [fB 4 false] [4] .ret) .skip
def Qgi:List Item:=[mJ 13 85]
def Qgj:List Item:=[mJ 14 88]
def Qtl:SC:=cT 90 (sR [fB 4 false] [4] .ret) .skip
def Qtm:SC:=cT 93 (sR [fB 4 false] [4] .ret) .skip
def Qgk:List Item:=[mJ 16 101]
def Qgl:List Item:=sJ 3 15 100::Qgk
def Qgm:List Item:=mJ 94 99::fI 100 (.ext (.t 94) 0)::fI 101 (.ext (.t 94) 1)::eI 15 (.alloc [.int .i64 0,.int .i64 0,.sl true 5 []])::Qgl
def Qgn:List Item:=aJ 99 IA [.t 96,.t 98]::Qgm
def Qgo:List Item:=mJ 97 1::aJ 98 Fc [.t 97]::Qgn
def Qgp:List Item:=[oJ 105 104,mJ 106 105,gFm 107 106 16,gFm 108 106 7,gF 109 106 (.bin 1 .neq (.t 107) (.t 108)),pT 110 106 109]
def Qtn:SC:=cT 110 (sR [fB 4 false] [4] .ret) .skip
def Qgq:List Item:=[mJ 14 113]
def Qto:SC:=cT 115 (sR [fB 4 false] [4] .ret) .skip
def Qtp:SC:=cT 118 (sR [fB 4 false] [4] .ret) .skip
def Qtq:SC:=sR [fB 4 true] [4] .ret
def Qtr:SC:=.seq (sR [mJ 116 14,mJ 117 13,bJ 118 .neq 116 117] [118] Qtp) Qtq
def Qts:SC:=.seq (sR [mJ 114 14,cJ 115 .lss 114 0] [13,14,115] Qto) Qtr
def Qtt:SC:=sR (tJ 111 3 10::mJ 112 14::aJ 113 PS [.t 111,.t 112]::Qgq) [13,14] Qts
def Qtu:SC:=sR [zJ 14 1] [10,13,14] Qtt
def Qtv:SC:=.seq (sR (tJ 102 3 15::tJ 103 3 6::aJ 104 HP [.t 102,.t 103]::Qgp) [10,13,110] Qtn) Qtu
def Qtw:SC:=sR (tJ 95 4 2::aJ 96 DX [.t 95]::Qgo) [6,7,10,13,15,16] Qtv
def Qtx:SC:=.seq (sR [mJ 91 14,mJ 92 13,bJ 93 .neq 91 92] [1,2,6,7,10,13,93] Qtm) Qtw
def Qty:SC:=.seq (sR [mJ 89 14,cJ 90 .lss 89 0] [1,2,6,7,10,13,14,90] Qtl) Qtx
def Qtz:SC:=sR (tJ 86 3 10::mJ 87 14::aJ 88 PS [.t 86,.t 87]::Qgj) [1,2,6,7,10,13,14] Qty
def Qt0:SC:=sR [zJ 14 1] [1,2,6,7,10,13,14] Qtz
def Qt1:SC:=sR (tJ 83 3 10::mJ 84 13::aJ 85 RP [.t 83,.t 84]::Qgi) [1,2,6,7,10,13] Qt0
def Qt2:SC:=sR [zJ 13 1] [1,2,6,7,10,13] Qt1
def Qt3:SC:=.seq (sR (mJ 70 12::cJ 71 .lss 70 0::mJ 72 71::gF 73 72 (.ld 3 true (.t 10))::gF 74 72 (.ld 3 true (.t 6))::.e (some 75) (some (72,false)) (.call HP [.t 73,.t 74])::Qgh) [1,2,6,7,10,82] Qtk) Qt2
def Qt4:SC:=sR (mJ 67 9::mJ 68 12::aJ 69 Rb [.t 67,.t 68]::Qgg) [1,2,6,7,10,11,12] Qt3
def Qt5:SC:=sR (tJ 64 4 8::mJ 65 12::aJ 66 RO [.t 64,.t 65]::Qgf) [1,2,6,7,9,10,11,12] Qt4
def Qt6:SC:=sR [zJ 12 1] [1,2,6,7,8,9,10,11,12] Qt5
def Qt7:SC:=.seq (sR (mJ 59 9::mJ 60 1::aJ 61 Fc [.t 60]::Qge) [1,2,6,7,8,9,10,11,63] Qtj) Qt6
def Qt8:SC:=.seq (.seq (.aH 5 [0,1,2,0,3,4] ( tJ 54 4 8::tJ 55 4 2::aJ 56 DX [.t 55]::Qgc) [1,2,6,7,8,9,10,11,58]) Qti) Qt7
def Qt9:SC:=.seq (sR (tJ 45 3 10::tJ 46 3 6::aJ 47 HP [.t 45,.t 46]::Qga) [1,2,6,7,8,9,10,11,53] Qth) Qt8
def Qua:SC:=sR (tJ 40 4 8::mJ 41 9::aJ 42 IA [.t 40,.t 41]::Qf9) [1,2,6,7,8,9,10,11] Qt9
def Qub:SC:=sR (mJ 37 1::aJ 38 Fc [.t 37]::Qf6) [1,2,6,7,8,9] Qua
def Quc:SC:=sR (tJ 35 4 2::aJ 36 DX [.t 35]::Qf5) [1,2,6,7,8] Qub
def Qud:SC:=sR (tJ 28 4 2::aJ 29 DX [.t 28]::Qhi) [1,2,6,7] Quc
def Que:SC:=.seq (sR [mJ 25 5,cJ 26 .lss 25 0] [1,2,26] Qwr) Qud
def Quf:SC:=sR (mJ 22 1::mJ 23 5::aJ 24 Fd [.t 22,.t 23]::Qhd) [1,2,5] Que
def Qug:SC:=.seq (sR [mJ 20 5,cJ 21 .lss 20 0] [1,2,5,21] Qwq) Quf
def Quh:SC:=sR (tJ 17 4 2::mJ 18 5::aJ 19 EY [.t 17,.t 18]::Qhc) [1,2,5] Qug
def Qui:SC:=sR [zJ 5 1048576] [1,2,5] Quh
def Q4d:SC:=sR [vJ 2 0,fB 4 false] [1,2] Qui
theorem Q1o:mFn prog Tp 2 119 Q4d Aa=true:=by kernel_rfl
def Qet:List Item:=[mJ 3 16]
def Qqa:SC:=cT 18 (sR [fB 2 true] [2] .ret) .skip
def Qeu:List Item:=[mJ 5 24]
def Qev:List Item:=sJ 1 4 23::Qeu
def Qew:List Item:=mJ 19 22::fI 23 (.ext (.t 19) 0)::fI 24 (.ext (.t 19) 1)::eI 4 (.alloc [.sl true 3 []])::Qev
def Qex:List Item:=aJ 22 Rc [.t 21]::Qew
def Qey:List Item:=[sJ 1 6 26]
def Qez:List Item:=eI 6 (.alloc [.sl true 3 []])::Qey
def Qe0:List Item:=[mJ 8 31]
def Qe1:List Item:=sJ 1 7 30::Qe0
def Qdv:List Item:=mJ 27 29::fI 30 (.ext (.t 27) 0)::fI 31 (.ext (.t 27) 1)::eI 7 (.alloc [.sl true 3 []])::Qe1
def Qdw:List Item:=[oJ 35 34,mJ 36 35,gFm 37 36 8,gFm 38 36 5,gF 39 36 (.bin 1 .neq (.t 37) (.t 38)),pT 40 36 39]
def Qo7:SC:=cT 40 (sR [fB 2 false] [2] .ret) .skip
def Qdx:List Item:=[oJ 45 44]
def Qdy:List Item:=.chk 41 none (.ld 1 true (.t 6))::aJ 44 Sl [.t 41,.t 43]::Qdx
def Qo8:SC:=cT 45 (sR [fB 2 false] [2] .ret) .skip
def Qdz:List Item:=[mJ 9 48]
def Qd0:List Item:=[gF 55 51 (.not (.t 54)),pT 56 51 55,mJ 57 56,gFm 58 57 8,gFm 59 57 5,gF 60 57 (.bin 1 .neq (.t 58) (.t 59)),pT 61 57 60]
def Qo9:SC:=cT 61 (sR [fB 2 false] [2] .ret) .skip
def Qd1:List Item:=[mJ 10 64]
def Qd2:List Item:=[mJ 11 67]
def Qpa:SC:=cT 69 (sR [fB 2 false] [2] .ret) .skip
def Qpb:SC:=cT 72 (sR [fB 2 false] [2] .ret) .skip
def Qd3:List Item:=[mJ 13 78]
def Qd4:List Item:=sJ 1 12 77::Qd3
def Qd5:List Item:=mJ 73 76::fI 77 (.ext (.t 73) 0)::fI 78 (.ext (.t 73) 1)::eI 12 (.alloc [.sl true 3 []])::Qd4
def Qd6:List Item:=aJ 76 HV [.t 75]::Qd5
def Qd7:List Item:=[oJ 82 81,mJ 83 82,gFm 84 83 13,gFm 85 83 5,gF 86 83 (.bin 1 .neq (.t 84) (.t 85)),pT 87 83 86]
def Qpc:SC:=cT 87 (sR [fB 2 false] [2] .ret) .skip
def Qd8:List Item:=[mJ 11 90]
def Qpd:SC:=cT 92 (sR [fB 2 false] [2] .ret) .skip
def Qpe:SC:=cT 95 (sR [fB 2 false] [2] .ret) .skip
def Qpf:SC:=sR [fB 2 true] [2] .ret
def Qpg:SC:=.seq (sR [mJ 93 11,mJ 94 10,bJ 95 .neq 93 94] [95] Qpe) Qpf
def Qph:SC:=.seq (sR [mJ 91 11,cJ 92 .lss 91 0] [10,11,92] Qpd) Qpg
def Qpi:SC:=sR (tJ 88 1 7::mJ 89 11::aJ 90 PR [.t 88,.t 89]::Qd8) [10,11] Qph
def Qpj:SC:=sR [zJ 11 1] [7,10,11] Qpi
def Qpk:SC:=.seq (sR (tJ 79 1 12::tJ 80 1 4::aJ 81 In [.t 79,.t 80]::Qd7) [7,10,87] Qpc) Qpj
def Qpl:SC:=sR (tJ 74 1 1::aJ 75 F5 [.t 74]::Qd6) [4,5,7,10,12,13] Qpk
def Qpm:SC:=.seq (sR [mJ 70 11,mJ 71 10,bJ 72 .neq 70 71] [1,4,5,7,10,72] Qpb) Qpl
def Qpn:SC:=.seq (sR [mJ 68 11,cJ 69 .lss 68 0] [1,4,5,7,10,11,69] Qpa) Qpm
def Qpo:SC:=sR (tJ 65 1 7::mJ 66 11::aJ 67 PR [.t 65,.t 66]::Qd2) [1,4,5,7,10,11] Qpn
def Qpp:SC:=sR [zJ 11 1] [1,4,5,7,10,11] Qpo
def Qpq:SC:=sR (tJ 62 1 7::mJ 63 10::aJ 64 RL [.t 62,.t 63]::Qd1) [1,4,5,7,10] Qpp
def Qpr:SC:=sR [zJ 10 1] [1,4,5,7,10] Qpq
def Qps:SC:=.seq (sR (mJ 49 9::cJ 50 .lss 49 0::mJ 51 50::gF 52 51 (.ld 1 true (.t 7))::gF 53 51 (.ld 1 true (.t 4))::.e (some 54) (some (51,false)) (.call In [.t 52,.t 53])::Qd0) [1,4,5,7,61] Qo9) Qpr
def Qpt:SC:=sR (tJ 46 1 6::mJ 47 9::aJ 48 S7 [.t 46,.t 47]::Qdz) [1,4,5,7,8,9] Qps
def Qpu:SC:=sR [zJ 9 1] [1,4,5,6,7,8,9] Qpt
def Qpv:SC:=.seq (.seq (.aH 5 [0,1,2,0,3,4] ( tJ 41 1 6::tJ 42 1 1::aJ 43 F5 [.t 42]::Qdy) [1,4,5,6,7,8,45]) Qo8) Qpu
def Qpw:SC:=.seq (sR (tJ 32 1 7::tJ 33 1 4::aJ 34 In [.t 32,.t 33]::Qdw) [1,4,5,6,7,8,40] Qo7) Qpv
def Qpx:SC:=sR (tJ 28 1 6::aJ 29 HV [.t 28]::Qdv) [1,4,5,6,7,8] Qpw
def Qpy:SC:=sR (tJ 25 1 1::aJ 26 F5 [.t 25]::Qez) [1,4,5,6] Qpx
def Qpz:SC:=sR (tJ 20 1 1::aJ 21 F5 [.t 20]::Qex) [1,4,5] Qpy
def Qp0:SC:=.seq (sR [mJ 17 3,cJ 18 .lss 17 0] [1,18] Qqa) Qpz
def Qp1:SC:=sR (tJ 14 1 1::mJ 15 3::aJ 16 I6 [.t 14,.t 15]::Qet) [1,3] Qp0
def Qp2:SC:=sR [zJ 3 1048576] [1,3] Qp1
def Quj:SC:=sR [vJ 1 0,fB 2 false] [1] Qp2
theorem Qsd:mFn prog Ts 1 96 Quj Ad=true:=by kernel_rfl
def Q4e:List Item:=[oJ 10 9]
def Qazq:SC:=cT 10 (sR [fB 4 false] [4] .ret) .skip
def Q4f:List Item:=[oJ 16 15]
def Qazr:SC:=cT 16 (sR [fB 4 false] [4] .ret) .skip
def Qazs:SC:=cT 21 (sR [fB 4 false] [4] .ret) .skip
def Qazt:SC:=cT 26 (sR [fB 4 false] [4] .ret) .skip
def Q4g:List Item:=[oJ 32 31]
def Qazu:SC:=cT 32 (sR [fB 4 false] [4] .ret) .skip
def Qazv:SC:=sR [fB 4 true] [4] .ret
def Qazw:SC:=.seq (sR (fJ 27 4 2::lJ 28 27::fJ 29 4 3::lJ 30 29::aJ 31 Ip [.t 28,.t 30]::Q4g) [32] Qazu) Qazv
def Qatw:SC:=.seq (sR [fJ 22 3 2,lJ 23 22,fJ 24 3 3,lJ 25 24,bJ 26 .neq 23 25] [2,3,26] Qazt) Qazw
def Qatx:SC:=.seq (sR [fJ 17 2 2,lJ 18 17,fJ 19 2 3,lJ 20 19,bJ 21 .neq 18 20] [2,3,21] Qazs) Qatw
def Qaty:SC:=.seq (sR (fJ 11 1 2::lJ 12 11::fJ 13 1 3::lJ 14 13::aJ 15 Q1g [.t 12,.t 14]::Q4f) [2,3,16] Qazr) Qatx
def Qatz:SC:=.seq (sR (fJ 5 0 2::lJ 6 5::fJ 7 0 3::lJ 8 7::aJ 9 Q1h [.t 6,.t 8]::Q4e) [2,3,10] Qazq) Qaty
def Qbda:SC:=sR [vJ 2 0,vJ 3 1,fB 4 false] [2,3] Qatz
theorem Qbay:mFn prog R7 2 33 Qbda Aa=true:=by kernel_rfl
def Qatp:SC:=cT 10 (sR [fB 4 false] [4] .ret) .skip
def Qyu:List Item:=[oJ 26 25]
def Qatq:SC:=cT 26 (sR [fB 4 false] [4] .ret) .skip
def Qatr:SC:=.reg [mJ 15 5,cJ 16 .add 15 1,mJ 5 16] [0,1,5]
def Qats:SC:=.seq (.block 1 (.seq (.aH 10 [0,1,2,3,4,5,6,7,8,9] ( mJ 17 0::mJ 18 5::iJ 19 5 17 18::tJ 20 5 19::mJ 21 1::mJ 22 5::iJ 23 5 21 22::tJ 24 5 23::aJ 25 R7 [.t 20,.t 24]::Qyu) [0,1,5,26]) Qatq)) Qatr
def Qalq:SC:=.seq (sR [mJ 11 5,mJ 12 0,nJ 13 12,bJ 14 .lss 11 13] [0,1,5,14] (cT 14 .skip (.exit 0))) Qats
def Qatt:SC:=sR [fB 4 true] [4] .ret
def Qatu:SC:=.seq (sR [zJ 5 0] [0,1,5] (bL 0 Qalq)) Qatt
def Qatv:SC:=.seq (sR [mJ 6 0,nJ 7 6,mJ 8 1,nJ 9 8,bJ 10 .neq 7 9] [0,1,10] Qatp) Qatu
def Qa6v:SC:=sR [fB 4 false] [0,1] Qatv
theorem Qa45:mFn prog RU 2 27 Qa6v Aa=true:=by kernel_rfl
def Qa6w:SC:=cT 9 (sR [fB 4 false] [4] .ret) .skip
def Qa6x:SC:=cT 14 (sR [fB 4 false] [4] .ret) .skip
def Q8y:List Item:=[oJ 20 19]
def Qa6y:SC:=cT 20 (sR [fB 4 false] [4] .ret) .skip
def Qa6z:SC:=sR [fB 4 true] [4] .ret
def Qa60:SC:=.seq (sR (fJ 15 2 2::lJ 16 15::fJ 17 2 3::lJ 18 17::aJ 19 RU [.t 16,.t 18]::Q8y) [20] Qa6y) Qa6z
def Qa61:SC:=.seq (sR [fJ 10 1 2,lJ 11 10,fJ 12 1 3,lJ 13 12,bJ 14 .neq 11 13] [2,3,14] Qa6x) Qa60
def Qa62:SC:=.seq (sR [fJ 5 0 2,lJ 6 5,fJ 7 0 3,lJ 8 7,bJ 9 .neq 6 8] [2,3,9] Qa6w) Qa61
def Qbis:SC:=sR [vJ 2 0,vJ 3 1,fB 4 false] [2,3] Qa62
theorem Qbf8:mFn prog HP 2 21 Qbis Aa=true:=by kernel_rfl
def Qazx:SC:=cT 10 (sR [fB 4 false] [4] .ret) .skip
def Q4h:List Item:=[oJ 26 25]
def Qazy:SC:=cT 26 (sR [fB 4 false] [4] .ret) .skip
def Qazz:SC:=.reg [mJ 15 5,cJ 16 .add 15 1,mJ 5 16] [0,1,5]
def Qaz0:SC:=.seq (.block 1 (.seq (.aH 10 [0,1,2,3,4,5,6,7,8,9] ( mJ 17 0::mJ 18 5::iJ 19 3 17 18::tJ 20 3 19::mJ 21 1::mJ 22 5::iJ 23 3 21 22::tJ 24 3 23::aJ 25 HP [.t 20,.t 24]::Q4h) [0,1,5,26]) Qazy)) Qazz
def Qat0:SC:=.seq (sR [mJ 11 5,mJ 12 0,nJ 13 12,bJ 14 .lss 11 13] [0,1,5,14] (cT 14 .skip (.exit 0))) Qaz0
def Qaz1:SC:=sR [fB 4 true] [4] .ret
def Qaz2:SC:=.seq (sR [zJ 5 0] [0,1,5] (bL 0 Qat0)) Qaz1
def Qaz3:SC:=.seq (sR [mJ 6 0,nJ 7 6,mJ 8 1,nJ 9 8,bJ 10 .neq 7 9] [0,1,10] Qazx) Qaz2
def Qbdb:SC:=sR [fB 4 false] [0,1] Qaz3
theorem Qbaz:mFn prog R6 2 27 Qbdb Aa=true:=by kernel_rfl
def Qbdk:SC:=cT 9 (sR [fB 4 false] [4] .ret) .skip
def Qbdl:SC:=cT 14 (sR [fB 4 false] [4] .ret) .skip
def N9:List Item:=[oJ 20 19]
def Qbdm:SC:=cT 20 (sR [fB 4 false] [4] .ret) .skip
def Qbdn:SC:=cT 25 (sR [fB 4 false] [4] .ret) .skip
def Qbdo:SC:=sR [fB 4 true] [4] .ret
def Qbdp:SC:=.seq (sR [fJ 21 3 2,lJ 22 21,fJ 23 3 3,lJ 24 23,bJ 25 .neq 22 24] [25] Qbdn) Qbdo
def Qbdq:SC:=.seq (sR (fJ 15 2 2::lJ 16 15::fJ 17 2 3::lJ 18 17::aJ 19 Ip [.t 16,.t 18]::N9) [2,3,20] Qbdm) Qbdp
def Qbdr:SC:=.seq (sR [fJ 10 1 2,lJ 11 10,fJ 12 1 3,lJ 13 12,bJ 14 .neq 11 13] [2,3,14] Qbdl) Qbdq
def Qbds:SC:=.seq (sR [fJ 5 0 2,lJ 6 5,fJ 7 0 3,lJ 8 7,bJ 9 .neq 6 8] [2,3,9] Qbdk) Qbdr
def Qbn6:SC:=sR [vJ 2 0,vJ 3 1,fB 4 false] [2,3] Qbds
theorem Qbma:mFn prog Q9m 2 26 Qbn6 Aa=true:=by kernel_rfl
def Qa7d:SC:=cT 10 (sR [fB 4 false] [4] .ret) .skip
def Q80:List Item:=[oJ 26 25]
def Qa7e:SC:=cT 26 (sR [fB 4 false] [4] .ret) .skip
def Qa7f:SC:=.reg [mJ 15 5,cJ 16 .add 15 1,mJ 5 16] [0,1,5]
def Qa7g:SC:=.seq (.block 1 (.seq (.aH 10 [0,1,2,3,4,5,6,7,8,9] ( mJ 17 0::mJ 18 5::iJ 19 4 17 18::tJ 20 4 19::mJ 21 1::mJ 22 5::iJ 23 4 21 22::tJ 24 4 23::aJ 25 Q9m [.t 20,.t 24]::Q80) [0,1,5,26]) Qa7e)) Qa7f
def Qa0b:SC:=.seq (sR [mJ 11 5,mJ 12 0,nJ 13 12,bJ 14 .lss 11 13] [0,1,5,14] (cT 14 .skip (.exit 0))) Qa7g
def Qa7h:SC:=sR [fB 4 true] [4] .ret
def Qa7i:SC:=.seq (sR [zJ 5 0] [0,1,5] (bL 0 Qa0b)) Qa7h
def Qa7j:SC:=.seq (sR [mJ 6 0,nJ 7 6,mJ 8 1,nJ 9 8,bJ 10 .neq 7 9] [0,1,10] Qa7d) Qa7i
def Qbi1:SC:=sR [fB 4 false] [0,1] Qa7j
theorem Qbga:mFn prog Q1g 2 27 Qbi1 Aa=true:=by kernel_rfl
def Qa7k:SC:=cT 10 (sR [fB 4 false] [4] .ret) .skip
def Qa7l:SC:=cT 25 (sR [fB 4 false] [4] .ret) .skip
def Qa7m:SC:=.reg [mJ 15 5,cJ 16 .add 15 1,mJ 5 16] [0,1,5]
def Qa7n:SC:=.seq (.block 1 (.seq (.aH 9 [0,1,2,3,4,5,6,7,8] ( mJ 17 0::mJ 18 5::iJ 19 1 17 18::lJ 20 19::mJ 21 1::mJ 22 5::iJ 23 1 21 22::lJ 24 23::bJ 25 .neq 20 24::[]) [0,1,5,25]) Qa7l)) Qa7m
def Qa0c:SC:=.seq (sR [mJ 11 5,mJ 12 0,nJ 13 12,bJ 14 .lss 11 13] [0,1,5,14] (cT 14 .skip (.exit 0))) Qa7n
def Qa7o:SC:=sR [fB 4 true] [4] .ret
def Qa7p:SC:=.seq (sR [zJ 5 0] [0,1,5] (bL 0 Qa0c)) Qa7o
def Qa7q:SC:=.seq (sR [mJ 6 0,nJ 7 6,mJ 8 1,nJ 9 8,bJ 10 .neq 7 9] [0,1,10] Qa7k) Qa7p
def Qbi2:SC:=sR [fB 4 false] [0,1] Qa7q
theorem Qbgb:mFn prog Ip 2 26 Qbi2 Aa=true:=by kernel_rfl
def Qbdt:SC:=cT 9 (sR [fB 4 false] [4] .ret) .skip
def N8:List Item:=[oJ 15 14]
def Qbdu:SC:=cT 15 (sR [fB 4 false] [4] .ret) .skip
def Qbdv:SC:=sR [fB 4 true] [4] .ret
def Qbdw:SC:=.seq (sR (fJ 10 1 2::lJ 11 10::fJ 12 1 3::lJ 13 12::aJ 14 Ip [.t 11,.t 13]::N8) [15] Qbdu) Qbdv
def Qbdx:SC:=.seq (sR [fJ 5 0 2,lJ 6 5,fJ 7 0 3,lJ 8 7,bJ 9 .neq 6 8] [2,3,9] Qbdt) Qbdw
def Qbn7:SC:=sR [vJ 2 0,vJ 3 1,fB 4 false] [2,3] Qbdx
theorem Qbmb:mFn prog Q9n 2 16 Qbn7 Aa=true:=by kernel_rfl
def Qa7r:SC:=cT 10 (sR [fB 4 false] [4] .ret) .skip
def Q81:List Item:=[oJ 26 25]
def Qa7s:SC:=cT 26 (sR [fB 4 false] [4] .ret) .skip
def Qa7t:SC:=.reg [mJ 15 5,cJ 16 .add 15 1,mJ 5 16] [0,1,5]
def Qa7u:SC:=.seq (.block 1 (.seq (.aH 10 [0,1,2,3,4,5,6,7,8,9] ( mJ 17 0::mJ 18 5::iJ 19 2 17 18::tJ 20 2 19::mJ 21 1::mJ 22 5::iJ 23 2 21 22::tJ 24 2 23::aJ 25 Q9n [.t 20,.t 24]::Q81) [0,1,5,26]) Qa7s)) Qa7t
def Qa0d:SC:=.seq (sR [mJ 11 5,mJ 12 0,nJ 13 12,bJ 14 .lss 11 13] [0,1,5,14] (cT 14 .skip (.exit 0))) Qa7u
def Qa7v:SC:=sR [fB 4 true] [4] .ret
def Qa7w:SC:=.seq (sR [zJ 5 0] [0,1,5] (bL 0 Qa0d)) Qa7v
def Qa7x:SC:=.seq (sR [mJ 6 0,nJ 7 6,mJ 8 1,nJ 9 8,bJ 10 .neq 7 9] [0,1,10] Qa7r) Qa7w
def Qbi3:SC:=sR [fB 4 false] [0,1] Qa7x
theorem Qbgc:mFn prog Q1h 2 27 Qbi3 Aa=true:=by kernel_rfl
def Q85:List Item:=[oJ 10 9]
def Qa75:SC:=cT 10 (sR [fB 4 false] [4] .ret) .skip
def Qa76:SC:=sR [fB 4 true] [4] .ret
def Qa77:SC:=.seq (sR (fJ 5 0 2::lJ 6 5::fJ 7 0 3::lJ 8 7::aJ 9 R6 [.t 6,.t 8]::Q85) [10] Qa75) Qa76
def Qbi5:SC:=sR [vJ 2 0,vJ 3 1,fB 4 false] [2,3] Qa77
theorem Qbge:mFn prog In 2 11 Qbi5 Aa=true:=by kernel_rfl
def Qqv:List Item:=[mJ 1 18]
def Qag8:SC:=cT 20 (sR [zJ 4 (-1)] [4] .ret) .skip
def Qqw:List Item:=[mJ 1 27]
def Qag9:SC:=cT 29 (sR [zJ 4 (-1)] [4] .ret) .skip
def Qaha:SC:=cT 36 (sR [zJ 4 (-1)] [4] .ret) .skip
def Qahb:SC:=cT 45 (sR [zJ 4 (-1)] [4] .ret) .skip
def Qqx:List Item:=[mJ 1 54]
def Qahc:SC:=cT 56 (sR [zJ 4 (-1)] [4] .ret) .skip
def Qahd:SC:=sR [mJ 55 1,cJ 56 .lss 55 0] [0,1,5,56] Qahc
def Qahe:SC:=sR (mJ 48 0::mJ 49 5::iJ 50 5 48 49::fJ 51 4 50::lJ 52 51::mJ 53 1::aJ 54 I0 [.t 52,.t 53]::Qqx) [0,1,5] Qahd
def Qadv:SC:=sR [mJ 46 1,cJ 47 .add 46 1,mJ 1 47] [0,1,5] Qahe
def Qadw:SC:=.seq (sR [mJ 39 0,mJ 40 5,iJ 41 5 39 40,fJ 42 3 41,lJ 43 42,mJ 44 1,bJ 45 .neq 43 44] [0,1,5,45] Qahb) Qadv
def Qadx:SC:=sR [mJ 37 1,cJ 38 .add 37 1,mJ 1 38] [0,1,5] Qadw
def Qady:SC:=.seq (sR [mJ 30 0,mJ 31 5,iJ 32 5 30 31,fJ 33 2 32,lJ 34 33,mJ 35 1,bJ 36 .neq 34 35] [0,1,5,36] Qaha) Qadx
def Qadz:SC:=.seq (sR [mJ 28 1,cJ 29 .lss 28 0] [0,1,5,29] Qag9) Qady
def Qad0:SC:=sR (mJ 21 0::mJ 22 5::iJ 23 5 21 22::fJ 24 1 23::lJ 25 24::mJ 26 1::aJ 27 RT [.t 25,.t 26]::Qqw) [0,1,5] Qadz
def Qad1:SC:=.seq (sR [mJ 19 1,cJ 20 .lss 19 0] [0,1,5,20] Qag8) Qad0
def Qad2:SC:=.reg [mJ 10 5,cJ 11 .add 10 1,mJ 5 11] [0,1,5]
def Qad3:SC:=.seq (.block 1 (sR (mJ 12 0::mJ 13 5::iJ 14 5 12 13::fJ 15 0 14::lJ 16 15::mJ 17 1::aJ 18 RR [.t 16,.t 17]::Qqv) [0,1,5] Qad1)) Qad2
def Qaas:SC:=.seq (sR [mJ 6 5,mJ 7 0,nJ 8 7,bJ 9 .lss 6 8] [0,1,5,9] (cT 9 .skip (.exit 0))) Qad3
def Qad4:SC:=sR [mJ 57 1,mJ 4 57] [4] .ret
def Qad5:SC:=.seq (sR [zJ 5 0] [0,1,5] (bL 0 Qaas)) Qad4
def Qat3:SC:=sR [zJ 4 0] [0,1] Qad5
theorem Qapp:mFn prog PZ 2 58 Qat3 Aa=true:=by kernel_rfl
def Qyv:List Item:=[mJ 1 8]
def Qat4:SC:=cT 10 (sR [zJ 4 (-1)] [4] .ret) .skip
def Qat5:SC:=sR [mJ 11 1,mJ 4 11] [4] .ret
def Qat6:SC:=.seq (sR [mJ 9 1,cJ 10 .lss 9 0] [1,10] Qat4) Qat5
def Qat7:SC:=sR (fJ 5 2 2::lJ 6 5::mJ 7 1::aJ 8 PZ [.t 6,.t 7]::Qyv) [1] Qat6
def Qa78:SC:=sR [vJ 2 0,zJ 4 0] [1,2] Qat7
theorem Qa46:mFn prog PS 2 12 Qa78 Aa=true:=by kernel_rfl
def Qal1:SC:=cT 18 (sR [zJ 4 (-1)] [4] .ret) .skip
def Qal2:SC:=cT 27 (sR [zJ 4 (-1)] [4] .ret) .skip
def Qul:List Item:=[mJ 1 36]
def Qal3:SC:=cT 38 (sR [zJ 4 (-1)] [4] .ret) .skip
def Qal4:SC:=sR [mJ 37 1,cJ 38 .lss 37 0] [0,1,5,38] Qal3
def Qal5:SC:=sR (mJ 30 0::mJ 31 5::iJ 32 3 30 31::fJ 33 2 32::lJ 34 33::mJ 35 1::aJ 36 PZ [.t 34,.t 35]::Qul) [0,1,5] Qal4
def Qal6:SC:=sR [mJ 28 1,cJ 29 .add 28 1,mJ 1 29] [0,1,5] Qal5
def Qal7:SC:=.seq (sR [mJ 21 0,mJ 22 5,iJ 23 3 21 22,fJ 24 1 23,lJ 25 24,mJ 26 1,bJ 27 .neq 25 26] [0,1,5,27] Qal2) Qal6
def Qal8:SC:=sR [mJ 19 1,cJ 20 .add 19 1,mJ 1 20] [0,1,5] Qal7
def Qal9:SC:=.reg [mJ 10 5,cJ 11 .add 10 1,mJ 5 11] [0,1,5]
def Qahf:SC:=.seq (.block 1 (.seq (sR [mJ 12 0,mJ 13 5,iJ 14 3 12 13,fJ 15 0 14,lJ 16 15,mJ 17 1,bJ 18 .neq 16 17] [0,1,5,18] Qal1) Qal8)) Qal9
def Qad6:SC:=.seq (sR [mJ 6 5,mJ 7 0,nJ 8 7,bJ 9 .lss 6 8] [0,1,5,9] (cT 9 .skip (.exit 0))) Qahf
def Qahg:SC:=sR [mJ 39 1,mJ 4 39] [4] .ret
def Qahh:SC:=.seq (sR [zJ 5 0] [0,1,5] (bL 0 Qad6)) Qahg
def Qa0r:SC:=sR [zJ 4 0] [0,1] Qahh
theorem Qawx:mFn prog Sk 2 40 Qa0r Aa=true:=by kernel_rfl
def Qat8:SC:=cT 18 (sR [zJ 4 (-1)] [4] .ret) .skip
def Qat9:SC:=cT 27 (sR [zJ 4 (-1)] [4] .ret) .skip
def Qyw:List Item:=[mJ 1 36]
def Qaua:SC:=cT 38 (sR [zJ 4 (-1)] [4] .ret) .skip
def Qaub:SC:=cT 45 (sR [zJ 4 (-1)] [4] .ret) .skip
def Qauc:SC:=.reg [mJ 46 1,cJ 47 .add 46 1,mJ 1 47] [0,1,5]
def Qaud:SC:=.seq (sR [mJ 39 0,mJ 40 5,iJ 41 4 39 40,fJ 42 3 41,lJ 43 42,mJ 44 1,bJ 45 .neq 43 44] [0,1,5,45] Qaub) Qauc
def Qaue:SC:=.seq (sR [mJ 37 1,cJ 38 .lss 37 0] [0,1,5,38] Qaua) Qaud
def Qauf:SC:=sR (mJ 30 0::mJ 31 5::iJ 32 4 30 31::fJ 33 2 32::lJ 34 33::mJ 35 1::aJ 36 I0 [.t 34,.t 35]::Qyw) [0,1,5] Qaue
def Qaug:SC:=sR [mJ 28 1,cJ 29 .add 28 1,mJ 1 29] [0,1,5] Qauf
def Qama:SC:=.seq (sR [mJ 21 0,mJ 22 5,iJ 23 4 21 22,fJ 24 1 23,lJ 25 24,mJ 26 1,bJ 27 .neq 25 26] [0,1,5,27] Qat9) Qaug
def Qamb:SC:=sR [mJ 19 1,cJ 20 .add 19 1,mJ 1 20] [0,1,5] Qama
def Qamc:SC:=.reg [mJ 10 5,cJ 11 .add 10 1,mJ 5 11] [0,1,5]
def Qamd:SC:=.seq (.block 1 (.seq (sR [mJ 12 0,mJ 13 5,iJ 14 4 12 13,fJ 15 0 14,lJ 16 15,mJ 17 1,bJ 18 .neq 16 17] [0,1,5,18] Qat8) Qamb)) Qamc
def Qahi:SC:=.seq (sR [mJ 6 5,mJ 7 0,nJ 8 7,bJ 9 .lss 6 8] [0,1,5,9] (cT 9 .skip (.exit 0))) Qamd
def Qame:SC:=sR [mJ 48 1,mJ 4 48] [4] .ret
def Qamf:SC:=.seq (sR [zJ 5 0] [0,1,5] (bL 0 Qahi)) Qame
def Qa79:SC:=sR [zJ 4 0] [0,1] Qamf
theorem Qa47:mFn prog RT 2 49 Qa79 Aa=true:=by kernel_rfl
def Qauh:SC:=cT 17 (sR [zJ 4 (-1)] [4] .ret) .skip
def Qaui:SC:=.reg [mJ 18 1,cJ 19 .add 18 1,mJ 1 19] [0,1,5]
def Qauj:SC:=.reg [mJ 10 5,cJ 11 .add 10 1,mJ 5 11] [0,1,5]
def Qauk:SC:=.seq (.block 1 (.seq (sR [mJ 12 0,mJ 13 5,iJ 14 1 12 13,lJ 15 14,mJ 16 1,bJ 17 .neq 15 16] [0,1,5,17] Qauh) Qaui)) Qauj
def Qamg:SC:=.seq (sR [mJ 6 5,mJ 7 0,nJ 8 7,bJ 9 .lss 6 8] [0,1,5,9] (cT 9 .skip (.exit 0))) Qauk
def Qaul:SC:=sR [mJ 20 1,mJ 4 20] [4] .ret
def Qaum:SC:=.seq (sR [zJ 5 0] [0,1,5] (bL 0 Qamg)) Qaul
def Qa8a:SC:=sR [zJ 4 0] [0,1] Qaum
theorem Qa48:mFn prog I0 2 21 Qa8a Aa=true:=by kernel_rfl
def Qaun:SC:=cT 18 (sR [zJ 4 (-1)] [4] .ret) .skip
def Qyx:List Item:=[mJ 1 27]
def Qauo:SC:=cT 29 (sR [zJ 4 (-1)] [4] .ret) .skip
def Qaup:SC:=sR [mJ 28 1,cJ 29 .lss 28 0] [0,1,5,29] Qauo
def Qauq:SC:=sR (mJ 21 0::mJ 22 5::iJ 23 2 21 22::fJ 24 1 23::lJ 25 24::mJ 26 1::aJ 27 I0 [.t 25,.t 26]::Qyx) [0,1,5] Qaup
def Qaur:SC:=sR [mJ 19 1,cJ 20 .add 19 1,mJ 1 20] [0,1,5] Qauq
def Qaus:SC:=.reg [mJ 10 5,cJ 11 .add 10 1,mJ 5 11] [0,1,5]
def Qaut:SC:=.seq (.block 1 (.seq (sR [mJ 12 0,mJ 13 5,iJ 14 2 12 13,fJ 15 0 14,lJ 16 15,mJ 17 1,bJ 18 .neq 16 17] [0,1,5,18] Qaun) Qaur)) Qaus
def Qami:SC:=.seq (sR [mJ 6 5,mJ 7 0,nJ 8 7,bJ 9 .lss 6 8] [0,1,5,9] (cT 9 .skip (.exit 0))) Qaut
def Qauu:SC:=sR [mJ 30 1,mJ 4 30] [4] .ret
def Qamh:SC:=.seq (sR [zJ 5 0] [0,1,5] (bL 0 Qami)) Qauu
def Qa8b:SC:=sR [zJ 4 0] [0,1] Qamh
theorem Qa49:mFn prog RR 2 31 Qa8b Aa=true:=by kernel_rfl
def Qyy:List Item:=[mJ 1 8]
def Qauv:SC:=cT 10 (sR [zJ 4 (-1)] [4] .ret) .skip
def Qauw:SC:=sR [mJ 11 1,mJ 4 11] [4] .ret
def Qaux:SC:=.seq (sR [mJ 9 1,cJ 10 .lss 9 0] [1,10] Qauv) Qauw
def Qauy:SC:=sR (fJ 5 0 2::lJ 6 5::mJ 7 1::aJ 8 Sk [.t 6,.t 7]::Qyy) [1] Qaux
def Qa8c:SC:=sR [vJ 2 0,zJ 4 0] [1,2] Qauy
theorem Qa5a:mFn prog PR 2 12 Qa8c Aa=true:=by kernel_rfl
def Qqy:List Item:=[mJ 1 18]
def Qqz:List Item:=[mJ 1 25]
def Qq0:List Item:=[mJ 1 46]
def Qahj:SC:=.reg (mJ 40 0::mJ 41 5::iJ 42 5 40 41::fJ 43 4 42::lJ 44 43::mJ 45 1::aJ 46 Iz [.t 44,.t 45]::Qq0) [0,1,5]
def Qahk:SC:=sR [mJ 38 1,cJ 39 .add 38 1,mJ 1 39] [0,1,5] Qahj
def Qahl:SC:=sR [mJ 33 0,mJ 34 5,mJ 35 1,iJ 36 5 33 34,fJ 37 3 36,sJ 1 37 35] [0,1,5] Qahk
def Qahm:SC:=sR [mJ 31 1,cJ 32 .add 31 1,mJ 1 32] [0,1,5] Qahl
def Qahn:SC:=sR [mJ 26 0,mJ 27 5,mJ 28 1,iJ 29 5 26 27,fJ 30 2 29,sJ 1 30 28] [0,1,5] Qahm
def Qaho:SC:=sR (mJ 19 0::mJ 20 5::iJ 21 5 19 20::fJ 22 1 21::lJ 23 22::mJ 24 1::aJ 25 RN [.t 23,.t 24]::Qqz) [0,1,5] Qahn
def Qahp:SC:=.reg [mJ 10 5,cJ 11 .add 10 1,mJ 5 11] [0,1,5]
def Qad7:SC:=.seq (.block 1 (sR (mJ 12 0::mJ 13 5::iJ 14 5 12 13::fJ 15 0 14::lJ 16 15::mJ 17 1::aJ 18 RM [.t 16,.t 17]::Qqy) [0,1,5] Qaho)) Qahp
def Qaat:SC:=.seq (sR [mJ 6 5,mJ 7 0,nJ 8 7,bJ 9 .lss 6 8] [0,1,5,9] (cT 9 .skip (.exit 0))) Qad7
def Qad8:SC:=sR [mJ 47 1,mJ 4 47] [4] .ret
def Qad9:SC:=.seq (sR [zJ 5 0] [0,1,5] (bL 0 Qaat)) Qad8
def Qauz:SC:=sR [zJ 4 0] [0,1] Qad9
theorem Q1p:mFn prog PY 2 48 Qauz Aa=true:=by kernel_rfl
def Qyz:List Item:=[mJ 1 8]
def Qau0:SC:=sR [mJ 9 1,mJ 4 9] [4] .ret
def Qau1:SC:=sR (fJ 5 2 2::lJ 6 5::mJ 7 1::aJ 8 PY [.t 6,.t 7]::Qyz) [1] Qau0
def Qa8d:SC:=sR [vJ 2 0,zJ 4 0] [1,2] Qau1
theorem Qa5b:mFn prog RP 2 10 Qa8d Aa=true:=by kernel_rfl
def Qum:List Item:=[mJ 1 32]
def Qamj:SC:=.reg (mJ 26 0::mJ 27 5::iJ 28 3 26 27::fJ 29 2 28::lJ 30 29::mJ 31 1::aJ 32 PY [.t 30,.t 31]::Qum) [0,1,5]
def Qamk:SC:=sR [mJ 24 1,cJ 25 .add 24 1,mJ 1 25] [0,1,5] Qamj
def Qaml:SC:=sR [mJ 19 0,mJ 20 5,mJ 21 1,iJ 22 3 19 20,fJ 23 1 22,sJ 1 23 21] [0,1,5] Qamk
def Qamm:SC:=sR [mJ 17 1,cJ 18 .add 17 1,mJ 1 18] [0,1,5] Qaml
def Qamn:SC:=.reg [mJ 10 5,cJ 11 .add 10 1,mJ 5 11] [0,1,5]
def Qamo:SC:=.seq (.block 1 (sR [mJ 12 0,mJ 13 5,mJ 14 1,iJ 15 3 12 13,fJ 16 0 15,sJ 1 16 14] [0,1,5] Qamm)) Qamn
def Qahq:SC:=.seq (sR [mJ 6 5,mJ 7 0,nJ 8 7,bJ 9 .lss 6 8] [0,1,5,9] (cT 9 .skip (.exit 0))) Qamo
def Qamp:SC:=sR [mJ 33 1,mJ 4 33] [4] .ret
def Qamq:SC:=.seq (sR [zJ 5 0] [0,1,5] (bL 0 Qahq)) Qamp
def Qa0s:SC:=sR [zJ 4 0] [0,1] Qamq
theorem Q7x:mFn prog Sj 2 34 Qa0s Aa=true:=by kernel_rfl
def Qy0:List Item:=[mJ 1 8]
def Qau2:SC:=sR [mJ 9 1,mJ 4 9] [4] .ret
def Qau3:SC:=sR (fJ 5 3 2::lJ 6 5::mJ 7 1::aJ 8 I8 [.t 6,.t 7]::Qy0) [1] Qau2
def Qa8e:SC:=sR [vJ 2 0,zJ 4 0] [1,2] Qau3
theorem Qa5c:mFn prog RO 2 10 Qa8e Aa=true:=by kernel_rfl
def Qy1:List Item:=[mJ 1 32]
def Qau6:SC:=.reg [mJ 38 1,cJ 39 .add 38 1,mJ 1 39] [0,1,5]
def Qau7:SC:=sR [mJ 33 0,mJ 34 5,mJ 35 1,iJ 36 4 33 34,fJ 37 3 36,sJ 1 37 35] [0,1,5] Qau6
def Qau8:SC:=sR (mJ 26 0::mJ 27 5::iJ 28 4 26 27::fJ 29 2 28::lJ 30 29::mJ 31 1::aJ 32 Iz [.t 30,.t 31]::Qy1) [0,1,5] Qau7
def Qau9:SC:=sR [mJ 24 1,cJ 25 .add 24 1,mJ 1 25] [0,1,5] Qau8
def Qava:SC:=sR [mJ 19 0,mJ 20 5,mJ 21 1,iJ 22 4 19 20,fJ 23 1 22,sJ 1 23 21] [0,1,5] Qau9
def Qavb:SC:=sR [mJ 17 1,cJ 18 .add 17 1,mJ 1 18] [0,1,5] Qava
def Qavc:SC:=.reg [mJ 10 5,cJ 11 .add 10 1,mJ 5 11] [0,1,5]
def Qavd:SC:=.seq (.block 1 (sR [mJ 12 0,mJ 13 5,mJ 14 1,iJ 15 4 12 13,fJ 16 0 15,sJ 1 16 14] [0,1,5] Qavb)) Qavc
def Qam1:SC:=.seq (sR [mJ 6 5,mJ 7 0,nJ 8 7,bJ 9 .lss 6 8] [0,1,5,9] (cT 9 .skip (.exit 0))) Qavd
def Qamz:SC:=sR [mJ 40 1,mJ 4 40] [4] .ret
def Qam0:SC:=.seq (sR [zJ 5 0] [0,1,5] (bL 0 Qam1)) Qamz
def Qa8f:SC:=sR [zJ 4 0] [0,1] Qam0
theorem NP:mFn prog RN 2 41 Qa8f Aa=true:=by kernel_rfl
def Qave:SC:=.reg [mJ 16 1,cJ 17 .add 16 1,mJ 1 17] [0,1,5]
def Qavf:SC:=.reg [mJ 10 5,cJ 11 .add 10 1,mJ 5 11] [0,1,5]
def Qavg:SC:=.seq (.block 1 (sR [mJ 12 0,mJ 13 5,mJ 14 1,iJ 15 1 12 13,sJ 1 15 14] [0,1,5] Qave)) Qavf
def Qam2:SC:=.seq (sR [mJ 6 5,mJ 7 0,nJ 8 7,bJ 9 .lss 6 8] [0,1,5,9] (cT 9 .skip (.exit 0))) Qavg
def Qavh:SC:=sR [mJ 18 1,mJ 4 18] [4] .ret
def Qavi:SC:=.seq (sR [zJ 5 0] [0,1,5] (bL 0 Qam2)) Qavh
def Qa8g:SC:=sR [zJ 4 0] [0,1] Qavi
theorem NO:mFn prog Iz 2 19 Qa8g Aa=true:=by kernel_rfl
def Qy2:List Item:=[mJ 1 25]
def Qavj:SC:=.reg (mJ 19 0::mJ 20 5::iJ 21 2 19 20::fJ 22 1 21::lJ 23 22::mJ 24 1::aJ 25 Iz [.t 23,.t 24]::Qy2) [0,1,5]
def Qavk:SC:=sR [mJ 17 1,cJ 18 .add 17 1,mJ 1 18] [0,1,5] Qavj
def Qavl:SC:=.reg [mJ 10 5,cJ 11 .add 10 1,mJ 5 11] [0,1,5]
def Qavm:SC:=.seq (.block 1 (sR [mJ 12 0,mJ 13 5,mJ 14 1,iJ 15 2 12 13,fJ 16 0 15,sJ 1 16 14] [0,1,5] Qavk)) Qavl
def Qam3:SC:=.seq (sR [mJ 6 5,mJ 7 0,nJ 8 7,bJ 9 .lss 6 8] [0,1,5,9] (cT 9 .skip (.exit 0))) Qavm
def Qavn:SC:=sR [mJ 26 1,mJ 4 26] [4] .ret
def Qavo:SC:=.seq (sR [zJ 5 0] [0,1,5] (bL 0 Qam3)) Qavn
def Qa8h:SC:=sR [zJ 4 0] [0,1] Qavo
theorem NN:mFn prog RM 2 27 Qa8h Aa=true:=by kernel_rfl
def Qy3:List Item:=[mJ 1 8]
def Qavv:SC:=sR [mJ 9 1,mJ 4 9] [4] .ret
def Qavw:SC:=sR (fJ 5 0 2::lJ 6 5::mJ 7 1::aJ 8 Sj [.t 6,.t 7]::Qy3) [1] Qavv
def Qa8j:SC:=sR [vJ 2 0,zJ 4 0] [1,2] Qavw
theorem Qa5e:mFn prog RL 2 10 Qa8j Aa=true:=by kernel_rfl
def Qu0:List Item:=[fB 5 false]
def Qu1:List Item:=[sJ 1 6 16]
def Qu2:List Item:=[mJ 8 21]
def Qu3:List Item:=sJ 1 7 20::Qu2
def Qu4:List Item:=mJ 17 19::fI 20 (.ext (.t 17) 0)::fI 21 (.ext (.t 17) 1)::eI 7 (.alloc [.sl true 3 []])::Qu3
def Qu5:List Item:=[fB 5 false]
def Qan5:SC:=cT 23 (sR (fI 24 (.bld [.int .i64 0,.int .i64 0,.sl true 5 []] [])::sJ 3 4 24::Qu5) [4,5] .ret) .skip
def Qu6:List Item:=[fB 5 true]
def Qan6:SC:=sR (fJ 25 0 7::lJ 26 25::fI 27 (.iad 3 (.t 26) (kI 0))::tJ 28 3 27::sJ 3 4 28::Qu6) [4,5] .ret
def Qan7:SC:=.seq (sR [mJ 22 8,oJ 23 22] [4,7,23] Qan5) Qan6
def Qah5:SC:=sR (tJ 18 1 6::aJ 19 Rc [.t 18]::Qu4) [4,7,8] Qan7
def Qah6:SC:=sR (mJ 9 1::tJ 10 4 2::fI 11 (.bw 4 [.t 10])::fI 12 (.bld [.int .i64 0,.str [],.sl true 4 [],.sl true 5 [],.sl true 5 []] [(0,1,kI 7),(2,1,.t 11)])::fI 13 (.bw 5 [.t 12])::fI 14 (.bld [.str [],.sl true 1 [],.sl true 5 []] [(0,1,.k (.c (.str [109]))),(1,1,.t 9),(2,1,.t 13)])::fI 15 (.bw 3 [.t 14])::fI 16 (.bld [.sl true 3 []] [(0,1,.t 15)])::eI 6 (.alloc [.sl true 3 []])::Qu1) [4,6] Qah5
def Qa13:SC:=sR (vJ 2 0::eI 4 (.alloc [.int .i64 0,.int .i64 0,.sl true 5 []])::Qu0) [1,2,4] Qah6
theorem Qaw3:mFn prog Sg 2 29 Qa13 Hx=true:=by kernel_rfl
end Go.AE.Y
namespace Go.AE.Y
attribute [local go_sem] cond_true cond_false Bool.not_true Bool.not_false
open Go.Proofs.Tryz
variable {H H0 F:Heap}{K:V→Heap→Prop}
theorem GC (l:List Int)(L:List (Nat×Obj))(t:C)(k:Nat)(H:Heap)(K:V→Heap→Prop)(ho:OwS L 1 (intsOf l) t)(hm:∀p∈L,H p.1=p.2)(hd:(L.map Prod.fst).Nodup)(hb:k+Ar l<2 ^ 62)
  (hK:∀H' L',L'.map Prod.fst=L.map Prod.fst→OwS L' 1 (intsOf (Bj l k)) t→Upd H H' L'→K (.c (.int .i64 ((k+Ar l:Nat):Int))) H'):Qi prog Iz [.c t,.c (.int .i64 (k:Nat))] H K:=by
 rcases ho with ⟨rfl,h1,rfl⟩|⟨y,M,rows,rfl,rfl,bZ,cw,_,ho⟩
 ·have:l=[]:=Jp.1 (by rw[←Qm,h1];rfl);subst this;refine Qb Ab NO ?_;refine Qa ?_;simp only[go_sem];refine Qp (Qa ?_);simp only[go_sem];refine Qe (Qf (Qu (fun m e1 H1=>H1=H∧e1=[(0,.c (.sl true 1 [])),(1,.c (.int .i64 (k:Nat))),(5,.c (.int .i64 0))]) 0 ?_ ?_))
  ·exact⟨rfl,rfl⟩
  ·rintro m e1 H1 ⟨rfl,rfl⟩;refine Qp (Qa ?_);simp only[go_sem];refine Qe (Qc rfl (fun h=>by simp[lk]at h) (fun _=>?_));refine Qr ?_;simp only[go_sem,AE.X.next];refine Qa ?_;simp only[go_sem];refine Qg ?_;simp only[go_sem,Qq,Q1,Aa,Ja,forall_eq,RS.op];exact hK _ [] rfl (.inl ⟨rfl,rfl,rfl⟩) ⟨by simp,fun _ _ _=>rfl⟩
 ·have dq:l.length=rows.length:=by rw[←Qm];exact bZ
  refine Qb Ab NO ?_;refine Qa ?_;simp only[go_sem];refine Qp (Qa ?_);simp only[go_sem];refine Qe (Qf (Qu (fun m e1 H1=>∃(i:Nat) (dn td:List (List C)) (Md Mt:List (Nat×Obj)),m=l.length-i∧i≤l.length∧dn.length=i∧td.length=l.length-i∧(∀r∈dn,r.length=1)∧(∀r∈td,r.length=1)∧
   OwL Md dn.flatten (intsOf (Bj (l.take i) k)).flatten∧OwL Mt td.flatten (intsOf (l.drop i)).flatten∧(Md++Mt).map Prod.fst=M.map Prod.fst∧Kn H H1 ((y,.vec 1 (dn++td))::(Md++Mt)) []∧
   e1=[(0,.c (.aG y 1 0 rows.length)),(1,.c (.int .i64 ((k+Ar (l.take i):Nat):Int))),(5,.c (.int .i64 i))]) l.length ?_ ?_))
  ·exact⟨0,[],rows,[],M,by omega,by omega,rfl,by omega,by simp,cw,.nil,ho,rfl,.startE (fun p hp=>⟨hm p hp,by
    rcases Jz.1 hp with rfl|hp
    ·nofun
    ·obtain⟨z,r,h1,_⟩:=ho.vecs p hp;rw[h1];nofun⟩) hd,rfl⟩
  ·rintro m e1 H1 ⟨i,dn,td,Md,Mt,hm,hi,bq,cF,dK,dF,cy,bI,bu,kn,rfl⟩;have gy:=kn.e 0 rfl;have ai:(dn++td).length=rows.length:=by rw[Jt];omega
   refine Qp (Qa ?_);simp only[go_sem,gy,ai];refine⟨by omega,fun bS=>?_⟩;simp only[LIM]at bS;refine Qe (Qc rfl ?_ ?_)
   ·intro hc;have aa:i<l.length:=(by have:=of_decide_eq_true hc;omega);have aW:i<rows.length:=(by omega);obtain⟨x,hx⟩:∃x,l[i]=x:=⟨_,rfl⟩;have dC:l.drop i=x::l.drop (i+1):=(by rw[Jn aa,hx]);have aO:l.take (i+1)=l.take i++[x]:=(by rw[Jf aa,hx]);obtain⟨r,td,rfl⟩:∃r td',td=r::td':=by
     cases td with
     |nil=>simp at cF;omega
     |cons r td'=>exact⟨r,td',rfl⟩
    have hr:=dF r (by simp);rw[dC,show intsOf (x::l.drop (i+1))=[.int .i64 x]::intsOf (l.drop (i+1)) from rfl]at bI;obtain⟨M1,M2,rfl,dH,fv⟩:=bI.uncons (by rw[hr];rfl);have cS:Ar (l.take (i+1))=Ar (l.take i)+Ar [x]:=(by rw[aO,Pz]);have a9:Ar (l.take (i+1))≤Ar l:=by
     have:=Pz (l.take (i+1)) (l.drop (i+1));rw[Jl]at this;omega
    obtain⟨kk,bD⟩:∃kk,k+Ar (l.take i)=kk:=⟨_,rfl⟩;rw[bD];simp only[Ar]at cS;obtain⟨c1,e1,h1⟩:=dH.inv_atom rfl;obtain⟨rfl,rfl⟩:=h1.inv_nil;subst e1;have ai:∀r:List C,(dn++r::td).length=rows.length:=fun r=>by
     simp only[Jt,Jj]at cF⊢;omega
    have bC:∀r:List C,List.take rows.length (dn++r::td)=dn++r::td:=fun r=>Jd (by rw[ai r];omega);have kn:Kn H H1 (((y,Obj.vec 1 (dn++([.int .i64 x]:List C)::td))::Md)++(M2)) []:=(by simpa only[Jg,Je,Jm,Jk]using kn);have gy:=kn.e 0 rfl;refine Qd ?_;try simp only[go_sem]
    refine Qe (Qf ?_);refine Qa ?_;simp only[go_sem,gy,ai,aW,Cg bq];refine⟨by omega,by omega,fun H2 h2=>?_⟩;rw[Cd bq]at h2;have kn:Kn H H2 (((y,Obj.vec 1 (dn++([.int .i64 ((kk:Nat):Int)]:List C)::td))::Md)++(M2)) []:=kn.stE 0 rfl h2;have gy:=kn.e 0 rfl;refine Qn ?_;simp only[go_sem,AE.X.next];refine⟨Ql,?_⟩;try rw[show ((kk:Nat):Int)+1=((kk+1:Nat):Int)by omega]
    refine Qn ?_;simp only[go_sem,AE.X.next];have e5:k+Ar (l.take (i+1))=(kk+1):=(by omega);refine⟨Ql,l.length-(i+1),by omega,i+1,dn++[[.int .i64 ((kk:Nat):Int)]],td,Md,M2,rfl,by omega,by simp[bq],by simp only[Jj]at cF;omega,?_,fun r hr=>dF r (by simp[hr]),?_,fv,?_,?_,?_⟩
    ·intro r hr;rcases J0.1 hr with hr|hr
     ·exact dK r hr
     ·rw[Ja.1 hr];rfl
    ·rw[aO,OT,bD,MF,List.flatten_append,List.flatten_append];have bG:OwL [] [.int .i64 ((kk:Nat):Int)] [.int .i64 ((kk:Nat):Int)]:=.atom rfl (.nil);have h3:=cy.app bG;rw[Jh]at h3;exact h3
    ·rw[←bu];simp only[Ju,Jg,Jm]
    ·have:=kn;simpa only[Jg,Je,Jm,Jk,Jh]using this
    ·rw[e5];rfl
   ·intro hc;have aC:l.length≤i:=(by have:=of_decide_eq_false hc;omega);rw[Jd aC]at cy;have cE:td=[]:=Jp.1 (by omega);rw[J4 aC]at bI;subst cE;obtain rfl:Mt=[]:=(by cases bI;rfl);rw[Jh]at bu;rw[Jh,Jh]at kn;rw[Jd aC];have cz:rows.length=dn.length:=(by omega);refine Qr ?_;simp only[go_sem,AE.X.next];refine Qa ?_;simp only[go_sem];refine Qg ?_;simp only[go_sem,Qq,Q1,Aa,Ja,forall_eq,RS.op];refine hK _ ((y,.vec 1 dn)::Md) (by simp only[Js,bu]) (.inr ⟨y,Md,dn,by rw[cz],rfl,by rw[Qm,GF];omega,dK,Qbly,cy⟩) ?_;have:=kn.upd;simpa using this
theorem Qbq2 {L:List (Nat×Obj)}{cs:List C}{x:PhiD}(h:OwL L cs x.cells):∃L1:List (Nat×Obj),∃t1:C,cs=[.int .i64 x.to,t1]∧L=L1∧OwS L1 1 (intsOf x.args) t1:=by
 obtain⟨c0,e0,h0⟩:=h.inv_atom rfl;obtain⟨t1,c1,L1,R1,e1,g1,o1,h1⟩:=h0.inv_sl;obtain⟨ee,ge⟩:=h1.inv_nil;exact⟨L1,t1,by rw[e0,e1,ee],by rw[g1,ge,Jh],o1⟩
theorem Qbmh (l:List PhiD)(L:List (Nat×Obj))(t:C)(k:Nat)(H:Heap)(K:V→Heap→Prop)(ho:OwS L 2 (Az l) t)(hm:∀p∈L,H p.1=p.2)(hd:(L.map Prod.fst).Nodup)(hb:k+Qy l<2 ^ 62)
  (hK:∀H' L',L'.map Prod.fst=L.map Prod.fst→OwS L' 2 (Az (B5 l k)) t→Upd H H' L'→K (.c (.int .i64 ((k+Qy l:Nat):Int))) H'):Qi prog RM [.c t,.c (.int .i64 (k:Nat))] H K:=by
 rcases ho with ⟨rfl,h1,rfl⟩|⟨y,M,rows,rfl,rfl,bZ,cw,_,ho⟩
 ·have:l=[]:=Jp.1 (by rw[←Cn,h1];rfl);subst this;refine Qb Ab NN ?_;refine Qa ?_;simp only[go_sem];refine Qp (Qa ?_);simp only[go_sem];refine Qe (Qf (Qu (fun m e1 H1=>H1=H∧e1=[(0,.c (.sl true 2 [])),(1,.c (.int .i64 (k:Nat))),(5,.c (.int .i64 0))]) 0 ?_ ?_))
  ·exact⟨rfl,rfl⟩
  ·rintro m e1 H1 ⟨rfl,rfl⟩;refine Qp (Qa ?_);simp only[go_sem];refine Qe (Qc rfl (fun h=>by simp[lk]at h) (fun _=>?_));refine Qr ?_;simp only[go_sem,AE.X.next];refine Qa ?_;simp only[go_sem];refine Qg ?_;simp only[go_sem,Qq,Q1,Aa,Ja,forall_eq,RS.op];exact hK _ [] rfl (.inl ⟨rfl,rfl,rfl⟩) ⟨by simp,fun _ _ _=>rfl⟩
 ·have dq:l.length=rows.length:=by rw[←Cn];exact bZ
  refine Qb Ab NN ?_;refine Qa ?_;simp only[go_sem];refine Qp (Qa ?_);simp only[go_sem];refine Qe (Qf (Qu (fun m e1 H1=>∃(i:Nat) (dn td:List (List C)) (Md Mt:List (Nat×Obj)),m=l.length-i∧i≤l.length∧dn.length=i∧td.length=l.length-i∧(∀r∈dn,r.length=2)∧(∀r∈td,r.length=2)∧
   OwL Md dn.flatten (Az (B5 (l.take i) k)).flatten∧OwL Mt td.flatten (Az (l.drop i)).flatten∧(Md++Mt).map Prod.fst=M.map Prod.fst∧Kn H H1 ((y,.vec 2 (dn++td))::(Md++Mt)) []∧
   e1=[(0,.c (.aG y 2 0 rows.length)),(1,.c (.int .i64 ((k+Qy (l.take i):Nat):Int))),(5,.c (.int .i64 i))]) l.length ?_ ?_))
  ·exact⟨0,[],rows,[],M,by omega,by omega,rfl,by omega,by simp,cw,.nil,ho,rfl,.startE (fun p hp=>⟨hm p hp,by
    rcases Jz.1 hp with rfl|hp
    ·nofun
    ·obtain⟨z,r,h1,_⟩:=ho.vecs p hp;rw[h1];nofun⟩) hd,rfl⟩
  ·rintro m e1 H1 ⟨i,dn,td,Md,Mt,hm,hi,bq,cF,dK,dF,cy,bI,bu,kn,rfl⟩;have gy:=kn.e 0 rfl;have ai:(dn++td).length=rows.length:=by rw[Jt];omega
   refine Qp (Qa ?_);simp only[go_sem,gy,ai];refine⟨by omega,fun bS=>?_⟩;simp only[LIM]at bS;refine Qe (Qc rfl ?_ ?_)
   ·intro hc;have aa:i<l.length:=(by have:=of_decide_eq_true hc;omega);have aW:i<rows.length:=(by omega);obtain⟨x,hx⟩:∃x,l[i]=x:=⟨_,rfl⟩;have dC:l.drop i=x::l.drop (i+1):=(by rw[Jn aa,hx]);have aO:l.take (i+1)=l.take i++[x]:=(by rw[Jf aa,hx]);obtain⟨r,td,rfl⟩:∃r td',td=r::td':=by
     cases td with
     |nil=>simp at cF;omega
     |cons r td'=>exact⟨r,td',rfl⟩
    have hr:=dF r (by simp);rw[dC,show Az (x::l.drop (i+1))=x.cells::Az (l.drop (i+1)) from rfl]at bI;obtain⟨M1,M2,rfl,dH,fv⟩:=bI.uncons (by rw[hr];rfl);have cS:Qy (l.take (i+1))=Qy (l.take i)+Qy [x]:=(by rw[aO,Px]);have a9:Qy (l.take (i+1))≤Qy l:=by
     have:=Px (l.take (i+1)) (l.drop (i+1));rw[Jl]at this;omega
    obtain⟨kk,bD⟩:∃kk,k+Qy (l.take i)=kk:=⟨_,rfl⟩;rw[bD];simp only[Qy,PhiD.cntU]at cS;obtain⟨_,t1,rfl,rfl,o1⟩:=Qbq2 dH;have eP:=o1.ah;have ai:∀r:List C,(dn++r::td).length=rows.length:=fun r=>by
     simp only[Jt,Jj]at cF⊢;omega
    have bC:∀r:List C,List.take rows.length (dn++r::td)=dn++r::td:=fun r=>Jd (by rw[ai r];omega);have kn:Kn H H1 (((y,Obj.vec 2 (dn++([.int .i64 x.to,t1]:List C)::td))::Md)++(M1++(M2))) []:=(by simpa only[Jg,Je,Jm,Jk]using kn);have gy:=kn.e 0 rfl;refine Qd ?_;try simp only[go_sem]
    refine Qe (Qf ?_);refine Qa ?_;simp only[go_sem,gy,ai,aW,Cg bq,eP];refine⟨by omega,by omega,fun H2 h2=>?_⟩;rw[Cd bq]at h2;have kn:Kn H H2 (((y,Obj.vec 2 (dn++([.int .i64 ((kk:Nat):Int),t1]:List C)::td))::Md)++(M1++(M2))) []:=kn.stE 0 rfl h2;have gy:=kn.e 0 rfl;refine Qa ?_;simp only[go_sem];refine⟨Ql,?_⟩;try rw[show ((kk:Nat):Int)+1=((kk+1:Nat):Int)by omega]
    refine Qn ?_;simp only[go_sem,gy,ai,aW,bC,Da bq,eP];refine⟨by omega,by omega,?_⟩;have kn:Kn H H2 (((y,Obj.vec 2 (dn++([.int .i64 ((kk:Nat):Int),t1]:List C)::td))::Md)++(M1++(M2))) []:=kn;refine GC x.args M1 t1 (kk+1) H2 _ o1 (fun p hp=>(kn.get p (by simp[hp])).1) (DG kn.dE) (by omega) fun H2 A1' dr o1' hu=>?_;have kn:Kn H H2 (((y,Obj.vec 2 (dn++([.int .i64 ((kk:Nat):Int),t1]:List C)::td))::Md)++(A1'++(M2))) []:=Kn.callM kn hu dr o1'.vecs;have gy:=kn.e 0 rfl;have kn:Kn H H2 (((y,Obj.vec 2 (dn++([.int .i64 ((kk:Nat):Int),t1]:List C)::td))::(Md++A1'))++(M2)) []:=(by simpa only[Jg,Je,Jm,Jk]using kn);simp only[go_sem,Qy2];refine Qn ?_;simp only[go_sem,AE.X.next];have e5:k+Qy (l.take (i+1))=((kk+1)+Ar x.args):=(by omega);refine⟨Ql,l.length-(i+1),by omega,i+1,dn++[[.int .i64 ((kk:Nat):Int),t1]],td,Md++(A1'),M2,rfl,by omega,by simp[bq],by simp only[Jj]at cF;omega,?_,fun r hr=>dF r (by simp[hr]),?_,fv,?_,?_,?_⟩
    ·intro r hr;rcases J0.1 hr with hr|hr
     ·exact dK r hr
     ·rw[Ja.1 hr];rfl
    ·rw[aO,Oq,bD,M8,List.flatten_append,List.flatten_append];have bG:OwL (A1'++([])) [.int .i64 ((kk:Nat):Int),t1] (x.mkU kk).cells:=.atom rfl (o1'.cons (.nil));rw[Jh]at bG;refine cy.app (L:=Md) (M:=A1') ?_;exact bG
    ·rw[←bu];simp only[Ju,Jg,dr]
    ·have:=kn;simpa only[Jg,Je,Jm,Jk,Jh]using this
    ·rw[e5];rfl
   ·intro hc;have aC:l.length≤i:=(by have:=of_decide_eq_false hc;omega);rw[Jd aC]at cy;have cE:td=[]:=Jp.1 (by omega);rw[J4 aC]at bI;subst cE;obtain rfl:Mt=[]:=(by cases bI;rfl);rw[Jh]at bu;rw[Jh,Jh]at kn;rw[Jd aC];have cz:rows.length=dn.length:=(by omega);refine Qr ?_;simp only[go_sem,AE.X.next];refine Qa ?_;simp only[go_sem];refine Qg ?_;simp only[go_sem,Qq,Q1,Aa,Ja,forall_eq,RS.op];refine hK _ ((y,.vec 2 dn)::Md) (by simp only[Js,bu]) (.inr ⟨y,Md,dn,by rw[cz],rfl,by rw[Cn,GA];omega,dK,Qbmm,cy⟩) ?_;have:=kn.upd;simpa using this
theorem Qbq1 {L:List (Nat×Obj)}{cs:List C}{x:InsD}(h:OwL L cs x.cells):∃L1:List (Nat×Obj),∃t1:C,cs=[.int .i64 x.op,.int .i64 x.to,t1,.int .i64 x.n]∧L=L1∧OwS L1 1 (intsOf x.args) t1:=by
 obtain⟨c0,e0,h0⟩:=h.inv_atom rfl;obtain⟨c1,e1,h1⟩:=h0.inv_atom rfl;obtain⟨t1,c2,L1,R1,e2,g2,o1,h2⟩:=h1.inv_sl;obtain⟨c3,e3,h3⟩:=h2.inv_atom rfl;obtain⟨ee,ge⟩:=h3.inv_nil;exact⟨L1,t1,by rw[e0,e1,e2,e3,ee],by rw[g2,ge,Jh],o1⟩
theorem Qbmg (l:List InsD)(L:List (Nat×Obj))(t:C)(k:Nat)(H:Heap)(K:V→Heap→Prop)(ho:OwS L 4 (At l) t)(hm:∀p∈L,H p.1=p.2)(hd:(L.map Prod.fst).Nodup)(hb:k+Q0 l<2 ^ 62)
  (hK:∀H' L',L'.map Prod.fst=L.map Prod.fst→OwS L' 4 (At (B6 l k)) t→Upd H H' L'→K (.c (.int .i64 ((k+Q0 l:Nat):Int))) H'):Qi prog RN [.c t,.c (.int .i64 (k:Nat))] H K:=by
 rcases ho with ⟨rfl,h1,rfl⟩|⟨y,M,rows,rfl,rfl,bZ,cw,_,ho⟩
 ·have:l=[]:=Jp.1 (by rw[←Co,h1];rfl);subst this;refine Qb Ab NP ?_;refine Qa ?_;simp only[go_sem];refine Qp (Qa ?_);simp only[go_sem];refine Qe (Qf (Qu (fun m e1 H1=>H1=H∧e1=[(0,.c (.sl true 4 [])),(1,.c (.int .i64 (k:Nat))),(5,.c (.int .i64 0))]) 0 ?_ ?_))
  ·exact⟨rfl,rfl⟩
  ·rintro m e1 H1 ⟨rfl,rfl⟩;refine Qp (Qa ?_);simp only[go_sem];refine Qe (Qc rfl (fun h=>by simp[lk]at h) (fun _=>?_));refine Qr ?_;simp only[go_sem,AE.X.next];refine Qa ?_;simp only[go_sem];refine Qg ?_;simp only[go_sem,Qq,Q1,Aa,Ja,forall_eq,RS.op];exact hK _ [] rfl (.inl ⟨rfl,rfl,rfl⟩) ⟨by simp,fun _ _ _=>rfl⟩
 ·have dq:l.length=rows.length:=by rw[←Co];exact bZ
  refine Qb Ab NP ?_;refine Qa ?_;simp only[go_sem];refine Qp (Qa ?_);simp only[go_sem];refine Qe (Qf (Qu (fun m e1 H1=>∃(i:Nat) (dn td:List (List C)) (Md Mt:List (Nat×Obj)),m=l.length-i∧i≤l.length∧dn.length=i∧td.length=l.length-i∧(∀r∈dn,r.length=4)∧(∀r∈td,r.length=4)∧
   OwL Md dn.flatten (At (B6 (l.take i) k)).flatten∧OwL Mt td.flatten (At (l.drop i)).flatten∧(Md++Mt).map Prod.fst=M.map Prod.fst∧Kn H H1 ((y,.vec 4 (dn++td))::(Md++Mt)) []∧
   e1=[(0,.c (.aG y 4 0 rows.length)),(1,.c (.int .i64 ((k+Q0 (l.take i):Nat):Int))),(5,.c (.int .i64 i))]) l.length ?_ ?_))
  ·exact⟨0,[],rows,[],M,by omega,by omega,rfl,by omega,by simp,cw,.nil,ho,rfl,.startE (fun p hp=>⟨hm p hp,by
    rcases Jz.1 hp with rfl|hp
    ·nofun
    ·obtain⟨z,r,h1,_⟩:=ho.vecs p hp;rw[h1];nofun⟩) hd,rfl⟩
  ·rintro m e1 H1 ⟨i,dn,td,Md,Mt,hm,hi,bq,cF,dK,dF,cy,bI,bu,kn,rfl⟩;have gy:=kn.e 0 rfl;have ai:(dn++td).length=rows.length:=by rw[Jt];omega
   refine Qp (Qa ?_);simp only[go_sem,gy,ai];refine⟨by omega,fun bS=>?_⟩;simp only[LIM]at bS;refine Qe (Qc rfl ?_ ?_)
   ·intro hc;have aa:i<l.length:=(by have:=of_decide_eq_true hc;omega);have aW:i<rows.length:=(by omega);obtain⟨x,hx⟩:∃x,l[i]=x:=⟨_,rfl⟩;have dC:l.drop i=x::l.drop (i+1):=(by rw[Jn aa,hx]);have aO:l.take (i+1)=l.take i++[x]:=(by rw[Jf aa,hx]);obtain⟨r,td,rfl⟩:∃r td',td=r::td':=by
     cases td with
     |nil=>simp at cF;omega
     |cons r td'=>exact⟨r,td',rfl⟩
    have hr:=dF r (by simp);rw[dC,show At (x::l.drop (i+1))=x.cells::At (l.drop (i+1)) from rfl]at bI;obtain⟨M1,M2,rfl,dH,fv⟩:=bI.uncons (by rw[hr];rfl);have cS:Q0 (l.take (i+1))=Q0 (l.take i)+Q0 [x]:=(by rw[aO,Po]);have a9:Q0 (l.take (i+1))≤Q0 l:=by
     have:=Po (l.take (i+1)) (l.drop (i+1));rw[Jl]at this;omega
    obtain⟨kk,bD⟩:∃kk,k+Q0 (l.take i)=kk:=⟨_,rfl⟩;rw[bD];simp only[Q0,InsD.cntU]at cS;obtain⟨_,t1,rfl,rfl,o1⟩:=Qbq1 dH;have eP:=o1.ah;have ai:∀r:List C,(dn++r::td).length=rows.length:=fun r=>by
     simp only[Jt,Jj]at cF⊢;omega
    have bC:∀r:List C,List.take rows.length (dn++r::td)=dn++r::td:=fun r=>Jd (by rw[ai r];omega);have kn:Kn H H1 (((y,Obj.vec 4 (dn++([.int .i64 x.op,.int .i64 x.to,t1,.int .i64 x.n]:List C)::td))::Md)++(M1++(M2))) []:=(by simpa only[Jg,Je,Jm,Jk]using kn);have gy:=kn.e 0 rfl;refine Qd ?_;try simp only[go_sem]
    refine Qe (Qf ?_);refine Qa ?_;simp only[go_sem,gy,ai,aW,Cg bq,eP];refine⟨by omega,by omega,fun H2 h2=>?_⟩;rw[Cd bq]at h2;have kn:Kn H H2 (((y,Obj.vec 4 (dn++([.int .i64 ((kk:Nat):Int),.int .i64 x.to,t1,.int .i64 x.n]:List C)::td))::Md)++(M1++(M2))) []:=kn.stE 0 rfl h2;have gy:=kn.e 0 rfl;refine Qa ?_;simp only[go_sem];refine⟨Ql,?_⟩;try rw[show ((kk:Nat):Int)+1=((kk+1:Nat):Int)by omega]
    refine Qa ?_;simp only[go_sem,gy,ai,aW,Cg bq,eP];refine⟨by omega,by omega,fun H2 h2=>?_⟩;rw[Cd bq]at h2;have kn:Kn H H2 (((y,Obj.vec 4 (dn++([.int .i64 ((kk:Nat):Int),.int .i64 (((kk+1):Nat):Int),t1,.int .i64 x.n]:List C)::td))::Md)++(M1++(M2))) []:=kn.stE 0 rfl h2;have gy:=kn.e 0 rfl;refine Qa ?_;simp only[go_sem];refine⟨Ql,?_⟩;try rw[show (((kk+1):Nat):Int)+1=(((kk+1)+1:Nat):Int)by omega]
    refine Qa ?_;simp only[go_sem,gy,ai,aW,bC,Da bq,eP];refine⟨by omega,by omega,?_⟩;have kn:Kn H H2 (((y,Obj.vec 4 (dn++([.int .i64 ((kk:Nat):Int),.int .i64 (((kk+1):Nat):Int),t1,.int .i64 x.n]:List C)::td))::Md)++(M1++(M2))) []:=kn;refine GC x.args M1 t1 ((kk+1)+1) H2 _ o1 (fun p hp=>(kn.get p (by simp[hp])).1) (DG kn.dE) (by omega) fun H2 A1' dr o1' hu=>?_;have kn:Kn H H2 (((y,Obj.vec 4 (dn++([.int .i64 ((kk:Nat):Int),.int .i64 (((kk+1):Nat):Int),t1,.int .i64 x.n]:List C)::td))::Md)++(A1'++(M2))) []:=Kn.callM kn hu dr o1'.vecs;have gy:=kn.e 0 rfl;have kn:Kn H H2 (((y,Obj.vec 4 (dn++([.int .i64 ((kk:Nat):Int),.int .i64 (((kk+1):Nat):Int),t1,.int .i64 x.n]:List C)::td))::(Md++A1'))++(M2)) []:=(by simpa only[Jg,Je,Jm,Jk]using kn);simp only[go_sem,Qy1];refine Qa ?_;simp only[go_sem,gy,ai,aW,Cg bq,eP];refine⟨by omega,by omega,fun H2 h2=>?_⟩;rw[Cd bq]at h2;have kn:Kn H H2 (((y,Obj.vec 4 (dn++([.int .i64 ((kk:Nat):Int),.int .i64 (((kk+1):Nat):Int),t1,.int .i64 (((((kk+1)+1)+Ar x.args):Nat):Int)]:List C)::td))::(Md++A1'))++(M2)) []:=kn.stE 0 rfl h2;have gy:=kn.e 0 rfl;refine Qn ?_;simp only[go_sem,AE.X.next];refine⟨Ql,?_⟩;try rw[show (((((kk+1)+1)+Ar x.args):Nat):Int)+1=(((((kk+1)+1)+Ar x.args)+1:Nat):Int)by omega]
    refine Qn ?_;simp only[go_sem,AE.X.next];have e5:k+Q0 (l.take (i+1))=((((kk+1)+1)+Ar x.args)+1):=(by omega);refine⟨Ql,l.length-(i+1),by omega,i+1,dn++[[.int .i64 ((kk:Nat):Int),.int .i64 (((kk+1):Nat):Int),t1,.int .i64 (((((kk+1)+1)+Ar x.args):Nat):Int)]],td,Md++(A1'),M2,rfl,by omega,by simp[bq],by simp only[Jj]at cF;omega,?_,fun r hr=>dF r (by simp[hr]),?_,fv,?_,?_,?_⟩
    ·intro r hr;rcases J0.1 hr with hr|hr
     ·exact dK r hr
     ·rw[Ja.1 hr];rfl
    ·rw[aO,OU,bD,O2,List.flatten_append,List.flatten_append];have bG:OwL (A1'++([])) [.int .i64 ((kk:Nat):Int),.int .i64 (((kk+1):Nat):Int),t1,.int .i64 (((((kk+1)+1)+Ar x.args):Nat):Int)] (x.mkU kk).cells:=.atom rfl (.atom rfl (o1'.cons (.atom rfl (.nil))));rw[Jh]at bG;refine cy.app (L:=Md) (M:=A1') ?_;exact bG
    ·rw[←bu];simp only[Ju,Jg,dr]
    ·have:=kn;simpa only[Jg,Je,Jm,Jk,Jh]using this
    ·rw[e5];rfl
   ·intro hc;have aC:l.length≤i:=(by have:=of_decide_eq_false hc;omega);rw[Jd aC]at cy;have cE:td=[]:=Jp.1 (by omega);rw[J4 aC]at bI;subst cE;obtain rfl:Mt=[]:=(by cases bI;rfl);rw[Jh]at bu;rw[Jh,Jh]at kn;rw[Jd aC];have cz:rows.length=dn.length:=(by omega);refine Qr ?_;simp only[go_sem,AE.X.next];refine Qa ?_;simp only[go_sem];refine Qg ?_;simp only[go_sem,Qq,Q1,Aa,Ja,forall_eq,RS.op];refine hK _ ((y,.vec 4 dn)::Md) (by simp only[Js,bu]) (.inr ⟨y,Md,dn,by rw[cz],rfl,by rw[Co,GG];omega,dK,Qbpw,cy⟩) ?_;have:=kn.upd;simpa using this
theorem Qbgo {L:List (Nat×Obj)}{cs:List C}{x:BlkD}(h:OwL L cs x.cells):∃L1 L2 L3:List (Nat×Obj),∃t1 t2 t3:C,cs=[t1,t2,.int .i64 x.jump,.int .i64 x.on,t3]∧L=L1++(L2++(L3))∧OwS L1 2 (Az x.am) t1∧OwS L2 4 (At x.ins) t2∧OwS L3 1 (intsOf x.next) t3:=by
 obtain⟨t1,c0,L1,R1,e0,g0,o1,h0⟩:=h.inv_sl;obtain⟨t2,c1,L2,R2,e1,g1,o2,h1⟩:=h0.inv_sl;obtain⟨c2,e2,h2⟩:=h1.inv_atom rfl;obtain⟨c3,e3,h3⟩:=h2.inv_atom rfl;obtain⟨t3,c4,L3,R3,e4,g4,o3,h4⟩:=h3.inv_sl;obtain⟨ee,ge⟩:=h4.inv_nil;exact⟨L1,L2,L3,t1,t2,t3,by rw[e0,e1,e2,e3,e4,ee],by rw[g0,g1,g4,ge,Jh],o1,o2,o3⟩
theorem Np (l:List BlkD)(L:List (Nat×Obj))(t:C)(k:Nat)(H:Heap)(K:V→Heap→Prop)(ho:OwS L 5 (Qx l) t)(hm:∀p∈L,H p.1=p.2)(hd:(L.map Prod.fst).Nodup)(hb:k+Ax l<2 ^ 62)
  (hK:∀H' L',L'.map Prod.fst=L.map Prod.fst→OwS L' 5 (Qx (Bd l k)) t→Upd H H' L'→K (.c (.int .i64 ((k+Ax l:Nat):Int))) H'):Qi prog PY [.c t,.c (.int .i64 (k:Nat))] H K:=by
 rcases ho with ⟨rfl,h1,rfl⟩|⟨y,M,rows,rfl,rfl,bZ,cw,_,ho⟩
 ·have:l=[]:=Jp.1 (by rw[←AQ,h1];rfl);subst this;refine Qb Ab Q1p ?_;refine Qa ?_;simp only[go_sem];refine Qp (Qa ?_);simp only[go_sem];refine Qe (Qf (Qu (fun m e1 H1=>H1=H∧e1=[(0,.c (.sl true 5 [])),(1,.c (.int .i64 (k:Nat))),(5,.c (.int .i64 0))]) 0 ?_ ?_))
  ·exact⟨rfl,rfl⟩
  ·rintro m e1 H1 ⟨rfl,rfl⟩;refine Qp (Qa ?_);simp only[go_sem];refine Qe (Qc rfl (fun h=>by simp[lk]at h) (fun _=>?_));refine Qr ?_;simp only[go_sem,AE.X.next];refine Qa ?_;simp only[go_sem];refine Qg ?_;simp only[go_sem,Qq,Q1,Aa,Ja,forall_eq,RS.op];exact hK _ [] rfl (.inl ⟨rfl,rfl,rfl⟩) ⟨by simp,fun _ _ _=>rfl⟩
 ·have dq:l.length=rows.length:=by rw[←AQ];exact bZ
  refine Qb Ab Q1p ?_;refine Qa ?_;simp only[go_sem];refine Qp (Qa ?_);simp only[go_sem];refine Qe (Qf (Qu (fun m e1 H1=>∃(i:Nat) (dn td:List (List C)) (Md Mt:List (Nat×Obj)),m=l.length-i∧i≤l.length∧dn.length=i∧td.length=l.length-i∧(∀r∈dn,r.length=5)∧(∀r∈td,r.length=5)∧
   OwL Md dn.flatten (Qx (Bd (l.take i) k)).flatten∧OwL Mt td.flatten (Qx (l.drop i)).flatten∧(Md++Mt).map Prod.fst=M.map Prod.fst∧Kn H H1 ((y,.vec 5 (dn++td))::(Md++Mt)) []∧
   e1=[(0,.c (.aG y 5 0 rows.length)),(1,.c (.int .i64 ((k+Ax (l.take i):Nat):Int))),(5,.c (.int .i64 i))]) l.length ?_ ?_))
  ·exact⟨0,[],rows,[],M,by omega,by omega,rfl,by omega,by simp,cw,.nil,ho,rfl,.startE (fun p hp=>⟨hm p hp,by
    rcases Jz.1 hp with rfl|hp
    ·nofun
    ·obtain⟨z,r,h1,_⟩:=ho.vecs p hp;rw[h1];nofun⟩) hd,rfl⟩
  ·rintro m e1 H1 ⟨i,dn,td,Md,Mt,hm,hi,bq,cF,dK,dF,cy,bI,bu,kn,rfl⟩;have gy:=kn.e 0 rfl;have ai:(dn++td).length=rows.length:=by rw[Jt];omega
   refine Qp (Qa ?_);simp only[go_sem,gy,ai];refine⟨by omega,fun bS=>?_⟩;simp only[LIM]at bS;refine Qe (Qc rfl ?_ ?_)
   ·intro hc;have aa:i<l.length:=(by have:=of_decide_eq_true hc;omega);have aW:i<rows.length:=(by omega);obtain⟨x,hx⟩:∃x,l[i]=x:=⟨_,rfl⟩;have dC:l.drop i=x::l.drop (i+1):=(by rw[Jn aa,hx]);have aO:l.take (i+1)=l.take i++[x]:=(by rw[Jf aa,hx]);obtain⟨r,td,rfl⟩:∃r td',td=r::td':=by
     cases td with
     |nil=>simp at cF;omega
     |cons r td'=>exact⟨r,td',rfl⟩
    have hr:=dF r (by simp);rw[dC,show Qx (x::l.drop (i+1))=x.cells::Qx (l.drop (i+1)) from rfl]at bI;obtain⟨M1,M2,rfl,dH,fv⟩:=bI.uncons (by rw[hr];rfl);have cS:Ax (l.take (i+1))=Ax (l.take i)+Ax [x]:=(by rw[aO,Pv]);have a9:Ax (l.take (i+1))≤Ax l:=by
     have:=Pv (l.take (i+1)) (l.drop (i+1));rw[Jl]at this;omega
    obtain⟨kk,bD⟩:∃kk,k+Ax (l.take i)=kk:=⟨_,rfl⟩;rw[bD];simp only[Ax,BlkD.cntU]at cS;obtain⟨A1,A2,A3,t1,t2,t3,rfl,rfl,o1,o2,o3⟩:=Qbgo dH;have eP:=o1.ah;have gU:=o2.ah;have nq:=o3.ah;have ai:∀r:List C,(dn++r::td).length=rows.length:=fun r=>by
     simp only[Jt,Jj]at cF⊢;omega
    have bC:∀r:List C,List.take rows.length (dn++r::td)=dn++r::td:=fun r=>Jd (by rw[ai r];omega);have kn:Kn H H1 (((y,Obj.vec 5 (dn++([t1,t2,.int .i64 x.jump,.int .i64 x.on,t3]:List C)::td))::Md)++(A1++(A2++(A3++(M2))))) []:=(by simpa only[Jg,Je,Jm,Jk]using kn);have gy:=kn.e 0 rfl;refine Qd ?_;try simp only[go_sem]
    refine Qe (Qf ?_);refine Qa ?_;simp only[go_sem,gy,ai,aW,bC,Da bq,eP,gU,nq];refine⟨by omega,by omega,?_⟩;have kn:Kn H H1 (((y,Obj.vec 5 (dn++([t1,t2,.int .i64 x.jump,.int .i64 x.on,t3]:List C)::td))::Md)++(A1++(A2++(A3++(M2))))) []:=kn;refine Qbmh x.am A1 t1 kk H1 _ o1 (fun p hp=>(kn.get p (by simp[hp])).1) (DG kn.dE) (by omega) fun H2 A1' dr o1' hu=>?_;have kn:Kn H H2 (((y,Obj.vec 5 (dn++([t1,t2,.int .i64 x.jump,.int .i64 x.on,t3]:List C)::td))::Md)++(A1'++(A2++(A3++(M2))))) []:=Kn.callM kn hu dr o1'.vecs;have gy:=kn.e 0 rfl;have kn:Kn H H2 (((y,Obj.vec 5 (dn++([t1,t2,.int .i64 x.jump,.int .i64 x.on,t3]:List C)::td))::(Md++A1'))++(A2++(A3++(M2)))) []:=(by simpa only[Jg,Je,Jm,Jk]using kn);simp only[go_sem,Qqy];refine Qa ?_;simp only[go_sem,gy,ai,aW,bC,Da bq,eP,gU,nq];refine⟨by omega,by omega,?_⟩;have kn:Kn H H2 (((y,Obj.vec 5 (dn++([t1,t2,.int .i64 x.jump,.int .i64 x.on,t3]:List C)::td))::(Md++A1'))++(A2++(A3++(M2)))) []:=kn;refine Qbmg x.ins A2 t2 (kk+Qy x.am) H2 _ o2 (fun p hp=>(kn.get p (by simp[hp])).1) (DG kn.dE) (by omega) fun H2 A2' cN o2' hu=>?_;have kn:Kn H H2 (((y,Obj.vec 5 (dn++([t1,t2,.int .i64 x.jump,.int .i64 x.on,t3]:List C)::td))::(Md++A1'))++(A2'++(A3++(M2)))) []:=Kn.callM kn hu cN o2'.vecs;have gy:=kn.e 0 rfl;have kn:Kn H H2 (((y,Obj.vec 5 (dn++([t1,t2,.int .i64 x.jump,.int .i64 x.on,t3]:List C)::td))::((Md++A1')++A2'))++(A3++(M2))) []:=(by simpa only[Jg,Je,Jm,Jk]using kn);simp only[go_sem,Qqz];refine Qa ?_;simp only[go_sem,gy,ai,aW,Cg bq,eP,gU,nq];refine⟨by omega,by omega,fun H2 h2=>?_⟩;rw[Cd bq]at h2;have kn:Kn H H2 (((y,Obj.vec 5 (dn++([t1,t2,.int .i64 ((((kk+Qy x.am)+Q0 x.ins):Nat):Int),.int .i64 x.on,t3]:List C)::td))::((Md++A1')++A2'))++(A3++(M2))) []:=kn.stE 0 rfl h2;have gy:=kn.e 0 rfl;refine Qa ?_;simp only[go_sem];refine⟨Ql,?_⟩;try rw[show ((((kk+Qy x.am)+Q0 x.ins):Nat):Int)+1=((((kk+Qy x.am)+Q0 x.ins)+1:Nat):Int)by omega]
    refine Qa ?_;simp only[go_sem,gy,ai,aW,Cg bq,eP,gU,nq];refine⟨by omega,by omega,fun H2 h2=>?_⟩;rw[Cd bq]at h2;have kn:Kn H H2 (((y,Obj.vec 5 (dn++([t1,t2,.int .i64 ((((kk+Qy x.am)+Q0 x.ins):Nat):Int),.int .i64 (((((kk+Qy x.am)+Q0 x.ins)+1):Nat):Int),t3]:List C)::td))::((Md++A1')++A2'))++(A3++(M2))) []:=kn.stE 0 rfl h2;have gy:=kn.e 0 rfl;refine Qa ?_;simp only[go_sem];refine⟨Ql,?_⟩;try rw[show (((((kk+Qy x.am)+Q0 x.ins)+1):Nat):Int)+1=(((((kk+Qy x.am)+Q0 x.ins)+1)+1:Nat):Int)by omega]
    refine Qn ?_;simp only[go_sem,gy,ai,aW,bC,Da bq,eP,gU,nq];refine⟨by omega,by omega,?_⟩;have kn:Kn H H2 (((y,Obj.vec 5 (dn++([t1,t2,.int .i64 ((((kk+Qy x.am)+Q0 x.ins):Nat):Int),.int .i64 (((((kk+Qy x.am)+Q0 x.ins)+1):Nat):Int),t3]:List C)::td))::((Md++A1')++A2'))++(A3++(M2))) []:=kn;refine GC x.next A3 t3 ((((kk+Qy x.am)+Q0 x.ins)+1)+1) H2 _ o3 (fun p hp=>(kn.get p (by simp[hp])).1) (DG kn.dE) (by omega) fun H2 A3' iB o3' hu=>?_;have kn:Kn H H2 (((y,Obj.vec 5 (dn++([t1,t2,.int .i64 ((((kk+Qy x.am)+Q0 x.ins):Nat):Int),.int .i64 (((((kk+Qy x.am)+Q0 x.ins)+1):Nat):Int),t3]:List C)::td))::((Md++A1')++A2'))++(A3'++(M2))) []:=Kn.callM kn hu iB o3'.vecs;have gy:=kn.e 0 rfl;have kn:Kn H H2 (((y,Obj.vec 5 (dn++([t1,t2,.int .i64 ((((kk+Qy x.am)+Q0 x.ins):Nat):Int),.int .i64 (((((kk+Qy x.am)+Q0 x.ins)+1):Nat):Int),t3]:List C)::td))::(((Md++A1')++A2')++A3'))++(M2)) []:=(by simpa only[Jg,Je,Jm,Jk]using kn);simp only[go_sem,Qq0];refine Qn ?_;simp only[go_sem,AE.X.next];have e5:k+Ax (l.take (i+1))=(((((kk+Qy x.am)+Q0 x.ins)+1)+1)+Ar x.next):=(by omega);refine⟨Ql,l.length-(i+1),by omega,i+1,dn++[[t1,t2,.int .i64 ((((kk+Qy x.am)+Q0 x.ins):Nat):Int),.int .i64 (((((kk+Qy x.am)+Q0 x.ins)+1):Nat):Int),t3]],td,Md++(A1'++(A2'++(A3'))),M2,rfl,by omega,by simp[bq],by simp only[Jj]at cF;omega,?_,fun r hr=>dF r (by simp[hr]),?_,fv,?_,?_,?_⟩
    ·intro r hr;rcases J0.1 hr with hr|hr
     ·exact dK r hr
     ·rw[Ja.1 hr];rfl
    ·rw[aO,OO,bD,MM,List.flatten_append,List.flatten_append];have bG:OwL (A1'++(A2'++(A3'++([])))) [t1,t2,.int .i64 ((((kk+Qy x.am)+Q0 x.ins):Nat):Int),.int .i64 (((((kk+Qy x.am)+Q0 x.ins)+1):Nat):Int),t3] (x.mkU kk).cells:=o1'.cons (o2'.cons (.atom rfl (.atom rfl (o3'.cons (.nil)))));rw[Jh]at bG;refine cy.app (L:=Md) (M:=A1'++(A2'++(A3'))) ?_;exact bG
    ·rw[←bu];simp only[Ju,Jg,dr,cN,iB]
    ·have:=kn;simpa only[Jg,Je,Jm,Jk,Jh]using this
    ·rw[e5];rfl
   ·intro hc;have aC:l.length≤i:=(by have:=of_decide_eq_false hc;omega);rw[Jd aC]at cy;have cE:td=[]:=Jp.1 (by omega);rw[J4 aC]at bI;subst cE;obtain rfl:Mt=[]:=(by cases bI;rfl);rw[Jh]at bu;rw[Jh,Jh]at kn;rw[Jd aC];have cz:rows.length=dn.length:=(by omega);refine Qr ?_;simp only[go_sem,AE.X.next];refine Qa ?_;simp only[go_sem];refine Qg ?_;simp only[go_sem,Qq,Q1,Aa,Ja,forall_eq,RS.op];refine hK _ ((y,.vec 5 dn)::Md) (by simp only[Js,bu]) (.inr ⟨y,Md,dn,by rw[cz],rfl,by rw[AQ,GT];omega,dK,Qblf,cy⟩) ?_;have:=kn.upd;simpa using this
theorem Qbmk {L:List (Nat×Obj)}{cs:List C}{x:CodeD}(h:OwL L cs x.cells):∃L1:List (Nat×Obj),∃t1:C,cs=[.int .i64 x.params,.int .i64 x.ae,t1]∧L=L1∧OwS L1 5 (Qx x.blocks) t1:=by
 obtain⟨c0,e0,h0⟩:=h.inv_atom rfl;obtain⟨c1,e1,h1⟩:=h0.inv_atom rfl;obtain⟨t1,c2,L1,R1,e2,g2,o1,h2⟩:=h1.inv_sl;obtain⟨ee,ge⟩:=h2.inv_nil;exact⟨L1,t1,by rw[e0,e1,e2,ee],by rw[g2,ge,Jh],o1⟩
theorem Qbgk (l:List CodeD)(L:List (Nat×Obj))(t:C)(k:Nat)(H:Heap)(K:V→Heap→Prop)(ho:OwS L 3 (Qk l) t)(hm:∀p∈L,H p.1=p.2)(hd:(L.map Prod.fst).Nodup)(hb:k+Ay l<2 ^ 62)
  (hK:∀H' L',L'.map Prod.fst=L.map Prod.fst→OwS L' 3 (Qk (Bp l k)) t→Upd H H' L'→K (.c (.int .i64 ((k+Ay l:Nat):Int))) H'):Qi prog Sj [.c t,.c (.int .i64 (k:Nat))] H K:=by
 rcases ho with ⟨rfl,h1,rfl⟩|⟨y,M,rows,rfl,rfl,bZ,cw,_,ho⟩
 ·have:l=[]:=Jp.1 (by rw[←Bi,h1];rfl);subst this;refine Qb Ab Q7x ?_;refine Qa ?_;simp only[go_sem];refine Qp (Qa ?_);simp only[go_sem];refine Qe (Qf (Qu (fun m e1 H1=>H1=H∧e1=[(0,.c (.sl true 3 [])),(1,.c (.int .i64 (k:Nat))),(5,.c (.int .i64 0))]) 0 ?_ ?_))
  ·exact⟨rfl,rfl⟩
  ·rintro m e1 H1 ⟨rfl,rfl⟩;refine Qp (Qa ?_);simp only[go_sem];refine Qe (Qc rfl (fun h=>by simp[lk]at h) (fun _=>?_));refine Qr ?_;simp only[go_sem,AE.X.next];refine Qa ?_;simp only[go_sem];refine Qg ?_;simp only[go_sem,Qq,Q1,Aa,Ja,forall_eq,RS.op];exact hK _ [] rfl (.inl ⟨rfl,rfl,rfl⟩) ⟨by simp,fun _ _ _=>rfl⟩
 ·have dq:l.length=rows.length:=by rw[←Bi];exact bZ
  refine Qb Ab Q7x ?_;refine Qa ?_;simp only[go_sem];refine Qp (Qa ?_);simp only[go_sem];refine Qe (Qf (Qu (fun m e1 H1=>∃(i:Nat) (dn td:List (List C)) (Md Mt:List (Nat×Obj)),m=l.length-i∧i≤l.length∧dn.length=i∧td.length=l.length-i∧(∀r∈dn,r.length=3)∧(∀r∈td,r.length=3)∧
   OwL Md dn.flatten (Qk (Bp (l.take i) k)).flatten∧OwL Mt td.flatten (Qk (l.drop i)).flatten∧(Md++Mt).map Prod.fst=M.map Prod.fst∧Kn H H1 ((y,.vec 3 (dn++td))::(Md++Mt)) []∧
   e1=[(0,.c (.aG y 3 0 rows.length)),(1,.c (.int .i64 ((k+Ay (l.take i):Nat):Int))),(5,.c (.int .i64 i))]) l.length ?_ ?_))
  ·exact⟨0,[],rows,[],M,by omega,by omega,rfl,by omega,by simp,cw,.nil,ho,rfl,.startE (fun p hp=>⟨hm p hp,by
    rcases Jz.1 hp with rfl|hp
    ·nofun
    ·obtain⟨z,r,h1,_⟩:=ho.vecs p hp;rw[h1];nofun⟩) hd,rfl⟩
  ·rintro m e1 H1 ⟨i,dn,td,Md,Mt,hm,hi,bq,cF,dK,dF,cy,bI,bu,kn,rfl⟩;have gy:=kn.e 0 rfl;have ai:(dn++td).length=rows.length:=by rw[Jt];omega
   refine Qp (Qa ?_);simp only[go_sem,gy,ai];refine⟨by omega,fun bS=>?_⟩;simp only[LIM]at bS;refine Qe (Qc rfl ?_ ?_)
   ·intro hc;have aa:i<l.length:=(by have:=of_decide_eq_true hc;omega);have aW:i<rows.length:=(by omega);obtain⟨x,hx⟩:∃x,l[i]=x:=⟨_,rfl⟩;have dC:l.drop i=x::l.drop (i+1):=(by rw[Jn aa,hx]);have aO:l.take (i+1)=l.take i++[x]:=(by rw[Jf aa,hx]);obtain⟨r,td,rfl⟩:∃r td',td=r::td':=by
     cases td with
     |nil=>simp at cF;omega
     |cons r td'=>exact⟨r,td',rfl⟩
    have hr:=dF r (by simp);rw[dC,show Qk (x::l.drop (i+1))=x.cells::Qk (l.drop (i+1)) from rfl]at bI;obtain⟨M1,M2,rfl,dH,fv⟩:=bI.uncons (by rw[hr];rfl);have cS:Ay (l.take (i+1))=Ay (l.take i)+Ay [x]:=(by rw[aO,Pt]);have a9:Ay (l.take (i+1))≤Ay l:=by
     have:=Pt (l.take (i+1)) (l.drop (i+1));rw[Jl]at this;omega
    obtain⟨kk,bD⟩:∃kk,k+Ay (l.take i)=kk:=⟨_,rfl⟩;rw[bD];simp only[Ay,CodeD.cntU]at cS;obtain⟨_,t1,rfl,rfl,o1⟩:=Qbmk dH;have eP:=o1.ah;have ai:∀r:List C,(dn++r::td).length=rows.length:=fun r=>by
     simp only[Jt,Jj]at cF⊢;omega
    have bC:∀r:List C,List.take rows.length (dn++r::td)=dn++r::td:=fun r=>Jd (by rw[ai r];omega);have kn:Kn H H1 (((y,Obj.vec 3 (dn++([.int .i64 x.params,.int .i64 x.ae,t1]:List C)::td))::Md)++(M1++(M2))) []:=(by simpa only[Jg,Je,Jm,Jk]using kn);have gy:=kn.e 0 rfl;refine Qd ?_;try simp only[go_sem]
    refine Qe (Qf ?_);refine Qa ?_;simp only[go_sem,gy,ai,aW,Cg bq,eP];refine⟨by omega,by omega,fun H2 h2=>?_⟩;rw[Cd bq]at h2;have kn:Kn H H2 (((y,Obj.vec 3 (dn++([.int .i64 ((kk:Nat):Int),.int .i64 x.ae,t1]:List C)::td))::Md)++(M1++(M2))) []:=kn.stE 0 rfl h2;have gy:=kn.e 0 rfl;refine Qa ?_;simp only[go_sem];refine⟨Ql,?_⟩;try rw[show ((kk:Nat):Int)+1=((kk+1:Nat):Int)by omega]
    refine Qa ?_;simp only[go_sem,gy,ai,aW,Cg bq,eP];refine⟨by omega,by omega,fun H2 h2=>?_⟩;rw[Cd bq]at h2;have kn:Kn H H2 (((y,Obj.vec 3 (dn++([.int .i64 ((kk:Nat):Int),.int .i64 (((kk+1):Nat):Int),t1]:List C)::td))::Md)++(M1++(M2))) []:=kn.stE 0 rfl h2;have gy:=kn.e 0 rfl;refine Qa ?_;simp only[go_sem];refine⟨Ql,?_⟩;try rw[show (((kk+1):Nat):Int)+1=(((kk+1)+1:Nat):Int)by omega]
    refine Qn ?_;simp only[go_sem,gy,ai,aW,bC,Da bq,eP];refine⟨by omega,by omega,?_⟩;have kn:Kn H H2 (((y,Obj.vec 3 (dn++([.int .i64 ((kk:Nat):Int),.int .i64 (((kk+1):Nat):Int),t1]:List C)::td))::Md)++(M1++(M2))) []:=kn;refine Np x.blocks M1 t1 ((kk+1)+1) H2 _ o1 (fun p hp=>(kn.get p (by simp[hp])).1) (DG kn.dE) (by omega) fun H2 A1' dr o1' hu=>?_;have kn:Kn H H2 (((y,Obj.vec 3 (dn++([.int .i64 ((kk:Nat):Int),.int .i64 (((kk+1):Nat):Int),t1]:List C)::td))::Md)++(A1'++(M2))) []:=Kn.callM kn hu dr o1'.vecs;have gy:=kn.e 0 rfl;have kn:Kn H H2 (((y,Obj.vec 3 (dn++([.int .i64 ((kk:Nat):Int),.int .i64 (((kk+1):Nat):Int),t1]:List C)::td))::(Md++A1'))++(M2)) []:=(by simpa only[Jg,Je,Jm,Jk]using kn);simp only[go_sem,Qum];refine Qn ?_;simp only[go_sem,AE.X.next];have e5:k+Ay (l.take (i+1))=(((kk+1)+1)+Ax x.blocks):=(by omega);refine⟨Ql,l.length-(i+1),by omega,i+1,dn++[[.int .i64 ((kk:Nat):Int),.int .i64 (((kk+1):Nat):Int),t1]],td,Md++(A1'),M2,rfl,by omega,by simp[bq],by simp only[Jj]at cF;omega,?_,fun r hr=>dF r (by simp[hr]),?_,fv,?_,?_,?_⟩
    ·intro r hr;rcases J0.1 hr with hr|hr
     ·exact dK r hr
     ·rw[Ja.1 hr];rfl
    ·rw[aO,OM,bD,Nx,List.flatten_append,List.flatten_append];have bG:OwL (A1'++([])) [.int .i64 ((kk:Nat):Int),.int .i64 (((kk+1):Nat):Int),t1] (x.mkU kk).cells:=.atom rfl (.atom rfl (o1'.cons (.nil)));rw[Jh]at bG;refine cy.app (L:=Md) (M:=A1') ?_;exact bG
    ·rw[←bu];simp only[Ju,Jg,dr]
    ·have:=kn;simpa only[Jg,Je,Jm,Jk,Jh]using this
    ·rw[e5];rfl
   ·intro hc;have aC:l.length≤i:=(by have:=of_decide_eq_false hc;omega);rw[Jd aC]at cy;have cE:td=[]:=Jp.1 (by omega);rw[J4 aC]at bI;subst cE;obtain rfl:Mt=[]:=(by cases bI;rfl);rw[Jh]at bu;rw[Jh,Jh]at kn;rw[Jd aC];have cz:rows.length=dn.length:=(by omega);refine Qr ?_;simp only[go_sem,AE.X.next];refine Qa ?_;simp only[go_sem];refine Qg ?_;simp only[go_sem,Qq,Q1,Aa,Ja,forall_eq,RS.op];refine hK _ ((y,.vec 3 dn)::Md) (by simp only[Js,bu]) (.inr ⟨y,Md,dn,by rw[cz],rfl,by rw[Bi,GQ];omega,dK,Qbfg,cy⟩) ?_;have:=kn.upd;simpa using this
theorem Qbmi {cs:List CodeD}{L:List (Nat×Obj)}{t:C}{k:Nat}(ho:OwS L 3 (Qk cs) t)(hm:∀p∈L,H p.1=p.2)(hd:(L.map Prod.fst).Nodup)(hb:k+Ay cs<2 ^ 62)
  (hK:∀H' L',L'.map Prod.fst=L.map Prod.fst→OwS L' 3 (Qk (Bp cs k)) t→Upd H H' L'→K (.c (.int .i64 ((k+Ay cs:Nat):Int))) H'):Qi prog RL [.ag [t],.c (.int .i64 (k:Nat))] H K:=by
 have aE:=ho.ah;refine Qb Ab Qa5e ?_;refine Qa ?_;simp only[go_sem,aE];refine Qa ?_;simp only[go_sem,aE];refine Qbgk cs L t k H _ ho hm hd hb fun H2 L' hf iW hu=>?_;simp only[go_sem,Qy3];refine Qa ?_;simp only[go_sem];refine Qg ?_;simp only[go_sem,Qq,Q1,Aa,Ja,forall_eq,RS.op];exact hK _ _ hf iW hu
theorem GH (l:List Int)(fl:Bool)(k:Nat)(H:Heap)(K:V→Heap→Prop)(hb:k+Ar l<2 ^ 62)(hK:K (.c (.int .i64 ((k+Ar l:Nat):Int))) H):Qi prog I0 [.c (.sl fl 1 (intsOf (Bj l k))),.c (.int .i64 (k:Nat))] H K:=by
 have ai:(intsOf (Bj l k)).length=l.length:=by rw[Qm,GF]
 refine Qb Ab Qa48 ?_;refine Qa ?_;simp only[go_sem];refine Qp (Qa ?_);simp only[go_sem];refine Qe (Qf (Qu (fun m e1 H1=>∃(i:Nat),m=l.length-i∧i≤l.length∧H1=H∧
  e1=[(0,.c (.sl fl 1 (intsOf (Bj l k)))),(1,.c (.int .i64 ((k+Ar (l.take i):Nat):Int))),(5,.c (.int .i64 i))]) l.length ?_ ?_))
 ·exact⟨0,by omega,by omega,rfl,rfl⟩
 ·rintro m e1 H1 ⟨i,hm,hi,rfl,rfl⟩;refine Qp (Qa ?_);simp only[go_sem,ai];intro bS;simp only[LIM]at bS;refine Qe (Qc rfl ?_ ?_)
  ·intro hc;have aa:i<l.length:=by simpa using hc
   obtain⟨x,hx⟩:∃x,l[i]=x:=⟨_,rfl⟩;have aO:l.take (i+1)=l.take i++[x]:=by rw[Jf aa,hx]
   have cS:Ar (l.take (i+1))=Ar (l.take i)+Ar [x]:=by rw[aO,Pz]
   have a9:Ar (l.take (i+1))≤Ar l:=by
    have:=Pz (l.take (i+1)) (l.drop (i+1));rw[Jl]at this;omega
   obtain⟨kk,bD⟩:∃kk,k+Ar (l.take i)=kk:=⟨_,rfl⟩;rw[bD];simp only[Ar]at cS;have dC:l=l.take i++x::l.drop (i+1):=by
    have:=(Jl i l).symm
    rwa [Jn aa,hx]at this
   have av:(intsOf (Bj l k)).getD i []=[.int .i64 ((kk:Nat):Int)]:=by
    have e:Bj l k=Bj (l.take i) k++Bj (x::l.drop (i+1)) kk:=by
     rw[←bD,←OT,←dC]
    have h1:(intsOf (Bj (l.take i) k)).length=i:=(by rw[Qm,GF,J5];omega);rw[e,MF,Ji,Jx (by omega),h1,Jak];rfl
   refine Qd ?_;try simp only[go_sem]
   refine Qe (Qf ?_);refine Qp (Qa ?_);simp only[go_sem,aa,ai,av];refine Qe (Qc rfl (fun h=>by simp[lk]at h) (fun _=>?_));refine Qd ?_;try simp only[go_sem]
   refine Qn ?_;simp only[go_sem,AE.X.next];refine⟨Ql,?_⟩;try rw[show ((kk:Nat):Int)+1=((kk+1:Nat):Int)by omega]
   refine Qn ?_;simp only[go_sem,AE.X.next];have e5:k+Ar (l.take (i+1))=(kk+1):=by omega
   exact⟨Ql,l.length-(i+1),by omega,i+1,rfl,by omega,by rw[e5];rfl⟩
  ·intro hc;have aC:l.length≤i:=by have:=of_decide_eq_false hc;omega
   rw[Jd aC];refine Qr ?_;simp only[go_sem,AE.X.next];refine Qa ?_;simp only[go_sem];refine Qg ?_;simp only[go_sem,Qq,Q1,Aa,Ja,forall_eq,RS.op];exact hK
theorem Qblt (l:List PhiD)(fl:Bool)(k:Nat)(H:Heap)(K:V→Heap→Prop)(hb:k+Qy l<2 ^ 62)(hK:K (.c (.int .i64 ((k+Qy l:Nat):Int))) H):Qi prog RR [.c (.sl fl 2 (Az (B5 l k))),.c (.int .i64 (k:Nat))] H K:=by
 have ai:(Az (B5 l k)).length=l.length:=by rw[Cn,GA]
 refine Qb Ab Qa49 ?_;refine Qa ?_;simp only[go_sem];refine Qp (Qa ?_);simp only[go_sem];refine Qe (Qf (Qu (fun m e1 H1=>∃(i:Nat),m=l.length-i∧i≤l.length∧H1=H∧
  e1=[(0,.c (.sl fl 2 (Az (B5 l k)))),(1,.c (.int .i64 ((k+Qy (l.take i):Nat):Int))),(5,.c (.int .i64 i))]) l.length ?_ ?_))
 ·exact⟨0,by omega,by omega,rfl,rfl⟩
 ·rintro m e1 H1 ⟨i,hm,hi,rfl,rfl⟩;refine Qp (Qa ?_);simp only[go_sem,ai];intro bS;simp only[LIM]at bS;refine Qe (Qc rfl ?_ ?_)
  ·intro hc;have aa:i<l.length:=by simpa using hc
   obtain⟨x,hx⟩:∃x,l[i]=x:=⟨_,rfl⟩;have aO:l.take (i+1)=l.take i++[x]:=by rw[Jf aa,hx]
   have cS:Qy (l.take (i+1))=Qy (l.take i)+Qy [x]:=by rw[aO,Px]
   have a9:Qy (l.take (i+1))≤Qy l:=by
    have:=Px (l.take (i+1)) (l.drop (i+1));rw[Jl]at this;omega
   obtain⟨kk,bD⟩:∃kk,k+Qy (l.take i)=kk:=⟨_,rfl⟩;rw[bD];simp only[Qy,PhiD.cntU]at cS;have dC:l=l.take i++x::l.drop (i+1):=by
    have:=(Jl i l).symm
    rwa [Jn aa,hx]at this
   have av:(Az (B5 l k)).getD i []=[.int .i64 ((kk:Nat):Int),.sl false 1 (intsOf (Bj x.args (kk+1)))]:=by
    have e:B5 l k=B5 (l.take i) k++B5 (x::l.drop (i+1)) kk:=by
     rw[←bD,←Oq,←dC]
    have h1:(Az (B5 (l.take i) k)).length=i:=(by rw[Cn,GA,J5];omega);rw[e,M8,Ji,Jx (by omega),h1,Jak];rfl
   refine Qd ?_;try simp only[go_sem]
   refine Qe (Qf ?_);refine Qp (Qa ?_);simp only[go_sem,aa,ai,av];refine Qe (Qc rfl (fun h=>by simp[lk]at h) (fun _=>?_));refine Qd ?_;try simp only[go_sem]
   refine Qa ?_;simp only[go_sem];refine⟨Ql,?_⟩;try rw[show ((kk:Nat):Int)+1=((kk+1:Nat):Int)by omega]
   refine Qa ?_;simp only[go_sem,aa,ai,av];refine GH x.args false (kk+1) H1 _ (by omega) ?_;simp only[go_sem,Qyx];refine Qa ?_;simp only[go_sem];refine Qc rfl (fun h=>by have:=of_decide_eq_true h;omega) (fun _=>?_);refine Qd ?_;try simp only[go_sem,AE.X.next]
   refine Qn ?_;simp only[go_sem,AE.X.next];have e5:k+Qy (l.take (i+1))=((kk+1)+Ar x.args):=by omega
   exact⟨Ql,l.length-(i+1),by omega,i+1,rfl,by omega,by rw[e5];rfl⟩
  ·intro hc;have aC:l.length≤i:=by have:=of_decide_eq_false hc;omega
   rw[Jd aC];refine Qr ?_;simp only[go_sem,AE.X.next];refine Qa ?_;simp only[go_sem];refine Qg ?_;simp only[go_sem,Qq,Q1,Aa,Ja,forall_eq,RS.op];exact hK
theorem Qbls (l:List InsD)(fl:Bool)(k:Nat)(H:Heap)(K:V→Heap→Prop)(hb:k+Q0 l<2 ^ 62)(hK:K (.c (.int .i64 ((k+Q0 l:Nat):Int))) H):Qi prog RT [.c (.sl fl 4 (At (B6 l k))),.c (.int .i64 (k:Nat))] H K:=by
 have ai:(At (B6 l k)).length=l.length:=by rw[Co,GG]
 refine Qb Ab Qa47 ?_;refine Qa ?_;simp only[go_sem];refine Qp (Qa ?_);simp only[go_sem];refine Qe (Qf (Qu (fun m e1 H1=>∃(i:Nat),m=l.length-i∧i≤l.length∧H1=H∧
  e1=[(0,.c (.sl fl 4 (At (B6 l k)))),(1,.c (.int .i64 ((k+Q0 (l.take i):Nat):Int))),(5,.c (.int .i64 i))]) l.length ?_ ?_))
 ·exact⟨0,by omega,by omega,rfl,rfl⟩
 ·rintro m e1 H1 ⟨i,hm,hi,rfl,rfl⟩;refine Qp (Qa ?_);simp only[go_sem,ai];intro bS;simp only[LIM]at bS;refine Qe (Qc rfl ?_ ?_)
  ·intro hc;have aa:i<l.length:=by simpa using hc
   obtain⟨x,hx⟩:∃x,l[i]=x:=⟨_,rfl⟩;have aO:l.take (i+1)=l.take i++[x]:=by rw[Jf aa,hx]
   have cS:Q0 (l.take (i+1))=Q0 (l.take i)+Q0 [x]:=by rw[aO,Po]
   have a9:Q0 (l.take (i+1))≤Q0 l:=by
    have:=Po (l.take (i+1)) (l.drop (i+1));rw[Jl]at this;omega
   obtain⟨kk,bD⟩:∃kk,k+Q0 (l.take i)=kk:=⟨_,rfl⟩;rw[bD];simp only[Q0,InsD.cntU]at cS;have dC:l=l.take i++x::l.drop (i+1):=by
    have:=(Jl i l).symm
    rwa [Jn aa,hx]at this
   have av:(At (B6 l k)).getD i []=[.int .i64 ((kk:Nat):Int),.int .i64 (((kk+1):Nat):Int),.sl false 1 (intsOf (Bj x.args ((kk+1)+1))),.int .i64 (((((kk+1)+1)+Ar x.args):Nat):Int)]:=by
    have e:B6 l k=B6 (l.take i) k++B6 (x::l.drop (i+1)) kk:=by
     rw[←bD,←OU,←dC]
    have h1:(At (B6 (l.take i) k)).length=i:=(by rw[Co,GG,J5];omega);rw[e,O2,Ji,Jx (by omega),h1,Jak];rfl
   refine Qd ?_;try simp only[go_sem]
   refine Qe (Qf ?_);refine Qp (Qa ?_);simp only[go_sem,aa,ai,av];refine Qe (Qc rfl (fun h=>by simp[lk]at h) (fun _=>?_));refine Qd ?_;try simp only[go_sem]
   refine Qa ?_;simp only[go_sem];refine⟨Ql,?_⟩;try rw[show ((kk:Nat):Int)+1=((kk+1:Nat):Int)by omega]
   refine Qp (Qa ?_);simp only[go_sem,aa,ai,av];refine Qe (Qc rfl (fun h=>by simp[lk]at h) (fun _=>?_));refine Qd ?_;try simp only[go_sem]
   refine Qa ?_;simp only[go_sem];refine⟨Ql,?_⟩;try rw[show (((kk+1):Nat):Int)+1=(((kk+1)+1:Nat):Int)by omega]
   refine Qa ?_;simp only[go_sem,aa,ai,av];refine GH x.args false ((kk+1)+1) H1 _ (by omega) ?_;simp only[go_sem,Qyw];refine Qp (Qa ?_);simp only[go_sem];refine Qe (Qc rfl (fun h=>by have:=of_decide_eq_true h;omega) (fun _=>?_));refine Qd ?_;try simp only[go_sem]
   refine Qp (Qa ?_);simp only[go_sem,aa,ai,av];refine Qe (Qc rfl (fun h=>by simp[lk]at h) (fun _=>?_));refine Qd ?_;try simp only[go_sem]
   refine Qn ?_;simp only[go_sem,AE.X.next];refine⟨Ql,?_⟩;try rw[show (((((kk+1)+1)+Ar x.args):Nat):Int)+1=(((((kk+1)+1)+Ar x.args)+1:Nat):Int)by omega]
   refine Qn ?_;simp only[go_sem,AE.X.next];have e5:k+Q0 (l.take (i+1))=((((kk+1)+1)+Ar x.args)+1):=by omega
   exact⟨Ql,l.length-(i+1),by omega,i+1,rfl,by omega,by rw[e5];rfl⟩
  ·intro hc;have aC:l.length≤i:=by have:=of_decide_eq_false hc;omega
   rw[Jd aC];refine Qr ?_;simp only[go_sem,AE.X.next];refine Qa ?_;simp only[go_sem];refine Qg ?_;simp only[go_sem,Qq,Q1,Aa,Ja,forall_eq,RS.op];exact hK
theorem Nv (l:List BlkD)(fl:Bool)(k:Nat)(H:Heap)(K:V→Heap→Prop)(hb:k+Ax l<2 ^ 62)(hK:K (.c (.int .i64 ((k+Ax l:Nat):Int))) H):Qi prog PZ [.c (.sl fl 5 (Qx (Bd l k))),.c (.int .i64 (k:Nat))] H K:=by
 have ai:(Qx (Bd l k)).length=l.length:=by rw[AQ,GT]
 refine Qb Ab Qapp ?_;refine Qa ?_;simp only[go_sem];refine Qp (Qa ?_);simp only[go_sem];refine Qe (Qf (Qu (fun m e1 H1=>∃(i:Nat),m=l.length-i∧i≤l.length∧H1=H∧
  e1=[(0,.c (.sl fl 5 (Qx (Bd l k)))),(1,.c (.int .i64 ((k+Ax (l.take i):Nat):Int))),(5,.c (.int .i64 i))]) l.length ?_ ?_))
 ·exact⟨0,by omega,by omega,rfl,rfl⟩
 ·rintro m e1 H1 ⟨i,hm,hi,rfl,rfl⟩;refine Qp (Qa ?_);simp only[go_sem,ai];intro bS;simp only[LIM]at bS;refine Qe (Qc rfl ?_ ?_)
  ·intro hc;have aa:i<l.length:=by simpa using hc
   obtain⟨x,hx⟩:∃x,l[i]=x:=⟨_,rfl⟩;have aO:l.take (i+1)=l.take i++[x]:=by rw[Jf aa,hx]
   have cS:Ax (l.take (i+1))=Ax (l.take i)+Ax [x]:=by rw[aO,Pv]
   have a9:Ax (l.take (i+1))≤Ax l:=by
    have:=Pv (l.take (i+1)) (l.drop (i+1));rw[Jl]at this;omega
   obtain⟨kk,bD⟩:∃kk,k+Ax (l.take i)=kk:=⟨_,rfl⟩;rw[bD];simp only[Ax,BlkD.cntU]at cS;have dC:l=l.take i++x::l.drop (i+1):=by
    have:=(Jl i l).symm
    rwa [Jn aa,hx]at this
   have av:(Qx (Bd l k)).getD i []=[.sl false 2 (Az (B5 x.am kk)),.sl false 4 (At (B6 x.ins (kk+Qy x.am))),.int .i64 ((((kk+Qy x.am)+Q0 x.ins):Nat):Int),.int .i64 (((((kk+Qy x.am)+Q0 x.ins)+1):Nat):Int),.sl false 1 (intsOf (Bj x.next ((((kk+Qy x.am)+Q0 x.ins)+1)+1)))]:=by
    have e:Bd l k=Bd (l.take i) k++Bd (x::l.drop (i+1)) kk:=by
     rw[←bD,←OO,←dC]
    have h1:(Qx (Bd (l.take i) k)).length=i:=(by rw[AQ,GT,J5];omega);rw[e,MM,Ji,Jx (by omega),h1,Jak];rfl
   refine Qd ?_;try simp only[go_sem]
   refine Qe (Qf ?_);refine Qa ?_;simp only[go_sem,aa,ai,av];refine Qblt x.am false kk H1 _ (by omega) ?_;simp only[go_sem,Qqv];refine Qp (Qa ?_);simp only[go_sem];refine Qe (Qc rfl (fun h=>by have:=of_decide_eq_true h;omega) (fun _=>?_));refine Qd ?_;try simp only[go_sem]
   refine Qa ?_;simp only[go_sem,aa,ai,av];refine Qbls x.ins false (kk+Qy x.am) H1 _ (by omega) ?_;simp only[go_sem,Qqw];refine Qp (Qa ?_);simp only[go_sem];refine Qe (Qc rfl (fun h=>by have:=of_decide_eq_true h;omega) (fun _=>?_));refine Qd ?_;try simp only[go_sem]
   refine Qp (Qa ?_);simp only[go_sem,aa,ai,av];refine Qe (Qc rfl (fun h=>by simp[lk]at h) (fun _=>?_));refine Qd ?_;try simp only[go_sem]
   refine Qa ?_;simp only[go_sem];refine⟨Ql,?_⟩;try rw[show ((((kk+Qy x.am)+Q0 x.ins):Nat):Int)+1=((((kk+Qy x.am)+Q0 x.ins)+1:Nat):Int)by omega]
   refine Qp (Qa ?_);simp only[go_sem,aa,ai,av];refine Qe (Qc rfl (fun h=>by simp[lk]at h) (fun _=>?_));refine Qd ?_;try simp only[go_sem]
   refine Qa ?_;simp only[go_sem];refine⟨Ql,?_⟩;try rw[show (((((kk+Qy x.am)+Q0 x.ins)+1):Nat):Int)+1=(((((kk+Qy x.am)+Q0 x.ins)+1)+1:Nat):Int)by omega]
   refine Qa ?_;simp only[go_sem,aa,ai,av];refine GH x.next false ((((kk+Qy x.am)+Q0 x.ins)+1)+1) H1 _ (by omega) ?_;simp only[go_sem,Qqx];refine Qa ?_;simp only[go_sem];refine Qc rfl (fun h=>by have:=of_decide_eq_true h;omega) (fun _=>?_);refine Qd ?_;try simp only[go_sem,AE.X.next]
   refine Qn ?_;simp only[go_sem,AE.X.next];have e5:k+Ax (l.take (i+1))=(((((kk+Qy x.am)+Q0 x.ins)+1)+1)+Ar x.next):=by omega
   exact⟨Ql,l.length-(i+1),by omega,i+1,rfl,by omega,by rw[e5];rfl⟩
  ·intro hc;have aC:l.length≤i:=by have:=of_decide_eq_false hc;omega
   rw[Jd aC];refine Qr ?_;simp only[go_sem,AE.X.next];refine Qa ?_;simp only[go_sem];refine Qg ?_;simp only[go_sem,Qq,Q1,Aa,Ja,forall_eq,RS.op];exact hK
theorem Qbfw (l:List CodeD)(fl:Bool)(k:Nat)(H:Heap)(K:V→Heap→Prop)(hb:k+Ay l<2 ^ 62)(hK:K (.c (.int .i64 ((k+Ay l:Nat):Int))) H):Qi prog Sk [.c (.sl fl 3 (Qk (Bp l k))),.c (.int .i64 (k:Nat))] H K:=by
 have ai:(Qk (Bp l k)).length=l.length:=by rw[Bi,GQ]
 refine Qb Ab Qawx ?_;refine Qa ?_;simp only[go_sem];refine Qp (Qa ?_);simp only[go_sem];refine Qe (Qf (Qu (fun m e1 H1=>∃(i:Nat),m=l.length-i∧i≤l.length∧H1=H∧
  e1=[(0,.c (.sl fl 3 (Qk (Bp l k)))),(1,.c (.int .i64 ((k+Ay (l.take i):Nat):Int))),(5,.c (.int .i64 i))]) l.length ?_ ?_))
 ·exact⟨0,by omega,by omega,rfl,rfl⟩
 ·rintro m e1 H1 ⟨i,hm,hi,rfl,rfl⟩;refine Qp (Qa ?_);simp only[go_sem,ai];intro bS;simp only[LIM]at bS;refine Qe (Qc rfl ?_ ?_)
  ·intro hc;have aa:i<l.length:=by simpa using hc
   obtain⟨x,hx⟩:∃x,l[i]=x:=⟨_,rfl⟩;have aO:l.take (i+1)=l.take i++[x]:=by rw[Jf aa,hx]
   have cS:Ay (l.take (i+1))=Ay (l.take i)+Ay [x]:=by rw[aO,Pt]
   have a9:Ay (l.take (i+1))≤Ay l:=by
    have:=Pt (l.take (i+1)) (l.drop (i+1));rw[Jl]at this;omega
   obtain⟨kk,bD⟩:∃kk,k+Ay (l.take i)=kk:=⟨_,rfl⟩;rw[bD];simp only[Ay,CodeD.cntU]at cS;have dC:l=l.take i++x::l.drop (i+1):=by
    have:=(Jl i l).symm
    rwa [Jn aa,hx]at this
   have av:(Qk (Bp l k)).getD i []=[.int .i64 ((kk:Nat):Int),.int .i64 (((kk+1):Nat):Int),.sl false 5 (Qx (Bd x.blocks ((kk+1)+1)))]:=by
    have e:Bp l k=Bp (l.take i) k++Bp (x::l.drop (i+1)) kk:=by
     rw[←bD,←OM,←dC]
    have h1:(Qk (Bp (l.take i) k)).length=i:=(by rw[Bi,GQ,J5];omega);rw[e,Nx,Ji,Jx (by omega),h1,Jak];rfl
   refine Qd ?_;try simp only[go_sem]
   refine Qe (Qf ?_);refine Qp (Qa ?_);simp only[go_sem,aa,ai,av];refine Qe (Qc rfl (fun h=>by simp[lk]at h) (fun _=>?_));refine Qd ?_;try simp only[go_sem]
   refine Qa ?_;simp only[go_sem];refine⟨Ql,?_⟩;try rw[show ((kk:Nat):Int)+1=((kk+1:Nat):Int)by omega]
   refine Qp (Qa ?_);simp only[go_sem,aa,ai,av];refine Qe (Qc rfl (fun h=>by simp[lk]at h) (fun _=>?_));refine Qd ?_;try simp only[go_sem]
   refine Qa ?_;simp only[go_sem];refine⟨Ql,?_⟩;try rw[show (((kk+1):Nat):Int)+1=(((kk+1)+1:Nat):Int)by omega]
   refine Qa ?_;simp only[go_sem,aa,ai,av];refine Nv x.blocks false ((kk+1)+1) H1 _ (by omega) ?_;simp only[go_sem,Qul];refine Qa ?_;simp only[go_sem];refine Qc rfl (fun h=>by have:=of_decide_eq_true h;omega) (fun _=>?_);refine Qd ?_;try simp only[go_sem,AE.X.next]
   refine Qn ?_;simp only[go_sem,AE.X.next];have e5:k+Ay (l.take (i+1))=(((kk+1)+1)+Ax x.blocks):=by omega
   exact⟨Ql,l.length-(i+1),by omega,i+1,rfl,by omega,by rw[e5];rfl⟩
  ·intro hc;have aC:l.length≤i:=by have:=of_decide_eq_false hc;omega
   rw[Jd aC];refine Qr ?_;simp only[go_sem,AE.X.next];refine Qa ?_;simp only[go_sem];refine Qg ?_;simp only[go_sem,Qq,Q1,Aa,Ja,forall_eq,RS.op];exact hK
theorem O4 {cs:List CodeD}{fl:Bool}{k:Nat}(hb:k+Ay cs<2 ^ 62)(hK:K (.c (.int .i64 ((k+Ay cs:Nat):Int))) H):Qi prog PR [.ag [.sl fl 3 (Qk (Bp cs k))],.c (.int .i64 (k:Nat))] H K:=by
 refine Qb Ab Qa5a ?_;refine Qa ?_;simp only[go_sem];refine Qa ?_;simp only[go_sem];refine Qbfw cs fl k H _ hb ?_;simp only[go_sem,Qyy];refine Qp (Qa ?_);simp only[go_sem];refine Qe (Qc rfl (fun h=>by have:=of_decide_eq_true h;omega) (fun _=>?_));refine Qd ?_;try simp only[go_sem]
 refine Qa ?_;simp only[go_sem];refine Qg ?_;simp only[go_sem,Qq,Q1,Aa,Ja,forall_eq,RS.op];exact hK
theorem Hs {l:List Int}{fl fl2:Bool}(hK:K (.c (.bool true)) H):Qi prog Ip [.c (.sl fl 1 (intsOf l)),.c (.sl fl2 1 (intsOf l))] H K:=by
 refine Qb Ab Qbgb ?_;refine Qa ?_;simp only[go_sem];refine Qp (Qa ?_);simp only[go_sem,Qm];intro hl;simp only[LIM]at hl;refine Qe (Qc rfl (fun h=>by simp at h) (fun _=>?_));refine Qd ?_;try simp only[go_sem]
 refine Qp (Qa ?_);simp only[go_sem];refine Qe (Qf (Qu (fun m e1 H1=>∃(i:Nat),m=l.length-i∧i≤l.length∧H1=H∧
  e1=[(0,.c (.sl fl 1 (intsOf l))),(1,.c (.sl fl2 1 (intsOf l))),(5,.c (.int .i64 i))]) l.length ?_ ?_))
 ·exact⟨0,by omega,by omega,rfl,rfl⟩
 ·rintro m e1 H1 ⟨i,hm,hi,rfl,rfl⟩;refine Qp (Qa ?_);simp only[go_sem,Qm];intro _;refine Qe (Qc rfl ?_ ?_)
  ·intro hc;have aa:i<l.length:=by simpa using hc
   obtain⟨x,hx⟩:∃x,l[i]=x:=⟨_,rfl⟩;have av:(intsOf l).getD i []=[.int .i64 x]:=by
    rw[intsOf,Ji,Jo,Jv aa,hx];rfl
   refine Qd ?_;try simp only[go_sem]
   refine Qe (Qf ?_);refine Ak ?_;simp only[go_sem,aa,Qm,av];refine Qc rfl (fun h=>by simp[lk]at h) (fun _=>?_);refine Qd ?_;try simp only[go_sem,AE.X.next]
   refine Qn ?_;simp only[go_sem,AE.X.next];exact⟨Ql,l.length-(i+1),by omega,i+1,rfl,by omega,rfl⟩
  ·intro hc;refine Qr ?_;simp only[go_sem,AE.X.next];refine Qa ?_;simp only[go_sem];refine Qg ?_;simp only[go_sem,Qq,Q1,Aa,Ja,forall_eq,RS.op];exact hK
theorem Vg {x:PhiD}(hK:K (.c (.bool true)) H):Qi prog Q9n [.ag x.cells,.ag x.cells] H K:=by
 refine Qb Ab Qbmb ?_;refine Qa ?_;simp only[go_sem,PhiD.cells];refine Qp (Qa ?_);simp only[go_sem];refine Qe (Qc rfl (fun h=>by simp[lk]at h) (fun _=>?_));refine Qd ?_;try simp only[go_sem]
 refine Qp (Qa ?_);simp only[go_sem];refine Hs ?_;simp only[go_sem,N8];refine Qe (Qc rfl (fun h=>by simp[lk]at h) (fun _=>?_));refine Qd ?_;try simp only[go_sem]
 refine Qa ?_;simp only[go_sem];refine Qg ?_;simp only[go_sem,Qq,Q1,Aa,Ja,forall_eq,RS.op];exact hK
theorem Yo {l:List PhiD}{fl fl2:Bool}(hK:K (.c (.bool true)) H):Qi prog Q1h [.c (.sl fl 2 (Az l)),.c (.sl fl2 2 (Az l))] H K:=by
 refine Qb Ab Qbgc ?_;refine Qa ?_;simp only[go_sem];refine Qp (Qa ?_);simp only[go_sem,Cn];intro hl;simp only[LIM]at hl;refine Qe (Qc rfl (fun h=>by simp at h) (fun _=>?_));refine Qd ?_;try simp only[go_sem]
 refine Qp (Qa ?_);simp only[go_sem];refine Qe (Qf (Qu (fun m e1 H1=>∃(i:Nat),m=l.length-i∧i≤l.length∧H1=H∧
  e1=[(0,.c (.sl fl 2 (Az l))),(1,.c (.sl fl2 2 (Az l))),(5,.c (.int .i64 i))]) l.length ?_ ?_))
 ·exact⟨0,by omega,by omega,rfl,rfl⟩
 ·rintro m e1 H1 ⟨i,hm,hi,rfl,rfl⟩;refine Qp (Qa ?_);simp only[go_sem,Cn];intro _;refine Qe (Qc rfl ?_ ?_)
  ·intro hc;have aa:i<l.length:=by simpa using hc
   obtain⟨x,hx⟩:∃x,l[i]=x:=⟨_,rfl⟩;have av:(Az l).getD i []=x.cells:=by
    rw[Az,Ji,Jo,Jv aa,hx];rfl
   refine Qd ?_;try simp only[go_sem]
   refine Qe (Qf ?_);refine Ak ?_;simp only[go_sem,aa,Cn,av,PhiD.cells];refine Vg (x:=x) ?_;simp only[go_sem,Q81];refine Qc rfl (fun h=>by simp[lk]at h) (fun _=>?_);refine Qd ?_;try simp only[go_sem,AE.X.next]
   refine Qn ?_;simp only[go_sem,AE.X.next];exact⟨Ql,l.length-(i+1),by omega,i+1,rfl,by omega,rfl⟩
  ·intro hc;refine Qr ?_;simp only[go_sem,AE.X.next];refine Qa ?_;simp only[go_sem];refine Qg ?_;simp only[go_sem,Qq,Q1,Aa,Ja,forall_eq,RS.op];exact hK
theorem Vh {x:InsD}(hK:K (.c (.bool true)) H):Qi prog Q9m [.ag x.cells,.ag x.cells] H K:=by
 refine Qb Ab Qbma ?_;refine Qa ?_;simp only[go_sem,InsD.cells];refine Qp (Qa ?_);simp only[go_sem];refine Qe (Qc rfl (fun h=>by simp[lk]at h) (fun _=>?_));refine Qd ?_;try simp only[go_sem]
 refine Qp (Qa ?_);simp only[go_sem];refine Qe (Qc rfl (fun h=>by simp[lk]at h) (fun _=>?_));refine Qd ?_;try simp only[go_sem]
 refine Qp (Qa ?_);simp only[go_sem];refine Hs ?_;simp only[go_sem,N9];refine Qe (Qc rfl (fun h=>by simp[lk]at h) (fun _=>?_));refine Qd ?_;try simp only[go_sem]
 refine Qp (Qa ?_);simp only[go_sem];refine Qe (Qc rfl (fun h=>by simp[lk]at h) (fun _=>?_));refine Qd ?_;try simp only[go_sem]
 refine Qa ?_;simp only[go_sem];refine Qg ?_;simp only[go_sem,Qq,Q1,Aa,Ja,forall_eq,RS.op];exact hK
theorem YD {l:List InsD}{fl fl2:Bool}(hK:K (.c (.bool true)) H):Qi prog Q1g [.c (.sl fl 4 (At l)),.c (.sl fl2 4 (At l))] H K:=by
 refine Qb Ab Qbga ?_;refine Qa ?_;simp only[go_sem];refine Qp (Qa ?_);simp only[go_sem,Co];intro hl;simp only[LIM]at hl;refine Qe (Qc rfl (fun h=>by simp at h) (fun _=>?_));refine Qd ?_;try simp only[go_sem]
 refine Qp (Qa ?_);simp only[go_sem];refine Qe (Qf (Qu (fun m e1 H1=>∃(i:Nat),m=l.length-i∧i≤l.length∧H1=H∧
  e1=[(0,.c (.sl fl 4 (At l))),(1,.c (.sl fl2 4 (At l))),(5,.c (.int .i64 i))]) l.length ?_ ?_))
 ·exact⟨0,by omega,by omega,rfl,rfl⟩
 ·rintro m e1 H1 ⟨i,hm,hi,rfl,rfl⟩;refine Qp (Qa ?_);simp only[go_sem,Co];intro _;refine Qe (Qc rfl ?_ ?_)
  ·intro hc;have aa:i<l.length:=by simpa using hc
   obtain⟨x,hx⟩:∃x,l[i]=x:=⟨_,rfl⟩;have av:(At l).getD i []=x.cells:=by
    rw[At,Ji,Jo,Jv aa,hx];rfl
   refine Qd ?_;try simp only[go_sem]
   refine Qe (Qf ?_);refine Ak ?_;simp only[go_sem,aa,Co,av,InsD.cells];refine Vh (x:=x) ?_;simp only[go_sem,Q80];refine Qc rfl (fun h=>by simp[lk]at h) (fun _=>?_);refine Qd ?_;try simp only[go_sem,AE.X.next]
   refine Qn ?_;simp only[go_sem,AE.X.next];exact⟨Ql,l.length-(i+1),by omega,i+1,rfl,by omega,rfl⟩
  ·intro hc;refine Qr ?_;simp only[go_sem,AE.X.next];refine Qa ?_;simp only[go_sem];refine Qg ?_;simp only[go_sem,Qq,Q1,Aa,Ja,forall_eq,RS.op];exact hK
theorem Qbo6 {x:BlkD}(hK:K (.c (.bool true)) H):Qi prog R7 [.ag x.cells,.ag x.cells] H K:=by
 refine Qb Ab Qbay ?_;refine Qa ?_;simp only[go_sem,BlkD.cells];refine Qp (Qa ?_);simp only[go_sem];refine Yo ?_;simp only[go_sem,Q4e];refine Qe (Qc rfl (fun h=>by simp[lk]at h) (fun _=>?_));refine Qd ?_;try simp only[go_sem]
 refine Qp (Qa ?_);simp only[go_sem];refine YD ?_;simp only[go_sem,Q4f];refine Qe (Qc rfl (fun h=>by simp[lk]at h) (fun _=>?_));refine Qd ?_;try simp only[go_sem]
 refine Qp (Qa ?_);simp only[go_sem];refine Qe (Qc rfl (fun h=>by simp[lk]at h) (fun _=>?_));refine Qd ?_;try simp only[go_sem]
 refine Qp (Qa ?_);simp only[go_sem];refine Qe (Qc rfl (fun h=>by simp[lk]at h) (fun _=>?_));refine Qd ?_;try simp only[go_sem]
 refine Qp (Qa ?_);simp only[go_sem];refine Hs ?_;simp only[go_sem,Q4g];refine Qe (Qc rfl (fun h=>by simp[lk]at h) (fun _=>?_));refine Qd ?_;try simp only[go_sem]
 refine Qa ?_;simp only[go_sem];refine Qg ?_;simp only[go_sem,Qq,Q1,Aa,Ja,forall_eq,RS.op];exact hK
theorem Qblm {l:List BlkD}{fl fl2:Bool}(hK:K (.c (.bool true)) H):Qi prog RU [.c (.sl fl 5 (Qx l)),.c (.sl fl2 5 (Qx l))] H K:=by
 refine Qb Ab Qa45 ?_;refine Qa ?_;simp only[go_sem];refine Qp (Qa ?_);simp only[go_sem,AQ];intro hl;simp only[LIM]at hl;refine Qe (Qc rfl (fun h=>by simp at h) (fun _=>?_));refine Qd ?_;try simp only[go_sem]
 refine Qp (Qa ?_);simp only[go_sem];refine Qe (Qf (Qu (fun m e1 H1=>∃(i:Nat),m=l.length-i∧i≤l.length∧H1=H∧
  e1=[(0,.c (.sl fl 5 (Qx l))),(1,.c (.sl fl2 5 (Qx l))),(5,.c (.int .i64 i))]) l.length ?_ ?_))
 ·exact⟨0,by omega,by omega,rfl,rfl⟩
 ·rintro m e1 H1 ⟨i,hm,hi,rfl,rfl⟩;refine Qp (Qa ?_);simp only[go_sem,AQ];intro _;refine Qe (Qc rfl ?_ ?_)
  ·intro hc;have aa:i<l.length:=by simpa using hc
   obtain⟨x,hx⟩:∃x,l[i]=x:=⟨_,rfl⟩;have av:(Qx l).getD i []=x.cells:=by
    rw[Qx,Ji,Jo,Jv aa,hx];rfl
   refine Qd ?_;try simp only[go_sem]
   refine Qe (Qf ?_);refine Ak ?_;simp only[go_sem,aa,AQ,av,BlkD.cells];refine Qbo6 (x:=x) ?_;simp only[go_sem,Qyu];refine Qc rfl (fun h=>by simp[lk]at h) (fun _=>?_);refine Qd ?_;try simp only[go_sem,AE.X.next]
   refine Qn ?_;simp only[go_sem,AE.X.next];exact⟨Ql,l.length-(i+1),by omega,i+1,rfl,by omega,rfl⟩
  ·intro hc;refine Qr ?_;simp only[go_sem,AE.X.next];refine Qa ?_;simp only[go_sem];refine Qg ?_;simp only[go_sem,Qq,Q1,Aa,Ja,forall_eq,RS.op];exact hK
theorem E5 {x:CodeD}(hK:K (.c (.bool true)) H):Qi prog HP [.ag x.cells,.ag x.cells] H K:=by
 refine Qb Ab Qbf8 ?_;refine Qa ?_;simp only[go_sem,CodeD.cells];refine Qp (Qa ?_);simp only[go_sem];refine Qe (Qc rfl (fun h=>by simp[lk]at h) (fun _=>?_));refine Qd ?_;try simp only[go_sem]
 refine Qp (Qa ?_);simp only[go_sem];refine Qe (Qc rfl (fun h=>by simp[lk]at h) (fun _=>?_));refine Qd ?_;try simp only[go_sem]
 refine Qp (Qa ?_);simp only[go_sem];refine Qblm ?_;simp only[go_sem,Q8y];refine Qe (Qc rfl (fun h=>by simp[lk]at h) (fun _=>?_));refine Qd ?_;try simp only[go_sem]
 refine Qa ?_;simp only[go_sem];refine Qg ?_;simp only[go_sem,Qq,Q1,Aa,Ja,forall_eq,RS.op];exact hK
theorem Qbo7 {l:List CodeD}{fl fl2:Bool}(hK:K (.c (.bool true)) H):Qi prog R6 [.c (.sl fl 3 (Qk l)),.c (.sl fl2 3 (Qk l))] H K:=by
 refine Qb Ab Qbaz ?_;refine Qa ?_;simp only[go_sem];refine Qp (Qa ?_);simp only[go_sem,Bi];intro hl;simp only[LIM]at hl;refine Qe (Qc rfl (fun h=>by simp at h) (fun _=>?_));refine Qd ?_;try simp only[go_sem]
 refine Qp (Qa ?_);simp only[go_sem];refine Qe (Qf (Qu (fun m e1 H1=>∃(i:Nat),m=l.length-i∧i≤l.length∧H1=H∧
  e1=[(0,.c (.sl fl 3 (Qk l))),(1,.c (.sl fl2 3 (Qk l))),(5,.c (.int .i64 i))]) l.length ?_ ?_))
 ·exact⟨0,by omega,by omega,rfl,rfl⟩
 ·rintro m e1 H1 ⟨i,hm,hi,rfl,rfl⟩;refine Qp (Qa ?_);simp only[go_sem,Bi];intro _;refine Qe (Qc rfl ?_ ?_)
  ·intro hc;have aa:i<l.length:=by simpa using hc
   obtain⟨x,hx⟩:∃x,l[i]=x:=⟨_,rfl⟩;have av:(Qk l).getD i []=x.cells:=by
    rw[Qk,Ji,Jo,Jv aa,hx];rfl
   refine Qd ?_;try simp only[go_sem]
   refine Qe (Qf ?_);refine Ak ?_;simp only[go_sem,aa,Bi,av,CodeD.cells];refine E5 (x:=x) ?_;simp only[go_sem,Q4h];refine Qc rfl (fun h=>by simp[lk]at h) (fun _=>?_);refine Qd ?_;try simp only[go_sem,AE.X.next]
   refine Qn ?_;simp only[go_sem,AE.X.next];exact⟨Ql,l.length-(i+1),by omega,i+1,rfl,by omega,rfl⟩
  ·intro hc;refine Qr ?_;simp only[go_sem,AE.X.next];refine Qa ?_;simp only[go_sem];refine Qg ?_;simp only[go_sem,Qq,Q1,Aa,Ja,forall_eq,RS.op];exact hK
theorem Hr {cs:List CodeD}{fl fl2:Bool}(hK:K (.c (.bool true)) H):Qi prog In [.ag [.sl fl 3 (Qk cs)],.ag [.sl fl2 3 (Qk cs)]] H K:=by
 refine Qb Ab Qbge ?_;refine Qa ?_;simp only[go_sem];refine Qp (Qa ?_);simp only[go_sem];refine Qbo7 ?_;simp only[go_sem,Q85];refine Qe (Qc rfl (fun h=>by simp[lk]at h) (fun _=>?_));refine Qd ?_;try simp only[go_sem]
 refine Qa ?_;simp only[go_sem];refine Qg ?_;simp only[go_sem,Qq,Q1,Aa,Ja,forall_eq,RS.op];exact hK
end Go.AE.Y
namespace Go.AE.Y
attribute [local go_sem] cond_true cond_false Bool.not_true Bool.not_false
open Go.Proofs.Tryz
variable {H:Heap}{K:V→Heap→Prop}
attribute [local instance] Classical.propDecidable
def Qb2y (x:InsD):Option Nat:=if BF x.op then some x.to.toNat else none
def toN (l:List Int):List Nat:=l.map Int.toNat
def Qb2q (q:CodeD)(b m:Nat):List Nat:=(((q.blocks[m]?.map BlkD.am).getD []).map fun p=>(p.args.getD ((Bw (gnx q) (m:Int) q.blocks.length).idxOf (b:Int)) 0).toNat)
def Qb2t (q:CodeD):Flo where
 n:=q.blocks.length
 nx b:=nxN (gnx q) b
 on b:=match q.blocks[b]? with
  |some y=>if y.jump=1 then []else [y.on.toNat]
  |none=>[]
 ins b:=match q.blocks[b]? with
  |some y=>y.ins.map fun x=>(Qb2y x,toN x.args)
  |none=>[]
 ph b:=match q.blocks[b]? with
  |some y=>y.am.map fun p=>p.to.toNat
  |none=>[]
 ea:=Qb2q q
def rIn (q:CodeD)(v:Int):Prop:=0≤v∧v<q.ae
structure BlkD.ok (q:CodeD)(b:Nat)(y:BlkD):Prop where
 nxl:y.next.length≤2
 nx:∀v∈y.next,1≤v∧v<q.blocks.length
 jmp:y.jump=1∨y.jump=2∨y.jump=3
 on:¬y.jump=1→rIn q y.on
 args:∀x∈y.ins,∀v∈x.args,rIn q v
 to:∀x∈y.ins,BF x.op=true→rIn q x.to
 pto:∀p∈y.am,rIn q p.to
 pargs:∀p∈y.am,∀v∈p.args,rIn q v
 pal:∀p∈y.am,p.args.length=(Bw (gnx q) (b:Int) q.blocks.length).length
 al:∀x∈y.ins,x.args.length≤3
structure CodeD.ok (q:CodeD):Prop where
 r0:0≤q.ae
 r1:q.ae≤300
 b0:0<q.blocks.length
 b1:q.blocks.length≤160
 bs:∀(b:Nat) (h:b<q.blocks.length),q.blocks[b].ok q b
 il:∀(b:Nat) (h:b<q.blocks.length),q.blocks[b].ins.length≤1200∧q.blocks[b].am.length≤1200
theorem Kr {α:Type}{f:α→Nat}{l:List α}{x:α}(h:x∈l):f x≤A8 f l:=by
 induction l with
 |nil=>simp at h
 |cons y l ih=>
  simp only[A8,Js,List.sum_cons]at *;rcases Jz.1 h with rfl|h
  ·omega
  ·have:=ih h;omega
theorem TL {cs:List CodeD}(h:BZ cs=true){k:Nat}(hk:k<cs.length):cs[k].ok:=by
 obtain⟨_,h2,h3⟩:=of_decide_eq_true h;obtain⟨g1,g2⟩:=h2 k hk;simp only[C8,Jq,decide_eq_true_eq]at g1;refine⟨by omega,by omega,by omega,by omega,fun b hb=>?_,fun b hb=>?_⟩
 ·have g:=g2 b hb;simp only[blkG,Jq]at g;obtain⟨⟨⟨j,nx⟩,ins⟩,ph⟩:=g;simp only[Cp,Jq,decide_eq_true_eq]at j;obtain⟨j1,j2⟩:=j;rw[Jam]at nx ins ph;have hj:(cs[k].blocks[b].jump=1∨cs[k].blocks[b].jump=2∨cs[k].blocks[b].jump=3)∧cs[k].blocks[b].next.length≤2:=by
   rw[BI]at j1;split at j1
   ·omega
   ·split at j1
    ·omega
    ·split at j1 <;> omega
  have hi:∀x∈cs[k].blocks[b].ins,(∀v∈x.args,rIn cs[k] v)∧(BF x.op=true→rIn cs[k] x.to):=fun x hx=>by
   have:=ins x hx;simp only[insG,insH,Cb,Jq,Jam,decide_eq_true_eq,FN hk]at this;obtain⟨⟨⟨_,a1⟩,a2⟩,_⟩:=this;refine⟨fun v hv=>by have:=a1 v hv;exact⟨by omega,by omega⟩,fun hm=>?_⟩;rw[insT,hm,if_pos rfl,decide_eq_true_eq]at a2;exact⟨by omega,by omega⟩
  have kd:∀x∈cs[k].blocks[b].ins,x.args.length≤3:=fun x hx=>by
   have:=ins x hx;simp only[insG,Jq]at this;have h3:=this.2;rw[insL]at h3;split at h3
   ·simp only[Jq,decide_eq_true_eq]at h3;have hn:x.n.toNat<cs.length:=(by omega);have:=(h2 x.n.toNat hn).1;simp only[C8,Jq,decide_eq_true_eq]at this;rw[EO hn]at h3;omega
   ·simp only[Jq,decide_eq_true_eq]at h3;have:=Y4 (op:=x.op);omega
  have hp:∀p∈cs[k].blocks[b].am,rIn cs[k] p.to∧(∀v∈p.args,rIn cs[k] v)∧p.args.length=(Bw (gnx cs[k]) (b:Int) cs[k].blocks.length).length:=fun p hp=>by
   have:=ph p hp;simp only[phiG,Cb,Jq,Jam,decide_eq_true_eq,AQ]at this;obtain⟨⟨⟨_,a1⟩,a2⟩,a3⟩:=this;have hgn:(fun i=>(cs[k].blocks.map BlkD.next).getD i [])=gnx cs[k]:=rfl;rw[hgn]at a1;exact⟨⟨by omega,by omega⟩,fun v hv=>by have:=a2 v hv;exact⟨by omega,by omega⟩,by omega⟩
  refine⟨hj.2,fun v hv=>?_,hj.1,fun hn=>?_,fun x hx=>(hi x hx).1,fun x hx=>(hi x hx).2,fun p h=>(hp p h).1,fun p h=>(hp p h).2.1,fun p h=>(hp p h).2.2,kd⟩
  ·have:=nx v hv;simp only[AN,decide_eq_true_eq,AQ]at this;omega
  ·rw[if_neg hn,decide_eq_true_eq]at j2;exact⟨by omega,by omega⟩
 ·have a1:=Kr (f:=cntQ) (J2 hk);have a2:=Kr (f:=cntY) (J2 hb);simp only[cntQ,cntY]at *;omega
variable {q:CodeD}
theorem Qb0z {b:Nat}(h:b<q.blocks.length):gnx q b=q.blocks[b].next:=by simp[gnx,Ji,h]
theorem CodeD.ok.next (h:q.ok){b m:Nat}(hb:b<q.blocks.length)(hm:m∈(Qb2t q).nx b):m<q.blocks.length∧(m:Int)∈gnx q b:=by
 obtain⟨v,hv,rfl⟩:=Jw.1 hm;have fE:=hv;rw[Qb0z hb]at fE;have:=(h.bs b hb).nx v fE;refine⟨by omega,?_⟩;have e:((v.toNat:Nat):Int)=v:=by omega
 rw[e];exact hv
theorem IsIx.idx {ns:List Int}{v r:Int}(h:IsIx ns v r)(hm:v∈ns):r=(ns.idxOf v:Nat):=by
 rcases h with ⟨_,hn⟩|⟨i,rfl,h1,h2,h3⟩
 ·exact absurd hm hn
 ·have h4:ns[i]=v:=by rw[←h2,Ji,Jv h1];rfl
  have h5:ns.idxOf v=i:=by
   have e:ns=ns.take i++ns[i]::ns.drop (i+1):=by rw[←Jn h1,Jl]
   rw[e,List.idxOf_append,if_neg h3,h4];simp[J5];omega
  rw[h5]
end Go.AE.Y
namespace Go.AE.Y
attribute [local go_sem] cond_true cond_false Bool.not_true Bool.not_false
attribute [local instance] Classical.propDecidable
open Go.Proofs.Tryz
variable {H H' H0 F:Heap}{K:V→Heap→Prop}{fns:List Fn}{L:List (Nat×Obj)}
theorem Py:∀l:List Int,Ar l=l.length
 |[]=>rfl
 |_::r=>by rw[Ar,Py r,Jj];omega
theorem Ot {A:Nat}:∀l:List PhiD,(∀x∈l,x.args.length≤A)→Qy l≤l.length * (1+A)
 |[],_=>Jai _
 |x::r,h=>by
  have h1:=Ot r fun y hy=>h y (by simp[hy]);have h2:=h x (by simp);simp only[Qy,PhiD.cntU,Py,Jj,Jal];omega
theorem OV {A:Nat}:∀l:List InsD,(∀x∈l,x.args.length≤A)→Q0 l≤l.length * (3+A)
 |[],_=>Jai _
 |x::r,h=>by
  have h1:=OV r fun y hy=>h y (by simp[hy]);have h2:=h x (by simp);simp only[Q0,InsD.cntU,Py,Jj,Jal];omega
theorem OP {A:Nat}:∀l:List BlkD,(∀x∈l,x.cntU≤A)→Ax l≤l.length * A
 |[],_=>Jai _
 |x::r,h=>by
  have h1:=OP r fun y hy=>h y (by simp[hy]);have h2:=h x (by simp);simp only[Ax,Jj,Jal];omega
theorem ON {A:Nat}:∀l:List CodeD,(∀x∈l,x.cntU≤A)→Ay l≤l.length * A
 |[],_=>Jai _
 |x::r,h=>by
  have h1:=ON r fun y hy=>h y (by simp[hy]);have h2:=h x (by simp);simp only[Ay,Jj,Jal];omega
theorem Xj {cs:List CodeD}(h:BZ cs=true):Ay cs≤2 ^ 50:=by
 have hl:=(of_decide_eq_true h).1.2;refine Jaw (ON (A:=2 ^ 45) cs fun c hc=>?_) (by omega);obtain⟨k,hk,rfl⟩:=J9.1 hc;have hs:=Xk h hk;have ho:=TL h hk;have hb:=OP (A:=2 ^ 37) cs[k].blocks fun b hb=>by
  have h1:=hs.bs b hb;obtain⟨j,hj,rfl⟩:=J9.1 hb;obtain⟨i1,i2⟩:=ho.il j hj;have a1:=Ot _ h1.pa;have a2:=OV _ h1.ia;have a3:=J6 (1+1000000) i2;have a4:=J6 (3+1000000) i1;have a5:=h1.n;simp only[BlkD.cntU,Py];omega
 have h1:=ho.b1;have h2:=J6 (2 ^ 37) h1;simp only[CodeD.cntU];omega
theorem Ku (fns:List Fn):Ay (lowP fns)≤2 ^ 50:=by
 rw[lowP];split
 ·rename_i h
  rw[AH,Jq]at h;exact Xj h.2
 ·exact Jai _
theorem Q06 {c:C}(hc:c.ah=false)(g:GK H)(hs:SzE I6 (.ag [c]) (okFs c))(hK:∀H',K (.c (.bool true)) H'):Qi prog Ts [.ag [c]] H K:=by
 refine Qb Ab Qsd ?_;refine Qa ?_;simp only[go_sem,hc];refine Qa ?_;simp only[go_sem,hc];refine Qa ?_;simp only[go_sem,hc];refine hs 1048576 H _ (by omega) (by omega) fun r h1 h2 hr=>?_;simp only[go_sem,Qet,Jb,Jc];refine Qp (Qa ?_);simp only[go_sem];refine Qe (Qc rfl (fun hn=>?_) (fun hn=>?_))
 ·refine Qa ?_;simp only[go_sem];refine Qg ?_;simp only[go_sem,Qq,Q1,Ad,Ja,forall_eq,RS.op];exact hK _
 have h0:0≤r:=by have:=of_decide_eq_false hn;omega
 obtain⟨n,⟨fns,rfl,be⟩,a9⟩:=hr h0;have hz:Ca fns≤2 ^ 20:=by omega
 have fZ:A6 fns≤2 ^ 36:=by have:=M6 fns;omega
 have qQ:=Ku fns;have sf:AZ fns≤2 ^ 22:=by have:=OC fns;omega
 obtain⟨D,hD⟩:∃D,lowP fns=D:=⟨_,rfl⟩;obtain⟨B,hB⟩:∃B,AH fns=B:=⟨_,rfl⟩;rw[hD]at qQ;refine Qd ?_;try simp only[go_sem]
 refine Qa ?_;simp only[go_sem];refine Q5f fun H1 hu=>?_;have kn:=(Kn.aw H).aI hu;simp only[go_sem,Qex,Jb,Jc];refine KS fZ fun H1 hu _=>?_;rw[hD,hB];have kn:=kn.aI hu;simp only[go_sem,Qew,Jb,Jc];intro x4 dP H1 h1;have kn:=kn.al dP h1;have g4:=kn.l 0 rfl;simp only[go_sem,Qev,Jb,Jc,g4];intro H1 h1;have kn:Kn H H1 [] [(x4,.st [.sl false 3 (Qk D)])]:=kn.aT 0 rfl h1;simp only[go_sem,Qeu,Jb,Jc];refine Qa ?_;simp only[go_sem];refine LZ fun H1 L6 cs k6 lc=>?_;obtain⟨t6,rfl,oG⟩:=lc.inv_one;have mj:=oG.ah;have kn:=kn.comp0 k6;simp only[go_sem,Qez,Jb,Jc,mj];intro x6 fX H1 h1;have kn:=(kn.al fX h1).swap;have g6:=kn.l 1 rfl;simp only[go_sem,Qey,Jb,Jc,g6,mj];intro H1 h1;have kn:Kn H H1 [] ([(x4,.st [.sl false 3 (Qk D)]),(x6,.st [t6])]++L6):=kn.aT 1 rfl h1;have g6:=kn.l 1 rfl;refine Qa ?_;simp only[go_sem,g6,mj];refine Q9g (x':=.tup [.ag [.sl false 3 (Qk D)],.c (.bool B)]) (lntL L6) (args':=[.ag [.sl false 3 (Ae fns)]]) rfl (Ed (oG.lend fun p hp=>(kn.get p (by simp[hp])).1)) (fun K' hk=>O3 fZ (g.kn kn).hide (fun H' L x kn hx _=>by rw[hD,hB]at hx;exact hk H' L x kn hx)) fun H1 L7 x k7 hx=>?_;obtain⟨t7,rfl,jB⟩:=hx.tup1;have iP:=jB.ah;have kn:=kn.comp0 k7;simp only[go_sem,Qdv,Jb,Jc,iP];intro x7 dY H1 h1;have kn:=(kn.al dY h1).swap2;have g7:=kn.l 2 rfl;simp only[go_sem,Qe1,Jb,Jc,g7,iP];intro H1 h1;have kn:Kn H H1 [] (([(x4,.st [.sl false 3 (Qk D)]),(x6,.st [t6]),(x7,.st [t7])]++L6)++L7):=kn.aT 2 rfl h1;have g4:=kn.l 0 rfl;have g6:=kn.l 1 rfl;have g7:=kn.l 2 rfl;have lx:∀p∈L7,H1 p.1=p.2:=fun p hp=>(kn.get p (by simp[hp])).1;have qk:∀p∈L6,H1 p.1=p.2:=fun p hp=>(kn.get p (by simp[hp])).1;simp only[go_sem,Qe0,Jb,Jc];refine Qp (Qa ?_);simp only[go_sem,g4,g7,iP];refine Dc (lntL L7) (args':=[.ag [.sl false 3 (Qk D)],.ag [.sl false 3 (Qk D)]]) rfl (Bh (jB.lend lx) (FC (HR _))) rfl (fun K' hk=>Hr (hk _ (Di _))) ?_;simp only[go_sem,Qdw,Jb,Jc];have mD:(!B == B)=false∨True:=.inr trivial;have jk:(!(B == B))=false:=by simp
 try simp only[jk]
 refine Qe (Qc rfl (fun h=>by simp[lk]at h) (fun _=>?_));refine Qd ?_;try simp only[go_sem]
 refine Qp (Ak ?_);simp only[go_sem,g6,mj];refine Q5f fun H2 hu=>?_;have kn:=kn.aI hu;have g4:=kn.l 0 rfl;have g6:=kn.l 1 rfl;have g7:=kn.l 2 rfl;have qk:∀p∈L6,H2 p.1=p.2:=fun p hp=>(kn.get p (by simp[hp])).1;simp only[go_sem,Qdy,Jb,Jc,g6,mj];refine Dc (lntL L6) (args':=[.ag [.sl false 3 (Ae fns)],.ag [.sl false 3 (Ae fns)]]) rfl (Bh (oG.lend qk) (FC (Qblr _))) rfl (fun K' hk=>Qbfh (hk _ (Di _))) ?_;simp only[go_sem,Qdx,Jb,Jc];refine Qe (Qc rfl (fun h=>by simp[lk]at h) (fun _=>?_));refine Qd ?_;try simp only[go_sem]
 refine Qa ?_;simp only[go_sem];refine Qa ?_;simp only[go_sem,g6,mj];have kn:Kn H H2 [] (L6++([(x4,.st [.sl false 3 (Qk D)]),(x6,.st [t6]),(x7,.st [t7])]++L7)):=kn.perm (by
  simp only[Jg];rw[←Jg,←Jg];exact List.Perm.append_right L7 Jr)
 refine Qa5h (k:=1) oG (fun p hp=>(kn.get p (by simp[hp])).1) (by have:=kn.dL;rw[Ju]at this;exact (J7.1 this).1) (by omega) fun H3 L6m hf6 pX hu=>?_;have kn:=(kn.callLs hu hf6 pX.vecs).sub (List.sublist_append_right _ _);have g4:=kn.l 0 rfl;have g7:=kn.l 2 rfl;have lx:∀p∈L7,H3 p.1=p.2:=fun p hp=>(kn.get p (by simp[hp])).1;simp only[go_sem,Qdz,Jb,Jc];refine Qp (Qa ?_);have qu:decide (((1+AZ fns:Nat):Int)<0)=false:=decide_eq_false (by omega);simp only[go_sem,qu,g4,g7,iP];refine Dc (lntL L7) (args':=[.ag [.sl false 3 (Qk D)],.ag [.sl false 3 (Qk D)]]) rfl (Bh (jB.lend lx) (FC (HR _))) rfl (fun K' hk=>Hr (hk _ (Di _))) ?_;simp only[go_sem,Qd0,Jb,Jc,jk];try simp only[jk]
 refine Qe (Qc rfl (fun h=>by simp[lk]at h) (fun _=>?_));refine Qd ?_;try simp only[go_sem]
 refine Qa ?_;simp only[go_sem];refine Qa ?_;simp only[go_sem,g7,iP];have kn:Kn H H3 [] (L7++[(x4,.st [.sl false 3 (Qk D)]),(x6,.st [t6]),(x7,.st [t7])]):=kn.perm Jr;refine Qbmi (k:=1) jB (fun p hp=>(kn.get p (by simp[hp])).1) (by have:=kn.dL;rw[Ju]at this;exact (J7.1 this).1) (by omega) fun H4 L7m hf7 lh hu=>?_;have kn:Kn H H4 [] ([(x4,.st [.sl false 3 (Qk D)]),(x6,.st [t6]),(x7,.st [t7])]++L7m):=(kn.callLs hu hf7 lh.vecs).perm Jr;have g4:=kn.l 0 rfl;have g7:=kn.l 2 rfl;have lx:∀p∈L7m,H4 p.1=p.2:=fun p hp=>(kn.get p (by simp[hp])).1;simp only[go_sem,Qd1,Jb,Jc];refine Qa ?_;simp only[go_sem];refine Qa ?_;simp only[go_sem,g7,iP];refine Dc (v:=.c (.int .i64 ((1+Ay D:Nat):Int))) (lntL L7m) (args':=[.ag [.sl false 3 (Qk (Bp D 1))],.c (.int .i64 ((1:Nat):Int))]) rfl (Bh (lh.lend lx) (.c _ _ (.same _ rfl))) rfl (fun K' hk=>O4 (k:=1) (by omega) (hk _ (Di _))) ?_;simp only[go_sem,Qd2,Jb,Jc];refine Qp (Qa ?_);simp only[go_sem];refine Qe (Qc rfl (fun h=>by have:=of_decide_eq_true h;omega) (fun _=>?_));refine Qd ?_;try simp only[go_sem]
 refine Qp (Qa ?_);simp only[go_sem];refine Qe (Qc rfl (fun h=>by simp[lk]at h) (fun _=>?_));refine Qd ?_;try simp only[go_sem]
 refine Qa ?_;simp only[go_sem];refine Q5f fun H5 hu=>?_;have kn:=kn.aI hu;simp only[go_sem,Qd6,Jb,Jc];refine Qbpr fZ (g.kn kn) fun H5 hu _=>?_;rw[hD,hB];have kn:=kn.aI hu;simp only[go_sem,Qd5,Jb,Jc];intro x12 kr H5 h5;have kn:=(kn.al kr h5).swap;have g12:=kn.l 3 rfl;simp only[go_sem,Qd4,Jb,Jc,g12];intro H5 h5;have kn:Kn H H5 [] ([(x4,.st [.sl false 3 (Qk D)]),(x6,.st [t6]),(x7,.st [t7]),(x12,.st [.sl false 3 (Qk D)])]++L7m):=kn.aT 3 rfl h5;have g4:=kn.l 0 rfl;have g7:=kn.l 2 rfl;have g12:=kn.l 3 rfl;have lx:∀p∈L7m,H5 p.1=p.2:=fun p hp=>(kn.get p (by simp[hp])).1;simp only[go_sem,Qd3,Jb,Jc];refine Qp (Qa ?_);simp only[go_sem,g4,g12];refine Hr ?_;simp only[go_sem,Qd7,Jb,Jc,jk];try simp only[jk]
 refine Qe (Qc rfl (fun h=>by simp[lk]at h) (fun _=>?_));refine Qd ?_;try simp only[go_sem]
 refine Qa ?_;simp only[go_sem];refine Qa ?_;simp only[go_sem,g7,iP];refine Dc (v:=.c (.int .i64 ((1+Ay D:Nat):Int))) (lntL L7m) (args':=[.ag [.sl false 3 (Qk (Bp D 1))],.c (.int .i64 ((1:Nat):Int))]) rfl (Bh (lh.lend lx) (.c _ _ (.same _ rfl))) rfl (fun K' hk=>O4 (k:=1) (by omega) (hk _ (Di _))) ?_;simp only[go_sem,Qd8,Jb,Jc];refine Qp (Qa ?_);simp only[go_sem];refine Qe (Qc rfl (fun h=>by have:=of_decide_eq_true h;omega) (fun _=>?_));refine Qd ?_;try simp only[go_sem]
 refine Qp (Qa ?_);simp only[go_sem];refine Qe (Qc rfl (fun h=>by simp[lk]at h) (fun _=>?_));refine Qd ?_;try simp only[go_sem]
 refine Qa ?_;simp only[go_sem];refine Qg ?_;simp only[go_sem,Qq,Q1,Ad,Ja,forall_eq,RS.op];exact hK _
theorem FnExactLowerProgram_ty {cells:List C}(h:TyC prog C6 cells)(g:GK H):Qi prog Ts [.ag cells] H fun v _=>v=.c (.bool true):=by
 obtain⟨c,rfl,h1,h2⟩:=Qboh h;exact Q06 h1 g h2 fun _=>rfl
end Go.AE.Y
namespace Go.AE
variable {P:Program}{H H':Heap}
theorem Qbos {f:Nat}{args args':List V}{K:V→Heap→Prop}(S:Nat→Bool)(iv:args'.length=args.length)
  (ha:∀(j:Nat) (x y:V),args[j]? = some x→args'[j]? = some y→FrzV H S x y) (h:Qi P f args' (H.frz S) K):Qi P f args H K:=by
 refine⟨h.1,fun g w vs hs hl hv=>?_⟩;have fK:=D1 hs S;have fE:∀(j:Nat) (x:V) (u:Value),args'[j]? = some x→vs[j]? = some u→RepV w (g.frz H S) x u:=fun j y u h1 h2=>by
  obtain⟨x,hx⟩:=AP iv h1;exact DC hs (ha j x y hx h1) u (hv j x u hx h2)
 refine Calls.mono (h.2 (g.frz H S) w vs fK.sat (by rw[iv];exact hl) fE) ?_;rintro e w' (⟨v,x,H',g',he,hx,aF,hr⟩|⟨v,H',g',he,hx,aF⟩)
 ·exact .inl ⟨v,x,H',g',he,hx,fK.trans aF,hr⟩
 ·exact .inr ⟨v,H',g',he,hx,fK.trans aF⟩
end Go.AE
namespace Go.AE
variable {P:Program}{H:Heap}
theorem Qbld {f:Nat}{args args':List V}{K:V→Heap→Prop}(iv:args'.length=args.length)
  (ha:∀(j:Nat) (x y:V),args[j]? = some x→args'[j]? = some y→FrzV H (fun _=>false) x y) (h:Qi P f args' H K):Qi P f args H K:=by
 refine Qbos (fun _=>false) iv ha ?_;have e:H.frz (fun _=>false)=H:=by funext m;simp[Heap.frz]
 rw[e];exact h
end Go.AE
namespace Go.AE.Y
attribute [local go_sem] cond_true cond_false Bool.not_true Bool.not_false
attribute [local instance] Classical.propDecidable
open Go.Proofs.Tryz
variable {H H' H0 F:Heap}{K:V→Heap→Prop}{L:List (Nat×Obj)}
def lxF (x:Ex)(ns:List (List UInt8)):List Fn:=[⟨[109],ns,[.mk 7 [] [x] [] []]⟩]
def codZ:CodeD:=⟨0,0,[]⟩
noncomputable def lxC (x:Ex)(ns:List (List UInt8)):CodeD:=(lowP (lxF x ns)).headD codZ
theorem Kt (x:Ex)(ns:List (List UInt8)):A6 (lxF x ns)≤10+x.size:=by simp only[lxF,A6,Qh,St.size,Q4];omega
theorem Hl (x:Ex)(ns:List (List UInt8))(h:AH (lxF x ns)=true):lowP (lxF x ns)=[lxC x ns]:=by
 have e:(lowP (lxF x ns)).length=1:=by rw[lowP,if_pos h];simp[AA,lxF]
 rw[lxC]
 match lowP (lxF x ns),e with
 |[c],_=>rfl
theorem Gh (x:Ex)(ns:List (List UInt8))(h:AH (lxF x ns)=false):lxC x ns=codZ:=by
 rw[lxC,lowP,h];rfl
theorem II {S:Nat→Bool}{x:Ex}{ns:List (List UInt8)}{t:C}(ht:FrzC H S t (.sl false 1 (Q3 ns))) :
  FrzV H S (.ag [.sl true 3 [[.str [109],t,.sl true 5 [[.int .i64 7,.str [],.sl true 4 [x.cells],.sl true 5 [],.sl true 5 []]]]]]) (.ag [.sl false 3 (Ae (lxF x ns))]):=by
 refine (FrzL.cons (FrzR.cons (.cons (Qj rfl) (.cons ht (.cons ?_ .nil))) .nil).sl .nil).ag;exact (FrzR.cons (.cons (Qj rfl) (.cons (Qj rfl) (.cons (FrzR.same (Ij [x])).sl (.cons FrzR.nil.sl (.cons FrzR.nil.sl .nil))))) .nil).sl
theorem Qa9m {x:Ex}{ns:List (List UInt8)}{fl:Bool}(hx:x.size≤2^35)(hK:∀H',Upd H H' []→K (.tup [.ag (lxC x ns).cells,.c (.bool (AH (lxF x ns)))]) H') :
  Qi prog Sg [.ag x.cells,.c (.sl fl 1 (Q3 ns))] H K:=by
 refine A0 ?_;refine Qb Ab Qaw3 ?_;have be:A6 (lxF x ns)≤2^36:=by have:=Kt x ns;omega
 refine Qa ?_;simp only[go_sem,x.ab];intro x4 dP H1 h1;have kn:=(Kn.aw H).al dP h1;simp only[go_sem,Qu0];refine Qa ?_;simp only[go_sem];intro x6 fX H2 h2;have kn:=kn.al fX h2;have g6:=kn.l 1 rfl;simp only[go_sem,Qu1,g6];intro H3 h3;have kn:=kn.aT 1 rfl h3;have g6:=kn.l 1 rfl;refine Qa ?_;simp only[go_sem,g6];have i0:=II (H:=H3) (S:=fun _=>false) (x:=x) (ns:=ns) (t:=.sl fl 1 (Q3 ns)) (FrzR.same (Pk _)).sl;rw[x.ab]at i0;refine Qbld (args':=[.ag [.sl false 3 (Ae (lxF x ns))]]) rfl (Ed i0) ?_;refine KS be fun H4 hu ba=>?_;have kn:=kn.aI hu;simp only[go_sem,Qu4,Jb,Jc];intro x7 dY H5 h5;have kn:=kn.al dY h5;have g7:=kn.l 2 rfl;simp only[go_sem,Qu3,g7];intro H6 h6;have kn:=kn.aT 2 rfl h6;have g7:=kn.l 2 rfl;have g4:=kn.l 0 rfl;simp only[go_sem,Qu2];refine Qp (Qa ?_);simp only[go_sem]
 cases hb:AH (lxF x ns)with
 |false=>
  refine Qe (Qc rfl (fun _=>?_) (fun h=>by simp[lk]at h));refine Qa ?_;simp only[go_sem,g4];intro H7 h7;have kn:=kn.aT 0 rfl h7;have g4:=kn.l 0 rfl;simp only[go_sem,Qu5];refine Qg ?_;simp only[go_sem,AE.X.next,Qq,Q1,Hx,J8,J3,RS.op,g4];rw[hb,Gh x ns hb]at hK;refine⟨fun _=>trivial,.tup [.ag codZ.cells,.c (.bool false)],.tup _ _ rfl fun j a b h1 h2=>?_,hK _ kn.fin⟩
  match j with
  |0=>cases h1;cases h2;exact (FrzL.cons (Qj rfl) (.cons (Qj rfl) (.cons FrzR.nil.sl .nil))).ag
  |1=>cases h1;cases h2;exact .c _ _ (Qj rfl)
  |j+2=>simp at h1
 |true=>
  have hP:=Hl x ns hb;rw[hP]at kn g7;obtain⟨c,hc⟩:∃c,lxC x ns=c:=⟨_,rfl⟩;rw[hc]at kn g7;rw[hb,hc]at hK;refine Qe (Qc rfl (fun h=>by simp[lk]at h) (fun _=>?_));refine Qd ?_;try simp only[go_sem]
  refine Qa ?_;simp only[go_sem,g7,g4,Qk,Js,Jad,Jb,CodeD.cells,Jj,Jah,Jay];intro H7 h7;have kn:=kn.aT 0 rfl h7;have g4:=kn.l 0 rfl;simp only[go_sem,Qu6];refine Qg ?_;simp only[go_sem,AE.X.next,Qq,Q1,Hx,J8,J3,RS.op,g4];refine⟨fun _=>trivial,.tup [.ag c.cells,.c (.bool true)],.tup _ _ rfl fun j a b h1 h2=>?_,hK _ kn.fin⟩
  match j with
  |0=>cases h1;cases h2;exact (FrzL.cons (Qj rfl) (.cons (Qj rfl) (.cons (FrzR.same (Pu _)).sl .nil))).ag
  |1=>cases h1;cases h2;exact .c _ _ (Qj rfl)
  |j+2=>simp at h1
theorem Ka {L:List (Nat×Obj)}{x:V}{cs':List C}{b:Bool}(h:OwV L x (.tup [.ag cs',.c (.bool b)])):∃cs,x=.tup [.ag cs,.c (.bool b)]∧OwL L cs cs':=by
 unfold OwV at h;split at h
 ·simp at *
 ·simp at *
 ·rename_i cs d cs2 d' he
  simp only[V.tup.injEq,Jao,V.ag.injEq,V.c.injEq,and_true]at he;obtain⟨rfl,rfl⟩:=he;obtain⟨c0,e0,h0⟩:=h.inv_atom rfl;simp only[Jao]at e0;obtain⟨rfl,rfl⟩:=e0;exact⟨cs,rfl,h0⟩
 ·exact h.elim
theorem Q7t {x:Ex}{ns:List (List UInt8)}{fl:Bool}(g:GK H)(hx:x.size≤2^35)(hn:ns.length≤2^38)(hK:∀H' L y,Kn H H' [] L→OwV L y (.tup [.ag (lxC x ns).cells,.c (.bool (AH (lxF x ns)))])→K y H') :
  Qi prog IA [.ag x.cells,.c (.sl fl 1 (Q3 ns))] H K:=by
 refine Qb Ab Qawm ?_;have be:A6 (lxF x ns)≤2^36:=by have:=Kt x ns;omega
 refine Qa ?_;simp only[go_sem,x.ab];intro x4 dP H1 h1;have kn:=(Kn.aw H).al dP h1;simp only[go_sem,Qsq];refine Ak ?_;simp only[go_sem];refine Qbe7 hn fun H2 La t k2 ho=>?_;have aE:=ho.ah;have kn:=kn.comp0 k2;simp only[go_sem,Qsu,aE];have i0:=II (H:=H2) (S:=lntL La) (x:=x) (ns:=ns) (t:=t) (by
  have:=ho.one.frz (H:=H2) (S:=lntL La) fun p hp=>⟨(kn.get p (by simp[hp])).1,D4 hp⟩
  cases this with
  |cons h _=>exact h)
 rw[x.ab]at i0;refine Q9g (x':=.tup [.ag [.sl false 3 (Qk (lowP (lxF x ns)))],.c (.bool (AH (lxF x ns)))]) (lntL La) (args':=[.ag [.sl false 3 (Ae (lxF x ns))]]) rfl (Ed i0) (fun K' hk=>O3 be (g.kn kn).hideG fun H' L y kn hy _=>hk H' L y kn hy) fun H3 L7 y k7 hy=>?_;obtain⟨t7,rfl,jB⟩:=hy.tup1;have iP:=jB.ah;have kn:=kn.comp0 k7;simp only[go_sem,Qst,Jb,Jc,aE,iP];intro x6 fX H4 h4;have kn:Kn H H4 [] (([(x4,.st [.int .i64 0,.int .i64 0,.sl true 5 []])]++L7)++[(x6,.st [.sl true 3 []])]):=(kn.al fX h4).sub (by
  simp only[Jg,Jm,Je];exact .cons_cons _ (List.sublist_append_right _ _))
 have kn:Kn H H4 [] ([(x4,.st [.int .i64 0,.int .i64 0,.sl true 5 []]),(x6,.st [.sl true 3 []])]++L7):=kn.swap;have g6:=kn.l 1 rfl;simp only[go_sem,Qss,g6,aE,iP];intro H5 h5;have kn:Kn H H5 [] ([(x4,.st [.int .i64 0,.int .i64 0,.sl true 5 []]),(x6,.st [t7])]++L7):=kn.aT 1 rfl h5;have g6:=kn.l 1 rfl;have g4:=kn.l 0 rfl;simp only[go_sem,Qsr,aE,iP];refine Qp (Qa ?_);simp only[go_sem]
 cases hb:AH (lxF x ns)with
 |false=>
  refine Qe (Qc rfl (fun _=>?_) (fun h=>by simp[lk]at h));refine Qa ?_;simp only[go_sem,g4];intro H7 h7;have kn:=kn.aT 0 rfl h7;have g4:=kn.l 0 rfl;simp only[go_sem,Qsv];refine Qg ?_;simp only[go_sem,AE.X.next,Qq,Q1,Hx,J8,J3,RS.op,g4];rw[hb,Gh x ns hb]at hK;exact⟨fun _=>trivial,hK _ [] _ (kn.sub (List.nil_sublist _)) (show OwL [] [.bool false,.int .i64 0,.int .i64 0,.sl true 5 []] _ from .atom rfl (.atom rfl (.atom rfl (.sln .nil))))⟩
 |true=>
  have hP:=Hl x ns hb;rw[hP]at jB;obtain⟨c,hc⟩:∃c,lxC x ns=c:=⟨_,rfl⟩;rw[hc]at jB;rw[hb,hc]at hK;rcases jB with ⟨_,h,_⟩|⟨y,M,rows,rfl,rfl,bZ,pH,_,an⟩
  ·simp[Qk]at h
  obtain⟨r,rfl⟩:∃r,rows=[r]:=by
   match rows,bZ with
   |[r],_=>exact⟨r,rfl⟩
  have an:OwL M r c.cells:=by simpa[Qk]using an
  obtain⟨tb,rfl,aZ⟩:=E6 an;have cq:=aZ.ah;have gy:H5 y=.vec 3 [[.int .i64 c.params,.int .i64 c.ae,tb]]:=(kn.get (y,.vec 3 [[.int .i64 c.params,.int .i64 c.ae,tb]]) (by simp)).1;refine Qe (Qc rfl (fun h=>by simp[lk]at h) (fun _=>?_));refine Qd ?_;try simp only[go_sem]
  refine Qa ?_;simp only[go_sem,g6,g4,gy,cq,List.take,Jb,Jj,Jah,Jay,Jaa,Nat.zero_add];intro H7 h7;have kn:Kn H H7 [] ([(x4,.st [.int .i64 c.params,.int .i64 c.ae,tb]),(x6,.st [.aG y 3 0 1])]++((y,.vec 3 [[.int .i64 c.params,.int .i64 c.ae,tb]])::M)):=kn.aT 0 rfl h7;have g4:=kn.l 0 rfl;simp only[go_sem,Qsw];refine Qg ?_;simp only[go_sem,AE.X.next,Qq,Q1,Hx,J8,J3,RS.op,g4,cq];exact⟨fun _=>trivial,hK _ M _ (kn.sub (.cons _ (.cons _ (.cons _ (List.Sublist.refl _))))) (show OwL M (.bool true::[.int .i64 c.params,.int .i64 c.ae,tb]) _ from .atom rfl an)⟩
theorem Qa4p {x:Ex}{ns:List (List UInt8)}{fl:Bool}(g:GK H)(hx:x.size≤2^35)(hn:ns.length≤2^38)(hK:∀H',Upd H H' []→K (.tup [.ag (lxC x ns).cells,.c (.bool (AH (lxF x ns)))]) H') :
  Qi prog IA [.ag x.cells,.c (.sl fl 1 (Q3 ns))] H K:=
 A0 (Q7t g hx hn fun H' L y kn hy=>by
  obtain⟨cs,rfl,ho⟩:=Ka hy;refine⟨.tup [.ag (lxC x ns).cells,.c (.bool (AH (lxF x ns)))],.tup _ _ rfl fun j a b h1 h2=>?_,hK _ kn.fin⟩;have hf:=ho.frz (H:=H') (S:=un H) fun p hp=>⟨(kn.get p (by simpa using hp)).1,DR (kn.loc p hp)⟩
  match j with
  |0=>cases h1;cases h2;exact hf.ag
  |1=>cases h1;cases h2;exact .c _ _ (Qj rfl)
  |j+2=>simp at h1)
theorem Qbme {c:CodeD}{L:List (Nat×Obj)}{t:C}{k:Nat}(ho:OwS L 5 (Qx c.blocks) t)(hm:∀p∈L,H p.1=p.2)(hd:(L.map Prod.fst).Nodup)(hb:k+Ax c.blocks<2 ^ 62)
  (hK:∀H' L',L'.map Prod.fst=L.map Prod.fst→OwS L' 5 (Qx (Bd c.blocks k)) t→Upd H H' L'→K (.c (.int .i64 ((k+Ax c.blocks:Nat):Int))) H'):Qi prog RP [.ag [.int .i64 c.params,.int .i64 c.ae,t],.c (.int .i64 (k:Nat))] H K:=by
 have aE:=ho.ah;refine Qb Ab Qa5b ?_;refine Qa ?_;simp only[go_sem,aE];refine Qa ?_;simp only[go_sem,aE];refine Np c.blocks L t k H _ ho hm hd hb fun H2 L' hf iW hu=>?_;simp only[go_sem,Qyz];refine Qa ?_;simp only[go_sem];refine Qg ?_;simp only[go_sem,Qq,Q1,Aa,Ja,forall_eq,RS.op];exact hK _ _ hf iW hu
theorem O5 {c:CodeD}{fl:Bool}{k:Nat}(hb:k+Ax c.blocks<2 ^ 62)(hK:K (.c (.int .i64 ((k+Ax c.blocks:Nat):Int))) H):Qi prog PS [.ag [.int .i64 c.params,.int .i64 c.ae,.sl fl 5 (Qx (Bd c.blocks k))],.c (.int .i64 (k:Nat))] H K:=by
 refine Qb Ab Qa46 ?_;refine Qa ?_;simp only[go_sem];refine Qa ?_;simp only[go_sem];refine Nv c.blocks fl k H _ hb ?_;simp only[go_sem,Qyv];refine Qp (Qa ?_);simp only[go_sem];refine Qe (Qc rfl (fun h=>by have:=of_decide_eq_true h;omega) (fun _=>?_));refine Qd ?_;try simp only[go_sem]
 refine Qa ?_;simp only[go_sem];refine Qg ?_;simp only[go_sem,Qq,Q1,Aa,Ja,forall_eq,RS.op];exact hK
theorem Qbmf {x:Ex}{L:List (Nat×Obj)}{t:C}{k:Nat}(ho:OwS L 4 (Af x.kids) t)(hm:∀p∈L,H p.1=p.2)(hd:(L.map Prod.fst).Nodup)(hb:k+Au x.kids<2 ^ 62)
  (hK:∀H' L',L'.map Prod.fst=L.map Prod.fst→OwS L' 4 (Af (Cl x.kids k)) t→Upd H H' L'→K (.c (.int .i64 ((k+Au x.kids:Nat):Int))) H'):Qi prog RO [.ag [.int .i64 x.op,.int .i64 x.n,.str x.name,t],.c (.int .i64 (k:Nat))] H K:=by
 have aE:=ho.ah;refine Qb Ab Qa5c ?_;refine Qa ?_;simp only[go_sem,aE];refine Qa ?_;simp only[go_sem,aE];refine MA (Q4 x.kids) x.kids L t k H _ (Jaa _) ho hm hd hb fun H2 L' hf iW hu=>?_;simp only[go_sem,Qy0];refine Qa ?_;simp only[go_sem];refine Qg ?_;simp only[go_sem,Qq,Q1,Aa,Ja,forall_eq,RS.op];exact hK _ _ hf iW hu
theorem Qbs9 {x:Ex}(hK:∀H',Upd H H' []→K (.ag x.cells) H'):Qi prog DX [.ag x.cells] H K:=
 A0 (Hf x.size x (Jaa _) fun H' L cs kn ho=>⟨_,(ho.frz fun p hp=>⟨(kn.get p (by simpa using hp)).1,DR (kn.loc p hp)⟩).ag,hK _ kn.fin⟩)
theorem Q5g {l:List (List UInt8)}{fl:Bool}(hK:∀H',Upd H H' []→K (.c (.sl false 1 (Q3 l))) H'):Qi prog Fc [.c (.sl fl 1 (Q3 l))] H K:=
 A0 (GW fun H' L t kn ho=>⟨_,by
  have:=ho.one.frz (H:=H') (S:=un H) fun p hp=>⟨(kn.get p (by simpa using hp)).1,DR (kn.loc p hp)⟩
  cases this with
  |cons h _=>exact .c _ _ h,hK _ kn.fin⟩)
theorem Qbqe (x:Ex)(ns:List (List UInt8)):Ax (lxC x ns).blocks≤2 ^ 50:=by
 have h:=Ku (lxF x ns)
 cases hb:AH (lxF x ns)with
 |false=>rw[Gh x ns hb];exact Jai _
 |true=>
  rw[Hl x ns hb]at h;simp only[Ay,CodeD.cntU]at h;omega
theorem Qabx {a b:Int}{cn ck c2:C}(cS:cn.ah=false)(cO:ck.ah=false)(ao:c2.ah=false)(g:GK H)(eH:SzE EY (.ag [.int .i64 a,.int .i64 b,cn,ck]) fun n=>∃x:Ex,[.int .i64 a,.int .i64 b,cn,ck]=x.cells∧x.size≤n+1)
  (i6:SzE Fd (.c c2) (okTs c2)) (hK:∀H',K (.c (.bool true)) H'):Qi prog Tp [.ag [.int .i64 a,.int .i64 b,cn,ck],.c c2] H K:=by
 refine Qb Ab Q1o ?_;have retT':∀(e:Env) (H':Heap),lk 4 e=.c (.bool true)→Qq Aa K .ret e H':=by
  intro e H' h2;simp only[go_sem,Qq,Q1,Aa,Ja,forall_eq,RS.op,h2];exact hK H'
 refine Qa ?_;simp only[go_sem,cS,cO,ao];refine Qa ?_;simp only[go_sem,cS,cO,ao];refine Qa ?_;simp only[go_sem,cS,cO,ao];refine eH 1048576 H _ (by omega) (by omega) fun r h1 h2 hr=>?_;simp only[go_sem,Qhc,cS,cO,ao];refine Qp (Qa ?_);simp only[go_sem,cS,cO,ao];refine Qe (Qc rfl (fun hn=>?_) (fun hn=>?_))
 ·refine Qa ?_;simp only[go_sem];refine Qg ?_;exact retT' _ _ rfl
 have h0:0≤r:=by have:=of_decide_eq_false hn;omega
 obtain⟨n,⟨x,hx,be⟩,a9⟩:=hr h0;rw[x.ab]at hx;simp only[Jao,C.int.injEq,and_true,true_and]at hx;obtain⟨rfl,rfl,rfl,rfl⟩:=hx;refine Qd ?_;try simp only[go_sem]
 refine Qa ?_;simp only[go_sem,ao];refine i6 r H _ h0 (by omega) fun r2 h3 h4 dm=>?_;simp only[go_sem,Qhd,ao];refine Qp (Qa ?_);simp only[go_sem,ao];refine Qe (Qc rfl (fun hn=>?_) (fun hn=>?_))
 ·refine Qa ?_;simp only[go_sem];refine Qg ?_;exact retT' _ _ rfl
 have h5:0≤r2:=by have:=of_decide_eq_false hn;omega
 obtain⟨n2,⟨ns,rfl,pY⟩,lz⟩:=dm h5;have oW:x.size≤2 ^ 35:=by omega
 have rL:ns.length≤2 ^ 38:=by omega
 have jL:Au x.kids≤2 ^ 30:=by have h1:=EI x.kids;have h2:=x.size_kids;omega
 have qQ:=Qbqe x ns;obtain⟨D,hD⟩:∃D,lxC x ns=D:=⟨_,rfl⟩;obtain⟨B,hB⟩:∃B,AH (lxF x ns)=B:=⟨_,rfl⟩;rw[hD]at qQ;have toF:=fun {H:Heap} {K}=>Qbs9 (H:=H) (K:=K) (x:=x);have toO:=fun {H:Heap} {K}=>Hf x.size x (H:=H) (K:=K) (Jaa _);have spL:=fun {H:Heap} {K}=>Qa9m (H:=H) (K:=K) (x:=x) (ns:=ns) (fl:=false) oW;have imL:=fun {H:Heap} {K} (g:GK H)=>Qa4p (H:=H) (K:=K) (x:=x) (ns:=ns) (fl:=false) g oW rL;simp only[x.ab]at toF toO spL imL;refine Qd ?_;try simp only[go_sem]
 refine Qa ?_;simp only[go_sem];refine toF fun H1 hu=>?_;have kn:=(Kn.aw H).aI hu;simp only[go_sem,Qhi];refine Q5g fun H1 hu=>?_;have kn:=kn.aI hu;simp only[go_sem,Qhh];refine spL fun H1 hu=>?_;rw[hD,hB];have kn:=kn.aI hu;simp only[go_sem,Qhg,Jb,Jc,CodeD.cells];intro x6 fX H1 h1;have kn:=kn.al fX h1;have g6:=kn.l 0 rfl;simp only[go_sem,Qhf,g6];intro H1 h1;have kn:Kn H H1 [] [(x6,.st [.int .i64 D.params,.int .i64 D.ae,.sl false 5 (Qx D.blocks)])]:=kn.aT 0 rfl h1;simp only[go_sem,Qhe];refine Qa ?_;simp only[go_sem];refine toO fun H1 Lx cs k8 oF=>?_;have pW:=oF;rw[←x.ab]at oF;obtain⟨tk,rfl,aM⟩:=OwL.ex oF;have aO:=aM.ah;have kn:=kn.comp0 k8;simp only[go_sem,Qf5,aO];intro x8 dw H1 h1;have kn:=(kn.al dw h1).swap;have g8:=kn.l 1 rfl;simp only[go_sem,Qhj,g8,aO];intro H1 h1;have kn:Kn H H1 [] ([(x6,.st [.int .i64 D.params,.int .i64 D.ae,.sl false 5 (Qx D.blocks)]),(x8,.st [.int .i64 x.op,.int .i64 x.n,.str x.name,tk])]++Lx):=kn.aT 1 rfl h1;refine Qa ?_;simp only[go_sem,aO];refine GW fun H1 Ln t9 k9 dy=>?_;have fG:=dy.ah;have kn:=kn.comp0 k9;have g8:H1 x8=.st [.int .i64 x.op,.int .i64 x.n,.str x.name,tk]:=kn.l 1 rfl;simp only[go_sem,Qf6,fG,aO];refine Qa ?_;simp only[go_sem,g8,fG,aO];have gm:FrzV H1 (lntL (Lx++Ln)) (.ag [.int .i64 x.op,.int .i64 x.n,.str x.name,tk]) (.ag [.int .i64 x.op,.int .i64 x.n,.str x.name,.sl false 4 (Af x.kids)]):=
  (pW.frz fun p hp=>⟨(kn.get p (by simp[hp])).1,D4 (by simp[hp])⟩).ag
 have fx:FrzV H1 (lntL (Lx++Ln)) (.c t9) (.c (.sl false 1 (Q3 ns))):=by
  have:=dy.one.frz (H:=H1) (S:=lntL (Lx++Ln)) fun p hp=>⟨(kn.get p (by simp[hp])).1,D4 (by simp[hp])⟩
  cases this with
  |cons h _=>exact .c _ _ h
 refine Q9g (x':=.tup [.ag D.cells,.c (.bool B)]) (lntL (Lx++Ln)) (args':=[.ag [.int .i64 x.op,.int .i64 x.n,.str x.name,.sl false 4 (Af x.kids)],.c (.sl false 1 (Q3 ns))]) rfl (Bh gm fx) (fun K' hk=>by
  have:=Q7t (K:=K') (x:=x) (ns:=ns) (fl:=false) (g.kn kn).hideG oW rL (by rw[hD,hB];exact hk);rw[x.ab]at this;exact this) fun H1 L10 y k10 hy=>?_
 obtain⟨cs10,rfl,lj⟩:=Ka hy;obtain⟨tb,rfl,aZ⟩:=E6 lj;have cq:=aZ.ah;have kn:=kn.comp0 k10;simp only[go_sem,Qf9,Jb,Jc,fG,aO,cq];intro x10 iL H1 h1;have kn:=kn.al iL h1;have g10:H1 x10=.st [.int .i64 0,.int .i64 0,.sl true 5 []]:=kn.getL (by simp);simp only[go_sem,Qf8,g10,fG,aO,cq];intro H1 h1;have kn:Kn H H1 [] (([(x6,.st [.int .i64 D.params,.int .i64 D.ae,.sl false 5 (Qx D.blocks)]),(x8,.st [.int .i64 x.op,.int .i64 x.n,.str x.name,tk]),(x10,.st [.int .i64 D.params,.int .i64 D.ae,tb])]++Lx)++(Ln++L10)):=by
  have:=Kn.stM (A:=(([(x6,.st [.int .i64 D.params,.int .i64 D.ae,.sl false 5 (Qx D.blocks)]),(x8,.st [.int .i64 x.op,.int .i64 x.n,.str x.name,tk])]++Lx)++Ln)++L10) (B:=[]) kn h1;refine this.perm (HF fun f hf h0 hc hp=>?_);have e1:=hc (x6,.st [.int .i64 D.params,.int .i64 D.ae,.sl false 5 (Qx D.blocks)]) [(x8,.st [.int .i64 x.op,.int .i64 x.n,.str x.name,tk])];have e2:=hc (x6,.st [.int .i64 D.params,.int .i64 D.ae,.sl false 5 (Qx D.blocks)]) [(x8,.st [.int .i64 x.op,.int .i64 x.n,.str x.name,tk]),(x10,.st [.int .i64 D.params,.int .i64 D.ae,tb])];have e3:=hc (x8,.st [.int .i64 x.op,.int .i64 x.n,.str x.name,tk]) [(x10,.st [.int .i64 D.params,.int .i64 D.ae,tb])];simp only[hf,e1,e2,e3,h0];omega
 simp only[go_sem,Qf7,fG];have g6:=kn.l 0 rfl;have g8:=kn.l 1 rfl;have g10:=kn.l 2 rfl;have rO:∀p∈Lx,H1 p.1=p.2:=fun p hp=>(kn.get p (by simp[hp])).1;have rS:∀p∈Ln,H1 p.1=p.2:=fun p hp=>(kn.get p (by simp[hp])).1;have dg:∀p∈L10,H1 p.1=p.2:=fun p hp=>(kn.get p (by simp[hp])).1;have sy:∀(S:Nat→Bool) (H:Heap),FrzV H S (.ag [.int .i64 D.params,.int .i64 D.ae,.sl false 5 (Qx D.blocks)]) (.ag D.cells):=fun S H=>(FrzL.cons (Qj rfl) (.cons (Qj rfl) (.cons (FrzR.same (Pu _)).sl .nil))).ag;have eG:∀(S:Nat→Bool) (H:Heap),FrzV H S (.ag [.int .i64 x.op,.int .i64 x.n,.str x.name,.sl false 4 (Af x.kids)]) (.ag x.cells):=fun S H=>by
  rw[x.ab];exact (FrzL.cons (Qj rfl) (.cons (Qj rfl) (.cons (Qj rfl) (.cons (FrzR.same (Ij _)).sl .nil)))).ag
 have cz:∀(S:Nat→Bool) (H:Heap),FrzV H S (.c (.sl false 1 (Q3 ns))) (.c (.sl false 1 (Q3 ns))):=fun S H=>.c _ _ (FrzR.same (Pk _)).sl;refine Qp (Qa ?_);simp only[go_sem,g10,g6,fG,cq];refine Dc (lntL L10) (args':=[.ag D.cells,.ag D.cells]) rfl (Bh (lj.frzA dg) (sy _ _)) rfl (fun K' hk=>E5 (hk _ (Di _))) ?_;have jk:(!(B == B))=false:=by simp
 simp only[go_sem,Qga,Jb,Jc,fG];try simp only[jk]
 refine Qe (Qc rfl (fun h=>by simp[lk]at h) (fun _=>?_));refine Qd ?_;try simp only[go_sem]
 refine Qp (Ak ?_);simp only[go_sem,g8,fG,aO];refine toF fun H2 hu=>?_;have kn:=kn.aI hu;have g8:=kn.l 1 rfl;have rO:∀p∈Lx,H2 p.1=p.2:=fun p hp=>(kn.get p (by simp[hp])).1;simp only[go_sem,Qgc,g8,fG,aO];refine Dc (lntL Lx) (args':=[.ag x.cells,.ag x.cells]) rfl (Bh (oF.frzA rO) (eG _ _)) rfl (fun K' hk=>K7 x.size x (Jaa _) (hk _ (Di _))) ?_;simp only[go_sem,Qgb,fG];refine Qe (Qc rfl (fun h=>by simp[lk]at h) (fun _=>?_));refine Qd ?_;try simp only[go_sem]
 refine Qp (Qa ?_);simp only[go_sem,fG];refine Q5g fun H3 hu=>?_;have kn:=kn.aI hu;have rS:∀p∈Ln,H3 p.1=p.2:=fun p hp=>(kn.get p (by simp[hp])).1;simp only[go_sem,Qge,fG];have fx:FrzV H3 (lntL Ln) (.c t9) (.c (.sl false 1 (Q3 ns))):=by
  have:=dy.one.frz (H:=H3) (S:=lntL Ln) fun p hp=>⟨rS p hp,D4 hp⟩
  cases this with
  |cons h _=>exact .c _ _ h
 refine Dc (lntL Ln) (args':=[.c (.sl false 1 (Q3 ns)),.c (.sl false 1 (Q3 ns))]) rfl (Bh fx (cz _ _)) rfl (fun K' hk=>MK (hk _ (Di _))) ?_;simp only[go_sem,Qgd,fG];refine Qe (Qc rfl (fun h=>by simp[lk]at h) (fun _=>?_));refine Qd ?_;try simp only[go_sem]
 refine Qa ?_;simp only[go_sem,fG];have g8:H3 x8=.st [.int .i64 x.op,.int .i64 x.n,.str x.name,tk]:=kn.l 1 rfl;refine Qa ?_;simp only[go_sem,g8,fG,aO];obtain⟨O,hO⟩:∃O:List (Nat×Obj),[(x6,.st [.int .i64 D.params,.int .i64 D.ae,.sl false 5 (Qx D.blocks)]),(x8,.st [.int .i64 x.op,.int .i64 x.n,.str x.name,tk]),(x10,.st [.int .i64 D.params,.int .i64 D.ae,tb])]=O:=⟨_,rfl⟩;rw[hO]at kn;have kn:Kn H H3 [] (Lx++((O++Ln)++L10)):=kn.perm (HF fun f hf h0 hc hp=>by simp only[hf];omega);refine Qbmf (k:=1) aM (fun p hp=>(kn.get p (by simp[hp])).1) (by have:=kn.dL;rw[Ju]at this;exact (J7.1 this).1) (by omega) fun H4 Lx' qH iq hu=>?_;have kn:Kn H H4 [] (Ln++(O++L10)):=((kn.callLs hu qH iq.vecs).sub (List.sublist_append_right _ _)).perm (HF fun f hf h0 hc hp=>by simp only[hf];omega);simp only[go_sem,Qgf,fG];refine Qa ?_;simp only[go_sem,fG];refine NM (AY ns) ns Ln t9 (1+Au x.kids) H4 _ (Jaa _) dy (fun p hp=>(kn.get p (by simp[hp])).1) (by have:=kn.dL;rw[Ju]at this;exact (J7.1 this).1) (by rw[HK];omega) fun H5 Ln' qI pV hu=>?_;have kn:Kn H H5 [] (O++L10):=(kn.callLs hu qI pV.vecs).sub (List.sublist_append_right _ _);rw[←hO]at kn;have g6:=kn.l 0 rfl;have g10:=kn.l 2 rfl;have dg:∀p∈L10,H5 p.1=p.2:=fun p hp=>(kn.get p (by simp[hp])).1;simp only[go_sem,Qgg];refine Qp (Qa ?_);have qu:decide (((1+Au x.kids+AY ns:Nat):Int)<0)=false:=decide_eq_false (by omega);simp only[go_sem,qu,g10,g6,cq];refine Dc (lntL L10) (args':=[.ag D.cells,.ag D.cells]) rfl (Bh (lj.frzA dg) (sy _ _)) rfl (fun K' hk=>E5 (hk _ (Di _))) ?_;simp only[go_sem,Qgh,Jb,Jc,jk];try simp only[jk]
 refine Qe (Qc rfl (fun h=>by simp[lk]at h) (fun _=>?_));refine Qd ?_;try simp only[go_sem]
 refine Qa ?_;simp only[go_sem];refine Qa ?_;simp only[go_sem,g10,cq];have kn:Kn H H5 [] (L10++[(x6,.st [.int .i64 D.params,.int .i64 D.ae,.sl false 5 (Qx D.blocks)]),(x8,.st [.int .i64 x.op,.int .i64 x.n,.str x.name,tk]),(x10,.st [.int .i64 D.params,.int .i64 D.ae,tb])]):=kn.perm Jr;refine Qbme (c:=D) (k:=1) aZ (fun p hp=>(kn.get p (by simp[hp])).1) (by have:=kn.dL;rw[Ju]at this;exact (J7.1 this).1) (by omega) fun H6 L0' hf0 iV hu=>?_;have kn:Kn H H6 [] ([(x6,.st [.int .i64 D.params,.int .i64 D.ae,.sl false 5 (Qx D.blocks)]),(x8,.st [.int .i64 x.op,.int .i64 x.n,.str x.name,tk]),(x10,.st [.int .i64 D.params,.int .i64 D.ae,tb])]++L0'):=(kn.callLs hu hf0 iV.vecs).perm Jr;have g6:=kn.l 0 rfl;have g10:=kn.l 2 rfl;have dg:∀p∈L0',H6 p.1=p.2:=fun p hp=>(kn.get p (by simp[hp])).1;have oQ:∀H,(∀p∈L0',H p.1=p.2)→FrzV H (lntL L0') (.ag [.int .i64 D.params,.int .i64 D.ae,tb]) (.ag [.int .i64 D.params,.int .i64 D.ae,.sl false 5 (Qx (Bd D.blocks 1))]):=fun H hm=>(show OwL L0' [.int .i64 D.params,.int .i64 D.ae,tb] _ from .atom rfl (.atom rfl iV.one)).frzA hm;simp only[go_sem,Qgi];refine Qa ?_;simp only[go_sem];refine Qa ?_;simp only[go_sem,g10,cq];refine Dc (v:=.c (.int .i64 ((1+Ax D.blocks:Nat):Int))) (lntL L0') (args':=[.ag [.int .i64 D.params,.int .i64 D.ae,.sl false 5 (Qx (Bd D.blocks 1))],.c (.int .i64 ((1:Nat):Int))]) rfl (Bh (oQ _ dg) (.c _ _ (.same _ rfl))) rfl (fun K' hk=>O5 (c:=D) (k:=1) (by omega) (hk _ (Di _))) ?_;simp only[go_sem,Qgj];refine Qp (Qa ?_);simp only[go_sem];refine Qe (Qc rfl (fun h=>by have:=of_decide_eq_true h;omega) (fun _=>?_));refine Qd ?_;try simp only[go_sem]
 refine Qp (Qa ?_);simp only[go_sem];refine Qe (Qc rfl (fun h=>by simp[lk]at h) (fun _=>?_));refine Qd ?_;try simp only[go_sem]
 refine Qa ?_;simp only[go_sem];refine toF fun H7 hu=>?_;have kn:=kn.aI hu;simp only[go_sem,Qgo];refine Q5g fun H7 hu=>?_;have kn:=kn.aI hu;simp only[go_sem,Qgn];refine imL (g.kn kn) fun H7 hu=>?_;rw[hD,hB];have kn:=kn.aI hu;simp only[go_sem,Qgm,Jb,Jc,CodeD.cells];intro x15 po H8 h8;have kn:=(kn.al po h8).swap;have g15:=kn.l 3 rfl;simp only[go_sem,Qgl,g15];intro H8 h8;have kn:Kn H H8 [] ([(x6,.st [.int .i64 D.params,.int .i64 D.ae,.sl false 5 (Qx D.blocks)]),(x8,.st [.int .i64 x.op,.int .i64 x.n,.str x.name,tk]),(x10,.st [.int .i64 D.params,.int .i64 D.ae,tb]),(x15,.st [.int .i64 D.params,.int .i64 D.ae,.sl false 5 (Qx D.blocks)])]++L0'):=kn.aT 3 rfl h8;have g6:=kn.l 0 rfl;have g10:=kn.l 2 rfl;have g15:=kn.l 3 rfl;have dg:∀p∈L0',H8 p.1=p.2:=fun p hp=>(kn.get p (by simp[hp])).1;simp only[go_sem,Qgk];refine Qp (Qa ?_);simp only[go_sem,g6,g15];have eqD:=fun {H:Heap} {K}=>E5 (H:=H) (K:=K) (x:=D);simp only[CodeD.cells]at eqD;refine eqD ?_;simp only[go_sem,Qgp,Jb,Jc,jk];try simp only[jk]
 refine Qe (Qc rfl (fun h=>by simp[lk]at h) (fun _=>?_));refine Qd ?_;try simp only[go_sem]
 refine Qa ?_;simp only[go_sem];refine Qa ?_;simp only[go_sem,g10,cq];refine Dc (v:=.c (.int .i64 ((1+Ax D.blocks:Nat):Int))) (lntL L0') (args':=[.ag [.int .i64 D.params,.int .i64 D.ae,.sl false 5 (Qx (Bd D.blocks 1))],.c (.int .i64 ((1:Nat):Int))]) rfl (Bh (oQ _ dg) (.c _ _ (.same _ rfl))) rfl (fun K' hk=>O5 (c:=D) (k:=1) (by omega) (hk _ (Di _))) ?_;simp only[go_sem,Qgq];refine Qp (Qa ?_);simp only[go_sem];refine Qe (Qc rfl (fun h=>by have:=of_decide_eq_true h;omega) (fun _=>?_));refine Qd ?_;try simp only[go_sem]
 refine Qp (Qa ?_);simp only[go_sem];refine Qe (Qc rfl (fun h=>by simp[lk]at h) (fun _=>?_));refine Qd ?_;try simp only[go_sem]
 refine Qa ?_;simp only[go_sem];refine Qg ?_;exact retT' _ _ rfl
theorem FnExactLowerExpr_ty {cells c2:List C}(h:TyC prog BB cells)(k:TyC prog BW c2)(g:GK H):Qi prog Tp [.ag cells,.c (c2.headD .unk)] H fun v _=>v=.c (.bool true):=by
 obtain⟨c,rfl,h1,h2⟩:=Ow k;have hs:=KB _ cells (Jaa _) h;obtain⟨css,rfl,h3,h4⟩:=h.of_struct u_Ex
 match css,h3 with
 |[c0,c1,c2,c3],_=>
  obtain⟨a,rfl,_⟩:=(h4 0 _ _ rfl rfl).of_int Dp;obtain⟨b,rfl,_⟩:=(h4 1 _ _ rfl rfl).of_int Dp;obtain⟨cn,rfl,hn⟩:=(h4 2 _ _ rfl rfl).of_str Do;obtain⟨ck,rfl,h5,_⟩:=KZ (h4 3 _ _ rfl rfl);exact Qabx (by rcases hn with ⟨s,rfl⟩|⟨m,_,_,rfl⟩ <;> rfl) h5 h1 g hs h2 fun _=>rfl
end Go.AE.Y
namespace Go.AE.Y
open Go.ChangeShapes Go.WideShapes Go.ChangeAt Go.RowKit
def signL:List (Int×List UInt8×Int):=[(3,[43],3),(4,[45],3),(5,[42],4),(6,[47],4),(7,[37],4),(8,[60],2),(9,[61],2),(10,[38],1)]
def kC (t:Int×List UInt8×Int):C:=.int .i64 t.1
def rC (t:Int×List UInt8×Int):List C:=[.str t.2.1,.int .i64 t.2.2]
def kvV (t:Int×List UInt8×Int):Value×Value:=(.int .i64 t.1,.agg #[.string ⟨t.2.1.toArray⟩,.int .i64 t.2.2])
def eC (t:Int×List UInt8×Int):C×V:=(kC t,.ag (rC t))
structure Tabs (w:World):Prop where
 keys:∀(j:Nat) (s:List UInt8),keysL[j]? = some s→w.cell? ⟨BN,j,none⟩=some (.string ⟨s.toArray⟩)
 sign:∃b ms clock ts,w.cell? ⟨Bq,0,none⟩=some (.map (some b))∧w.heap[b]? = some (.map ms clock)∧Go.MapKept.Stamped ms clock∧List.Perm ts signL∧
  ms.toList.map (fun m=>(m.key,m.val))=ts.map kvV
def gh5 (w:World):G:=⟨fun b=>decide (b<w.heap.size),fun _=>none,fun l=>if l=BN then some (BN,9,0)else if l=Bq then some (Bq,1,0)else none⟩
def hp5 (ts:List (Int×List UInt8×Int)):Heap:=fun l=>if l=BN then .gl BN (keysL.map C.str)else if l=Bq then .gl Bq [.cm true (ts.map kC) (ts.map rC)]else .none
theorem Qblq {op:Int}:∀{l1 l2:List (Int×List UInt8×Int)},l1.Perm l2→(l2.map (·.1)).Nodup→AI (.int .i64 op) (l1.map eC)=AI (.int .i64 op) (l2.map eC):=by
 intro l1 l2 hp
 induction hp with
 |nil=>intro _;rfl
 |cons x h ih=>
  intro hn;simp only[Js,Jat]at hn;simp only[Js,AI,ih hn.2]
 |swap x y l=>
  intro hn;simp only[Js,Jat,Jz,not_or]at hn;simp only[Js,AI,eC,kC,AM,decide_eq_true_eq];by_cases h1:op=y.1
  ·have h2:¬op=x.1:=fun e=>hn.1.1 (e.symm.trans h1);rw[if_pos h1,if_neg h2,if_pos h1]
  ·by_cases h2:op=x.1
   ·rw[if_neg h1,if_pos h2,if_pos h2]
   ·rw[if_neg h1,if_neg h2,if_neg h2,if_neg h1]
 |trans h1 h2 ih1 ih2=>
  intro hn;exact (ih1 ((h2.map _).nodup_iff.2 hn)).trans (ih2 hn)
theorem K0 {ts:List (Int×List UInt8×Int)}(hp:ts.Perm signL):GK (hp5 ts):=by
 refine⟨rfl,ts.map kC,ts.map rC,rfl,fun op=>?_⟩;have e:((ts.map kC).zip (ts.map rC)).map (fun e=>(e.1,V.ag e.2))=ts.map eC:=by
  rw[List.zip_map',Jap];rfl
 rw[e];refine⟨?_,?_⟩
 ·intro x hx;obtain⟨t,_,rfl⟩:=Jw.1 hx;exact⟨_,rfl⟩
 ·rw[Qblq hp (by decide)];simp only[signL,Js,Jad,AI,eC,kC,rC,AM,decide_eq_true_eq,levN];by_cases h3:op=3
  ·subst h3;exact⟨_,rfl⟩
  by_cases h4:op=4
  ·subst h4;exact⟨_,rfl⟩
  by_cases h5:op=5
  ·subst h5;exact⟨_,rfl⟩
  by_cases h6:op=6
  ·subst h6;exact⟨_,rfl⟩
  by_cases h7:op=7
  ·subst h7;exact⟨_,rfl⟩
  by_cases h8:op=8
  ·subst h8;exact⟨_,rfl⟩
  by_cases h9:op=9
  ·subst h9;exact⟨_,rfl⟩
  by_cases ie:op=10
  ·subst ie;exact⟨_,rfl⟩
  exact⟨[],by simp[h3,h4,h5,h6,h7,h8,h9,ie]⟩
theorem NZ {w:World}{ts:List (Int×List UInt8×Int)}{b:Nat}{ms:Array MapEntry}{clock:Nat}(hk:∀(j:Nat) (s:List UInt8),keysL[j]? = some s→w.cell? ⟨BN,j,none⟩=some (.string ⟨s.toArray⟩))
  (hc:w.cell? ⟨Bq,0,none⟩=some (.map (some b))) (hb:w.heap[b]? = some (.map ms clock)) (aF:Go.MapKept.Stamped ms clock) (hp:ts.Perm signL)
  (hm:ms.toList.map (fun m=>(m.key,m.val))=ts.map kvV):Sat (hp5 ts) (gh5 w) w:=by
 have szof:∀{a:Addr} {v:Value},w.cell? a=some v→a.block<w.heap.size:=by
  intro a v h;rcases Jax a.block w.heap.size with h'|h'
  ·exact h'
  ·simp[World.cell?,Jan h']at h
 have h1:BN<w.heap.size:=szof (hk 0 _ rfl);have h2:Bq<w.heap.size:=szof hc;have h3:b<w.heap.size:=by
  rcases Jax b w.heap.size with h'|h'
  ·exact h'
  ·simp[Jan h']at hb
 have ai:ms.size=ts.length:=by
  have:=congrArg List.length hm;simpa using this
 have hl8:ts.length=8:=hp.length_eq;have bn:∀(i:Nat) (m:MapEntry),ms[i]? = some m→∃t,ts[i]? = some t∧t∈signL∧m.key=.int .i64 t.1∧m.val=.agg #[.string ⟨t.2.1.toArray⟩,.int .i64 t.2.2]:=by
  intro i m h;have h':(ms.toList.map (fun m=>(m.key,m.val)))[i]? = some (m.key,m.val):=by
   rw[Jo,Jab,h];rfl
  rw[hm,Jo]at h'
  cases ht:ts[i]? with
  |none=>rw[ht]at h';cases h'
  |some t=>
   rw[ht]at h';simp only[Option.map_some,Jaz,kvV,Prod.mk.injEq]at h';exact⟨t,rfl,(hp.mem_iff).1 (Jae ht),h'.1.symm,h'.2.symm⟩
 refine⟨fun b hb=>⟨by simp[gh5];omega,rfl⟩,⟨3,fun l hl=>by simp only[gh5];rw[if_neg (by simp only[BN];omega),if_neg (by simp only[Bq];omega)]⟩,fun b x h=>by simp[gh5]at h,fun b l p h=>by simp[gh5]at h,fun l=>?_⟩;by_cases e1:l=BN
 ·subst e1;refine⟨9,fun j=>.string ⟨(keysL.getD j []).toArray⟩,by simp[gh5],by simpa[gh5]using h1,fun j c h=>?_,fun j c h=>?_⟩
  ·rw[Jo]at h
   cases hs:keysL[j]? with
   |none=>rw[hs]at h;cases h
   |some s=>
    show _=some (Value.string ⟨(keysL.getD j []).toArray⟩);rw[hk j s hs,Ji,hs];rfl
  ·rw[Jo]at h
   cases hs:keysL[j]? with
   |none=>rw[hs]at h;cases h
   |some s=>
    rw[hs]at h;obtain rfl:=J1 h;have a9:s.length≤4:=by
     have:∀s∈keysL,s.length≤4:=(by decide);exact this s (Jae hs)
    show RepC _ _ _ (Value.string ⟨(keysL.getD j []).toArray⟩);rw[Ji,hs];exact .str _ (by simp only[LIM];omega)
 ·by_cases e2:l=Bq
  ·subst e2;refine⟨1,fun _=>.map (some b),by simp[gh5],by simpa[gh5]using h2,fun j c h=>?_,fun j c h=>?_⟩
   ·obtain rfl:j=0:=by
     rcases Jaq j with h'|h'
     ·exact h'
     ·rw[Jac (by simp;omega)]at h;cases h
    exact hc
   ·obtain rfl:j=0:=by
     rcases Jaq j with h'|h'
     ·exact h'
     ·rw[Jac (by simp;omega)]at h;cases h
    obtain rfl:=J1 h;obtain⟨_,s2,s3⟩:=aF;refine .cm true (ts.map kC) (ts.map rC) b ms clock (fun i j=>match ts[i]? with|some t=>if j=0 then .string ⟨t.2.1.toArray⟩else .int .i64 t.2.2|none=>.int .i64 0) (by simpa[gh5]using h3) hb (by simpa using ai) (by simp) (by simp[hl8,LIM]) ?_ ?_ ?_ ?_
    ·intro i j m m' hi hj he;have gi:ms.toList[i]? = some m:=(by rw[Jab];exact hi);have gj:ms.toList[j]? = some m':=(by rw[Jab];exact hj);rcases he with he|he
     ·have:=Jar (l:=ms.toList.map (·.born)) (i:=i) (j:=j) (by simpa using (Jaj.1 hi).1) s2;exact this.1 (by rw[Jo,Jo,gi,gj];simp[he])
     ·have:=Jar (l:=ms.toList.map (·.key)) (i:=i) (j:=j) (by simpa using (Jaj.1 hi).1) s3;exact this.1 (by rw[Jo,Jo,gi,gj];simp[he])
    ·intro i row m hr hi;obtain⟨t,ht,_,_,hv⟩:=bn i m hi;rw[Jo,ht]at hr;obtain rfl:=J1 hr;refine⟨?_,fun h=>by cases h⟩;rw[hv];simp[rC,ht,List.range_succ]
    ·intro i k m mz hi;obtain⟨t,ht,_,ce,_⟩:=bn i m hi;rw[Jo,ht]at mz;obtain rfl:=J1 mz;rw[ce];exact .int _ _
    ·intro i row j c hr hj;rw[Jo]at hr
     cases ht:ts[i]? with
     |none=>rw[ht]at hr;cases hr
     |some t=>
      rw[ht]at hr;obtain rfl:=J1 hr;have eL:t∈signL:=(hp.mem_iff).1 (Jae ht);have a9:t.2.1.length≤1:=by
       have:∀t∈signL,t.2.1.length≤1:=(by decide);exact this t eL
      match j,hj with
      |0,hj=>
       obtain rfl:=J1 hj;exact .str _ (by simp only[LIM];omega)
      |1,hj=>
       obtain rfl:=J1 hj;exact .int _ _
      |j+2,hj=>simp[rC]at hj
  ·show SatObj _ _ _ _ (hp5 ts l);rw[hp5,if_neg e1,if_neg e2];trivial
theorem MG {H:Type}(x:Lit×DataW H):∀l,(DataW.insert x l).Perm (x::l)
 |[]=>.refl _
 |y::r=>by
  rw[DataW.insert];split
  ·exact .refl _
  ·exact ((MG x r).cons y).trans (.swap x y r)
theorem O8 {H:Type}:∀l:List (Lit×DataW H),(l.foldr DataW.insert []).Perm l
 |[]=>.refl _
 |x::r=>(MG x _).trans ((O8 r).cons x)
def litD (t:Int×List UInt8×Int):Lit×DataW Unit:=(.int .i64 t.1,.agg [.lit (.string t.2.1),.lit (.int .i64 t.2.2)])
def decD:Lit×DataW Unit→Int×List UInt8×Int
 |(.int _ n,.agg [.lit (.string s),.lit (.int _ l)])=>(n,s,l)
 |_=>(0,[],0)
theorem sign_entries {l:List MapEntry}{f:MapEntry→Lit×DataW Unit}(hp:((l.map f).foldr DataW.insert [])=signL.map litD)(hf:∀m∈l,∀t,f m=litD t→(m.key,m.val)=kvV t) :
  ∃ts,List.Perm ts signL∧l.map (fun m=>(m.key,m.val))=ts.map kvV:=by
 have h1:(l.map f).Perm (signL.map litD):=(O8 _).symm.trans (by rw[hp]);refine⟨(l.map f).map decD,?_,?_⟩
 ·have:=h1.map decD;rw[Jap (g:=decD) (f:=litD)]at this;exact this
 ·rw[Jap,Jap];refine List.map_congr_left fun m hm=>?_;have eL:f m∈signL.map litD:=(h1.mem_iff).1 (Jw.2 ⟨m,hm,rfl⟩);obtain⟨t,_,ht⟩:=Jw.1 eL;have e:decD (f m)=t:=by rw[←ht];rfl
  simp only[Function.comp,e];exact hf m hm t ht.symm
theorem Q08 {P:Program}{f:Nat}{H0:Heap}{g0:G}{w:World}{xs:List V}{vs:List Value}(h:Qi P f xs H0 fun v _=>v=.c (.bool true))(hg:∀b,b<w.heap.size→g0.per b=true)(hs:Sat H0 g0 w)
  (hl:vs.length=xs.length) (hv:∀(j:Nat) (x:V) (u:Value),xs[j]? = some x→vs[j]? = some u→RepV w g0 x u) :
  Calls P f vs.toArray w fun e w'=>e=.returned (.bool true)∧Below w.heap.size w w':=by
 refine (h.2 _ w vs hs hl hv).mono fun e w'=>?_;rintro (⟨v,x,H',g',rfl,rfl,aF,hv⟩|⟨v,H',g',_,h,_⟩)
 rotate_left
 ·cases h
 have:v=.bool true:=by cases hv with|c _ _ h=>cases h;rfl
 subst this;exact⟨rfl,aF.le.os,aF.le.tape,aF.le.output,aF.le.size,fun k hk=>(aF.le.per k (hg _ hk)).2⟩
theorem calls_of_acall6 {P:Program}{f:Nat}{cells:List C}(h:∀H:Heap,GK H→Qi P f [.ag cells] H fun v _=>v=.c (.bool true))
  {w:World} {cs:Array Value} (ht:Tabs w) (hl:cs.toList.length=cells.length) (hr:∀(j:Nat) (c:C) (v:Value),cells[j]? = some c→cs.toList[j]? = some v→RepC w (gh5 w) c v) :
  Calls P f #[.agg cs] w fun e w'=>e=.returned (.bool true)∧Below w.heap.size w w':=by
 obtain⟨hk,b,ms,clock,ts,h1,h2,h3,h4,h5⟩:=ht;refine Q08 (xs:=[.ag cells]) (vs:=[.agg cs]) (g0:=gh5 w) (h (hp5 ts) (K0 h4)) (fun b hb=>by simpa[gh5]using hb) (NZ hk h1 h2 h3 h4 h5) rfl fun j x u hj hu=>?_
 cases j with
 |zero=>
  simp at hj hu;subst hj;subst hu;have:=RepV.ag (w:=w) (g:=gh5 w) cells cs.toList hl hr;simpa using this
 |succ j=>simp at hj
theorem calls_of_acall8 {P:Program}{f:Nat}{cells c2:List C}(h:∀H:Heap,GK H→Qi P f [.ag cells,.c (c2.headD .unk)] H fun v _=>v=.c (.bool true))
  {w:World} {cs:Array Value} {v1:Value} (ht:Tabs w) (hl:cs.toList.length=cells.length) (hr:∀(j:Nat) (c:C) (v:Value),cells[j]? = some c→cs.toList[j]? = some v→RepC w (gh5 w) c v) (dm:RepC w (gh5 w) (c2.headD .unk) v1) :
  Calls P f #[.agg cs,v1] w fun e w'=>e=.returned (.bool true)∧Below w.heap.size w w':=by
 obtain⟨hk,b,ms,clock,ts,h1,h2,h3,h4,h5⟩:=ht;refine Q08 (xs:=[.ag cells,.c (c2.headD .unk)]) (vs:=[.agg cs,v1]) (g0:=gh5 w) (h (hp5 ts) (K0 h4)) (fun b hb=>by simpa[gh5]using hb) (NZ hk h1 h2 h3 h4 h5) rfl fun j x u hj hu=>?_
 match j with
 |0=>
  simp at hj hu;subst hj;subst hu;have:=RepV.ag (w:=w) (g:=gh5 w) cells cs.toList hl hr;simpa using this
 |1=>
  obtain rfl:=J1 hj;obtain rfl:=J1 hu;exact .c _ _ dm
 |j+2=>simp at hj
end Go.AE.Y
