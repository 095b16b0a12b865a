/- Part 5 of the proof: the engine, codes, walks and plain laws, each named where it stands. -/
import Derived.Test.YtldooelffjcbmaaGreatZD
open Nat (reduceEqDiff reduceAdd reduceLeDiff reduceLT)
set_option linter.unusedVariables false
set_option linter.unusedSimpArgs false
set_option maxRecDepth 4000
open Bool renaming and_eq_true->Jbh
open Int renaming le_refl->Ja6
open List renaming getD_eq_getElem?_getD->Ja,getElem_mem->Jb,mem_append_right->Jc,length_map->Jd,getElem?_eq_getElem->Je,take_of_length_le->Jf,mem_singleton->Jg,mem_append_left->Jh,length_cons->Jk,length_nil->Jl,mem_map->Jm,map_append->Jn,mem_append->Jo,take_succ_eq_append_getElem->Jp,length_set->Jq,mem_flatMap->Jr,mem_iff_getElem->Js,getElem?_map->Ju,nodup_append->Jv,mem_cons_self->Jw,getElem?_eq_none->Jx,perm_append_comm->Jy,mem_or_eq_of_mem_set->J0,mem_cons_of_mem->J1,getElem_cons_succ->J2,mem_cons->J3,getElem_cons_zero->J4,nil_append->J5,cons_append->J6,getElem_set->J7,mem_of_getElem?->J8,map_cons->J9,map_set->Jaa,mem_range->Jab,append_assoc->Jac,take_length->Jae,contains_iff_mem->Jaf,length_append->Jag,getElem?_of_mem->Jah,eq_of_mem_replicate->Jai,length_filter_le->Jaj,mem_filter->Jak,flatMap_cons->Jal,getElem?_append_right->Jam,eraseIdx_set_eq->Jan,getElem?_eq_some_iff->Jao,map_map->Jap,filter_append->Jaq,drop_zero->Jar,getElem_set_self->Jat,map_nil->Jau,set_append_right->Jav,ext_getElem->Jaw,getElem_map->Jax,length_take->Jay,getElem?_set_ne->Jaz,append_nil->Ja0,map_eq_nil_iff->Ja1,range_succ->Ja2,drop_eq_getElem_cons->Ja3,ext_getElem?->Ja4,getElem?_set->Ja5,filter_cons->Ja8,getElem?_set_self->Ja9,nodup_cons->Jba,set_getElem_self->Jbb,forall_mem_cons->Jbc,filter_sublist->Jbd,getD_cons_zero->Jbe,set_cons_succ->Jbf,length_range->Jbg,all_eq_true->Jbi,sum_cons->Jbl,set_set->Jbm
open List.Nodup renaming length_le_of_subset->Jas
open Nat renaming le_refl->Ji,zero_add->Jj,add_sub_cancel_left->Ja7,le_add_right->Jbj,zero_lt_succ->Jbk,le_trans->Jbn,succ_mul->Jbo,zero_le->Jbp
open Option renaming getD_some->Jt,map_some->Jz
open Option.some renaming inj->Jad
namespace Go.AE.Y
attribute [local go_sem] cond_true cond_false Bool.not_true Bool.not_false
open Go.Proofs.Tryz
variable {H H0 F:Heap}{K:V→Heap→Prop}{E L:List (Nat×Obj)}
structure SetO where
 c:C
 lg:List (Nat×Obj)
 ks:List Nat
structure SetO.ok (R:Nat)(s:SetO):Prop where
 nd:s.ks.Nodup
 lt:∀x∈s.ks,x<R
 m:(s.c=.mnil∧s.lg=[]∧s.ks=[])∨∃M ver,s.c=.mp M∧s.lg=[(M,.map ver (Qjn s.ks))]
def Qbxc (ss:List SetO):List (List C):=ss.map fun s=>[s.c]
theorem SetO.ok.isOw {R:Nat}{s:SetO}(h:s.ok R):s.c.isOw=false:=by rcases h.m with ⟨h,_⟩|⟨M,ver,h,_⟩ <;> rw[h] <;> rfl
theorem SetO.ok.len {R:Nat}{s:SetO}(h:s.ok R):s.ks.length≤R:=Q70 h.nd h.lt
def imE (q:CodeD)(fl:Bool)(l yi yp:Nat)(ss:List SetO)(pr:List (List C)):List (Nat×Obj):=
 [(l,.st [.int .i64 q.params,.int .i64 q.regs,.sl fl 5 (Qm q.blocks),.vsl yi 1 0 q.blocks.length,.vsl yp 1 0 q.blocks.length]),(yi,.vec 1 (Qbxc ss)),(yp,.vec 1 pr)]++ss.flatMap SetO.lg
structure imOk (q:CodeD)(ss:List SetO)(pr:List (List C)):Prop where
 l:ss.length=q.blocks.length
 s:∀s∈ss,s.ok q.regs.toNat
 pl:pr.length=q.blocks.length
 p:∀b,b<q.blocks.length→∃fl,pr.getD b []=[.sl fl 1 (Qe (Qac (gnx q) (b:Int) q.blocks.length))]
def tabS (ss:List SetO)(b:Nat):RS':=fun r=>r∈((ss[b]?.map SetO.ks).getD [])
end Go.AE.Y
namespace Go.AE.Y
attribute [local instance] Classical.propDecidable
def tab (zs:List (Nat×List Bool))(b:Nat):RS':=fun r=>(((zs[b]?).map Prod.snd).getD []).getD r false=true
variable {zs zi zo:List (Nat×List Bool)}{F:Flo}
theorem Qbnf {b:Nat}(h:b<zs.length)(r:Nat):tab zs b r↔zs[b].2.getD r false=true:=by simp[tab,h]
theorem Qbdl {b:Nat}{x:Nat×List Bool}(h:b<zs.length)(r:Nat):tab (zs.set b x) b r↔x.2.getD r false=true:=by simp[tab,h]
theorem Qvu {b c:Nat}{x:Nat×List Bool}(h:c≠b):tab (zs.set b x) c=tab zs c:=by
 funext r
 simp only[tab];rw[Jaz (fun e=>h e.symm)]
theorem Qa38 {α:Type}{l:List α}{i:Nat}{x:α}(h:l[i]? = some x):l.set i x=l:=by
 have hi:=(Jao.1 h).1;refine Ja4 fun j=>?_;rw[Ja5];by_cases hij:i=j
 ·subst hij;rw[if_pos rfl,if_pos hi,h]
 ·rw[if_neg hij]
theorem Qaeo {a b:List Bool}(hl:a.length=b.length)(h:∀r,a.getD r false=true→b.getD r false=true):cnt a≤cnt b∧(∀r,a.getD r false≠b.getD r false→cnt a<cnt b):=by
 induction a generalizing b with
 |nil=>
  cases b with
  |nil=>exact⟨Ji _,fun r hr=>absurd rfl hr⟩
  |cons=>simp at hl
 |cons x a ih=>
  cases b with
  |nil=>simp at hl
  |cons y b=>
   have ih':=ih (b:=b) (by simpa using hl) fun r hr=>by have:=h (r+1);simpa using this (by simpa using hr)
   have h0:x=true→y=true:=by have:=h 0;simpa using this
   have hc:∀(z:Bool) (l:List Bool),cnt (z::l)=cnt l+(if z=true then 1 else 0):=fun z l=>by
    simp only[cnt,List.count_cons];cases z <;> simp
   rw[hc,hc];refine⟨?_,fun r hr=>?_⟩
   ·cases x with
    |false=>have:=ih'.1;cases y <;> simp <;> omega
    |true=>rw[h0 rfl];have:=ih'.1;simp;omega
   ·cases r with
    |zero=>
     have hxy:x≠y:=by simpa using hr
     cases x with
     |true=>exact absurd (h0 rfl).symm hxy
     |false=>
      cases y with
      |false=>exact absurd rfl hxy
      |true=>have:=ih'.1;simp;omega
    |succ r=>
     have:=ih'.2 r (by simpa using hr)
     cases x with
     |false=>cases y <;> simp <;> omega
     |true=>rw[h0 rfl];simp;omega
def Qnk (zs:List (Nat×List Bool)):Nat:=(zs.map fun p=>cnt p.2).sum
theorem Qbdm {b:Nat}{x:Nat×List Bool}(h:b<zs.length):Qnk (zs.set b x)+cnt zs[b].2=Qnk zs+cnt x.2:=by
 induction zs generalizing b with
 |nil=>simp at h
 |cons z zs ih=>
  cases b with
  |zero=>simp[Qnk];omega
  |succ b=>
   have:=ih (b:=b) (by simpa using h);simp only[Qnk,Jbf,J9,Jbl,J2]at this⊢;omega
theorem Qavs {R:Nat}(h:∀p∈zs,p.2.length=R):Qnk zs≤zs.length * R:=by
 induction zs with
 |nil=>simp[Qnk]
 |cons z zs ih=>
  have h1:=Qbck z.2;rw[h z Jw]at h1;have h2:=ih fun p hp=>h p (J1 _ hp);simp only[Qnk,J9,Jbl,Jk,Jbo]at *;omega
structure LvInv (F:Flo)(zi zo:List (Nat×List Bool)):Prop where
 bi:∀b,b<F.n→∀r,tab zi b r→F.LI b r
 bo:∀b,b<F.n→∀r,tab zo b r→F.LO b r
 post:∀b,b<F.n→∀r,tab zi b r→F.thru (tab zo b) b r
def LvCl (F:Flo)(zi zo:List (Nat×List Bool))(b:Nat):Prop:=(∀r,F.outT (tab zi) b r→tab zo b r)∧∀r,F.thru (tab zo b) b r→tab zi b r
theorem LvInv.done (h:LvInv F zi zo)(hf:F.fits)(hc:∀b,b<F.n→LvCl F zi zo b):∀b,b<F.n→∀r,(tab zi b r↔F.LI b r)∧(tab zo b r↔F.LO b r):=by
 have hp:F.Pre (tab zi):=fun b hb r hr=>(hc b hb).2 r (Flo.thru_mono (hc b hb).1 b r hr);intro b hb r;refine⟨Flo.is_least hp h.bi hb r,h.bo b hb r,fun hr=>(hc b hb).1 r ?_⟩;exact Flo.outT_mono hf (fun c hc r hr=>(Flo.is_least hp h.bi hc r).2 hr) hb r hr
theorem LvInv.step {R z w y b:Nat}{bs bw bs1 nb:List Bool}{a a1 a2:Bool}(h:LvInv F zi zo)(hf:F.fits)(hb:b<F.n)(hil:zi.length=F.n)(hol:zo.length=F.n)(hRi:∀p∈zi,p.2.length=R)(hRo:∀p∈zo,p.2.length=R)
  (hl1:bs1.length=R) (hln:nb.length=R) (hzo:zo[b]? = some (z,bs)) (hzi:zi[b]? = some (w,bw))
  (g1:∀r,bs.getD r false=true→bs1.getD r false=true) (g2:∀r,bs1.getD r false=true→F.LO b r) (g3:∀r,F.outT (tab zi) b r→bs1.getD r false=true)
  (g4:∀r,nb.getD r false=true↔F.thru (fun r=>bs1.getD r false=true) b r)
  (k1:a1=true→a=true∨cnt bs<cnt bs1) (k2:a1=false→a=false∧bs1=bs)
  (k3:a2=true→a1=true∨∃r,nb.getD r false≠bw.getD r false) (k4:a2=false→a1=false∧∀r,r<R→nb.getD r false=bw.getD r false) :
  LvInv F (zi.set b (y,nb)) (zo.set b (z,bs1))∧Qnk zi+Qnk zo≤Qnk (zi.set b (y,nb))+Qnk (zo.set b (z,bs1))∧
   (a2=true→a=true∨Qnk zi+Qnk zo<Qnk (zi.set b (y,nb))+Qnk (zo.set b (z,bs1)))∧
   (a2=false→a=false∧LvCl F (zi.set b (y,nb)) (zo.set b (z,bs1)) b∧∀c,LvCl F zi zo c→LvCl F (zi.set b (y,nb)) (zo.set b (z,bs1)) c):=by
 have hbi:b<zi.length:=by omega
 have hbo:b<zo.length:=by omega
 have ezo:zo[b]=(z,bs):=by rw[Je hbo]at hzo;simpa using hzo
 have ezi:zi[b]=(w,bw):=by rw[Je hbi]at hzi;simpa using hzi
 have hlb:bs.length=R:=hRo (z,bs) (by rw[←ezo];exact Jb hbo);have hlw:bw.length=R:=hRi (w,bw) (by rw[←ezi];exact Jb hbi);have tzo:∀r,tab zo b r↔bs.getD r false=true:=fun r=>by rw[Qbnf hbo,ezo]
 have tzi:∀r,tab zi b r↔bw.getD r false=true:=fun r=>by rw[Qbnf hbi,ezi]
 have tzo':∀r,tab (zo.set b (z,bs1)) b r↔bs1.getD r false=true:=fun r=>Qbdl hbo r;have tzi':∀r,tab (zi.set b (y,nb)) b r↔nb.getD r false=true:=fun r=>Qbdl hbi r;have hsub:∀r,bw.getD r false=true→nb.getD r false=true:=fun r hr=>by
  rw[g4];exact Flo.thru_mono (fun r hr=>g1 r ((tzo r).1 hr)) b r (h.post b hb r ((tzi r).2 hr))
 have c1:=Qaeo (a:=bs) (b:=bs1) (by omega) g1;have c2:=Qaeo (a:=bw) (b:=nb) (by omega) hsub;have t1:=Qbdm (zs:=zo) (x:=(z,bs1)) hbo;have t2:=Qbdm (zs:=zi) (x:=(y,nb)) hbi;rw[ezo]at t1;rw[ezi]at t2;simp only at t1 t2;refine⟨⟨fun c hc r hr=>?_,fun c hc r hr=>?_,fun c hc r hr=>?_⟩,by have:=c1.1;have:=c2.1;omega,fun ha=>?_,fun ha=>?_⟩
 ·by_cases hcb:c=b
  ·subst hcb;rw[tzi',g4]at hr;exact Flo.LI_pre hf c hb r (Flo.thru_mono g2 c r hr)
  ·rw[Qvu hcb]at hr;exact h.bi c hc r hr
 ·by_cases hcb:c=b
  ·subst hcb;rw[tzo']at hr;exact g2 r hr
  ·rw[Qvu hcb]at hr;exact h.bo c hc r hr
 ·by_cases hcb:c=b
  ·subst hcb;rw[tzi',g4]at hr;exact Flo.thru_mono (fun r hr=>(tzo' r).2 hr) c r hr
  ·rw[Qvu hcb]at hr⊢;exact h.post c hc r hr
 ·rcases k3 ha with h1|⟨r,hr⟩
  ·rcases k1 h1 with h2|h2
   ·exact .inl h2
   ·right;have:=c2.1;omega
  ·right;have:=c2.2 r (fun e=>hr e.symm);have:=c1.1;omega
 ·obtain⟨h1,h2⟩:=k4 ha;obtain⟨h3,h4⟩:=k2 h1;have hnb:∀r,nb.getD r false=bw.getD r false:=fun r=>by
   by_cases hr:r<R
   ·exact h2 r hr
   ·rw[Ja,Ja,Jx (by omega),Jx (by omega)]
  have ti:tab (zi.set b (y,nb))=tab zi:=by
   funext c r
   by_cases hcb:c=b
   ·subst hcb;refine propext ?_;rw[tzi',tzi,hnb]
   ·rw[Qvu hcb]
  have to:tab (zo.set b (z,bs1))=tab zo:=by
   funext c r
   by_cases hcb:c=b
   ·subst hcb;refine propext ?_;rw[tzo',tzo,h4]
   ·rw[Qvu hcb]
  refine⟨h3,⟨fun r hr=>?_,fun r hr=>?_⟩,fun c hc=>?_⟩
  ·rw[ti]at hr;exact (tzo' r).2 (g3 r hr)
  ·rw[tzi',g4];exact Flo.thru_mono (fun r hr=>(tzo' r).1 hr) b r hr
  ·rw[LvCl,ti,to];exact hc
end Go.AE.Y
namespace Go.AE.Y
attribute [local go_sem] cond_true cond_false Bool.not_true Bool.not_false
open Go.Proofs.Tryz
variable {H H0 F:Heap}{K:V→Heap→Prop}{E L:List (Nat×Obj)}
def Qb3 (R:Nat)(zs:List (Nat×List Bool)):List (List C):=zs.map fun p=>[.vsl p.1 1 0 R]
def obZ (zs:List (Nat×List Bool)):List (Nat×Obj):=zs.map fun p=>(p.1,.vec 1 (Qo p.2))
theorem Qa1 (R:Nat)(zs:List (Nat×List Bool)):(Qb3 R zs).length=zs.length:=by simp[Qb3]
theorem Qeg (R:Nat)(zs:List (Nat×List Bool))(i:Nat)(h:i<zs.length):(Qb3 R zs).getD i []=[.vsl zs[i].1 1 0 R]:=by simp[Qb3,Ja,h]
theorem Qaxs {R:Nat}{zs:List (Nat×List Bool)}{i:Nat}{x:Nat×List Bool}(h:i<zs.length)(hx:x.1=zs[i].1):Qb3 R (zs.set i x)=Qb3 R zs:=by
 rw[Qb3,Jaa,hx];refine Ja4 fun j=>?_;rw[Ja5];split
 ·subst_vars;rw[if_pos (by simpa using h)];simp[Qb3,h]
 ·rfl
def lvE (R yi yo:Nat)(zi zo:List (Nat×List Bool)):List (Nat×Obj):=[(yi,.vec 1 (Qb3 R zi)),(yo,.vec 1 (Qb3 R zo))]++(obZ zi++obZ zo)
variable {R yi yo:Nat}{zi zo:List (Nat×List Bool)}
theorem Qbwq {b:Nat}(hb:b<zo.length):(lvE R yi yo zi zo)[2+zi.length+b]? = some (zo[b].1,.vec 1 (Qo zo[b].2)):=by
 have:2+zi.length+b=(zi.length+b)+1+1:=by omega
 rw[lvE,this];simp only[J6,J5,List.getElem?_cons_succ];rw[Jam (by simp[obZ])];simp[obZ,hb]
theorem Qbtf {b z:Nat}{bs:List Bool}(hb:b<zo.length)(hz:zo[b].1=z):(lvE R yi yo zi zo).set (2+zi.length+b) (z,.vec 1 (Qo bs))=lvE R yi yo zi (zo.set b (z,bs)):=by
 have:2+zi.length+b=(zi.length+b)+1+1:=by omega
 rw[lvE,lvE,this,Qaxs hb hz.symm];simp only[J6,J5,Jbf];rw[Jav _ _ (by simp[obZ])];simp[obZ,Jaa]
theorem Qarz {b m z w:Nat}{bs nb:List Bool}(kn:Kn F H (lvE R yi yo zi (zo.set b (z,bs))) L)(hb:b<zo.length)(hz:zo[b].1=z)(hm:m<zi.length)(hw:zi[m]=(w,nb)) :
  H yi=.vec 1 (Qb3 R zi)∧H yo=.vec 1 (Qb3 R zo)∧H z=.vec 1 (Qo bs)∧H w=.vec 1 (Qo nb):=by
 refine⟨(kn.get (yi,.vec 1 (Qb3 R zi)) (by simp[lvE])).1,?_,(kn.get (z,.vec 1 (Qo bs)) ?_).1,(kn.get (w,.vec 1 (Qo nb)) ?_).1⟩
 ·rw[←Qaxs (R:=R) (x:=(z,bs)) hb hz.symm];exact (kn.get (yo,.vec 1 (Qb3 R (zo.set b (z,bs)))) (by simp[lvE])).1
 ·refine Jh _ (Jc _ (Jc _ (Jm.2 ⟨(z,bs),?_,rfl⟩)));exact Js.2 ⟨b,by simpa using hb,by simp⟩
 ·exact Jh _ (Jc _ (Jh _ (Jm.2 ⟨(w,nb),by rw[←hw];exact Jb hm,rfl⟩)))
theorem Qbte {b z:Nat}{bs bs2:List Bool}{H':Heap}(kn:Kn F H (lvE R yi yo zi (zo.set b (z,bs))) L)(hb:b<zo.length)(h:H'=H.set z (.vec 1 (Qo bs2))):Kn F H' (lvE R yi yo zi (zo.set b (z,bs2))) L:=by
 have hb':b<(zo.set b (z,bs)).length:=by simpa using hb
 have:=kn.stE (2+zi.length+b) (x:=z) (o:=.vec 1 (Qo bs)) (by have h:=Qbwq (R:=R) (yi:=yi) (yo:=yo) (zi:=zi) hb';simpa using h) h;rw[Qbtf hb' (by simp),Jbm]at this;exact this
theorem Qbjm {b z:Nat}{bs bs2:List Bool}:(lvE R yi yo zi (zo.set b (z,bs))).map Prod.fst=(lvE R yi yo zi (zo.set b (z,bs2))).map Prod.fst:=by
 have e:∀bs:List Bool,(obZ (zo.set b (z,bs))).map Prod.fst=(zo.map Prod.fst).set b z:=fun bs=>by
  simp only[obZ,Jaa,Jap];rfl
 simp only[lvE,Jn,J9,Jau,e]
theorem Q4w {bs:List Bool}{r:Nat}(h:bs.getD r false=true):bs.set r true=bs:=by
 refine Ja4 fun j=>?_;rw[Ja5];split
 ·subst_vars
  rw[Ja]at h;split
  ·rename_i hl;rw[Je hl]at h⊢;simp at h;rw[h]
  ·rename_i hl;rw[Jx (by omega)]
 ·rfl
structure lvOk (R n:Nat)(zi zo:List (Nat×List Bool)):Prop where
 i:zi.length=n
 o:zo.length=n
 li:∀p∈zi,p.2.length=R
 lo:∀p∈zo,p.2.length=R
set_option maxHeartbeats 4000000 in
theorem Qbi6 {q:CodeD}{bc:C}{Xs:List Nat}{b m z:Nat}{bs nb:List Bool}{w:Nat}(ho:q.ok)(hbc:CodeR F Xs bc q)(hX:∀x∈(lvE q.regs.toNat yi yo zi zo).map Prod.fst,x∈Xs)(hb:b<q.blocks.length)(hmx:(m:Int)∈gnx q b)(hok:lvOk q.regs.toNat q.blocks.length zi zo)
  (hz:zo[b]? = some (z,bs)) (hw:zi[m]? = some (w,nb)) {O I:RS'} (hO:Mem bs O) (hI:Mem nb I)
  (kn:Kn F H (lvE q.regs.toNat yi yo zi zo) [])
  (hK:∀(bs':List Bool) (a:Bool) H',bs'.length=q.regs.toNat→Mem bs' (fun r=>O r∨I r∨r∈(Qa5 q).ea b m)→(a=true→cnt bs<cnt bs')→(a=false→bs'=bs)→Kn F H' (lvE q.regs.toNat yi yo zi (zo.set b (z,bs'))) []→K (.c (.bool a)) H') :
  Qu prog Q47 [.ag [.int .i64 q.params,.int .i64 q.regs,bc],.ag [.vsl yi 1 0 q.blocks.length,.vsl yo 1 0 q.blocks.length],.c (.int .i64 b),.c (.int .i64 m)] H K:=by
 have hr0:=ho.r0;have hr1:=ho.r1;have hb1:=ho.b1;have hmb:m<q.blocks.length:=by
  have:=(ho.bs b hb).nx (m:Int) (by rw[←Q1h hb];exact hmx);omega
 have hix:=ho.ix hb hmx;have hpe:(b:Int)∈Qac (gnx q) (m:Int) q.blocks.length:=List.idxOf_lt_length_iff.1 hix;obtain⟨y,hy⟩:∃y,q.blocks[m]=y:=⟨_,rfl⟩;have hyo:y.ok q m:=by rw[←hy];exact ho.bs m hmb
 have hil:y.ins.length≤1200∧y.phis.length≤1200:=by rw[←hy];exact ho.il m hmb
 have hea:(Qa5 q).ea b m=y.phis.map fun p=>(p.args.getD ((Qac (gnx q) (m:Int) q.blocks.length).idxOf (b:Int)) 0).toNat:=by rw[Qbn6 hmb,hy]
 generalize hat:(Qac (gnx q) (m:Int) q.blocks.length).idxOf (b:Int)=at_ at *;have hbo:b<zo.length:=by rw[hok.o];exact hb
 have hmi:m<zi.length:=by rw[hok.i];exact hmb
 have hz':zo[b]=(z,bs):=by rw[Je hbo]at hz;simpa using hz
 have hw':zi[m]=(w,nb):=by rw[Je hmi]at hw;simpa using hw
 have hz1:zo[b].1=z:=by rw[hz']
 have hw1:zi[m].1=w:=by rw[hw']
 have hbl:bs.length=q.regs.toNat:=hok.lo (z,bs) (by rw[←hz'];exact Jb hbo);have hnl:nb.length=q.regs.toNat:=hok.li (w,nb) (by rw[←hw'];exact Jb hmi);have hzl:=hok.o;have hil2:=hok.i;have hset:zo.set b (z,bs)=zo:=Qa38 hz;have htk:∀(bs1:List Bool),bs1.length=q.regs.toNat→(Qo bs1).take q.regs.toNat=Qo bs1:=fun bs1 h=>Jf (by rw[Qy];omega);have htz:∀(zs:List (Nat×List Bool)),zs.length=q.blocks.length→(Qb3 q.regs.toNat zs).take q.blocks.length=Qb3 q.regs.toNat zs:=fun zs h=>Jf (by rw[Qa1];omega);rw[←hset]at kn hX;have hbw:=hbc.ow;have hX2:∀(bs1:List Bool),∀x∈(lvE q.regs.toNat yi yo zi (zo.set b (z,bs1))).map Prod.fst,x∈Xs:=fun bs1 x hx=>hX x (by rw[Qbjm (bs2:=bs)]at hx;exact hx);obtain⟨hyi,hyo',hzz,hww⟩:=Qarz kn hbo hz1 hmi hw';refine Qb Qam Qbjy ?_;refine Qa ?_;simp only[go_sem,hbw];refine Qa ?_;simp only[go_sem,hbw,hyi,hww,htz _ hil2,htk _ hnl,Qa1,Qeg _ _ _ hmi,hw1,hmb,hil2,Qy,hnl,Jj,Ji,J5,Jl];refine⟨.inl trivial,Qjr _,by simp only[LIM];omega,fun y9 hy9 H1 h1=>?_⟩;have kn:=kn.al hy9 h1;simp only[go_sem,Q88,hbw];refine Qa ?_;simp only[go_sem,hbw];refine Qgl (rows:=Qm q.blocks) (nx:=gnx q) (hbc.rd kn hX) hbw (Qjw H1 q false).x fun H2 hu=>?_;have kn:=kn.call0 hu;rw[Qj];simp only[go_sem,Q9a];refine Qafc (.mk' _ _ _ _) rfl fun r hr=>?_;have hr:=hr.idx hpe;rw[hat]at hr;subst hr;simp only[go_sem,Q89];refine Q5 ?_;refine Qa ?_;simp only[go_sem];refine Qh (Qc (Qv (fun m1 e1 H1=>∃(i:Nat) (nb1:List Bool),m1=y.phis.length-i∧i≤y.phis.length∧nb1.length=q.regs.toNat∧Mem nb1 (fun r=>I r∨r∈((Qa5 q).ea b m).take i)∧Kn F H1 (lvE q.regs.toNat yi yo zi (zo.set b (z,bs))) [(y9,.vec 1 (Qo nb1))]∧
  e1=[(2,.c (.int .i64 b)),(3,.c (.int .i64 m)),(4,.c (.pp [.int .i64 q.params,.int .i64 q.regs,bc])),(5,.c (.pp [.vsl yi 1 0 q.blocks.length,.vsl yo 1 0 q.blocks.length])),(9,.c (.vsl y9 1 0 q.regs.toNat)),(10,.c (.int .i64 at_)),(11,.c (.int .i64 i))]) y.phis.length ?_ ?_))
 ·exact⟨0,nb,by omega,by omega,hnl,hI.congr fun r=>by simp,kn,rfl⟩
 ·rintro m1 e1 H3 ⟨i,nb1,hm1,hi,hnl,hN,kn,rfl⟩;have hy9:=kn.l 0 rfl;obtain⟨hbok,hbln,hbsz,hbrw⟩:=hbc.facts kn (hX2 bs);refine Q5 ?_;refine Qa ?_;simp only[go_sem,hbw,hbok,hbln,hbsz,hbrw,hmb,Qj,Q9 _ _ hmb,hy,BlkD.cells,Q6];intro _;refine Qh (Qd rfl ?_ ?_)
  ·intro hc;have hlt:i<y.phis.length:=by simpa using hc
   have hpal:=hyo.pal _ (Jb hlt);have hal:at_<y.phis[i].args.length:=by omega
   obtain⟨hv,hvl⟩:=(hyo.pargs _ (Jb hlt) _ (Qln hal)).nat;have htk2:((Qa5 q).ea b m).take (i+1)=((Qa5 q).ea b m).take i++[(y.phis[i].args.getD at_ 0).toNat]:=by
    rw[Jp (by rw[hea,Jd];exact hlt)];simp[hea]
   have hvl':(y.phis[i].args.getD at_ 0).toNat<nb1.length:=by omega
   generalize hr:(y.phis[i].args.getD at_ 0).toNat=r at *;refine Qi ?_;try simp only[go_sem]
   refine Qh (Qc ?_);refine Qq ?_;simp only[go_sem,hbw,hbok,hbln,hbsz,hbrw,hmb,Qj,Q9 _ _ hmb,hy,BlkD.cells,Q6,hlt,Qa0 _ _ hlt,PhiD.cells,hal,Qg,Q0 _ _ hal,hv,hvl,hy9,htk _ hnl,Qy,hnl,Qbg,Q4 _ _ hvl',Jj,Ji];intro H4 h4;have kn:=kn.stL 0 rfl h4;refine Qq ?_;simp only[go_sem,X.next];refine⟨Qp (by omega) (by omega),y.phis.length-(i+1),by omega,i+1,_,rfl,by omega,by rw[Jq];exact hnl,?_,kn,rfl⟩;refine (hN.ins (by omega)).congr fun x=>?_;rw[htk2];simp only[Jo,Jg];constructor
   ·rintro (h|h|h)
    ·exact .inr (.inr h)
    ·exact .inl h
    ·exact .inr (.inl h)
   ·rintro (h|h|h)
    ·exact .inr (.inl h)
    ·exact .inr (.inr h)
    ·exact .inl h
  ·intro hc;have hge:y.phis.length≤i:=by simpa using hc
   have hN:Mem nb1 (fun r=>I r∨r∈(Qa5 q).ea b m):=hN.congr fun r=>by rw[Jf (by rw[hea,Jd];exact hge)]
   refine Qs ?_;simp only[go_sem,X.next];refine Qa ?_;simp only[go_sem];refine Q5 ?_;refine Qa ?_;simp only[go_sem];refine Qh (Qc (Qv (fun m1 e1 H1=>∃(i:Nat) (bs1:List Bool) (more:Bool),m1=q.regs.toNat-i∧i≤q.regs.toNat∧bs1.length=q.regs.toNat∧Mem bs1 (fun r=>O r∨(r<i∧(I r∨r∈(Qa5 q).ea b m)))∧(more=true→cnt bs<cnt bs1)∧(more=false→bs1=bs)∧
    Kn F H1 (lvE q.regs.toNat yi yo zi (zo.set b (z,bs1))) [(y9,.vec 1 (Qo nb1))]∧
    e1=[(2,.c (.int .i64 b)),(4,.c (.pp [.int .i64 q.params,.int .i64 q.regs,bc])),(5,.c (.pp [.vsl yi 1 0 q.blocks.length,.vsl yo 1 0 q.blocks.length])),(9,.c (.vsl y9 1 0 q.regs.toNat)),(12,.c (.bool more)),(13,.c (.int .i64 i))]) q.regs.toNat ?_ ?_))
   ·exact⟨0,bs,false,by omega,by omega,hbl,hO.congr fun r=>by simp,by simp,fun _=>rfl,kn,rfl⟩
   ·rintro m1 e1 H4 ⟨i,bs1,more,hm1,hi,hbl1,hB,hmt,hmf,kn,rfl⟩;have hy9:=kn.l 0 rfl;obtain⟨hyi,hyo',hzz,hww⟩:=Qarz kn hbo hz1 hmi hw';refine Q5 ?_;refine Qa ?_;simp only[go_sem];refine Qh (Qd rfl ?_ ?_)
    ·intro hc;have hlt:i<q.regs.toNat:=(by have:(i:Int)<q.regs:=(by simpa using hc);omega);have hlt':i<nb1.length:=(by omega);have hlt2:i<bs1.length:=(by omega);refine Qi ?_;try simp only[go_sem]
     refine Qcq (fun e2 H2=>∃(bs2:List Bool) (more:Bool),bs2.length=q.regs.toNat∧Mem bs2 (fun r=>O r∨(r<i+1∧(I r∨r∈(Qa5 q).ea b m)))∧(more=true→cnt bs<cnt bs2)∧(more=false→bs2=bs)∧
      Kn F H2 (lvE q.regs.toNat yi yo zi (zo.set b (z,bs2))) [(y9,.vec 1 (Qo nb1))]∧
      lk 2 e2=.c (.int .i64 b)∧lk 4 e2=.c (.pp [.int .i64 q.params,.int .i64 q.regs,bc])∧lk 5 e2=.c (.pp [.vsl yi 1 0 q.blocks.length,.vsl yo 1 0 q.blocks.length])∧lk 9 e2=.c (.vsl y9 1 0 q.regs.toNat)∧lk 12 e2=.c (.bool more)∧lk 13 e2=.c (.int .i64 i)) ?_ ?_
     ·intro Q hnr _ _;refine Qc ?_;refine Qa ?_;simp only[go_sem,hy9,hlt,htk _ hnl,Qy,hnl,Q4 _ _ hlt',Jj,Ji];refine Qd rfl ?_ ?_
      ·intro hc2;have hneed:=(hN i).1 hc2;have hMem:Mem (bs1.set i true) (fun r=>O r∨(r<i+1∧(I r∨r∈(Qa5 q).ea b m))):=(hB.ins hlt2).congr fun r=>by
        constructor
        ·rintro (rfl|h|h)
         ·exact .inr ⟨by omega,hneed⟩
         ·exact .inl h
         ·exact .inr ⟨by omega,h.2⟩
        ·rintro (h|h)
         ·exact .inr (.inl h)
         ·by_cases hri:r=i
          ·exact .inl hri
          ·exact .inr (.inr ⟨by omega,h.2⟩)
       have hset2:∀(e:Env),lk 2 e=.c (.int .i64 b)→lk 4 e=.c (.pp [.int .i64 q.params,.int .i64 q.regs,bc])→lk 5 e=.c (.pp [.vsl yi 1 0 q.blocks.length,.vsl yo 1 0 q.blocks.length])→lk 9 e=.c (.vsl y9 1 0 q.regs.toNat)→lk 12 e=.c (.bool (bif more then true else !bs1.getD i false))→lk 13 e=.c (.int .i64 i)→
         Qah prog Qahc (X.inBlock 3 Q) e H4:=by
        intro e l2 l4 l5 l9 l12 l13;refine Qq ?_;simp only[go_sem,l2,l4,l5,l9,l12,l13,hyo',hzz,htz _ hzl,htk _ hbl1,Qa1,Qeg _ _ _ hbo,hz1,hb,hzl,hlt,Qy,hbl1,Qbg,Q4 _ _ hlt2,Jj,Ji];intro H5 h5;refine hnr _ _ ⟨bs1.set i true,_,by rw[Jq];exact hbl1,hMem,?_,?_,Qbte kn hbo h5,rfl,rfl,rfl,rfl,rfl,rfl⟩
        ·intro hmo
         cases hg:bs1.getD i false with
         |true=>
          rw[Q4w hg];rw[hg]at hmo
          cases hmm:more with
          |true=>exact hmt hmm
          |false=>rw[hmm]at hmo;simp at hmo
         |false=>
          rw[Qaep hlt2 hg]
          cases hmm:more with
          |true=>have:=hmt hmm;omega
          |false=>rw[hmf hmm];omega
        ·intro hmo
         cases hmm:more with
         |true=>rw[hmm]at hmo;simp at hmo
         |false=>
          rw[hmm]at hmo;have hg:bs1.getD i false=true:=(by simpa using hmo);rw[Q4w hg];exact hmf hmm
       cases hmm:more with
       |true=>
        refine Qa ?_;simp only[go_sem,hyo',hzz,htz _ hzl,htk _ hbl1,Qa1,Qeg _ _ _ hbo,hz1,hb,hzl,hlt,Qy,hbl1,Q4 _ _ hlt2,Jj,Ji];exact hset2 _ rfl rfl rfl rfl (by rw[hmm];rfl) rfl
       |false=>
        refine Qa ?_;simp only[go_sem,hyo',hzz,htz _ hzl,htk _ hbl1,Qa1,Qeg _ _ _ hbo,hz1,hb,hzl,hlt,Qy,hbl1,Q4 _ _ hlt2,Jj,Ji];exact hset2 _ rfl rfl rfl rfl (by rw[hmm];rfl) rfl
      ·intro hc2;refine Qi ?_;try simp only[go_sem]
       refine hnr _ _ ⟨bs1,more,hbl1,hB.congr fun r=>?_,hmt,hmf,kn,rfl,rfl,rfl,rfl,rfl,rfl⟩;constructor
       ·rintro (h|h)
        ·exact .inl h
        ·exact .inr ⟨by omega,h.2⟩
       ·rintro (h|h)
        ·exact .inl h
        ·by_cases hri:r=i
         ·subst hri;have:=(hN r).2 h.2;rw[this]at hc2;exact absurd hc2 (by simp)
         ·exact .inr ⟨by omega,h.2⟩
     ·rintro e2 H5 ⟨bs2,more2,hbl2,hB2,hmt2,hmf2,kn,l2,l4,l5,l9,l12,l13⟩;refine Qq ?_;simp only[go_sem,X.next,l2,l4,l5,l9,l12,l13];exact⟨Qp (by omega) (by omega),q.regs.toNat-(i+1),by omega,i+1,bs2,more2,rfl,by omega,hbl2,hB2,hmt2,hmf2,kn,rfl⟩
    ·intro hc;have hge:q.regs.toNat≤i:=(by have:q.regs≤(i:Int):=(by simpa using hc);omega);refine Qs ?_;simp only[go_sem,X.next];refine Qa ?_;simp only[go_sem];refine Qk ?_;simp only[go_sem,Q7,Qad,Qaxf,Jg,forall_eq,RS.op];refine hK bs1 more H4 hbl1 (hB.congr fun r=>?_) hmt hmf (kn.drop (A:=[]));constructor
     ·rintro (h|h)
      ·exact .inl h
      ·exact .inr h.2
     ·rintro (h|h)
      ·exact .inl h
      ·have:r<nb1.length:=hN.lt h;exact .inr ⟨by omega,h⟩
end Go.AE.Y
namespace Go.AE.Y
attribute [local go_sem] cond_true cond_false Bool.not_true Bool.not_false
open Go.Proofs.Tryz
variable {H H0 F:Heap}{K:V→Heap→Prop}{E L:List (Nat×Obj)}
def Qzo (zs:List (Nat×List Bool)):List (List C):=zs.map fun p=>[.sl false 1 (Qo p.2)]
theorem Qaxp (zs:List (Nat×List Bool)):(Qzo zs).length=zs.length:=by simp[Qzo]
theorem Qaqu (zs:List (Nat×List Bool))(i:Nat)(h:i<zs.length):(Qzo zs).getD i []=[.sl false 1 (Qo zs[i].2)]:=by simp[Qzo,Ja,h]
theorem Qaxr {S:Nat→Bool}{R:Nat}{zs:List (Nat×List Bool)}(hl:∀p∈zs,p.2.length=R)(hH:∀p∈obZ zs,H p.1=p.2∧S p.1=true):FrzR H S (Qb3 R zs) (Qzo zs):=by
 induction zs with
 |nil=>exact .nil
 |cons z zs ih=>
  have h1:=hH (z.1,.vec 1 (Qo z.2)) (by simp[obZ]);refine .cons (.cons ?_ .nil) (ih (fun p hp=>hl p (J1 _ hp)) fun p hp=>hH p (by simp only[obZ,J9];exact J1 _ hp));exact (FrzR.same (Qjr _)).vsl h1.2 h1.1 (by rw[Qy];exact (hl z Jw).symm)
theorem Qbq1 {α:Type}{l:List α}{i:Nat}{x:α}(h:i<l.length):(l++[x]).Perm (l.set i x++[l[i]]):=by
 have e:∀(m:List α) (hm:i<m.length),m.Perm (m[i]::m.eraseIdx i):=fun m hm=>by
  have h1:(m[i]::m.eraseIdx i).Perm m:=by
   rw[List.eraseIdx_eq_take_drop_succ];refine List.perm_middle.symm.trans ?_;rw[←Ja3 hm,List.take_append_drop]
  exact h1.symm
 have h1:=e l h;have h2:=e (l.set i x) (by simpa using h);simp only[Jat,Jan]at h2;refine (h1.append_right [x]).trans ?_;refine List.Perm.trans ?_ (h2.append_right [l[i]]).symm;simp only[J6];refine (List.Perm.cons _ Jy).trans ?_;refine List.Perm.trans ?_ (List.Perm.cons _ Jy);exact List.Perm.swap _ _ _
def Qbwp (q:CodeD)(zi zo:List (Nat×List Bool)):Prop:=lvOk q.regs.toNat q.blocks.length zi zo∧∀b,b<q.blocks.length→∀r,(tab zi b r↔(Qa5 q).LI b r)∧(tab zo b r↔(Qa5 q).LO b r)
theorem Qbkp {zs:List (Nat×List Bool)}{b:Nat}(h:b<zs.length):Mem zs[b].2 (tab zs b):=fun r=>(Qbnf h r).symm
theorem Qagn (n r:Nat):(List.replicate n false).getD r false=false:=by
 rw[Ja,List.getElem?_replicate];split <;> rfl
def Qvv (x2 x3 yi yo n:Nat):List (Nat×Obj):=[(x2,.st [.sl true 1 [],.sl true 1 []]),(x3,.st [.vsl yi 1 0 n,.vsl yo 1 0 n])]
set_option maxHeartbeats 4000000 in
theorem Qawk {q:CodeD}{bc:C}(ho:q.ok)(hbc:CodeR H [] bc q)
  (hK:∀(zi zo:List (Nat×List Bool)) H',Upd H H' []→Qbwp q zi zo→K (.ag [.sl false 1 (Qzo zi),.sl false 1 (Qzo zo)]) H') :
  Qu prog Qv5 [.ag [.int .i64 q.params,.int .i64 q.regs,bc]] H K:=by
 have hr0:=ho.r0;have hr1:=ho.r1;have hb0:=ho.b0;have hb1:=ho.b1;have hfit:=ho.fitsF;have hFn:(Qa5 q).n=q.blocks.length:=rfl;obtain⟨R,hR⟩:∃R,q.regs.toNat=R:=⟨_,rfl⟩;obtain⟨n,hn⟩:∃n,q.blocks.length=n:=⟨_,rfl⟩;have hRq:q.regs=(R:Int):=by omega
 refine Qt ?_;have hbw:=hbc.ow;refine Qb Qam Qbj0 ?_;refine Qa ?_;simp only[go_sem,hbw];intro x2 hx2 H1 h1;have kn:=(Kn.start0 H).al hx2 h1;refine Qa ?_;simp only[go_sem,hbw];intro x3 hx3 H2 h2;have kn:=kn.al hx3 h2;have hx3:=kn.l 1 rfl;simp only[go_sem,Q9c,hx3];intro H3 h3;have kn:Kn H H3 [] [(x2,.st [.sl true 1 [],.sl true 1 []]),(x3,.st [.sl true 1 [],.sl true 1 []])]:=kn.stL 1 rfl h3;refine Qa ?_;obtain⟨hbok,hbln,hbsz,hbrw⟩:=hbc.facts kn (by simp);simp only[go_sem,hbw,hbok,hbln,hbsz,hbrw,hn];clear hbok hbrw;intro _;refine Q5 ?_;refine Qa ?_;simp only[go_sem];refine Qh (Qc (Qv (fun m e1 H1=>∃(i:Nat) (zi zo:List (Nat×List Bool)) (ci co:C) (Li Lo:List (Nat×Obj)),m=n-i∧i≤n∧zi.length=i∧zo.length=i∧(∀p∈zi,p.2=List.replicate R false)∧(∀p∈zo,p.2=List.replicate R false)∧
  Gr Li 1 (Qb3 R zi) ci∧Gr Lo 1 (Qb3 R zo) co∧Kn H H1 [] ([(x2,.st [.sl true 1 [],.sl true 1 []]),(x3,.st [ci,co])]++(obZ zi++(obZ zo++(Li++Lo))))∧
  e1=[(1,.c (.pp [.int .i64 q.params,.int .i64 q.regs,bc])),(2,.c (.ptr x2 0)),(3,.c (.ptr x3 0)),(4,.c (.int .i64 n)),(5,.c (.int .i64 i))]) n ?_ ?_))
 ·exact⟨0,[],[],_,_,[],[],by omega,by omega,rfl,rfl,by simp,by simp,.nil 1,.nil 1,kn,rfl⟩
 ·rintro m e1 H4 ⟨i,zi,zo,ci,co,Li,Lo,hm,hi,hzil,hzol,hzi,hzo,hgi,hgo,kn,rfl⟩;refine Q5 ?_;refine Qa ?_;simp only[go_sem];refine Qh (Qd rfl ?_ ?_)
  ·intro hc;have hlt:i<n:=by simpa using hc
   have hciw:=hgi.isOw;have hcow:=hgo.isOw;have hx3:=kn.l 1 rfl;refine Qi ?_;try simp only[go_sem]
   refine Qh (Qc ?_);refine Qak ?_;simp only[go_sem,hx3,hciw,hcow];refine⟨by omega,by simp only[LIM];omega,fun y1 hy1 H5 h5=>?_⟩;have kn:Kn H H5 [] (([(x2,.st [.sl true 1 [],.sl true 1 []]),(x3,.st [ci,co])]++(obZ (zi++[(y1,List.replicate R false)])++(obZ zo++Lo)))++Li):=
    (kn.al hy1 h5).perm (Qn fun f hf h0 hc hp=>by
     have hc':=hc (x2,.st [.sl true 1 [],.sl true 1 []]) [(x3,.st [ci,co])];simp only[hf,obZ,Jn,J9,Jau,Qbf,hR];omega)
   have hx3:=kn.l 1 rfl;simp only[go_sem,Q9e,hx3,hciw,hcow];refine kn.growR hgi (.mk' _ _ _ _) (by intro r hr;simp at hr;subst hr;rfl) (by simp only[LIM,Qa1,Jk,Jl];omega) fun ci2 Li2 H6 hgi2 hciw2 kn=>?_;have hx3:=kn.l 1 rfl;simp only[go_sem,Q9d,hx3,hciw2,hcow];intro H7 h7;have kn:Kn H H7 [] ([(x2,.st [.sl true 1 [],.sl true 1 []]),(x3,.st [ci2,co])]++(obZ (zi++[(y1,List.replicate R false)])++(obZ zo++Lo))++Li2):=kn.stL 1 rfl h7;have hgi2:Gr Li2 1 (Qb3 R (zi++[(y1,List.replicate R false)])) ci2:=by
    have:Qb3 R (zi++[(y1,List.replicate R false)])=Qb3 R zi++[[C.vsl y1 1 0 q.regs.toNat]]:=(by simp[Qb3,hR]);rw[this];exact hgi2
   have hx3:=kn.l 1 rfl;refine Qbh ?_;simp only[go_sem,hx3,hciw2,hcow];refine⟨by omega,by simp only[LIM];omega,fun y2 hy2 H8 h8=>?_⟩;have kn:Kn H H8 [] (([(x2,.st [.sl true 1 [],.sl true 1 []]),(x3,.st [ci2,co])]++(obZ (zi++[(y1,List.replicate R false)])++(obZ (zo++[(y2,List.replicate R false)])++Li2)))++Lo):=
    (kn.al hy2 h8).perm (Qn fun f hf h0 hc hp=>by
     simp only[hf,obZ,Jn,J9,Jau,Qbf,hR];omega)
   have hx3:=kn.l 1 rfl;simp only[go_sem,Q9g,hx3,hciw2,hcow];refine kn.growR hgo (.mk' _ _ _ _) (by intro r hr;simp at hr;subst hr;rfl) (by simp only[LIM,Qa1,Jk,Jl];omega) fun co2 Lo2 H9 hgo2 hcow2 kn=>?_;have hx3:=kn.l 1 rfl;simp only[go_sem,Q9f,hx3,hciw2,hcow2];intro H10 h10;have kn:Kn H H10 [] ([(x2,.st [.sl true 1 [],.sl true 1 []]),(x3,.st [ci2,co2])]++(obZ (zi++[(y1,List.replicate R false)])++(obZ (zo++[(y2,List.replicate R false)])++Li2))++Lo2):=kn.stL 1 rfl h10;have hgo2:Gr Lo2 1 (Qb3 R (zo++[(y2,List.replicate R false)])) co2:=by
    have:Qb3 R (zo++[(y2,List.replicate R false)])=Qb3 R zo++[[C.vsl y2 1 0 q.regs.toNat]]:=(by simp[Qb3,hR]);rw[this];exact hgo2
   refine Qq ?_;simp only[go_sem,X.next];refine⟨Qp (by omega) (by omega),n-(i+1),by omega,i+1,zi++[(y1,List.replicate R false)],zo++[(y2,List.replicate R false)],ci2,co2,Li2,Lo2,rfl,by omega,by simp[hzil],by simp[hzol],?_,?_,hgi2,hgo2,?_,rfl⟩
   ·intro p hp;rcases Jo.1 hp with hp|hp
    ·exact hzi p hp
    ·simp at hp;rw[hp]
   ·intro p hp;rcases Jo.1 hp with hp|hp
    ·exact hzo p hp
    ·simp at hp;rw[hp]
   ·exact kn.perm (by simp only[Jac];exact .refl _)
  ·intro hc;have hin:i=n:=by have:n≤i:=(by simpa using hc);omega
   subst hin;obtain⟨yi,hyi,hLi⟩:∃yi,ci=.vsl yi 1 0 i∧Li=[(yi,.vec 1 (Qb3 R zi))]:=by
    rcases hgi with ⟨_,h,_⟩|⟨y,h1,h2⟩
    ·have:=congrArg List.length h;rw[Qa1,hzil]at this;simp at this;omega
    ·exact⟨y,by rw[h1,Qa1,hzil],h2⟩
   obtain⟨yo,hyo,hLo⟩:∃yo,co=.vsl yo 1 0 i∧Lo=[(yo,.vec 1 (Qb3 R zo))]:=by
    rcases hgo with ⟨_,h,_⟩|⟨y,h1,h2⟩
    ·have:=congrArg List.length h;rw[Qa1,hzol]at this;simp at this;omega
    ·exact⟨y,by rw[h1,Qa1,hzol],h2⟩
   have kn:Kn H H4 [] (lvE R yi yo zi zo++Qvv x2 x3 yi yo i):=by
    refine kn.perm (Qn fun f hf h0 hc hp=>?_);rw[hLi,hLo,hyi,hyo];have e1:=hc (x2,.st [.sl true 1 [],.sl true 1 []]) [(x3,.st [.vsl yi 1 0 i,.vsl yo 1 0 i])];have e2:=hc (yi,.vec 1 (Qb3 R zi)) [(yo,.vec 1 (Qb3 R zo))];simp only[hf,lvE,Qvv];omega
   have hlv:lvOk R i zi zo:=⟨hzil,hzol,fun p hp=>by rw[hzi p hp];simp,fun p hp=>by rw[hzo p hp];simp⟩;have hno:∀(zs:List (Nat×List Bool)),(∀p∈zs,p.2=List.replicate R false)→∀b r,¬tab zs b r:=fun zs h b r hr=>by
    rw[tab]at hr
    cases hg:zs[b]? with
    |none=>rw[hg]at hr;simp at hr
    |some p=>
     rw[hg]at hr;have:=h p (J8 hg);simp only[Jz,Jt,this,Qagn]at hr;exact absurd hr (by simp)
   have hinv:LvInv (Qa5 q) zi zo:=⟨fun b _ r hr=>absurd hr (hno zi hzi b r),fun b _ r hr=>absurd hr (hno zo hzo b r),fun b _ r hr=>absurd hr (hno zi hzi b r)⟩;refine Qs ?_;simp only[go_sem,X.next];refine Q5 ?_;refine Qa ?_;simp only[go_sem];clear hno hzi hzo hgi hgo hLi hLo hyi hyo hzil hzol hm hc hi;refine Qh (Qc (Qv (fun m e1 H1=>∃(zi zo:List (Nat×List Bool)) (a:Bool) (yi yo:Nat),m=(if a=true then 2 * (i * R)+1-(Qnk zi+Qnk zo)else 0)∧lvOk R i zi zo∧LvInv (Qa5 q) zi zo∧(a=false→∀b,b<i→LvCl (Qa5 q) zi zo b)∧
    Kn H H1 [] (lvE R yi yo zi zo++Qvv x2 x3 yi yo i)∧
    lk 1 e1=.c (.pp [.int .i64 q.params,.int .i64 q.regs,bc])∧lk 2 e1=.c (.ptr x2 0)∧lk 3 e1=.c (.ptr x3 0)∧lk 4 e1=.c (.int .i64 i)∧lk 6 e1=.c (.bool a)) (2 * (i * R)+1-(Qnk zi+Qnk zo)) ?_ ?_))
   ·exact⟨zi,zo,true,yi,yo,rfl,hlv,hinv,fun h=>by simp at h,kn,rfl,rfl,rfl,rfl,rfl⟩
   ·clear hlv hinv kn;rintro m e1 H5 ⟨zi,zo,a,yi,yo,hm,hlv,hinv,hcl,kn,l1,l2,l3,l4,l6⟩;have htl0:=Qavs hlv.li;have hto0:=Qavs hlv.lo;rw[hlv.i]at htl0;rw[hlv.o]at hto0;refine Q5 ?_;refine Qa ?_;simp only[go_sem,l1,l2,l3,l4,l6];refine Qh (Qd rfl ?_ ?_)
    ·intro hat;rw[hat,if_pos rfl]at hm;refine Qi ?_;try simp only[go_sem]
     refine Qc ?_;refine Qa ?_;simp only[go_sem];refine Qa ?_;simp only[go_sem];refine⟨Qp (by omega) (by omega),?_⟩;clear hcl;refine Qc (Qv (fun m1 e1 H1=>∃(k:Nat) (j:Int) (zi1 zo1:List (Nat×List Bool)) (a:Bool) (yi yo:Nat),m1=k∧k≤i∧j=(k:Int)-1∧lvOk R i zi1 zo1∧LvInv (Qa5 q) zi1 zo1∧Qnk zi+Qnk zo≤Qnk zi1+Qnk zo1∧
      (a=true→Qnk zi+Qnk zo<Qnk zi1+Qnk zo1)∧(a=false→∀b,k≤b→b<i→LvCl (Qa5 q) zi1 zo1 b)∧
      Kn H H1 [] (lvE R yi yo zi1 zo1++Qvv x2 x3 yi yo i)∧
      e1=[(1,.c (.pp [.int .i64 q.params,.int .i64 q.regs,bc])),(2,.c (.ptr x2 0)),(3,.c (.ptr x3 0)),(4,.c (.int .i64 i)),(6,.c (.bool a)),(7,.c (.int .i64 j))]) i ?_ ?_)
     ·exact⟨i,_,zi,zo,false,yi,yo,rfl,Ji _,rfl,hlv,hinv,Ji _,fun h=>by simp at h,fun _ b h1 h2=>by omega,kn,rfl⟩
     ·have hTb:Qnk zi+Qnk zo≤2 * (i * R):=(by omega);generalize hT0:Qnk zi+Qnk zo=T0 at *;clear hinv hlv kn hto0 htl0 hT0;clear zi zo yi yo;rintro m1 e1 H6 ⟨k,j,zi,zo,a,yi,yo,rfl,hk,hjk,hlv,hinv,htot,htt,htf,kn,rfl⟩;have htl0:=Qavs hlv.li;have hto0:=Qavs hlv.lo;rw[hlv.i]at htl0;rw[hlv.o]at hto0;refine Q5 ?_;refine Qa ?_;simp only[go_sem];refine Qh (Qd rfl ?_ ?_)
      ·intro hc;have hge:0≤j:=(by simpa using hc);obtain⟨b,rfl⟩:∃b,m1=b+1:=⟨m1-1,by omega⟩;have hj:j=(b:Int):=(by omega);subst hj;have hbn:b<i:=(by omega);have hbq:b<q.blocks.length:=(by omega);have hbo:b<zo.length:=(by rw[hlv.o];exact hbn);have hbi:b<zi.length:=(by rw[hlv.i];exact hbn);obtain⟨⟨z,bs⟩,hz⟩:∃p,zo[b]=p:=⟨_,rfl⟩;obtain⟨⟨w,bw⟩,hw⟩:∃p,zi[b]=p:=⟨_,rfl⟩;have hz':zo[b]? = some (z,bs):=(by rw[Je hbo,hz]);have hw':zi[b]? = some (w,bw):=(by rw[Je hbi,hw]);have hbsl:bs.length=R:=hlv.lo (z,bs) (by rw[←hz];exact Jb hbo);have hbwl:bw.length=R:=hlv.li (w,bw) (by rw[←hw];exact Jb hbi);have hmo:Mem bs (tab zo b):=(by have:=Qbkp hbo;rw[hz]at this;exact this);have hzs:zo.set b (z,bs)=zo:=Qa38 hz';obtain⟨y,hy⟩:∃y,q.blocks[b]=y:=⟨_,rfl⟩;have hyo:y.ok q b:=(by rw[←hy];exact ho.bs b hbq);have hil:y.ins.length≤1200∧y.phis.length≤1200:=(by rw[←hy];exact ho.il b hbq);have hnx:(Qa5 q).nx b=y.next.map Int.toNat:=(by rw[←hy,←Q1h hbq];rfl);have hph:(Qa5 q).ph b=y.phis.map fun p=>p.to.toNat:=(by rw[Qbn8 hbq,hy]);refine Qi ?_;try simp only[go_sem]
       refine Qcq (fun e2 H2=>∃(zi2 zo2:List (Nat×List Bool)) (a2:Bool) (yi yo:Nat),lvOk R i zi2 zo2∧LvInv (Qa5 q) zi2 zo2∧Qnk zi+Qnk zo≤Qnk zi2+Qnk zo2∧
        (a2=true→a=true∨Qnk zi+Qnk zo<Qnk zi2+Qnk zo2)∧(a2=false→a=false∧LvCl (Qa5 q) zi2 zo2 b∧∀c,LvCl (Qa5 q) zi zo c→LvCl (Qa5 q) zi2 zo2 c)∧
        Kn H H2 [] (lvE R yi yo zi2 zo2++Qvv x2 x3 yi yo i)∧
        lk 1 e2=.c (.pp [.int .i64 q.params,.int .i64 q.regs,bc])∧lk 2 e2=.c (.ptr x2 0)∧lk 3 e2=.c (.ptr x3 0)∧lk 4 e2=.c (.int .i64 i)∧lk 6 e2=.c (.bool a2)∧lk 7 e2=.c (.int .i64 b)) ?_ ?_
       ·intro Q hnr _ _;refine Qc ?_;refine Q5 ?_;refine Qa ?_;simp only[go_sem];refine Qh (Qc (Qv (fun m2 e1 H1=>∃(i2:Nat) (bs1:List Bool) (a1:Bool),m2=y.next.length-i2∧i2≤y.next.length∧bs1.length=R∧(∀r,bs.getD r false=true→bs1.getD r false=true)∧(∀r,bs1.getD r false=true→(Qa5 q).LO b r)∧
         (∀m∈((Qa5 q).nx b).take i2,∀r,tab zi m r∨r∈(Qa5 q).ea b m→bs1.getD r false=true)∧(a1=true→a=true∨cnt bs<cnt bs1)∧(a1=false→a=false∧bs1=bs)∧
         Kn H H1 [] (lvE R yi yo zi (zo.set b (z,bs1))++Qvv x2 x3 yi yo i)∧
         e1=[(1,.c (.pp [.int .i64 q.params,.int .i64 q.regs,bc])),(2,.c (.ptr x2 0)),(3,.c (.ptr x3 0)),(4,.c (.int .i64 i)),(6,.c (.bool a1)),(7,.c (.int .i64 b)),(8,.c (.int .i64 i2))]) y.next.length ?_ ?_))
        ·exact⟨0,bs,a,by omega,by omega,hbsl,fun r h=>h,fun r h=>hinv.bo b hbq r ((hmo r).1 h),by simp,fun h=>.inl h,fun h=>⟨h,rfl⟩,by rw[hzs];exact kn,rfl⟩
        ·rintro m2 e1 H7 ⟨i2,bs1,a1,hm2,hi2,hb1l,g1,g2,g3,k1,k2,kn,rfl⟩;have hx3:H7 x3=.st [.vsl yi 1 0 i,.vsl yo 1 0 i]:=(kn.get (x3,.st [.vsl yi 1 0 i,.vsl yo 1 0 i]) (by simp[Qvv])).1;obtain⟨hbok,_,_,hbrw⟩:=hbc.facts kn (by simp);refine Q5 ?_;refine Qa ?_;simp only[go_sem,hbw,hbok,hbln,hbsz,hbrw,hbq,Qj,Q9 _ _ hbq,hy,BlkD.cells,Qg];intro _;refine Qh (Qd rfl ?_ ?_)
         ·intro hc2;have hlt:i2<y.next.length:=(by simpa using hc2);have hnl2:=hyo.nxl;have hgd:y.next.getD i2 0=y.next[i2]:=(by simp[Ja,hlt]);have hmx:y.next[i2]∈gnx q b:=(by rw[Q1h hbq,hy];exact Jb hlt);have hmr:=hyo.nx _ (Jb hlt);obtain⟨mm,hmm⟩:=Int.eq_ofNat_of_zero_le (show 0≤y.next[i2]by omega);have hmi:mm<zi.length:=(by rw[hlv.i];omega);have hmF:mm∈(Qa5 q).nx b:=(by rw[hnx];exact Jm.2 ⟨y.next[i2],Jb hlt,by rw[hmm];rfl⟩);have htk:((Qa5 q).nx b).take (i2+1)=((Qa5 q).nx b).take i2++[mm]:=by
           rw[Jp (by rw[hnx,Jd];exact hlt)];congr 1;simp only[hnx,Jax,hmm];rfl
          rw[hmm]at hmx hgd;have hbo':b<(zo.set b (z,bs1)).length:=(by simpa using hbo);have hlv':lvOk R i zi (zo.set b (z,bs1)):=⟨hlv.i,by rw[Jq];exact hlv.o,hlv.li,fun p hp=>by
           rcases J0 hp with hp|rfl
           ·exact hlv.lo p hp
           ·exact hb1l⟩
          refine Qi ?_;try simp only[go_sem]
          refine Qh (Qc ?_);refine Qbh ?_;simp only[go_sem,hx3,hbw,hbok,hbln,hbsz,hbrw,hbq,Qj,Q9 _ _ hbq,hy,BlkD.cells,hlt,Qg,Q0 _ _ hlt,hgd];subst hR;subst hn;refine Qbi6 (F:=H7) (z:=z) (bs:=bs1) (w:=zi[mm].1) (nb:=zi[mm].2) (O:=fun r=>bs1.getD r false=true) (I:=tab zi mm) ho (hbc.mid kn) (fun x hx=>by rw[Jn];exact Jh _ hx) hbq hmx hlv' (by rw[Ja9 hbo]) (by rw[Je hmi]) (fun r=>Iff.rfl) (Qbkp hmi) kn.mid fun bs2 f H8 hb2l hm2' hf1 hf2 k2'=>?_;rw[Jbm]at k2';have kn:=(kn.comp k2' Qbjm).drop;have stepT:∀a1',(a1'=(f || a1))→∃m,m<m2∧∃(i5:Nat) (bs1:List Bool) (a1:Bool),m=y.next.length-i5∧i5≤y.next.length∧bs1.length=q.regs.toNat∧(∀r,bs.getD r false=true→bs1.getD r false=true)∧(∀r,bs1.getD r false=true→(Qa5 q).LO b r)∧
            (∀m∈((Qa5 q).nx b).take i5,∀r,tab zi m r∨r∈(Qa5 q).ea b m→bs1.getD r false=true)∧(a1=true→a=true∨cnt bs<cnt bs1)∧(a1=false→a=false∧bs1=bs)∧
            Kn H H8 [] (lvE q.regs.toNat yi yo zi (zo.set b (z,bs1))++Qvv x2 x3 yi yo q.blocks.length)∧
            [(1,V.c (.pp [.int .i64 q.params,.int .i64 q.regs,bc])),(2,.c (.ptr x2 0)),(3,.c (.ptr x3 0)),(4,.c (.int .i64 q.blocks.length)),(6,.c (.bool a1')),(7,.c (.int .i64 b)),(8,.c (.int .i64 ((i2:Int)+1)))]=[(1,.c (.pp [.int .i64 q.params,.int .i64 q.regs,bc])),(2,.c (.ptr x2 0)),(3,.c (.ptr x3 0)),(4,.c (.int .i64 q.blocks.length)),(6,.c (.bool a1)),(7,.c (.int .i64 b)),(8,.c (.int .i64 i5))]:=by
           intro a1' ha1';refine⟨y.next.length-(i2+1),by omega,i2+1,bs2,a1',rfl,by omega,hb2l,fun r hr=>(hm2' r).2 (.inl (g1 r hr)),fun r hr=>?_,fun m hm r hr=>?_,fun ha=>?_,fun ha=>?_,kn,rfl⟩
           ·rcases (hm2' r).1 hr with h|h|h
            ·exact g2 r h
            ·exact⟨mm,hmF,.inl (hinv.bi mm (hfit b hbq mm hmF) r h)⟩
            ·exact⟨mm,hmF,.inr h⟩
           ·rw[htk]at hm;rcases Jo.1 hm with hm|hm
            ·exact (hm2' r).2 (.inl (g3 m hm r hr))
            ·simp only[Jg]at hm;subst hm;exact (hm2' r).2 (.inr hr)
           ·have c1:cnt bs≤cnt bs1:=(Qaeo (by omega) g1).1
            cases hf:f with
            |true=>have:=hf1 hf;right;omega
            |false=>
             rw[hf2 hf];rw[ha1',hf]at ha;exact k1 (by simpa using ha)
           ·rw[ha1']at ha;have hff:f=false:=by cases hf:f with
             |true=>rw[hf]at ha;simp at ha
             |false=>rfl
            rw[hff]at ha;obtain⟨q1,q2⟩:=k2 (by simpa using ha);exact⟨q1,by rw[hf2 hff,q2]⟩
          cases hfc:f with
          |true=>
           simp only[go_sem,Qto];refine Qq ?_;simp only[go_sem,X.next];exact⟨Qp (by omega) (by omega),stepT true (by rw[hfc];rfl)⟩
          |false=>
           simp only[go_sem,Qto];refine Qq ?_;simp only[go_sem,X.next];exact⟨Qp (by omega) (by omega),stepT a1 (by rw[hfc];rfl)⟩
         ·intro hc2;have hge2:y.next.length≤i2:=(by simpa using hc2);have g3:∀r,(Qa5 q).outT (tab zi) b r→bs1.getD r false=true:=fun r ⟨m,hm,hr⟩=>
           g3 m (by rw[Jf (by rw[hnx,Jd];exact hge2)];exact hm) r hr
          refine Qs ?_;simp only[go_sem,X.next];refine Qa ?_;simp only[go_sem,hx3,hbw];have hbo':b<(zo.set b (z,bs1)).length:=(by simpa using hbo);obtain⟨hyiH,hyoH,hzzH,hwwH⟩:=Qarz kn.mid hbo (by rw[hz]) hbi hw;have hsl:Slc H7 1 (Qb3 R zo) (.vsl yo 1 0 i):=⟨by simp only[okSl,hyoH,Qa1,hlv.o];exact⟨trivial,by omega⟩,rfl,by simp only[rowsOf,hyoH,Jar];exact Jf (by rw[Qa1,hlv.o];exact Ji _),by simp only[lenC,Qa1,hlv.o]⟩;have hsb:Slc H7 1 (Qo bs1) (.vsl z 1 0 R):=⟨by simp only[okSl,hzzH,Qy,hb1l];exact⟨trivial,by omega⟩,rfl,by simp only[rowsOf,hzzH,Jar];exact Jf (by rw[Qy,hb1l];exact Ji _),by simp only[lenC,Qy,hb1l]⟩;refine Qa47 (i:=-1) (ic:=.vsl yi 1 0 i) (bc:=bc) (W:=fun r=>bs1.getD r false=true) ho (hbc.mid kn).nil hbq (by omega) (by omega) kn hsl rfl rfl (by rw[Qa1];exact hbo) (by rw[Qeg _ _ _ hbo,hz]) hsb rfl (by rw[hR];exact hb1l) (fun r=>Iff.rfl) fun y9 nb0 H8 hnl0 hm0 kn=>?_;rw[hR]at hnl0;simp only[go_sem,Q3e,hR];refine Q5 ?_;refine Qa ?_;simp only[go_sem];refine Qh (Qc (Qv (fun m2 e1 H1=>∃(i2:Nat) (nb:List Bool),m2=y.phis.length-i2∧i2≤y.phis.length∧nb.length=R∧Mem nb (fun r=>(Qa5 q).beh (fun r=>bs1.getD r false=true) b 0 r∧r∉((Qa5 q).ph b).take i2)∧
           Kn H H1 [] ((lvE R yi yo zi (zo.set b (z,bs1))++Qvv x2 x3 yi yo i)++[(y9,.vec 1 (Qo nb))])∧
           e1=[(1,.c (.pp [.int .i64 q.params,.int .i64 q.regs,bc])),(2,.c (.ptr x2 0)),(3,.c (.ptr x3 0)),(4,.c (.int .i64 i)),(6,.c (.bool a1)),(7,.c (.int .i64 b)),(9,.c (.vsl y9 1 0 R)),(10,.c (.int .i64 i2))]) y.phis.length ?_ ?_))
          ·exact⟨0,nb0,by omega,by omega,hnl0,hm0.congr fun r=>by simp,kn,rfl⟩
          ·clear hm0 hnl0 kn;rintro m3 e1 H9 ⟨i3,nb,hm3,hi3,hnl,hmn,kn,rfl⟩;have hy9:H9 y9=.vec 1 (Qo nb):=(kn.get (y9,.vec 1 (Qo nb)) (by simp)).1;have htkn:(Qo nb).take R=Qo nb:=Jf (by rw[Qy];omega);obtain⟨hbok,_,_,hbrw⟩:=hbc.facts kn (by simp);refine Q5 ?_;refine Qa ?_;simp only[go_sem,hbw,hbok,hbln,hbsz,hbrw,hbq,Qj,Q9 _ _ hbq,hy,BlkD.cells,Q6];intro _;refine Qh (Qd rfl ?_ ?_)
           ·intro hc3;have hlt3:i3<y.phis.length:=(by simpa using hc3);obtain⟨hv,hvl⟩:=(hyo.pto _ (Jb hlt3)).nat;rw[hR]at hvl;have htk3:((Qa5 q).ph b).take (i3+1)=((Qa5 q).ph b).take i3++[(y.phis[i3].to).toNat]:=by
             rw[Jp (by rw[hph,Jd];exact hlt3)];simp[hph]
            have hvl':(y.phis[i3].to).toNat<nb.length:=(by omega);generalize hr:(y.phis[i3].to).toNat=r at *;refine Qi ?_;try simp only[go_sem]
            refine Qh (Qc ?_);refine Qq ?_;simp only[go_sem,hbw,hbok,hbln,hbsz,hbrw,hbq,Qj,Q9 _ _ hbq,hy,BlkD.cells,hlt3,Q6,Qa0 _ _ hlt3,PhiD.cells,hv,hvl,hy9,htkn,Qy,hnl,Qbg,Q4 _ _ hvl',Jj,Ji];intro H10 h10;have kn:=kn.stL (lvE R yi yo zi (zo.set b (z,bs1))++Qvv x2 x3 yi yo i).length (x:=y9) (o:=.vec 1 (Qo nb)) (by simp) h10;refine Qq ?_;simp only[go_sem,X.next];refine⟨Qp (by omega) (by omega),y.phis.length-(i3+1),by omega,i3+1,nb.set r false,rfl,by omega,by rw[Jq];exact hnl,?_,by simpa using kn,rfl⟩;refine (hmn.del hvl').congr fun x=>?_;rw[htk3];simp only[Jo,Jg,not_or,and_assoc]
           ·intro hc3;have hge3:y.phis.length≤i3:=(by simpa using hc3);have hmn:Mem nb ((Qa5 q).thru (fun r=>bs1.getD r false=true) b):=hmn.congr fun r=>(by rw[Jf (by rw[hph,Jd];exact hge3)];rfl);refine Qs ?_;simp only[go_sem,X.next];refine Q5 ?_;refine Qa ?_;simp only[go_sem];refine Qh (Qc (Qv (fun m4 e1 H1=>∃(i4:Nat) (a2:Bool),m4=R-i4∧i4≤R∧H1=H9∧(a2=true→a1=true∨∃r,nb.getD r false≠bw.getD r false)∧(a2=false→a1=false∧∀r,r<i4→nb.getD r false=bw.getD r false)∧
             e1=[(1,.c (.pp [.int .i64 q.params,.int .i64 q.regs,bc])),(2,.c (.ptr x2 0)),(3,.c (.ptr x3 0)),(4,.c (.int .i64 i)),(6,.c (.bool a2)),(7,.c (.int .i64 b)),(9,.c (.vsl y9 1 0 R)),(11,.c (.int .i64 i4))]) R ?_ ?_))
            ·exact⟨0,a1,by omega,by omega,rfl,fun h=>.inl h,fun h=>⟨h,fun r hr=>by omega⟩,rfl⟩
            ·have hx3:H9 x3=.st [.vsl yi 1 0 i,.vsl yo 1 0 i]:=(kn.get (x3,.st [.vsl yi 1 0 i,.vsl yo 1 0 i]) (by simp[Qvv])).1;have knA:=kn.drop;obtain⟨hyiH,hyoH,hzzH,hwwH⟩:=Qarz knA.mid hbo (by rw[hz]) hbi hw;rintro m4 e1 H10 ⟨i4,a2,hm4,hi4,rfl,k3,k4,rfl⟩;have htz:∀(zs:List (Nat×List Bool)),zs.length=i→(Qb3 R zs).take i=Qb3 R zs:=fun zs h=>Jf (by rw[Qa1];omega);have htb:∀(bs:List Bool),bs.length=R→(Qo bs).take R=Qo bs:=fun bs h=>Jf (by rw[Qy];omega);have hw1:zi[b].1=w:=(by rw[hw]);have hil3:=hlv.i;refine Q5 ?_;refine Qa ?_;simp only[go_sem];refine Qh (Qd rfl ?_ ?_)
             ·intro hc4;have hlt4:i4<R:=(by have:(i4:Int)<q.regs:=(by simpa using hc4);omega);have hln4:i4<nb.length:=(by omega);have hlw4:i4<bw.length:=(by omega);refine Qi ?_;try simp only[go_sem]
              refine Qcq (fun e2 H2=>∃(a3:Bool),H2=H10∧(a3=true→a2=true∨nb.getD i4 false≠bw.getD i4 false)∧(a3=false→a2=false∧nb.getD i4 false=bw.getD i4 false)∧
               lk 1 e2=.c (.pp [.int .i64 q.params,.int .i64 q.regs,bc])∧lk 2 e2=.c (.ptr x2 0)∧lk 3 e2=.c (.ptr x3 0)∧lk 4 e2=.c (.int .i64 i)∧lk 6 e2=.c (.bool a3)∧lk 7 e2=.c (.int .i64 b)∧lk 9 e2=.c (.vsl y9 1 0 R)∧lk 11 e2=.c (.int .i64 i4)) ?_ ?_
              ·intro Q hnr _ _;refine Qc ?_
               cases ha2:a2 with
               |true=>
                refine Qbh ?_;simp only[go_sem,hx3,hyiH,hwwH,hy9,htz _ hil3,htb _ hnl,htb _ hbwl,Qa1,Qeg _ _ _ hbi,hw1,hbn,hil3,hlt4,Qy,hnl,hbwl,Q4 _ _ hln4,Q4 _ _ hlw4,Jj,Ji];exact hnr _ _ ⟨true,rfl,fun _=>.inl ha2,fun h=>by simp at h,rfl,rfl,rfl,rfl,rfl,rfl,rfl,rfl⟩
               |false=>
                refine Qbh ?_;simp only[go_sem,hx3,hyiH,hwwH,hy9,htz _ hil3,htb _ hnl,htb _ hbwl,Qa1,Qeg _ _ _ hbi,hw1,hbn,hil3,hlt4,Qy,hnl,hbwl,Q4 _ _ hln4,Q4 _ _ hlw4,Jj,Ji];refine hnr _ _ ⟨_,rfl,fun h=>?_,fun h=>?_,rfl,rfl,rfl,rfl,rfl,rfl,rfl,rfl⟩
                ·right;intro he;rw[he]at h;simp at h
                ·exact⟨ha2,by simpa using h⟩
              ·rintro e2 H11 ⟨a3,rfl,q1,q2,l1,l2,l3,l4,l6,l7,l9,l11⟩;refine Qq ?_;simp only[go_sem,X.next,l1,l2,l3,l4,l6,l7,l9,l11];refine⟨Qp (by omega) (by omega),R-(i4+1),by omega,i4+1,a3,rfl,by omega,fun h=>?_,fun h=>?_,rfl⟩
               ·rcases q1 h with h1|h1
                ·exact k3 h1
                ·exact .inr ⟨i4,h1⟩
               ·obtain⟨h1,h2⟩:=q2 h;obtain⟨h3,h4⟩:=k4 h1;refine⟨h3,fun r hr=>?_⟩;by_cases hri:r<i4
                ·exact h4 r hri
                ·have:r=i4:=(by omega);subst this;exact h2
             ·intro hc4;have hge4:i4=R:=(by have:¬(i4:Int)<q.regs:=(by simpa using hc4);omega);subst hge4;refine Qs ?_;simp only[go_sem,X.next];refine Qq ?_;simp only[go_sem,hx3,hyiH,htz _ hil3,Qa1,Qeg _ _ _ hbi,hbn,hil3,Jj,Ji];intro H11 h11;have hrow:(Qb3 i4 zi).set b [.vsl y9 1 0 i4]=Qb3 i4 (zi.set b (y9,nb)):=(by rw[Qb3,Qb3,Jaa]);rw[hrow]at h11;have hobs:obZ (zi.set b (y9,nb))=(obZ zi).set b (y9,.vec 1 (Qo nb)):=(by rw[obZ,obZ,Jaa]);have hmv:=Qbq1 (l:=obZ zi) (i:=b) (x:=(y9,Obj.vec 1 (Qo nb))) (by simpa[obZ]using hbi);have kn:Kn H H11 [] ((lvE i4 yi yo (zi.set b (y9,nb)) (zo.set b (z,bs1))++Qvv x2 x3 yi yo i)++[(obZ zi)[b]'(by simpa[obZ]using hbi)]):=by
               have k5:Kn H H11 [] ((([(yi,.vec 1 (Qb3 i4 (zi.set b (y9,nb)))),(yo,.vec 1 (Qb3 i4 (zo.set b (z,bs1))))]++(obZ zi++obZ (zo.set b (z,bs1))))++Qvv x2 x3 yi yo i)++[(y9,.vec 1 (Qo nb))]):=kn.stL 0 (x:=yi) (o:=.vec 1 (Qb3 i4 zi)) rfl h11;refine k5.perm (Qn fun f hf h0 hc hp=>?_);have e1:=hp _ _ hmv;simp only[hf]at e1;simp only[lvE,hf,hobs];omega
              have kn:=kn.drop;have hst:=hinv.step (y:=y9) hfit hbq (hlv.i.trans hn.symm) (hlv.o.trans hn.symm) hlv.li hlv.lo hb1l hnl hz' hw' g1 g2 g3 (fun r=>hmn r) k1 k2 k3 k4;obtain⟨s1,s2,s3,s4⟩:=hst;refine hnr _ _ ⟨zi.set b (y9,nb),zo.set b (z,bs1),a2,yi,yo,⟨by rw[Jq];exact hlv.i,by rw[Jq];exact hlv.o,fun p hp=>?_,fun p hp=>?_⟩,s1,s2,s3,s4,kn,rfl,rfl,rfl,rfl,rfl,rfl⟩
              ·rcases J0 hp with hp|rfl
               ·exact hlv.li p hp
               ·exact hnl
              ·rcases J0 hp with hp|rfl
               ·exact hlv.lo p hp
               ·exact hb1l
       ·rintro e2 H7 ⟨zi2,zo2,a2,yi2,yo2,hlv2,hinv2,t1,t2,t3,kn,l1,l2,l3,l4,l6,l7⟩;refine Qq ?_;simp only[go_sem,X.next,l1,l2,l3,l4,l6,l7];refine⟨Qp (by omega) (by omega),b,by omega,b,(b:Int)-1,zi2,zo2,a2,yi2,yo2,rfl,by omega,rfl,hlv2,hinv2,by omega,fun ha=>?_,fun ha c hbc hci=>?_,kn,rfl⟩
        ·rcases t2 ha with h|h
         ·have:=htt h;omega
         ·omega
        ·obtain⟨u1,u2,u3⟩:=t3 ha;by_cases hcb:c=b
         ·subst hcb;exact u2
         ·exact u3 c (htf u1 c (by omega) hci)
      ·intro hc;have hlt0:¬0≤j:=(by simpa using hc);have hk0:m1=0:=(by omega);subst hk0;refine Qs ?_;simp only[go_sem,X.next];refine⟨if a=true then 2 * (i * R)+1-(Qnk zi+Qnk zo)else 0,?_,zi,zo,a,yi,yo,rfl,hlv,hinv,fun ha b hb=>htf ha b (by omega) hb,kn,by first|exact⟨rfl,rfl,rfl,rfl⟩|exact rfl|trivial⟩;split
       ·have:=htt ‹_›;omega
       ·omega
    ·intro haf;have hcl:=hcl haf;have hdone:=hinv.done hfit fun b hb=>hcl b (by rw[←hn];exact hb);have hx3:H5 x3=.st [.vsl yi 1 0 i,.vsl yo 1 0 i]:=(kn.get (x3,.st [.vsl yi 1 0 i,.vsl yo 1 0 i]) (by simp[Qvv])).1;have hx2:H5 x2=.st [.sl true 1 [],.sl true 1 []]:=(kn.get (x2,.st [.sl true 1 [],.sl true 1 []]) (by simp[Qvv])).1;refine Qs ?_;simp only[go_sem,X.next];refine Qa ?_;simp only[go_sem,hx2,hx3];intro H6 h6;have kn:Kn H H6 [] (lvE R yi yo zi zo++[(x2,.st [.vsl yi 1 0 i,.vsl yo 1 0 i]),(x3,.st [.vsl yi 1 0 i,.vsl yo 1 0 i])]):=by
      have:=kn.stL (lvE R yi yo zi zo).length (x:=x2) (o:=.st [.sl true 1 [],.sl true 1 []]) (by simp[Qvv]) h6;simpa[Qvv]using this
     have hx2:H6 x2=.st [.vsl yi 1 0 i,.vsl yo 1 0 i]:=(kn.get (x2,.st [.vsl yi 1 0 i,.vsl yo 1 0 i]) (by simp)).1;have hg:∀p∈lvE R yi yo zi zo,H6 p.1=p.2∧un H p.1=true:=fun p hp=>⟨(kn.get p (Jc _ (Jh _ hp))).1,Qeb (kn.loc p (Jh _ hp))⟩;have g1:=hg (yi,.vec 1 (Qb3 R zi)) (by simp[lvE]);have g2:=hg (yo,.vec 1 (Qb3 R zo)) (by simp[lvE]);refine Qk ?_;simp only[go_sem,Q7,Qad,Qaxh,Jg,forall_eq,RS.op,hx2];refine⟨_,(FrzL.cons (FrzR.vsl g1.2 g1.1 (by rw[Qa1,hlv.i]) (Qaxr hlv.li fun p hp=>hg p (by simp only[lvE];exact Jc _ (Jh _ hp))))
      (FrzL.cons (FrzR.vsl g2.2 g2.1 (by rw[Qa1,hlv.o]) (Qaxr hlv.lo fun p hp=>hg p (by simp only[lvE];exact Jc _ (Jc _ hp)))) FrzL.nil)).ag,hK zi zo _ kn.fin ⟨by rw[hR,hn];exact hlv,fun b hb=>hdone b hb⟩⟩
end Go.AE.Y
namespace Go.AE.Y
attribute [local go_sem] cond_true cond_false Bool.not_true Bool.not_false
open Go.Proofs.Tryz
variable {H H0:Heap}{K:V→Heap→Prop}{E L:List (Nat×Obj)}
def Qafu (bs:List Bool)(n:Nat):List Nat:=(List.range n).filter fun r=>bs.getD r false
theorem Qaqi (bs:List Bool)(n:Nat):Qafu bs (n+1)=Qafu bs n++if bs.getD n false=true then [n]else []:=by
 simp only[Qafu,Ja2,Jaq];congr 1;cases h:bs.getD n false
 ·simp[Ja8,h,- Ja]
 ·simp[Ja8,h,- Ja]
theorem Qbpz (bs:List Bool)(n:Nat):(Qafu bs n).length≤n:=by
 have:=Jaj (fun r=>bs.getD r false) (List.range n);simpa[Qafu]using this
def listsR (ls:List (List Nat)):List (List C):=ls.map fun l=>[.sl false 1 (Q1 l)]
set_option maxHeartbeats 1000000 in
theorem Qbi7 {c:C}{bs:List Bool}(hs:Slc H 1 (Qo bs) c)(how:c.isOw=false)(hl:bs.length≤2 ^ 38)(hK:∀H',Upd H H' []→K (.c (.sl false 1 (Q1 (Qafu bs bs.length)))) H') :
  Qu prog Q48 [.c c] H K:=by
 refine Qt ?_;refine Qb Qam Qbjz ?_;refine Qa ?_;simp only[go_sem,how];refine Qa ?_;simp only[go_sem,how];refine Q5 ?_;refine Qa ?_;simp only[go_sem,how];have hlen:=hs.len;have hsz:=hs.sz;refine Qh (Qc (Qv (fun m e1 H1=>∃(i:Nat) (t:C) (Lg:List (Nat×Obj)),m=bs.length-i∧i≤bs.length∧Gr Lg 1 (Q1 (Qafu bs i)) t∧Kn H H1 [] ([]++Lg)∧
  e1=[(0,.c c),(3,.c t),(4,.c (.int .i64 i))]) bs.length ?_ ?_))
 ·exact⟨0,_,[],by omega,by omega,.nil 1,Kn.start0 H,rfl⟩
 ·rintro m e1 H1 ⟨i,t,Lg,hm,hi,hgr,kn,rfl⟩;have htw:=hgr.isOw;have hs1:=hs.keep0 kn;have hok1:=eq_true hs1.ok;have hrw1:=hs1.rows;refine Q5 ?_;refine Qa ?_;simp only[go_sem,how,htw,hok1,hlen,Qy];intro _;refine Qh (Qd rfl ?_ ?_)
  ·intro hc;have hlt:i<bs.length:=by simpa using hc
   refine Qi ?_;try simp only[go_sem]
   refine Qcq (fun e2 H2=>∃(t:C) (Lg:List (Nat×Obj)),Gr Lg 1 (Q1 (Qafu bs (i+1))) t∧Kn H H2 [] ([]++Lg)∧lk 0 e2=.c c∧lk 3 e2=.c t∧lk 4 e2=.c (.int .i64 i)) ?_ ?_
   ·intro Q hnr _ _;refine Qc ?_;refine Qa ?_;simp only[go_sem,how,htw,hok1,hlen,hsz,hrw1,hlt,Qy,Q4 _ _ hlt];refine Qd rfl ?_ ?_
    ·intro hc2;refine Qq ?_;simp only[go_sem,how,htw];have hol:=Qbpz bs i;refine kn.growR (B:=[]) (new:=Q1 [i]) hgr (.mk' _ _ _ _) (Qat _) (by simp only[Qz,LIM,Jk,Jl];omega) fun t2 Lg2 H3 hgr2 ht2 kn=>?_;simp only[go_sem,Q9b,how,ht2];refine hnr _ _ ⟨t2,Lg2,?_,kn,rfl,rfl,rfl⟩;rw[Qaqi,hc2,if_pos rfl,Qlq];exact hgr2
    ·intro hc2;refine Qi ?_;try simp only[go_sem]
     refine hnr _ _ ⟨t,Lg,?_,kn,rfl,rfl,rfl⟩;rw[Qaqi,hc2];simpa using hgr
   ·rintro e2 H2 ⟨t2,Lg2,hgr2,kn,l0,l3,l4⟩;have ht2:=hgr2.isOw;refine Qq ?_;simp only[go_sem,X.next,how,ht2,l0,l3,l4];exact⟨Qp (by omega) (by omega),bs.length-(i+1),by omega,i+1,t2,Lg2,rfl,by omega,hgr2,kn,rfl⟩
  ·intro hc;have hge:i=bs.length:=by have:bs.length≤i:=(by simpa using hc);omega
   subst hge;refine Qs ?_;simp only[go_sem,X.next];refine Qa ?_;simp only[go_sem,htw];refine Qk ?_;simp only[go_sem,Q7,Qad,Qaxg,Jg,forall_eq,RS.op,htw];exact⟨_,.c _ _ (hgr.frz kn (Qat _)),hK _ kn.fin⟩
noncomputable def insLs (q:CodeD):List (List Nat):=(List.range q.blocks.length).map fun b=>ascL q.regs.toNat ((Qa5 q).LI b)
noncomputable def outsLs (q:CodeD):List (List Nat):=(List.range q.blocks.length).map fun b=>ascL q.regs.toNat ((Qa5 q).LO b)
noncomputable def Qbns (q:CodeD)(b k:Nat):List Nat:=ascL q.regs.toNat ((Qa5 q).LB b k)
noncomputable def codeOr (cs:List CodeD)(k:Int)(f:CodeD→List (List Nat)):List (List Nat):=if hasG cs k=true then match cs[k.toNat]? with
 |some q=>f q
 |none=>[]else []
theorem Qbin {cs:List CodeD}{k:Int}(h:hasG cs k=true):∃(m:Nat) (hm:m<cs.length),k=(m:Int)∧cs[m].ok:=by
 simp only[hasG,Jbh,decide_eq_true_eq]at h;obtain⟨h1,h2,h3⟩:=h;refine⟨k.toNat,by omega,by omega,Qvw h1 _⟩
def mxF (f:Nat→Nat):Nat→Nat
 |0=>0
 |m+1=>max (mxF f m) (f m)
noncomputable def Qbut (q:CodeD)(b:Nat):Nat:=mxF (fun k=>(Qbns q b k).length) (((q.blocks[b]?.map BlkD.ins).getD []).length+1)
noncomputable def Qbwr (q:CodeD):Nat:=mxF (Qbut q) q.blocks.length
noncomputable def upTo (q:CodeD)(b k:Nat):Nat:=max (mxF (Qbut q) b) (mxF (fun k=>(Qbns q b k).length) k)
noncomputable def mostI (cs:List CodeD)(k:Int):Int:=if hasG cs k=true then match cs[k.toNat]? with
 |some q=>(Qbwr q:Int)
 |none=>-1 else -1
def spS (zi zo:List (Nat×List Bool)):Obj:=.st [.sl false 1 (Qzo zi),.sl false 1 (Qzo zo)]
end Go.AE.Y
namespace Go.AE.Y
attribute [local instance] Classical.propDecidable
def asS (S:Nat→List Nat)(b:Nat):RS':=fun r=>r∈S b
structure ImInv (F:Flo)(R:Nat)(S:Nat→List Nat):Prop where
 below:F.Below (asS S)
 post:∀b,b<F.n→∀r,asS S b r→F.inT (asS S) b r
 nd:∀b,(S b).Nodup
 lt:∀b,∀r∈S b,r<R
variable {F:Flo}{R:Nat}{S:Nat→List Nat}
theorem ImInv.same {b:Nat}{ks:List Nat}(h:ImInv F R S)(hb:b<F.n)(hnd:ks.Nodup)(hks:∀r,r∈ks↔F.inT (asS S) b r)(hl:ks.length=(S b).length):∀r,F.inT (asS S) b r→asS S b r:=fun r hr=>
 Qaw6 (h.nd b) (fun x hx=>(hks x).2 (h.post b hb x hx)) (by omega) r ((hks r).2 hr)
theorem ImInv.step {b:Nat}{ks:List Nat}(h:ImInv F R S)(hf:F.fits)(hb:b<F.n)(hnd:ks.Nodup)(hlt:∀r∈ks,r<R)(hks:∀r,r∈ks↔F.inT (asS S) b r)(hl:¬ks.length=(S b).length) :
  ImInv F R (fun c=>if c=b then ks else S c)∧tot F.n S<tot F.n (fun c=>if c=b then ks else S c):=by
 have hsub:∀r,r∈S b→r∈ks:=fun r hr=>(hks r).2 (h.post b hb r hr);have hle:=Qn6 (h.nd b) hsub;have hS:∀c,c<F.n→∀r,asS S c r→asS (fun c=>if c=b then ks else S c) c r:=fun c _ r hr=>by
  simp only[asS];by_cases hc:c=b
  ·subst hc;rw[if_pos rfl];exact hsub r hr
  ·rw[if_neg hc];exact hr
 refine⟨⟨fun c hc r hr=>?_,fun c hc r hr=>?_,fun c=>?_,fun c r hr=>?_⟩,Qbv7 hb (fun c hc=>?_) ?_⟩
 ·simp only[asS]at hr;by_cases hcb:c=b
  ·subst hcb;rw[if_pos rfl]at hr;exact h.below.inT hf hb r ((hks r).1 hr)
  ·rw[if_neg hcb]at hr;exact h.below c hc r hr
 ·have h1:F.inT (asS S) c r:=by
   simp only[asS]at hr;by_cases hcb:c=b
   ·subst hcb;rw[if_pos rfl]at hr;exact (hks r).1 hr
   ·rw[if_neg hcb]at hr;exact h.post c hc r hr
  exact Flo.inT_mono hf hS hc r h1
 ·by_cases hcb:c=b
  ·subst hcb;simpa using hnd
  ·simpa[hcb]using h.nd c
 ·by_cases hcb:c=b
  ·subst hcb;exact hlt r (by simpa using hr)
  ·exact h.lt c r (by simpa[hcb]using hr)
 ·by_cases hcb:c=b
  ·subst hcb;simpa using hle
  ·simp[hcb]
 ·simp only[if_pos];omega
theorem ImInv.done (h:ImInv F R S)(hc:∀b,b<F.n→∀r,F.inT (asS S) b r→asS S b r){b:Nat}(hb:b<F.n)(r:Nat):r∈S b↔F.LI b r:=
 Flo.is_least hc h.below hb r
theorem ImInv.start:ImInv F R fun _=>[]:=⟨fun b _ r hr=>absurd hr (by simp[asS]),fun b _ r hr=>absurd hr (by simp[asS]),fun _=>by simp,fun _ r hr=>by simp at hr⟩
end Go.AE.Y
namespace Go.AE.Y
attribute [local go_sem] cond_true cond_false Bool.not_true Bool.not_false
open Go.Proofs.Tryz
variable {H H0 F:Heap}{K:V→Heap→Prop}{E L:List (Nat×Obj)}
def ksOf (ss:List SetO)(b:Nat):List Nat:=(ss[b]?.map SetO.ks).getD []
end Go.AE.Y
namespace Go.AE.Y
attribute [local go_sem] cond_true cond_false Bool.not_true Bool.not_false
open Go.Proofs.Tryz
variable {H H0:Heap}{K:V→Heap→Prop}{E B Lg:List (Nat×Obj)}
theorem Qsi {S:Nat→Bool}{a b a' b':V}(h:FrzV H S a a')(k:FrzV H S b b'):FrzV H S (.tup [a,b]) (.tup [a',b']):=by
 refine .tup _ _ rfl fun j x x' h1 h2=>?_
 match j with
 |0=>simp at h1 h2;subst h1;subst h2;exact h
 |1=>simp at h1 h2;subst h1;subst h2;exact k
 |j+2=>simp at h1
theorem Qfe {S:Nat→Bool}(cs:List CodeD):FrzV H S (.ag [.sl false 3 (Ql cs)]) (.ag [.sl false 3 (Ql cs)]):=FrzL.ag (.cons (FrzR.same (Qbr cs)).sl .nil)
theorem UnitOk.fits {cs:List CodeD}(h:UnitOk cs):∀c∈cs,c.fits:=fun c hc=>(h.2.2 c hc).f
end Go.AE.Y
namespace Go.AE.Y
attribute [local go_sem] cond_true cond_false Bool.not_true Bool.not_false
open Go.Proofs.Tryz
variable {H H0 F:Heap}{K:V→Heap→Prop}{E L:List (Nat×Obj)}
variable {q:CodeD}{fl:Bool}{l yi yp:Nat}{ss:List SetO}{pr:List (List C)}
attribute [local instance] Classical.propDecidable
def Qbvp (op:Int):Bool:=decide (1≤op∧op≤10)&&!decide (op=6)&&!decide (op=7)
noncomputable def Qbwn (q:CodeD)(b i:Nat)(x:InsD):Bool:=Qbvp x.op&&!decide (x.to.toNat∈Qbns q b (i+1))
noncomputable def Qbu8 (q:CodeD)(b i:Nat):Bool:=match (q.blocks[b]?).bind (fun y=>y.ins[i]?)with
 |some x=>Qbwn q b i x
 |none=>false
end Go.AE.Y
namespace Go.AE.Y
attribute [local go_sem] cond_true cond_false Bool.not_true Bool.not_false
open Go.Proofs.Tryz
variable {H H0 F:Heap}{K:V→Heap→Prop}{E L:List (Nat×Obj)}
variable {q:CodeD}{fl:Bool}
attribute [local instance] Classical.propDecidable
def Qbrp (q:CodeD)(b:Nat):Nat:=((q.blocks[b]?.map BlkD.ins).getD []).length
noncomputable def idlB (q:CodeD)(b n:Nat):List Nat:=(List.range n).filter (Qbu8 q b)
def itB (k b:Nat)(l:List Nat):List (List Nat):=l.map fun i=>[k,b,i]
noncomputable def itC (q:CodeD)(k nb:Nat):List (List Nat):=(List.range nb).flatMap fun b=>itB k b (idlB q b (Qbrp q b))
noncomputable def itU (cs:List CodeD)(nk:Nat):List (List Nat):=(List.range nk).flatMap fun k=>match cs[k]? with
 |some q=>itC q k q.blocks.length
 |none=>[]
noncomputable def idleAll (cs:List CodeD):List (List Nat):=if Qa3 cs=true then itU cs cs.length else []
noncomputable def idlN (q:CodeD)(nb:Nat):Nat:=((List.range nb).map fun b=>(idlB q b (Qbrp q b)).length).sum
def listsT (ls:List (List Nat)):List (List C):=ls.map fun l=>[.sl true 1 (Q1 l)]
noncomputable def countI (cs:List CodeD):Int:=if Qa3 cs=true then (Qhy Qvx cs:Nat)else -1
end Go.AE.Y
namespace Go.AE.Y
open Go.Proofs.Tryz
def Qme:List Item:=[fJ 6 2 1,sJ 1 6 5]
def Qaby:SC:=sR [tJ 7 4 1,sJ 4 2 7] [2] .ret
def Qabz:SC:=sR (fJ 3 2 1::lJ 4 3::aJ 5 Qii [.t 4]::Qme) [1,2] Qaby
def Qamw:SC:=sR [eI 1 (.boxm (.t 0)),eI 2 (.alloc [.int .i64 0,.int .i64 0,.sl true 1 [],.int .i64 0])] [1,2] Qabz
def Qxp:List RS:=[.cell 2 4 true]
theorem Qal8:mFn prog Qdk 1 8 Qamw Qxp=true:=by kernel_rfl
def Qi0:List Item:=[fJ 6 0 1,sJ 1 6 5]
def Qi1:List Item:=[fJ 10 1 1,sJ 1 10 9]
def Qi2:List Item:=[fJ 14 4 1,sJ 1 14 13]
def Q2m:SC:=sR [tJ 15 5 1,sJ 5 2 15] [2] .ret
def Q2n:SC:=sR (fJ 11 4 1::lJ 12 11::aJ 13 Qii [.t 12]::Qi2) [1,2] Q2m
def Q2o:SC:=sR (fJ 7 1 1::lJ 8 7::eI 9 (.call Qdg [.t 8,.k (.c (.fn Qdk []))])::Qi1) [1,2] Q2n
def Q2p:SC:=sR (fJ 3 0 1::lJ 4 3::eI 5 (.call Qb4 [.t 4,.k (.c (.fn Qcj []))])::Qi0) [1,2] Q2o
def Qabx:SC:=sR [eI 1 (.boxm (.t 0)),eI 2 (.alloc [.sl true 2 [],.sl true 4 [],.int .i64 0,.int .i64 0,.sl true 1 []])] [1,2] Q2p
def Qoz:List RS:=[.cell 2 5 true]
theorem Qabe:mFn prog Qch 1 16 Qabx Qoz=true:=by kernel_rfl
def Qkb:List Item:=[fJ 6 2 1,sJ 1 6 5]
def Q6a:SC:=sR [tJ 7 3 1,sJ 3 2 7] [2] .ret
def Q6b:SC:=sR (fJ 3 2 1::lJ 4 3::eI 5 (.call Qb9 [.t 4,.k (.c (.fn Qch []))])::Qkb) [1,2] Q6a
def Qagt:SC:=sR [eI 1 (.boxm (.t 0)),eI 2 (.alloc [.int .i64 0,.int .i64 0,.sl true 5 []])] [1,2] Q6b
def Qsu:List RS:=[.cell 2 3 true]
theorem Qafk:mFn prog Qh9 1 8 Qagt Qsu=true:=by kernel_rfl
end Go.AE.Y
namespace Go.AE.Y
attribute [local go_sem] cond_true cond_false Bool.not_true Bool.not_false
open Go.Proofs.Tryz
variable {H H0 F:Heap}{K:V→Heap→Prop}{E L:List (Nat×Obj)}
theorem PhiD.allOw (x:PhiD):(x.cells.all fun c=>!c.isOw)=true:=rfl
theorem PhiD.len2 (x:PhiD):x.cells.length=2:=rfl
theorem Qbdw {x:PhiD}(hl:x.args.length≤LIM)(hK:∀H',Upd H H' []→K (.ag x.cells) H'):Qu prog Qcj [.ag x.cells] H K:=by
 refine Qt ?_;refine Qb Qam Qar1 ?_;refine Qa ?_;simp only[go_sem,PhiD.cells];intro x2 hx2 H1 h1;have kn:=(Kn.start0 H).al hx2 h1;refine Qak ?_;simp only[go_sem];refine Qa4h kn hl fun t Lg H2 hgr how kn=>?_;have hx2:=kn.l 0 rfl;simp only[go_sem,Qo3,how,hx2];intro H3 h3;have kn:Kn H H3 [] ([(x2,.st [.int .i64 x.to,t])]++Lg):=kn.stL 0 rfl h3;have hx2:=kn.l 0 rfl;refine Qk ?_;simp only[go_sem,Q7,Qad,Q1v,Jg,forall_eq,RS.op,how,hx2];exact⟨_,FrzL.ag (.cons (Qf rfl) (.cons (hgr.frz kn (Qw _)) .nil)),hK _ kn.fin⟩
theorem Qbdv {x:InsD}(hl:x.args.length≤LIM)(hK:∀H',Upd H H' []→K (.ag x.cells) H'):Qu prog Qdk [.ag x.cells] H K:=by
 refine Qt ?_;refine Qb Qam Qal8 ?_;refine Qa ?_;simp only[go_sem,InsD.cells];intro x1 hx1 H0 h0;have kn:=(Kn.start0 H).al hx1 h0;intro x2 hx2 H1 h1;have kn:=kn.al hx2 h1;have hx1:=kn.l 0 rfl;refine Qa ?_;simp only[go_sem,hx1];refine Qa4h kn hl fun t Lg H2 hgr how kn=>?_;have hx1:=kn.l 0 rfl;simp only[go_sem,Qme,how,hx1];intro H3 h3;have kn:=kn.stL 0 rfl h3;have hx1:=kn.l 0 rfl;have hx2:=kn.l 1 rfl;refine Qa ?_;simp only[go_sem,hx1,hx2,how];intro H4 h4;have kn:Kn H H4 [] ([(x1,.st [.int .i64 x.op,.int .i64 x.to,t,.int .i64 x.n]),(x2,.st [.int .i64 x.op,.int .i64 x.to,t,.int .i64 x.n])]++Lg):=kn.stL 1 rfl h4;have hx2:=kn.l 1 rfl;refine Qk ?_;simp only[go_sem,Q7,Qad,Qxp,Jg,forall_eq,RS.op,how,hx2];exact⟨_,FrzL.ag (.cons (Qf rfl) (.cons (Qf rfl) (.cons (hgr.frz kn (Qw _)) (.cons (Qf rfl) .nil)))),hK _ kn.fin⟩
theorem Qbpp {l:List PhiD}{fl:Bool}(hl:l.length≤2 ^ 38)(ha:∀x∈l,x.args.length≤LIM)(kn:Kn H0 H E L)(hK:∀t Lg H',Gr Lg 2 (Qab l) t→Kn H0 H' E (L++Lg)→K (.c t) H') :
  Qu prog Qb4 [.c (.sl fl 2 (Qab l)),.c (.fn Qcj [])] H K:=by
 refine Qb Qam Qzf ?_;refine Qa ?_;simp only[go_sem];refine Qa ?_;simp only[go_sem];refine Q5 ?_;refine Qa ?_;simp only[go_sem,Q6];intro _;refine Qh (Qc (Qv (fun m e1 H1=>∃(i:Nat) (t:C) (Lg:List (Nat×Obj)),m=l.length-i∧i≤l.length∧Gr Lg 2 (Qab (l.take i)) t∧Kn H0 H1 E (L++Lg)∧
  e1=[(1,.c (.fn Qcj [])),(5,.c t),(8,.c (.sl fl 2 (Qab l))),(9,.c (.int .i64 l.length)),(10,.c (.int .i64 i))]) l.length ?_ ?_))
 ·exact⟨0,_,[],by omega,by omega,.nil 2,by simpa using kn,rfl⟩
 ·clear kn;rintro m e1 H1 ⟨i,t,Lg,hm,hi,hgr,kn,rfl⟩;have htw:=hgr.isOw;refine Qa ?_;simp only[go_sem,htw];refine Qh (Qd rfl ?_ ?_)
  ·intro hc;have hlt:i<l.length:=by simpa using hc
   obtain⟨p,hp⟩:∃p,l[i]=p:=⟨_,rfl⟩;have hpm:p∈l:=by rw[←hp];exact Jb hlt
   have htk:l.take (i+1)=l.take i++[p]:=by rw[Jp hlt,hp]
   refine Qi ?_;try simp only[go_sem]
   refine Qh (Qc ?_);refine Qa ?_;simp only[go_sem,htw,hlt,Q6,Qa0 _ _ hlt,PhiD.cells,hp];intro x7 hx7 H2 h2;have kn:=kn.al hx7 h2;have hx7:H2 x7=.st [.int .i64 0,.sl true 1 []]:=(kn.get (x7,.st [.int .i64 0,.sl true 1 []]) (by simp)).1;simp only[go_sem,Qfq,hx7,htw];intro H3 h3;have kn:Kn H0 H3 E ((L++[(x7,.st [.int .i64 p.to,.sl false 1 (Qe p.args)])])++Lg):=by
    have:=kn.stL (L++Lg).length (x:=x7) (o:=.st [.int .i64 0,.sl true 1 []]) (by simp) h3;refine Kn.perm (by simpa using this) (Qn fun f hf h0 hc hp=>by simp only[hf];omega)
   have hx7:H3 x7=.st [.int .i64 p.to,.sl false 1 (Qe p.args)]:=(kn.get (x7,.st [.int .i64 p.to,.sl false 1 (Qe p.args)]) (by simp)).1;refine Qq ?_;simp only[go_sem,htw,hx7,Ja0,Jau];refine Qbdw (x:=p) (ha p hpm) fun H4 hu=>?_;have kn:=kn.call0 hu;simp only[go_sem,Qfs,htw,PhiD.cells];have hsm:(l.take i).length≤l.length:=by rw[Jay];omega
   refine kn.growR (new:=Qab [p]) hgr (.mk' _ _ _ _) (Qf4 _) (by simp only[Q6,LIM,Jk,Jl];omega) fun t2 Lg2 H5 hgr2 ht2 kn=>?_;simp only[go_sem,Qfr,ht2];refine Qq ?_;simp only[go_sem,X.next,ht2];refine⟨Qp (by omega) (by omega),l.length-(i+1),by omega,i+1,t2,Lg2,rfl,by omega,?_,?_,rfl⟩
   ·rw[htk];have:Qab (l.take i++[p])=Qab (l.take i)++Qab [p]:=(by simp[Qab]);rw[this];exact hgr2
   ·exact Kn.drop (B:=[(x7,.st [.int .i64 p.to,.sl false 1 (Qe p.args)])]) (kn.perm (Qn fun f hf h0 hc hp=>by simp only[hf];omega))
  ·intro hc;have hge:l.length≤i:=by simpa using hc
   rw[Jf hge]at hgr;refine Qs ?_;simp only[go_sem,X.next];refine Qa ?_;simp only[go_sem,htw];refine Qk ?_;simp only[go_sem,Q7,Qad,Qiu,Jg,forall_eq,RS.op,htw];exact hK t Lg H1 hgr kn
def kRow (y:BlkD)(pc:C):List C:=[pc,.sl false 4 (Qap y.ins),.int .i64 y.jump,.int .i64 y.on,.sl false 1 (Qe y.next)]
structure BlkD.cl (y:BlkD):Prop where
 i:y.ins.length≤2 ^ 38
 p:y.phis.length≤2 ^ 38
 n:y.next.length≤LIM
 ia:∀x∈y.ins,x.args.length≤LIM
 pa:∀x∈y.phis,x.args.length≤LIM
structure KBlk where
 y:BlkD
 pc:C
 pl:List (Nat×Obj)
def KBlk.row (b:KBlk):List C:=kRow b.y b.pc
def KBlk.ok (b:KBlk):Prop:=Gr b.pl 2 (Qab b.y.phis) b.pc
theorem KBlk.noOw {b:KBlk}(h:b.ok):Go.AE.noOw b.row=true:=by
 have:=h.isOw;simp only[Go.AE.noOw,KBlk.row,kRow,List.all_cons,List.all_nil,this];rfl
end Go.AE.Y
namespace Go.AE.Y
attribute [local go_sem] cond_true cond_false Bool.not_true Bool.not_false
open Go.Proofs.Tryz
variable {H H0 F:Heap}{K:V→Heap→Prop}{E L B pl:List (Nat×Obj)}
def keepK (ks:List Nat)(f:PhiD):Bool:=decide (f.to.toNat∈ks)
theorem Qbe0 (l:List PhiD)(i:Nat)(x:PhiD):(Qab l).set i x.cells=Qab (l.set i x):=by simp[Qab,Jaa]
end Go.AE.Y
namespace Go.AE.Y
open Go.Proofs.Tryz
attribute [local instance] Classical.propDecidable
variable {q:CodeD}
noncomputable def kpD (q:CodeD)(b:Nat):Nat→List InsD→List InsD
 |_,[]=>[]
 |k,x::l=>if Qbu8 q b k=true then kpD q b (k+1) l else x::kpD q b (k+1) l
theorem Qa45 {b:Nat}:∀{l:List InsD} {k:Nat},(kpD q b k l).Sublist l
 |[],_=>.slnil
 |x::l,k=>by
  rw[kpD];split
  ·exact (Qa45).cons x
  ·exact (Qa45).cons_cons x
noncomputable def kpP (q:CodeD)(b:Nat)(l:List PhiD):List PhiD:=l.filter fun f=>decide (f.to.toNat∈Qbns q b 0)
noncomputable def Qbvk (q:CodeD)(b:Nat)(y:BlkD):BlkD:={ y with phis:=kpP q b y.phis,ins:=kpD q b 0 y.ins }
noncomputable def Qjo (q:CodeD):CodeD:={ q with blocks:=q.blocks.mapIdx (Qbvk q) }
theorem Qbkw:(Qjo q).blocks.length=q.blocks.length:=by simp[Qjo]
theorem Qbpw {b:Nat}(h:b<q.blocks.length)(h2:b<(Qjo q).blocks.length):(Qjo q).blocks[b]=Qbvk q b q.blocks[b]:=by simp[Qjo]
structure Shr (c d:CodeD):Prop where
 pr:d.params=c.params
 rg:d.regs=c.regs
 bl:d.blocks.length=c.blocks.length
 j:∀b (h1:b<c.blocks.length) (h2:b<d.blocks.length),d.blocks[b].jump=c.blocks[b].jump∧d.blocks[b].on=c.blocks[b].on∧d.blocks[b].next=c.blocks[b].next∧d.blocks[b].ins.Sublist c.blocks[b].ins∧d.blocks[b].phis.Sublist c.blocks[b].phis
theorem Shr.refl (c:CodeD):Shr c c:=⟨rfl,rfl,rfl,fun b h1 h2=>⟨rfl,rfl,rfl,.refl _,.refl _⟩⟩
theorem Shr.trans {c d e:CodeD}(h:Shr c d)(k:Shr d e):Shr c e:=⟨k.pr.trans h.pr,k.rg.trans h.rg,k.bl.trans h.bl,fun b h1 h2=>by
 have hd:b<d.blocks.length:=by rw[h.bl];exact h1
 obtain⟨a1,a2,a3,a4,a5⟩:=h.j b h1 hd;obtain⟨b1,b2,b3,b4,b5⟩:=k.j b hd h2;exact⟨b1.trans a1,b2.trans a2,b3.trans a3,b4.trans a4,b5.trans a5⟩⟩
theorem Qbpx:Shr q (Qjo q):=⟨rfl,rfl,Qbkw,fun b h1 h2=>by
 rw[Qbpw h1 h2];exact⟨rfl,rfl,rfl,Qa45,Jbd⟩⟩
theorem Shr.next {c d:CodeD}(h:Shr c d):d.blocks.map BlkD.next=c.blocks.map BlkD.next:=Jaw (by simp[h.bl]) fun b h1 h2=>by
 simp only[Jd]at h1 h2;simp only[Jax];exact (h.j b h2 h1).2.2.1
theorem Shr.gnx {c d:CodeD}(h:Shr c d):gnx d=gnx c:=by funext i;rw[Y.gnx,Y.gnx,h.next]
theorem Shr.cnt {c d:CodeD}(h:Shr c d):Qvx d≤Qvx c∧(Qvx d=Qvx c→∀b (h1:b<c.blocks.length) (h2:b<d.blocks.length),d.blocks[b].ins.length=c.blocks[b].ins.length∧d.blocks[b].phis.length=c.blocks[b].phis.length):=by
 have key:∀m,m≤c.blocks.length→Qhy Qvy (d.blocks.take m)≤Qhy Qvy (c.blocks.take m)∧(Qhy Qvy (d.blocks.take m)=Qhy Qvy (c.blocks.take m)→∀b,b<m→∀(h1:b<c.blocks.length) (h2:b<d.blocks.length),d.blocks[b].ins.length=c.blocks[b].ins.length∧d.blocks[b].phis.length=c.blocks[b].phis.length):=fun m=>by
  induction m with
  |zero=>intro _;exact⟨by simp[Qhy],fun _ b hb=>absurd hb (by omega)⟩
  |succ m ih=>
   intro hm;obtain⟨i1,i2⟩:=ih (by omega);have hc:m<c.blocks.length:=by omega
   have hd:m<d.blocks.length:=by rw[h.bl];exact hc
   obtain⟨_,_,_,s1,s2⟩:=h.j m hc hd;have l1:=s1.length_le;have l2:=s2.length_le;rw[Qd0 hc,Qd0 hd,Qvy,Qvy];refine⟨by omega,fun he b hb h1 h2=>?_⟩;by_cases hbm:b=m
   ·subst hbm;exact⟨by omega,by omega⟩
   ·exact i2 (by omega) b (by omega) h1 h2
 obtain⟨k1,k2⟩:=key _ (Ji _);have e1:d.blocks.take c.blocks.length=d.blocks:=by rw[←h.bl,Jae]
 have e2:c.blocks.take c.blocks.length=c.blocks:=Jae;rw[e1,e2]at k1 k2;exact⟨k1,fun he b h1 h2=>k2 he b h1 h1 h2⟩
theorem Qbnt {cs ds:List CodeD}{k b:Nat}{c d:CodeD}{y z:BlkD}(hr:rgOf ds k=rgOf cs k)(hp:∀n,pmOf ds n=pmOf cs n)(hcd:Shr c d)(hj:z.jump=y.jump∧z.on=y.on∧z.next=y.next∧z.ins.Sublist y.ins∧z.phis.Sublist y.phis)
  (g:blkG cs k b c y=true):blkG ds k b d z=true:=by
 obtain⟨j1,j2,j3,j4,j5⟩:=hj;have hl:(Qm d.blocks).length=(Qm c.blocks).length:=by rw[Qj,Qj,hcd.bl]
 simp only[blkG,Jbh,Jbi]at g⊢;obtain⟨⟨⟨gj,gn⟩,gi⟩,gp⟩:=g;refine⟨⟨⟨?_,fun x hx=>?_⟩,fun x hx=>?_⟩,fun x hx=>?_⟩
 ·simpa only[Qsl,j1,j2,j3,hcd.rg]using gj
 ·rw[hl];exact gn x (by rw[←j3];exact hx)
 ·have:=gi x (j4.subset hx);simp only[insG,insL,hr,hp]at this⊢;exact this
 ·have:=gp x (j5.subset hx);rw[hcd.rg,hcd.next,hl];exact this
theorem Qbq2 {cs ds:List CodeD}(hg:Qa3 cs=true)(hl:ds.length=cs.length)(h:∀k (h1:k<cs.length) (h2:k<ds.length),Shr cs[k] ds[k]):Qa3 ds=true:=by
 obtain⟨h1,h2,h3⟩:=of_decide_eq_true hg;have hr:∀k,rgOf ds k=rgOf cs k:=fun k=>by
  by_cases hk:k<cs.length
  ·rw[Qzn hk,Qzn (by omega),(h k hk (by omega)).rg]
  ·simp[rgOf,Jx (show cs.length≤k by omega),Jx (show ds.length≤k by omega)]
 have hp:∀k,pmOf ds k=pmOf cs k:=fun k=>by
  by_cases hk:k<cs.length
  ·rw[Qzi hk,Qzi (by omega),(h k hk (by omega)).pr]
  ·simp[pmOf,Jx (show cs.length≤k by omega),Jx (show ds.length≤k by omega)]
 refine decide_eq_true ⟨by omega,fun k hk=>?_,?_⟩
 ·have hc:k<cs.length:=by omega
  have s:=h k hc hk;obtain⟨g1,g2⟩:=h2 k hc;refine⟨by simpa only[Qsj,s.pr,s.rg,s.bl]using g1,fun b hb=>?_⟩;have hb':b<cs[k].blocks.length:=by rw[←s.bl];exact hb
  exact Qbnt (hr k) hp s (s.j b hb' hb) (g2 b hb')
 ·have key:∀m,m≤cs.length→Qhy Qvx (ds.take m)≤Qhy Qvx (cs.take m):=fun m=>by
   induction m with
   |zero=>intro _;simp[Qhy]
   |succ m ih=>
    intro hm;have i1:=ih (by omega);have hc:m<cs.length:=(by omega);have hd:m<ds.length:=(by omega);rw[Qd0 hc,Qd0 hd];have:=(h m hc hd).cnt.1;omega
  have:=key _ (Ji _);have e1:ds.take cs.length=ds:=by rw[←hl,Jae]
  rw[e1,Jae]at this;omega
def flI (x:InsD):Option Nat×List Nat:=(Qafo x,toN x.args)
theorem Qa52 {d:CodeD}(h:Qjo d=d):∀n,Nat.repeat Qjo n d=d
 |0=>rfl
 |n+1=>by rw[Nat.repeat,Qa52 h n,h]
theorem Qa51 (q:CodeD):∀n m,Nat.repeat Qjo (m+n) q=Nat.repeat Qjo m (Nat.repeat Qjo n q)
 |n,0=>by rw[Jj];rfl
 |n,m+1=>by rw[Nat.succ_add,Nat.repeat,Qa51 q n m];rfl
theorem Qbp7 {n m:Nat}(h1:Qjo (Nat.repeat Qjo n q)=Nat.repeat Qjo n q)(h2:Qjo (Nat.repeat Qjo m q)=Nat.repeat Qjo m q):Nat.repeat Qjo n q=Nat.repeat Qjo m q:=by
 have a:=Qa51 q n m;have b:=Qa51 q m n;rw[Qa52 h1 m]at a;rw[Qa52 h2 n]at b;rw[←a,←b,Nat.add_comm]
theorem Shr.ok {c d:CodeD}(s:Shr c d)(ho:c.ok):d.ok:=by
 have hg:=s.gnx;refine⟨by rw[s.rg];exact ho.r0,by rw[s.rg];exact ho.r1,by rw[s.bl];exact ho.b0,by rw[s.bl];exact ho.b1,fun b hb=>?_,fun b hb=>?_⟩
 ·have hb':b<c.blocks.length:=by rw[←s.bl];exact hb
  obtain⟨g1,g2,g3,g4,g5⟩:=s.j b hb' hb;have o:=ho.bs b hb';have rr:∀v,rIn c v→rIn d v:=fun v hv=>by simp only[rIn,s.rg]at hv⊢;exact hv
  refine⟨by rw[g3];exact o.nxl,fun v hv=>?_,by rw[g1];exact o.jmp,fun hj=>?_,fun x hx v hv=>rr _ (o.args x (g4.subset hx) v hv),fun x hx hm=>rr _ (o.to x (g4.subset hx) hm),
   fun x hx=>rr _ (o.pto x (g5.subset hx)),fun x hx v hv=>rr _ (o.pargs x (g5.subset hx) v hv),fun x hx=>?_,fun x hx=>o.al x (g4.subset hx)⟩
  ·rw[g3]at hv;rw[s.bl];exact o.nx v hv
  ·rw[g1]at hj;rw[g2];exact rr _ (o.on hj)
  ·rw[hg,s.bl];exact o.pal x (g5.subset hx)
 ·have hb':b<c.blocks.length:=by rw[←s.bl];exact hb
  obtain⟨g1,g2,g3,g4,g5⟩:=s.j b hb' hb;have o:=ho.il b hb';have:=g4.length_le;have:=g5.length_le;omega
def Idl (q d:CodeD):Prop:=∃n,d=Nat.repeat Qjo n q∧Qjo d=d
theorem Idl.uniq {d e:CodeD}(h:Idl q d)(k:Idl q e):d=e:=by
 obtain⟨n,rfl,h1⟩:=h;obtain⟨m,rfl,h2⟩:=k;exact Qbp7 h1 h2
theorem Qbk8:∀n,Shr q (Nat.repeat Qjo n q)
 |0=>.refl q
 |n+1=>(Qbk8 n).trans Qbpx
theorem Idl.shr {d:CodeD}(h:Idl q d):Shr q d:=by
 obtain⟨n,rfl,_⟩:=h;exact Qbk8 n
theorem Idl.again {d:CodeD}(h:Idl q d):Idl d d:=⟨0,rfl,h.choose_spec.2⟩
end Go.AE.Y
namespace Go.AE.Y
attribute [local go_sem] cond_true cond_false Bool.not_true Bool.not_false
open Go.Proofs.Tryz
variable {H H0 F:Heap}{K:V→Heap→Prop}{E L B:List (Nat×Obj)}{q:CodeD}
structure DBlk where
 y:BlkD
 pc:C
 pl:List (Nat×Obj)
 ic:C
 il:List (Nat×Obj)
def DBlk.row (d:DBlk):List C:=[d.pc,d.ic,.int .i64 d.y.jump,.int .i64 d.y.on,.sl false 1 (Qe d.y.next)]
def DBlk.lg (d:DBlk):List (Nat×Obj):=d.pl++d.il
structure DBlk.ok (d:DBlk):Prop where
 p:Gw d.pl 2 (Qab d.y.phis) d.pc
 i:Gr d.il 4 (Qap d.y.ins) d.ic
theorem Gw.frzM {Lg:List (Nat×Obj)}{S:Nat→Bool}{sz:Nat}{rows:List (List C)}{c:C}(h:Gw Lg sz rows c)(hm:∀p∈Lg,H p.1=p.2∧S p.1=true)(hr:∀r∈rows,noOw r=true):FrzC H S c (.sl false sz rows):=by
 rcases h with ⟨rfl,rfl,_⟩|⟨y,R,rfl,rfl,hR⟩
 ·exact FrzR.nil.sl
 ·have hle:rows.length≤R.length:=by
   have:=congrArg List.length hR;rw[Jay]at this;omega
  obtain⟨h1,h2⟩:=hm (y,.vec sz R) (by simp);have h:=FrzR.same (H:=H) (S:=S) hr;exact .vsl y sz 0 _ R rows rows h2 h1 (by omega) (by simpa using hR.symm) h.spec.1 (fun i r r' h1 h2=>(h.spec.2 i r r' h1 h2).spec.1) fun i r r' j c c' h1 h2 h3 h4=>(h.spec.2 i r r' h1 h2).spec.2 j c c' h3 h4
theorem DBlk.frzR {S:Nat→Bool}:∀{ds:List DBlk},(∀d∈ds,d.ok)→(∀d∈ds,∀p∈d.lg,H p.1=p.2∧S p.1=true)→FrzR H S (ds.map DBlk.row) (Qm (ds.map DBlk.y))
 |[],_,_=>.nil
 |d::ds,h,hm=>.cons (.cons ((h d Jw).p.frzM (fun p hp=>hm d Jw p (Jh _ hp)) (Qf4 _))
   (.cons (Gr.frzM (h d Jw).i (fun p hp=>hm d Jw p (Jc _ hp)) (FrzR.same (Qh2 _)))
   (.cons (Qf rfl) (.cons (Qf rfl) (.cons (Qgy (noOw_mem (Qw _))) .nil)))))
   (DBlk.frzR (fun d hd=>h d (J1 _ hd)) fun d hd=>hm d (J1 _ hd))
theorem CodeD.ok.fts (h:q.ok):q.fits:=fun y hy=>by
 obtain⟨b,hb,rfl⟩:=Js.1 hy;have:=h.il b hb;omega
theorem CodeD.ok.cl (h:q.ok):∀y∈q.blocks,y.cl:=fun y hy=>by
 obtain⟨b,hb,rfl⟩:=Js.1 hy;have h1:=h.il b hb;have h2:=h.bs b hb;have h3:=h2.nxl;have h4:=h.b1;refine⟨by omega,by omega,by simp only[LIM];omega,fun x hx=>?_,fun x hx=>?_⟩
 ·have:=h2.al x hx;simp only[LIM];omega
 ·have:=h2.pal x hx;have h5:=Qcw (gnx q) (b:Int) q.blocks.length;simp only[LIM];omega
theorem Qbrv {ds ks:List (List C)}{r:List C}{n:Nat}(hn:n=ds.length):(ds++r::ks).getD n []=r:=by subst hn;simp
end Go.AE.Y
namespace Go.AE
variable {H0 H H':Heap}{E L B Lg:List (Nat×Obj)}{S:Nat→Bool}
theorem Kn.freeze0 (kn:Kn H0 H E (B++Lg)):∃S:Nat→Bool,(∀p∈Lg,H p.1=p.2∧S p.1=true)∧(∀p∈B,H p.1=p.2∧S p.1=false)∧FrzH H S (H.frz S)∧Kn H0 (H.frz S) E B:=by
 have hd:=kn.dL;rw[Jn]at hd;obtain⟨d1,d2,d3⟩:=Jv.1 hd;have keyB:∀m,m∉Lg.map Prod.fst→(Lg.map Prod.fst).contains m=false:=fun m hm=>by
  cases hc:(Lg.map Prod.fst).contains m with
  |false=>rfl
  |true=>exact absurd (Jaf.1 hc) hm
 have key:∀m,m∉Lg.map Prod.fst→(H.frz fun m=>(Lg.map Prod.fst).contains m) m=H m:=fun m hm=>by
  simp only[Heap.frz,keyB m hm];rfl
 have hB:∀p∈B,p.1∉Lg.map Prod.fst:=fun p hp hh=>d3 _ (Qaq hp) _ hh rfl;refine⟨fun m=>(Lg.map Prod.fst).contains m,fun p hp=>⟨(kn.get p (Jc _ (Jc _ hp))).1,Jaf.2 (Qaq hp)⟩,
  fun p hp=>⟨(kn.get p (Jc _ (Jh _ hp))).1,keyB _ (hB p hp)⟩,Qe0 _ _,?_⟩
 refine⟨fun p hp=>?_,kn.ext,fun p hp=>kn.loc p (Jh _ hp),kn.dE,d1,fun m hm hx=>?_⟩
 ·have hg:H p.1=p.2∧p.2≠.none:=kn.get p (by
   rcases Jo.1 hp with h|h
   ·exact Jh _ h
   ·exact Jc _ (Jh _ h))
  refine⟨?_,hg.2⟩;rw[key p.1 (fun hh=>?_)];exact hg.1;rcases Jo.1 hp with h|h
  ·obtain⟨r,hr,he⟩:=Jm.1 hh;exact kn.ext p h (he▸kn.loc r (Jc _ hr))
  ·exact hB p h hh
 ·rw[key m (fun hh=>?_)]
  ·exact kn.chg m hm hx
  ·obtain⟨r,hr,he⟩:=Jm.1 hh;exact hm (he▸kn.loc r (Jc _ hr))
theorem Qa4z {e e':Env}(h:∀p∈e',FrzV H S (lk p.1 e) p.2):∀t,FrzV H S (lk t e) (lk t e'):=fun t=>by
 induction e' with
 |nil=>exact .unk _
 |cons p e' ih=>
  obtain⟨s,v⟩:=p;by_cases ht:t=s
  ·subst ht;have:=h (t,v) Jw;simpa[lk]using this
  ·have:=ih fun p hp=>h p (J1 _ hp);simpa[lk,ht]using this
theorem FrzO.vecR {sz:Nat}{rows rows':List (List C)}(h:Y.FrzR H S rows rows')(hn:∀r∈rows,noOw r=true):FrzO H S (.vec sz rows) (.vec sz rows'):=by
 refine .vec sz rows rows' h.spec.1 (fun i r r' h1 h2=>(h.spec.2 i r r' h1 h2).spec.1) fun i r r' j c c' h1 h2 h3 h4=>.inr ⟨?_,(h.spec.2 i r r' h1 h2).spec.2 j c c' h3 h4⟩;exact Y.noOw_mem hn r (J8 h1) c (J8 h3)
end Go.AE
namespace Go.AE.Y
variable {H H0:Heap}{E L R B Lg:List (Nat×Obj)}{S:Nat→Bool}
theorem Qhq {α:Type}{f g:α→List C}:∀(l:List α),(∀x∈l,FrzL H S (f x) (g x))→FrzR H S (l.map f) (l.map g)
 |[],_=>.nil
 |x::l,h=>.cons (h x Jw) (Qhq l fun y hy=>h y (J1 _ hy))
theorem Qars {is:List OIns}(h:Held H S (is.flatMap OIns.lg)):FrzR H S (is.map OIns.row) (Qap (is.map OIns.d)):=by
 rw[Qap,Jap];exact Qhq is fun x hx=>x.frz (h.m hx)
theorem Qafw {ph:List OPhi}(ho:∀p∈ph,p.ok)(h:Held H S (ph.flatMap OPhi.lg)):FrzR H S (ph.map OPhi.row) (Qab (ph.map OPhi.d)):=by
 rw[Qab,Jap];exact Qhq ph fun x hx=>x.frz (ho x hx) (h.m hx)
theorem OBlk.gh {o:OBlk}(hok:o.ok){x8:Nat}(kn:Kn H0 H E ([(x8,.st o.row)]++(R++o.lg))) :
  ∃S H3 pl,FrzH H S H3∧Gr pl 2 (Qab o.d.phis) o.pc∧Kn H0 H3 E ([(x8,.st (kRow o.d o.pc))]++(R++pl)):=by
 have kn:Kn H0 H E (([(x8,.st o.row)]++(o.pl++R))++(o.nx.lg++(o.phis.flatMap OPhi.lg++(o.ins.flatMap OIns.lg++o.il)))):=kn.perm (Qn fun f hf h0 hc hp=>by
  simp only[hf,OBlk.lg];omega)
 obtain⟨S,hS,hB,hfz,kn⟩:=kn.freeze0;have hHd:Held H S (o.nx.lg++(o.phis.flatMap OPhi.lg++(o.ins.flatMap OIns.lg++o.il))):=hS;have hic:=Gr.frzM hok.i hHd.r.r.r (Qars hHd.r.r.l);have hph:=Qafw hok.a hHd.r.l;have hnx:=o.nx.frz hHd.l;have hx8:=hB (x8,.st o.row) (by simp);have f1:FrzH H S ((H.frz S).set x8 (.st (kRow o.d o.pc))):=hfz.set hx8.2 (by
  rw[hx8.1];exact FrzKL.st (.same (.cons hok.i.isOw hic (.same (.same (.cons rfl hnx .nil))))))
 have kn:=kn.setL (o':=.st (kRow o.d o.pc)) 0 rfl (by simp);have kn:Kn H0 ((H.frz S).set x8 (.st (kRow o.d o.pc))) E ([(x8,.st (kRow o.d o.pc))]++(o.pl++R)):=kn;rcases hok.p with ⟨h1,h2,h3⟩|⟨z,h1,h2⟩
 ·have hph0:o.phis=[]:=Ja1.1 h2;refine⟨S,_,[],f1,?_,by rw[h3]at kn;simpa using kn⟩;rw[h1];simp only[OBlk.d,hph0,Jau];exact .nil 2
 ·rw[h2]at kn;have hz:=hB (z,.vec 2 (o.phis.map OPhi.row)) (by rw[h2];simp);have hno:∀r∈o.phis.map OPhi.row,Go.AE.noOw r=true:=fun r hr=>by
   obtain⟨p,hp,rfl⟩:=Jm.1 hr;exact p.noOw (hok.a p hp)
  refine⟨S,_,[(z,.vec 2 (Qab o.d.phis))],f1.set (o:=.vec 2 (Qab o.d.phis)) hz.2 (by rw[hz.1];exact .vecR hph hno),?_,?_⟩
  ·rw[h1];exact .mk _ _ _ (by simp[OBlk.d,Q6])
  ·have kn:=kn.setL (o':=.vec 2 (Qab o.d.phis)) 1 rfl (by simp);exact kn.perm (Qn fun f hf h0 hc hp=>by
    show f ([(x8,_)]++([(z,_)]++R))=_;simp only[hf];omega)
def Qbt (q:CodeD)(b:Nat):BlkD:=q.blocks.getD b ⟨[],[],0,0,[]⟩
theorem Qbi {q:CodeD}{b:Nat}(h:b<q.blocks.length):Qbt q b=q.blocks[b]:=by simp[Qbt,Ja,h]
theorem Qbro {q:CodeD}{b:Nat}(h:b<q.blocks.length):gnx q b=(Qbt q b).next:=by rw[Qbi h,Q1h h]
structure Pk (q:CodeD)(l:List Nat):Prop where
 n:l.length≤160
 z:l[0]? = some 0
 lt:∀x∈l,x<q.blocks.length
 cl:∀x∈l,∀v∈gnx q x,v.toNat∈l
def pkY (q:CodeD)(P:List Int)(b:Nat):BlkD:=⟨(Qbt q b).phis,(Qbt q b).ins,(Qbt q b).jump,(Qbt q b).on,(Qbt q b).next.map fun v=>P.getD v.toNat 0⟩
def pkN (q:CodeD)(P:List Int)(l:List Nat):Nat→List Int:=fun i=>(l.map fun b=>(pkY q P b).next).getD i []
structure PkB (q:CodeD)(P:List Int)(b:Nat)(y:BlkD):Prop where
 j:y.jump=(Qbt q b).jump
 o:y.on=(Qbt q b).on
 i:y.ins=(Qbt q b).ins
 n:y.next=(pkY q P b).next
 t:y.phis.map PhiD.to=(Qbt q b).phis.map PhiD.to
def PkA (q:CodeD)(P:List Int)(l:List Nat)(j:Nat)(p:PhiD):Prop:=p.args.length=(Qac (pkN q P l) (j:Int) l.length).length∧∀v∈p.args,rIn q v
structure PkR (q d:CodeD):Prop where
 ok:d.ok
 p:d.params=q.params
 r:d.regs=q.regs
 i:∀y∈d.blocks,∃y0∈q.blocks,y.ins=y0.ins∧y.phis.length=y0.phis.length
variable {q:CodeD}{P:List Int}{l:List Nat}
theorem Pk.get (hp:Pk q l){j:Nat}(hj:j<l.length):l.getD j 0=l[j]∧l[j]∈l∧l[j]<q.blocks.length:=
 ⟨by simp[Ja,hj],Jb hj,hp.lt _ (Jb hj)⟩
theorem Pk.to (ho:q.ok)(hp:Pk q l)(hP:Qbho q.blocks.length l P){b:Nat}(hb:b∈l){w:Int}(hw:w∈(Qbt q b).next):1≤w∧w.toNat<P.length∧∃i,∃h:i<l.length,l[i]=w.toNat∧P.getD w.toNat 0=(i:Int)∧1≤i:=by
 have hlt:=hp.lt b hb;have h1:1≤w∧w<q.blocks.length:=by
  rw[Qbi hlt]at hw;exact (ho.bs b hlt).nx w hw
 have h2:=hp.cl b hb w (by rw[Qbro hlt];exact hw);obtain⟨i,hi,h3,h4⟩:=hP.2 _ h2;refine⟨h1.1,by rw[hP.1];exact hp.lt _ h2,i,hi,h3,h4,?_⟩;have hz:=hp.z;by_cases h0:i=0
 ·subst h0;rw[Je hi,h3]at hz;have:=Jad hz;omega
 ·omega
theorem Qbkz {j:Nat}(hj:j<l.length):pkN q P l j=(pkY q P l[j]).next:=by simp[pkN,Ja,hj]
theorem Pk.preds (ho:q.ok)(hp:Pk q l)(hP:Qbho q.blocks.length l P){j:Nat}(hj:j<l.length){m:Int}(hm:m∈Qac (pkN q P l) (j:Int) l.length) :
  ∃j',∃h:j'<l.length,m=(j':Int)∧((l[j']:Nat):Int)∈Qac (gnx q) ((l[j]:Nat):Int) q.blocks.length:=by
 simp only[Qac,Jm,Jak,Jab]at hm;obtain⟨j',⟨h1,h2⟩,rfl⟩:=hm;refine⟨j',h1,rfl,?_⟩;have h3:=Jaf.1 h2;rw[Qbkz h1]at h3;obtain⟨w,hw,h4⟩:=Jm.1 h3;obtain⟨g1,g2⟩:=(hp.get h1).2;obtain⟨w1,_,i,hi,h5,h6,_⟩:=hp.to ho hP g1 hw;have hij:i=j:=by omega
 subst hij;simp only[Qac,Jm,Jak,Jab];refine⟨l[j'],⟨g2,Jaf.2 ?_⟩,rfl⟩;rw[Qbro g2,h5];have e:((w.toNat:Nat):Int)=w:=by omega
 rw[e];exact hw
theorem CodeD.ok.sg (h:q.ok):q.sg:=⟨by have:=h.b1;omega,fun y hy=>by
 obtain⟨b,hb,rfl⟩:=Js.1 hy;have h1:=h.il b hb;have h2:=h.bs b hb;have h3:=h2.nxl;have h4:=h.b1;refine⟨by omega,by omega,by omega,fun x hx=>by have:=h2.al x hx;omega,fun x hx=>?_⟩;have:=h2.pal x hx;have h5:=Qcw (gnx q) (b:Int) q.blocks.length;omega⟩
theorem Qbwt (ho:q.ok)(hp:Pk q l)(hP:Qbho q.blocks.length l P){d:CodeD}(h1:d.params=q.params)(h2:d.regs=q.regs)(hl:d.blocks.length=l.length)
  (hb:∀j (h:j<d.blocks.length),PkB q P (l.getD j 0) d.blocks[j]∧∀p∈d.blocks[j].phis,PkA q P l j p):PkR q d:=by
 have hg:gnx d=pkN q P l:=by
  funext i
  by_cases hi:i<l.length
  ·have hi':i<d.blocks.length:=by omega
   rw[Qbkz hi,Q1h hi',(hb i hi').1.n,(hp.get hi).1]
  ·have hi':¬i<d.blocks.length:=by omega
   rw[gnx,pkN,Ja,Ja,Jx (by simpa using hi'),Jx (by simpa using hi)]
 have hr:∀v,rIn q v→rIn d v:=fun v hv=>by simp only[rIn,h2]at hv⊢;exact hv
 have hl0:0<l.length:=by
  have:=hp.z
  cases l with
  |nil=>simp at this
  |cons=>simp
 have hn:=hp.n;refine⟨⟨by rw[h2];exact ho.r0,by rw[h2];exact ho.r1,by omega,by omega,fun b h=>?_,fun b h=>?_⟩,h1,h2,fun y hy=>?_⟩
 ·have hbl:b<l.length:=by omega
  obtain⟨g,ga⟩:=hb b h;obtain⟨e1,e2,e3⟩:=hp.get hbl;rw[e1]at g;have o:=ho.bs _ e3;rw[←Qbi e3]at o;have gt:∀p∈d.blocks[b].phis,rIn q p.to:=fun p hp'=>by
   have:p.to∈d.blocks[b].phis.map PhiD.to:=Jm.2 ⟨p,hp',rfl⟩;rw[g.t]at this;obtain⟨p0,hp0,he⟩:=Jm.1 this;rw[←he];exact o.pto p0 hp0
  refine⟨by rw[g.n];simpa[pkY]using o.nxl,fun v hv=>?_,by rw[g.j];exact o.jmp,fun hj=>by rw[g.j]at hj;rw[g.o];exact hr _ (o.on hj),fun x hx v hv=>?_,fun x hx hm=>?_,fun x hx=>hr _ (gt x hx),fun x hx v hv=>hr _ ((ga x hx).2 v hv),fun x hx=>?_,fun x hx=>?_⟩
  ·rw[g.n]at hv;obtain⟨w,hw,rfl⟩:=Jm.1 hv;obtain⟨_,_,i,hi,_,h6,h7⟩:=hp.to ho hP e2 hw;rw[h6];omega
  ·rw[g.i]at hx;exact hr _ (o.args x hx v hv)
  ·rw[g.i]at hx;exact hr _ (o.to x hx hm)
  ·rw[(ga x hx).1,hg,hl]
  ·rw[g.i]at hx;exact o.al x hx
 ·have hbl:b<l.length:=by omega
  obtain⟨g,ga⟩:=hb b h;obtain⟨e1,e2,e3⟩:=hp.get hbl;rw[e1]at g;have gi:=g.i;have h3:=congrArg List.length g.t;rw[Qbi e3]at gi h3;have:=ho.il _ e3;simp only[Jd]at h3;rw[gi];omega
 ·obtain⟨b,h,rfl⟩:=Js.1 hy;have hbl:b<l.length:=by omega
  obtain⟨g,ga⟩:=hb b h;obtain⟨e1,e2,e3⟩:=hp.get hbl;rw[e1]at g;have gi:=g.i;have h3:=congrArg List.length g.t;rw[Qbi e3]at gi h3;simp only[Jd]at h3;exact⟨_,Jb e3,gi,h3⟩
theorem Qbpq {α:Type}{f:α→α}{l:List α}{k:Nat}(hk:k<l.length):((l.take k).map f++l.drop k).set k (f l[k])=(l.take (k+1)).map f++l.drop (k+1):=by
 have h1:((l.take k).map f).length=k:=by simp;omega
 rw[Jav _ _ (by omega),h1,Nat.sub_self,Ja3 hk,List.set_cons_zero,Jp hk,Jn];simp
end Go.AE.Y
namespace Go.AE.Y
attribute [local go_sem] cond_true cond_false Bool.not_true Bool.not_false
open Go.Proofs.Tryz
variable {H H0:Heap}{K:V→Heap→Prop}{E B Lg:List (Nat×Obj)}
theorem OBlk.row_eq (o:OBlk):o.row=[o.pc,o.ic,.int .i64 o.jump,.int .i64 o.on,.vsl o.nx.y 1 0 o.nx.ns.length]:=rfl
def OBlk.rest (o:OBlk):List (Nat×Obj):=o.phis.flatMap OPhi.lg++(o.pl++(o.ins.flatMap OIns.lg++o.il))
theorem OBlk.lg_eq (o:OBlk):o.lg=[(o.nx.y,.vec 1 (Qe o.nx.ns))]++o.rest:=rfl
theorem KBlk.row_eq (b:KBlk):b.row=[b.pc,.sl false 4 (Qap b.y.ins),.int .i64 b.y.jump,.int .i64 b.y.on,.sl false 1 (Qe b.y.next)]:=rfl
structure PkS (q:CodeD)(P:List Int)(l:List Nat)(i:Nat)(ks:List KBlk):Prop where
 n:ks.length=l.length
 b:∀j (h:j<ks.length),PkB q P (l.getD j 0) ks[j].y
 ok:∀b∈ks,b.ok
 a:∀j (h:j<ks.length),j<i→∀p∈ks[j].y.phis,PkA q P l j p
 u:∀j (h:j<ks.length),i≤j→ks[j].y.phis=(Qbt q (l.getD j 0)).phis
theorem Qee {α β:Type}{f:α→List β}:∀{l:List α} {i:Nat} (h:i<l.length),(l.flatMap f).Perm (f l[i]++(l.eraseIdx i).flatMap f)
 |[],i,h=>by simp at h
 |x::l,0,h=>by simp
 |x::l,i+1,h=>by
  have:=Qee (f:=f) (l:=l) (i:=i) (by simpa using h);simp only[Jal,J2,List.eraseIdx_cons_succ];refine (List.Perm.append_left _ this).trans ?_;rw[←Jac,←Jac];exact List.Perm.append_right _ Jy
theorem vslc {H:Heap}{z sz n:Nat}{rows:List (List C)}(h:H z=.vec sz rows)(hn:n=rows.length):Slc H sz rows (.vsl z sz 0 n):=by
 subst hn;exact⟨by simp only[okSl,h,Jj,Ji,and_self],rfl,by simp only[rowsOf,h,Jar,Jae],rfl⟩
variable {q:CodeD}{P:List Int}{l:List Nat}{ks:List KBlk}
theorem PkS.step {i:Nat}(hS:PkS q P l i ks)(hi:i<ks.length){ph:List PhiD}{pl:List (Nat×Obj)}(h1:ph.map PhiD.to=(Qbt q (l.getD i 0)).phis.map PhiD.to)(h2:∀p∈ph,PkA q P l i p)(hg:Gr pl 2 (Qab ph) ks[i].pc) :
  PkS q P l (i+1) (ks.set i ⟨⟨ph,ks[i].y.ins,ks[i].y.jump,ks[i].y.on,ks[i].y.next⟩,ks[i].pc,pl⟩):=by
 have hb:=hS.b i hi;refine⟨by rw[Jq];exact hS.n,fun j h=>?_,fun w hw=>?_,fun j h hj=>?_,fun j h hj=>?_⟩
 ·have h':j<ks.length:=by simpa using h
  rw[J7];split
  ·rename_i e;subst e;exact⟨hb.j,hb.o,hb.i,hb.n,h1⟩
  ·exact hS.b j h'
 ·rcases J0 hw with h|rfl
  ·exact hS.ok w h
  ·exact hg
 ·have h':j<ks.length:=by simpa using h
  rw[J7];split
  ·rename_i e;subst e;exact h2
  ·exact hS.a j h' (by omega)
 ·have h':j<ks.length:=by simpa using h
  rw[J7];split
  ·omega
  ·exact hS.u j h' (by omega)
theorem PkS.rows {i:Nat}{ph:List PhiD}{pl:List (Nat×Obj)}(hi:i<ks.length):(ks.set i ⟨⟨ph,ks[i].y.ins,ks[i].y.jump,ks[i].y.on,ks[i].y.next⟩,ks[i].pc,pl⟩).map KBlk.row=ks.map KBlk.row:=by
 rw[Jaa];have:(KBlk.mk ⟨ph,ks[i].y.ins,ks[i].y.jump,ks[i].y.on,ks[i].y.next⟩ ks[i].pc pl).row=(ks.map KBlk.row)[i]'(by simpa using hi):=by simp[KBlk.row,kRow]
 rw[this,Jbb]
set_option maxHeartbeats 8000000 in
theorem Qbky {H0 H:Heap}{E:List (Nat×Obj)}{Q:X→Env→Heap→Prop}{e:Env}{fl fl2:Bool}{x4 x6 zb:Nat}{ks0:List KBlk}(ho:q.ok)(hp:Pk q l)(hP:Qbho q.blocks.length l P)(hS:PkS q P l 0 ks0)
  (kn:Kn H0 H E ([(x4,.st [.int .i64 0,.int .i64 0,.sl true 5 []]),(x6,.st [.int .i64 q.params,.int .i64 q.regs,.vsl zb 5 0 l.length]),(zb,.vec 5 (ks0.map KBlk.row))]++ks0.flatMap KBlk.pl))
  (l1:lk 1 e=.c (.sl fl2 1 (Q1 l))) (l2:lk 2 e=.c (.pp [.int .i64 q.params,.int .i64 q.regs,.sl fl 5 (Qm q.blocks)])) (l4:lk 4 e=.c (.ptr x4 0)) (l6:lk 6 e=.c (.ptr x6 0))
  (hQ:∀(e:Env) (H':Heap) (ks:List KBlk),PkS q P l l.length ks→Kn H0 H' E ([(x4,.st [.int .i64 q.params,.int .i64 q.regs,.vsl zb 5 0 l.length]),(x6,.st [.int .i64 q.params,.int .i64 q.regs,.vsl zb 5 0 l.length]),(zb,.vec 5 (ks.map KBlk.row))]++ks.flatMap KBlk.pl)→
   lk 4 e=.c (.ptr x4 0)→Q .ret e H'):Qah prog Q8q Q e H:=by
 have hb1:=ho.b1;have hln:=hp.n;obtain⟨X4,hX4⟩:∃o,o=Obj.st [.int .i64 0,.int .i64 0,.sl true 5 []]:=⟨_,rfl⟩;obtain⟨X6,hX6⟩:∃o,o=Obj.st [.int .i64 q.params,.int .i64 q.regs,.vsl zb 5 0 l.length]:=⟨_,rfl⟩;rw[←hX4,←hX6]at kn;refine Q5 ?_;refine Qa ?_;simp only[go_sem,l1,l2,l4,l6];refine Qh (Qc (Qv (fun m e1 H1=>∃(i:Nat) (ks:List KBlk),m=l.length-i∧i≤l.length∧PkS q P l i ks∧
  Kn H0 H1 E ([(x4,X4),(x6,X6),(zb,.vec 5 (ks.map KBlk.row))]++ks.flatMap KBlk.pl)∧
  lk 1 e1=.c (.sl fl2 1 (Q1 l))∧lk 2 e1=.c (.pp [.int .i64 q.params,.int .i64 q.regs,.sl fl 5 (Qm q.blocks)])∧lk 4 e1=.c (.ptr x4 0)∧lk 6 e1=.c (.ptr x6 0)∧lk 10 e1=.c (.int .i64 i)) l.length ?_ ?_))
 ·exact⟨0,ks0,by omega,by omega,hS,kn,rfl,rfl,rfl,rfl,rfl⟩
 ·clear kn hS l1 l2 l4 l6;rintro m e1 H1 ⟨i,ks,hm,hi,hS,kn,l1,l2,l4,l6,l10⟩;have hkl:=hS.n;refine Q5 ?_;refine Qa ?_;simp only[go_sem,l1,l2,l4,l6,l10,Qz];try intro _
  refine Qh (Qd rfl ?_ ?_)
  ·intro hc;have hlt:i<l.length:=by simpa using hc
   have hki:i<ks.length:=by omega
   obtain⟨b,hb⟩:∃b,l[i]=b:=⟨_,rfl⟩;have hbm:b∈l:=by rw[←hb];exact Jb hlt
   have hbn:=hp.lt b hbm;have hgd:l.getD i 0=b:=by simp[Ja,hlt,hb]
   obtain⟨kb,hkb⟩:∃kb,ks[i]=kb:=⟨_,rfl⟩;have hkbo:Gr kb.pl 2 (Qab kb.y.phis) kb.pc:=by rw[←hkb];exact hS.ok _ (Jb hki)
   have hkbB:PkB q P b kb.y:=by have:=hS.b i hki;rw[hgd,hkb]at this;exact this
   have hkbU:kb.y.phis=(Qbt q b).phis:=by have:=hS.u i hki (Ji _);rw[hgd,hkb]at this;exact this
   have hyo:=ho.bs b hbn;have hil:=ho.il b hbn;rw[←Qbi hbn]at hyo hil;obtain⟨R,hR⟩:∃R,(ks.eraseIdx i).flatMap KBlk.pl=R:=⟨_,rfl⟩;have hflat:(ks.flatMap KBlk.pl).Perm (kb.pl++R):=by rw[←hR,←hkb];exact Qee hki
   obtain⟨RW,hRW⟩:∃RW,ks.map KBlk.row=RW:=⟨_,rfl⟩;have hRWl:RW.length=l.length:=by rw[←hRW,Jd,hkl]
   have hRWg:RW.getD i []=[kb.pc,.sl false 4 (Qap kb.y.ins),.int .i64 kb.y.jump,.int .i64 kb.y.on,.sl false 1 (Qe kb.y.next)]:=by
    rw[←hRW,Ja];simp only[Ju,Je hki,hkb,Jz,Jt];exact kb.row_eq
   have hRWt:RW.take l.length=RW:=Jf (by omega);rw[hRW]at kn;have hx6:H1 x6=X6:=(kn.get (x6,X6) (by simp)).1;rw[hX6]at hx6;refine Qi ?_;try simp only[go_sem]
   refine Qh (Qc ?_);refine Qak ?_;simp only[go_sem,l1,l2,l4,l6,l10,hlt,Qz,Qai _ _ hlt,hgd];refine Qgl (nx:=gnx q) (.mk' _ _ _ _) rfl (Qjw H1 q fl).x fun H2 hu=>?_;have kn:=kn.call0 hu;simp only[go_sem,Q24,Qj];obtain⟨olds,hol⟩:∃o,Qac (gnx q) (b:Int) q.blocks.length=o:=⟨_,rfl⟩;rw[hol];have hx6:H2 x6=X6:=(kn.get (x6,X6) (by simp)).1;rw[hX6]at hx6;have hzb:H2 zb=.vec 5 RW:=(kn.get (zb,.vec 5 RW) (by simp)).1;refine Qa ?_;simp only[go_sem,l1,l2,l4,l6,l10,hx6];refine Qgl (nx:=pkN q P l) (vslc hzb hRWl.symm) rfl (fun j hj=>?_) fun H3 hu=>?_
   ·have hj':j<ks.length:=(by omega);have hj2:j<l.length:=(by omega);have hjB:=hS.b j hj';rw[(hp.get hj2).1]at hjB;refine⟨ks[j].pc,.sl false 4 (Qap ks[j].y.ins),.int .i64 ks[j].y.jump,.int .i64 ks[j].y.on,false,?_⟩;rw[←hRW,Ja];simp only[Ju,Je hj',Jz,Jt];rw[Qbkz hj2,←hjB.n];exact KBlk.row_eq _
   have kn:=kn.call0 hu;rw[hRWl];obtain⟨news,hnw⟩:∃o,Qac (pkN q P l) (i:Int) l.length=o:=⟨_,rfl⟩;rw[hnw];have hnl:news.length≤l.length:=by rw[←hnw];exact Qcw _ _ _
   simp only[go_sem,Q25];refine Qa ?_;simp only[go_sem];have kn:Kn H0 H3 E (([(x4,X4),(x6,X6),(zb,.vec 5 RW)]++R)++kb.pl):=kn.perm (Qn fun f hf h0 hc hp=>by
    have:=hp _ _ hflat;simp only[hf]at this⊢;omega)
   refine Qc (Qv (fun m e1 H1=>∃(k:Nat) (ph:List PhiD) (pl:List (Nat×Obj)),m=ph.length-k∧k≤ph.length∧ph.map PhiD.to=(Qbt q b).phis.map PhiD.to∧(∀j (h:j<ph.length),j<k→PkA q P l i ph[j])∧(∀j,k≤j→ph[j]? = (Qbt q b).phis[j]?)∧Gr pl 2 (Qab ph) kb.pc∧
    Kn H0 H1 E (([(x4,X4),(x6,X6),(zb,.vec 5 RW)]++R)++pl)∧
    lk 1 e1=.c (.sl fl2 1 (Q1 l))∧lk 2 e1=.c (.pp [.int .i64 q.params,.int .i64 q.regs,.sl fl 5 (Qm q.blocks)])∧lk 4 e1=.c (.ptr x4 0)∧lk 6 e1=.c (.ptr x6 0)∧lk 10 e1=.c (.int .i64 i)∧lk 11 e1=.c (.sl false 1 (Qe olds))∧lk 12 e1=.c (.sl false 1 (Qe news))∧lk 13 e1=.c (.int .i64 k)) kb.y.phis.length ?_ ?_)
   ·exact⟨0,kb.y.phis,kb.pl,by omega,by omega,by rw[hkbU],fun j h hj=>by omega,fun j _=>by rw[hkbU],hkbo,kn,rfl,rfl,rfl,rfl,rfl,rfl,rfl,rfl⟩
   ·clear kn hx6 hzb hflat hu l1 l2 l4 l6 l10;rintro m2 e2 H4 ⟨k,ph,pl,hm2,hk,hto,hpa,hpu,hgr,kn,l1,l2,l4,l6,l10,l11,l12,l13⟩;have hphl:ph.length=(Qbt q b).phis.length:=(by have:=congrArg List.length hto;simpa using this);have hx6:H4 x6=X6:=(kn.get (x6,X6) (by simp)).1;rw[hX6]at hx6;have hzb:H4 zb=.vec 5 RW:=(kn.get (zb,.vec 5 RW) (by simp)).1;have hpw:=hgr.isOw;have hpok:=eq_true (hgr.get kn).1;have hplen:=hgr.lenC;rw[Q6]at hplen;refine Q5 ?_;refine Qa ?_;simp only[go_sem,l1,l2,l4,l6,l10,l11,l12,l13,hx6,hzb,hRWl,hRWt,hRWg,hlt,hpw,hpok,hplen,Jj,Ji];try intro _
    refine Qh (Qd rfl ?_ ?_)
    ·intro hc2;have hlt2:k<ph.length:=(by simpa using hc2);obtain⟨z,hpc,hpl⟩:∃z,kb.pc=.vsl z 2 0 ph.length∧pl=[(z,.vec 2 (Qab ph))]:=by
      rcases hgr with ⟨_,h,_⟩|⟨y,h1,h2⟩
      ·have:=congrArg List.length h;rw[Q6]at this;simp only[Jl]at this;omega
      ·exact⟨y,by rw[h1,Q6],h2⟩
     rw[hpc]at hRWg;rw[hpl]at kn;clear hpw hpok hplen;obtain⟨p,hpk⟩:∃p,ph[k]=p:=⟨_,rfl⟩;have hpm:p∈(Qbt q b).phis:=by
      have h1:=hpu k (Ji _);rw[Je hlt2,hpk]at h1;exact J8 h1.symm
     have hpal:p.args.length=olds.length:=(by rw[←hol];exact hyo.pal p hpm);have hpargs:=hyo.pargs p hpm;have hptk:(Qab ph).take ph.length=Qab ph:=Jf (by rw[Q6];omega);have hpg:(Qab ph).getD k []=[.int .i64 p.to,.sl false 1 (Qe p.args)]:=(by rw[Qa0 _ _ hlt2,hpk];rfl);refine Qi ?_;try simp only[go_sem]
     refine Qh (Qc ?_);refine Qa ?_;simp only[go_sem];refine Q5 ?_;refine Qa ?_;simp only[go_sem];refine Qh (Qc (Qv (fun m e1 H1=>∃(j:Nat) (av:List Int) (t:C) (Lg:List (Nat×Obj)),m=news.length-j∧j≤news.length∧av.length=j∧(∀v∈av,rIn q v)∧Gr Lg 1 (Qe av) t∧
      Kn H0 H1 E (([(x4,X4),(x6,X6),(zb,.vec 5 RW)]++R++[(z,.vec 2 (Qab ph))])++Lg)∧
      lk 1 e1=.c (.sl fl2 1 (Q1 l))∧lk 2 e1=.c (.pp [.int .i64 q.params,.int .i64 q.regs,.sl fl 5 (Qm q.blocks)])∧lk 4 e1=.c (.ptr x4 0)∧lk 6 e1=.c (.ptr x6 0)∧lk 10 e1=.c (.int .i64 i)∧lk 11 e1=.c (.sl false 1 (Qe olds))∧lk 12 e1=.c (.sl false 1 (Qe news))∧lk 13 e1=.c (.int .i64 k)∧
      lk 14 e1=.c t∧lk 15 e1=.c (.int .i64 j)) news.length ?_ ?_))
     ·exact⟨0,[],_,[],by omega,by omega,rfl,by simp,.nil 1,by simpa using kn,rfl,rfl,rfl,rfl,rfl,rfl,rfl,rfl,rfl,rfl⟩
     ·clear kn hx6 hzb l1 l2 l4 l6 l10 l11 l12 l13;rintro m3 e3 H5 ⟨j,av,t,Lg,hm3,hj,hasl,has,hgt,kn,l1,l2,l4,l6,l10,l11,l12,l13,l14,l15⟩;have htw:=hgt.isOw;refine Q5 ?_;refine Qa ?_;simp only[go_sem,l1,l2,l4,l6,l10,l11,l12,l13,l14,l15,htw,Qg];try intro _
      refine Qh (Qd rfl ?_ ?_)
      ·intro hc3;have hlt3:j<news.length:=(by simpa using hc3);have hnm:news[j]∈Qac (pkN q P l) (i:Int) l.length:=(by rw[hnw];exact Jb hlt3);obtain⟨j',hj',hnj,hmo⟩:=hp.preds ho hP hlt hnm;rw[hb,hol]at hmo;have hgd3:news.getD j 0=(j':Int):=(by rw[←hnj];simp[Ja,hlt3]);have hgd4:l.getD j' 0=l[j']:=(by simp[Ja,hj']);have hx6:H5 x6=X6:=(kn.get (x6,X6) (by simp)).1;rw[hX6]at hx6;have hzb:H5 zb=.vec 5 RW:=(kn.get (zb,.vec 5 RW) (by simp)).1;have hz:H5 z=.vec 2 (Qab ph):=(kn.get (z,.vec 2 (Qab ph)) (by simp)).1;refine Qi ?_;try simp only[go_sem]
       refine Qh (Qc ?_);refine Qbh ?_;simp only[go_sem,hx6,hzb,hz,hRWl,hRWt,hRWg,hlt,hlt2,hptk,hpg,Q6,hlt3,Qg,Q0 _ _ hlt3,hgd3,hj',Qz,Qai _ _ hj',hgd4,htw,Jj,Ji];refine Qafc (ns:=olds) (.mk' _ _ _ _) rfl fun r hr=>?_;obtain⟨a,ra,hal,_⟩:∃a:Nat,r=(a:Int)∧a<olds.length∧True:=by
        rcases hr with ⟨_,hn⟩|⟨a,h1,h2,_⟩
        ·exact absurd hmo hn
        ·exact⟨a,h1,h2,trivial⟩
       have hal2:a<p.args.length:=(by omega);have hgd5:p.args.getD a 0∈p.args:=Qln hal2;simp only[go_sem,Q27,ra,hx6,hzb,hz,hRWl,hRWt,hRWg,hlt,hlt2,hptk,hpg,Q6,hal2,Qg,Q0 _ _ hal2,htw,Jj,Ji];refine kn.growR (new:=Qe [p.args.getD a 0]) hgt (.mk' _ _ _ _) (Qw _) (by simp only[Qg,LIM,Jk,Jl];omega) fun t2 Lg2 H6 hgt2 ht2 kn=>?_;simp only[go_sem,Q26,ht2];refine Qq ?_;simp only[go_sem,ht2];refine⟨Qp (by omega) (by omega),?_⟩;show ∃m,_;refine⟨news.length-(j+1),by omega,j+1,av++[p.args.getD a 0],t2,Lg2,rfl,by omega,by simp[hasl],fun v hv=>?_,by rw[Qcn];exact hgt2,kn,rfl,rfl,rfl,rfl,rfl,rfl,rfl,rfl,rfl,by simp[lk]⟩;rcases Jo.1 hv with hv|hv
       ·exact has v hv
       ·simp only[Jg]at hv;rw[hv];exact hpargs _ hgd5
      ·intro hc3;have hje:j=news.length:=(by have:news.length≤j:=(by simpa using hc3);omega);refine Qs ?_;simp only[go_sem,X.next];obtain⟨S,hSL,hSB,hfz,kn⟩:=kn.freeze0;have hft:FrzC H5 S t (.sl false 1 (Qe av)):=Gr.frzM hgt hSL (FrzR.same (Qw _));refine c_gh (Qh1 S (Qa4z ?_) hfz) (e':=[(1,.c (.sl fl2 1 (Q1 l))),(2,.c (.pp [.int .i64 q.params,.int .i64 q.regs,.sl fl 5 (Qm q.blocks)])),(4,.c (.ptr x4 0)),(6,.c (.ptr x6 0)),(10,.c (.int .i64 i)),(11,.c (.sl false 1 (Qe olds))),(12,.c (.sl false 1 (Qe news))),(13,.c (.int .i64 k)),(14,.c (.sl false 1 (Qe av)))]) ?_
       ·simp only[Jbc,l1,l2,l4,l6,l10,l11,l12,l13,l14];exact⟨.c _ _ (.same _ rfl),.c _ _ (.same _ rfl),.c _ _ (.same _ rfl),.c _ _ (.same _ rfl),.c _ _ (.same _ rfl),.c _ _ (.same _ rfl),.c _ _ (.same _ rfl),.c _ _ (.same _ rfl),.c _ _ hft,by simp⟩
       generalize H5.frz S=H6 at *;have hx6:H6 x6=X6:=(kn.get (x6,X6) (by simp)).1;rw[hX6]at hx6;have hzb:H6 zb=.vec 5 RW:=(kn.get (zb,.vec 5 RW) (by simp)).1;have hz:H6 z=.vec 2 (Qab ph):=(kn.get (z,.vec 2 (Qab ph)) (by simp)).1;have hset:(Qab ph).set k [.int .i64 p.to,.sl false 1 (Qe av)]=Qab (ph.set k ⟨p.to,av⟩):=Qbe0 ph k ⟨p.to,av⟩;refine Qq ?_;simp only[go_sem,hx6,hzb,hz,hRWl,hRWt,hRWg,hlt,hlt2,hptk,hpg,hset,Q6,Jj,Ji];intro H7 h7;have kn:Kn H0 H7 E (([(x4,X4),(x6,X6),(zb,.vec 5 RW)]++R)++[(z,.vec 2 (Qab (ph.set k ⟨p.to,av⟩)))]):=by
        have:=kn.stL ([(x4,X4),(x6,X6),(zb,Obj.vec 5 RW)]++R).length (x:=z) (o:=.vec 2 (Qab ph)) (by simp) h7;simpa using this
       refine Qq ?_;simp only[go_sem];refine⟨Qp (by omega) (by omega),?_⟩;show ∃m,_;refine⟨ph.length-(k+1),by omega,k+1,ph.set k ⟨p.to,av⟩,_,by rw[Jq],by rw[Jq];omega,?_,fun j2 h2 hj2=>?_,fun j2 hj2=>?_,?_,kn,rfl,rfl,rfl,rfl,rfl,rfl,rfl,by simp[lk]⟩
       ·rw[Jaa,hto];have e:p.to=((Qbt q b).phis.map PhiD.to)[k]'(by rw[Jd];omega):=by
         have h1:(ph.map PhiD.to)[k]? = some p.to:=(by simp[hlt2,hpk]);rw[hto,Je (by rw[Jd];omega)]at h1;exact (Jad h1).symm
        show List.set _ k p.to=_
        conv=>lhs;rw[e]
        exact Jbb _
       ·rw[J7];split
        ·exact⟨by show av.length=_;rw[hnw];omega,has⟩
        ·exact hpa j2 (by simpa using h2) (by omega)
       ·rw[Jaz (by omega)];exact hpu j2 (by omega)
       ·rw[hpc];exact .mk _ _ _ (by rw[Q6,Jq])
    ·intro hc2;have hge:ph.length≤k:=(by simpa using hc2);refine Qs ?_;simp only[go_sem,X.next];refine Qq ?_;simp only[go_sem,l1,l2,l4,l6,l10];refine⟨Qp (by omega) (by omega),?_⟩;show ∃m,_;have hst:=hS.step hki (ph:=ph) (pl:=pl) (by rw[hgd];exact hto) (fun w hw=>by
      obtain⟨j,hj,rfl⟩:=Js.1 hw;exact hpa j hj (by omega)) (by rw[hkb];exact hgr)
     have hrw:=PkS.rows (ks:=ks) (ph:=ph) (pl:=pl) hki;have hs2:=Qee (f:=KBlk.pl) (l:=ks.set i ⟨⟨ph,ks[i].y.ins,ks[i].y.jump,ks[i].y.on,ks[i].y.next⟩,ks[i].pc,pl⟩) (i:=i) (by rw[Jq];exact hki);rw[Jat,Jan,hR]at hs2;generalize ks.set i ⟨⟨ph,ks[i].y.ins,ks[i].y.jump,ks[i].y.on,ks[i].y.next⟩,ks[i].pc,pl⟩=ks' at *;have kn:Kn H0 H4 E ([(x4,X4),(x6,X6),(zb,.vec 5 (ks'.map KBlk.row))]++ks'.flatMap KBlk.pl):=by
      rw[hrw,hRW];refine kn.perm (Qn fun f hf h0 hc hp=>?_);have:=hp _ _ hs2;simp only[hf]at this⊢;omega
     exact⟨l.length-(i+1),by omega,i+1,ks',rfl,by omega,hst,kn,rfl,rfl,rfl,rfl,by simp[lk]⟩
  ·intro hc;have hie:i=l.length:=by have:l.length≤i:=(by simpa using hc);omega
   subst hie;refine Qs ?_;simp only[go_sem,X.next];have hx4:=kn.l 0 rfl;have hx6:=kn.l 1 rfl;rw[hX6]at hx6;rw[hX4]at hx4;refine Qa ?_;simp only[go_sem,l4,l6,hx4,hx6];intro H2 h2;have kn:=kn.stL 0 rfl h2;refine Qk ?_;refine hQ _ _ ks hS ?_ (by simp[lk]);rw[hX6]at kn;exact kn
set_option maxHeartbeats 8000000 in
theorem Qbef {q:CodeD}{fl fl2:Bool}{l:List Nat}(ho:q.ok)(hp:Pk q l)
  (hK:∀(d:CodeD) z H',PkR q d→Kn H H' [] [(z,.vec 5 (Qm d.blocks))]→K (.ag [.int .i64 d.params,.int .i64 d.regs,.vsl z 5 0 d.blocks.length]) H') :
  Qu prog Qv2 [.ag [.int .i64 q.params,.int .i64 q.regs,.sl fl 5 (Qm q.blocks)],.c (.sl fl2 1 (Q1 l))] H K:=by
 have hb1:=ho.b1;have hln:=hp.n;have hl0:0<l.length:=by
  have:=hp.z
  cases l with
  |nil=>simp at this
  |cons=>simp
 refine Qdj ?_;refine Qb Qam Qbjt ?_;refine Qa ?_;simp only[go_sem];intro x4 hx4 H1 h1;have kn:=(Kn.start0 H).al hx4 h1;refine Qa ?_;simp only[go_sem,Qj];try intro _
 refine Qbeg (n:=q.blocks.length) (by omega) (by omega) hp.lt fun P H2 hP hu=>?_;have kn:=kn.call0 hu;simp only[go_sem,Q8r];refine Qa ?_;simp only[go_sem];intro x6 hx6 H3 h3;have kn:=kn.al hx6 h3;have hx6:=kn.l 1 rfl;simp only[go_sem,Q8s,hx6];intro H4 h4;have kn:Kn H H4 [] [(x4,.st [.int .i64 0,.int .i64 0,.sl true 5 []]),(x6,.st [.int .i64 q.params,.int .i64 q.regs,.sl true 5 []])]:=kn.stL 1 rfl h4;refine Q5 ?_;refine Qa ?_;simp only[go_sem];refine Qh (Qc (Qv (fun m e1 H1=>∃(ks:List KBlk) (bc:C) (bl:List (Nat×Obj)),m=l.length-ks.length∧ks.length≤l.length∧ks.map KBlk.y=(l.take ks.length).map (pkY q P)∧(∀b∈ks,b.ok)∧Gr bl 5 (ks.map KBlk.row) bc∧
  Kn H H1 [] (([(x4,.st [.int .i64 0,.int .i64 0,.sl true 5 []]),(x6,.st [.int .i64 q.params,.int .i64 q.regs,bc])]++ks.flatMap KBlk.pl)++bl)∧
  lk 1 e1=.c (.sl fl2 1 (Q1 l))∧lk 2 e1=.c (.pp [.int .i64 q.params,.int .i64 q.regs,.sl fl 5 (Qm q.blocks)])∧lk 4 e1=.c (.ptr x4 0)∧lk 5 e1=.c (.sl false 1 (Qe P))∧lk 6 e1=.c (.ptr x6 0)∧lk 7 e1=.c (.int .i64 ks.length)) l.length ?_ ?_))
 ·exact⟨[],_,[],by simp,by simp,by simp,by simp,.nil 5,by simpa using kn,rfl,rfl,rfl,rfl,rfl,rfl⟩
 ·clear kn hx6;rintro m e1 H5 ⟨ks,bc,bl,hm,hkl,hky,hko,hgr,kn,l1,l2,l4,l5,l6,l7⟩;have hbw:=hgr.isOw;refine Q5 ?_;refine Qa ?_;simp only[go_sem,l1,l2,l4,l5,l6,l7,Qz];try intro _
  refine Qh (Qd rfl ?_ ?_)
  ·intro hc;have hlt:ks.length<l.length:=by simpa using hc
   obtain⟨b,hb⟩:∃b,l[ks.length]=b:=⟨_,rfl⟩;have hbm:b∈l:=by rw[←hb];exact Jb hlt
   have hbn:=hp.lt b hbm;have hgd:l.getD ks.length 0=b:=by simp[Ja,hlt,hb]
   refine Qi ?_;try simp only[go_sem]
   refine Qh (Qc ?_);refine Qak ?_;simp only[go_sem,hlt,Qz,Qai _ _ hlt,hgd,hbn,Qj,Q9 _ _ hbn,BlkD.take5,BlkD.allOw,BlkD.len5];refine Q1n (ho.sg.bs _ (Jb hbn)) fun o H6 k2 hok hod _=>?_;have kn:=kn.comp0 k2;rw[←Qbi hbn]at hod;have how:=o.noOw hok;have hpw:=hok.p.isOw;have hiw:=hok.i.isOw;simp only[go_sem,Q8u];intro x8 hx8 H7 h7;have kn:=(kn.al hx8 h7).perm Jy;have hx8:=kn.l 0 rfl;simp only[go_sem,Q8t,hx8,o.row_eq,hlt,Qz,Qai _ _ hlt,hgd,hbn,Qj,Q9 _ _ hbn,BlkD.take5,BlkD.allOw,BlkD.len5];intro H8 h8;have kn:Kn H H8 [] ([(o.nx.y,.vec 1 (Qe o.nx.ns))]++([(x8,.st [o.pc,o.ic,.int .i64 o.jump,.int .i64 o.on,.vsl o.nx.y 1 0 o.nx.ns.length])]++(([(x4,.st [.int .i64 0,.int .i64 0,.sl true 5 []]),(x6,.st [.int .i64 q.params,.int .i64 q.regs,bc])]++ks.flatMap KBlk.pl)++bl)++o.rest)):=
    (kn.stL 0 rfl h8).perm (Qn fun f hf h0 hc hp=>by
     show f ([(x8,_)]++(_++_))=_;simp only[o.lg_eq,hf];omega)
   clear hx8;have hns:o.nx.ns=(Qbt q b).next:=by rw[←hod];rfl
   have hns2:o.nx.ns.length≤2:=by rw[hns,Qbi hbn];exact (ho.bs b hbn).nxl
   refine Q5 ?_;refine Qa ?_;simp only[go_sem];refine Qh (Qc (Qv (fun m e1 H1=>∃(k:Nat) (ns:List Int),m=o.nx.ns.length-k∧k≤o.nx.ns.length∧ns=(o.nx.ns.take k).map (fun v=>P.getD v.toNat 0)++o.nx.ns.drop k∧
    Kn H H1 [] ([(o.nx.y,.vec 1 (Qe ns))]++([(x8,.st [o.pc,o.ic,.int .i64 o.jump,.int .i64 o.on,.vsl o.nx.y 1 0 o.nx.ns.length])]++(([(x4,.st [.int .i64 0,.int .i64 0,.sl true 5 []]),(x6,.st [.int .i64 q.params,.int .i64 q.regs,bc])]++ks.flatMap KBlk.pl)++bl)++o.rest))∧
    lk 1 e1=.c (.sl fl2 1 (Q1 l))∧lk 2 e1=.c (.pp [.int .i64 q.params,.int .i64 q.regs,.sl fl 5 (Qm q.blocks)])∧lk 4 e1=.c (.ptr x4 0)∧lk 5 e1=.c (.sl false 1 (Qe P))∧lk 6 e1=.c (.ptr x6 0)∧lk 7 e1=.c (.int .i64 ks.length)∧lk 8 e1=.c (.ptr x8 0)∧lk 9 e1=.c (.int .i64 k)) o.nx.ns.length ?_ ?_))
   ·exact⟨0,o.nx.ns,by omega,by omega,by simp,kn,rfl,rfl,rfl,rfl,rfl,rfl,rfl,rfl⟩
   ·clear kn;rintro m2 e2 H9 ⟨k,ns,hm2,hk,hnse,kn,l1,l2,l4,l5,l6,l7,l8,l9⟩;have hnl:ns.length=o.nx.ns.length:=(by rw[hnse];simp;omega);have hx8:H9 x8=.st [o.pc,o.ic,.int .i64 o.jump,.int .i64 o.on,.vsl o.nx.y 1 0 o.nx.ns.length]:=(kn.get (x8,.st [o.pc,o.ic,.int .i64 o.jump,.int .i64 o.on,.vsl o.nx.y 1 0 o.nx.ns.length]) (by simp)).1;have hy:=kn.l 0 rfl;refine Q5 ?_;refine Qa ?_;simp only[go_sem,l1,l2,l4,l5,l6,l7,l8,l9,hx8,hpw,hiw,hy,Qg,hnl,Jj,Ji];try intro _
    refine Qh (Qd rfl ?_ ?_)
    ·intro hc2;have hlt2:k<o.nx.ns.length:=(by simpa using hc2);obtain⟨w,hw⟩:∃w,o.nx.ns[k]=w:=⟨_,rfl⟩;have hwm:w∈(Qbt q b).next:=(by rw[←hns,←hw];exact Jb hlt2);obtain⟨w1,w2,_⟩:=hp.to ho hP hbm hwm;have hgd2:ns.getD k 0=w:=by
      rw[hnse,Ja,Jam (by rw[Jd,Jay];exact Nat.min_le_left _ _)];simp[hlt2,hw,Nat.min_eq_left (Nat.le_of_lt hlt2)]
     have hkn:k<ns.length:=(by omega);have htk:(Qe ns).take o.nx.ns.length=Qe ns:=Jf (by rw[Qg];omega);have hstep:=Qbpq (f:=fun v=>P.getD v.toNat 0) hlt2;rw[hw]at hstep;have hwe:w=(w.toNat:Int):=(by omega);refine Qi ?_;try simp only[go_sem]
     refine Qh (Qc ?_);refine Qbh ?_;generalize hr:w.toNat=r at *;simp only[go_sem,hx8,hpw,hiw,hy,htk,hlt2,Qg,hnl,Q0 _ _ hkn,hgd2,hwe,w2,Q0 _ _ w2,Qc6,Jj,Ji];intro H10 h10;have kn:=kn.stL 0 rfl h10;refine Qq ?_;simp only[go_sem,l9];refine⟨Qp (by omega) (by omega),?_⟩;show ∃m,_;exact⟨o.nx.ns.length-(k+1),by omega,k+1,ns.set k (P.getD r 0),rfl,by omega,by rw[hnse];exact hstep,kn,rfl,rfl,rfl,rfl,rfl,rfl,rfl,rfl⟩
    ·intro hc2;have hge:o.nx.ns.length≤k:=(by simpa using hc2);rw[Jf hge,List.drop_eq_nil_of_le hge,Ja0]at hnse;refine Qs ?_;simp only[go_sem,X.next];obtain⟨o2,ho2⟩:∃o2:OBlk,o2=⟨o.phis,o.pc,o.pl,o.ins,o.ic,o.il,o.jump,o.on,⟨ns,o.nx.y⟩⟩:=⟨_,rfl⟩;have hok2:o2.ok:=(by rw[ho2];exact⟨hok.p,hok.i,hok.a⟩);have hd2:o2.d=pkY q P b:=by
      rw[ho2,pkY,←hod];simp only[OBlk.d,hnse]
     have hpc2:o2.pc=o.pc:=(by rw[ho2]);have kn:Kn H H9 [] ([(x8,.st o2.row)]++((([(x4,.st [.int .i64 0,.int .i64 0,.sl true 5 []]),(x6,.st [.int .i64 q.params,.int .i64 q.regs,bc])]++ks.flatMap KBlk.pl)++bl)++o2.lg)):=by
      have er:o2.row=[o.pc,o.ic,.int .i64 o.jump,.int .i64 o.on,.vsl o.nx.y 1 0 o.nx.ns.length]:=(by rw[ho2,OBlk.row_eq,hnl]);have el:o2.lg=[(o.nx.y,.vec 1 (Qe ns))]++o.rest:=(by rw[ho2];rfl);rw[er,el];exact kn.perm (Qn fun f hf h0 hc hp=>by simp only[hf];omega)
     obtain⟨S,H10,pl,hfz,hgp,kn⟩:=OBlk.gh hok2 kn;rw[hd2,hpc2]at hgp kn;refine c_gh (Qh1 S (Qa4z ?_) hfz) (e':=[(1,.c (.sl fl2 1 (Q1 l))),(2,.c (.pp [.int .i64 q.params,.int .i64 q.regs,.sl fl 5 (Qm q.blocks)])),(4,.c (.ptr x4 0)),(5,.c (.sl false 1 (Qe P))),(6,.c (.ptr x6 0)),(7,.c (.int .i64 ks.length)),(8,.c (.ptr x8 0))]) ?_
     ·simp only[Jbc,l1,l2,l4,l5,l6,l7,l8];exact⟨.c _ _ (.same _ rfl),.c _ _ (.same _ rfl),.c _ _ (.same _ rfl),.c _ _ (.same _ rfl),.c _ _ (.same _ rfl),.c _ _ (.same _ rfl),.c _ _ (.same _ rfl),by simp⟩
     clear hfz hx8 hy;have kn:Kn H H10 [] (([(x6,.st [.int .i64 q.params,.int .i64 q.regs,bc])]++([(x8,.st (kRow (pkY q P b) o.pc))]++([(x4,.st [.int .i64 0,.int .i64 0,.sl true 5 []])]++(ks.flatMap KBlk.pl++pl))))++bl):=
      kn.perm (Qn fun f hf h0 hc hp=>by
       have e:∀(a b:Nat×Obj),f [a,b]=f [a]+f [b]:=fun a b=>hc a [b];simp only[hf,e];omega)
     have hx6:=kn.l 0 rfl;have hx8:=kn.l 1 rfl;obtain⟨kb,hkb⟩:∃kb:KBlk,kb=⟨pkY q P b,o.pc,pl⟩:=⟨_,rfl⟩;have hkbr:kRow (pkY q P b) o.pc=kb.row:=(by rw[hkb];rfl);have hkbo:kb.ok:=(by rw[hkb];exact hgp);have hkw:=KBlk.noOw hkbo;rw[hkbr]at hx8 kn;have hkl5:kb.row.length=5:=rfl;have hkt5:kb.row.take 5=kb.row:=rfl;have hka:(kb.row.all fun c=>!c.isOw)=true:=hkw;refine Qq ?_;simp only[go_sem,hx6,hx8,hbw,hkl5,hkt5,hka];refine kn.growR (new:=[kb.row]) hgr (.mk' _ _ _ _) (by intro r hr;simp only[Jg]at hr;rw[hr];exact hkw) (by simp only[Jd,LIM,Jk,Jl];omega) fun bc2 bl2 H11 hgr2 hbw2 kn=>?_;have hx6:=kn.l 0 rfl;simp only[go_sem,Q8v,hx6,hbw2];intro H12 h12;have kn:Kn H H12 [] ((([(x4,.st [.int .i64 0,.int .i64 0,.sl true 5 []]),(x6,.st [.int .i64 q.params,.int .i64 q.regs,bc2])]++(ks++[kb]).flatMap KBlk.pl)++bl2)++[(x8,.st kb.row)]):=
      (kn.stL 0 rfl h12).perm (Qn fun f hf h0 hc hp=>by
       have e:∀(a b:Nat×Obj),f [a,b]=f [a]+f [b]:=fun a b=>hc a [b];have ek:kb.pl=pl:=(by rw[hkb]);show f ([(x6,_)]++([(x8,_)]++([(x4,_)]++(ks.flatMap KBlk.pl++pl)))++bl2)=_;simp only[List.flatMap_append,Jal,List.flatMap_nil,Ja0,ek,hf,e];omega)
     refine Qq ?_;simp only[go_sem];refine⟨Qp (by omega) (by omega),?_⟩;show ∃m,_;refine⟨l.length-(ks.length+1),by omega,ks++[kb],bc2,bl2,by simp,by simp only[Jag,Jk,Jl];omega,?_,fun w hw=>?_,by rw[Jn];exact hgr2,kn.drop,rfl,rfl,rfl,rfl,rfl,by simp[lk]⟩
     ·simp only[Jag,Jk,Jl,Jj];rw[Jn,hky,Jp hlt,Jn,hb,hkb];rfl
     ·rcases Jo.1 hw with hw|hw
      ·exact hko w hw
      ·simp only[Jg]at hw;rw[hw];exact hkbo
  ·intro hc;have hke:ks.length=l.length:=by have:l.length≤ks.length:=(by simpa using hc);omega
   rw[hke,Jae]at hky;obtain⟨zb,rfl,rfl⟩:∃z,bc=.vsl z 5 0 l.length∧bl=[(z,.vec 5 (ks.map KBlk.row))]:=by
    rcases hgr with ⟨_,h,_⟩|⟨y,h1,h2⟩
    ·have:=congrArg List.length h;simp only[Jd,Jl]at this;omega
    ·exact⟨y,by rw[h1,Jd,hke],h2⟩
   have hS:PkS q P l 0 ks:=by
    have hg:∀j (h:j<ks.length),ks[j].y=pkY q P (l.getD j 0):=fun j h=>by
     have hj:j<l.length:=(by omega);have h1:(ks.map KBlk.y)[j]? = some ks[j].y:=(by simp[h]);rw[hky]at h1;simp only[Ju,Je hj,Jz]at h1;rw[(hp.get hj).1];exact (Jad h1).symm
    exact⟨hke,fun j h=>by rw[hg j h];exact⟨rfl,rfl,rfl,rfl,rfl⟩,hko,fun j h h0=>by omega,fun j h _=>by rw[hg j h];rfl⟩
   have kn:Kn H H5 [] ([(x4,.st [.int .i64 0,.int .i64 0,.sl true 5 []]),(x6,.st [.int .i64 q.params,.int .i64 q.regs,.vsl zb 5 0 l.length]),(zb,.vec 5 (ks.map KBlk.row))]++ks.flatMap KBlk.pl):=
    kn.perm (Qn fun f hf h0 hc hp=>by
     have e2:∀(a b:Nat×Obj),f [a,b]=f [a]+f [b]:=fun a b=>hc a [b];have e3:∀(a b c:Nat×Obj),f [a,b,c]=f [a]+f [b]+f [c]:=fun a b c=>(by rw[hc a [b,c],e2];omega);simp only[hf,e2,e3];omega)
   clear hky hko hke hgr;refine Qs ?_;simp only[go_sem,X.next];refine Qbky (fl:=fl) (fl2:=fl2) ho hp hP hS kn rfl rfl rfl rfl fun e6 H6 ks hS kn l4=>?_;have hx4:=kn.l 0 rfl;simp only[go_sem,Q7,Qad,Qaxb,Jg,forall_eq,RS.op,l4,hx4];obtain⟨d,hd⟩:∃d:CodeD,d=⟨q.params,q.regs,ks.map KBlk.y⟩:=⟨_,rfl⟩;have hdl:d.blocks.length=l.length:=by rw[hd];simpa using hS.n
   have hR:=Qbwt (d:=d) ho hp hP (by rw[hd]) (by rw[hd]) hdl fun j h=>by
    have hj:j<ks.length:=(by rw[hS.n];omega);have e:d.blocks[j]=ks[j].y:=(by subst hd;simp);rw[e];exact⟨hS.b j hj,hS.a j hj (by omega)⟩
   have kn:Kn H H6 [] ([(zb,.vec 5 (ks.map KBlk.row))]++(([(x4,.st [.int .i64 q.params,.int .i64 q.regs,.vsl zb 5 0 l.length])]++[(x6,.st [.int .i64 q.params,.int .i64 q.regs,.vsl zb 5 0 l.length])])++ks.flatMap KBlk.pl)):=
    kn.perm (Qn fun f hf h0 hc hp=>by
     have e3:∀(a b c:Nat×Obj),f [a,b,c]=f [a]+f [b]+f [c]:=fun a b c=>(by rw[hc a [b,c],hc b [c]];omega);simp only[hf,e3];omega)
   obtain⟨S,hSL,hSB,hfz,kn⟩:=kn.freeze0;have hz:=hSB (zb,.vec 5 (ks.map KBlk.row)) (by simp);have hrows:FrzR H6 S (ks.map KBlk.row) (Qm d.blocks):=by
    rw[hd];show FrzR H6 S (ks.map KBlk.row) (Qm (ks.map KBlk.y));rw[Qm,Jap];refine Qhq ks fun k hk=>?_;refine .cons (Gr.frzM (hS.ok k hk) (fun p hp=>hSL p (Jc _ (Jr.2 ⟨k,hk,hp⟩))) (FrzR.same (Qf4 _))) (.cons (Qf rfl) (.cons (Qf rfl) (.cons (Qf rfl) (.cons (Qf rfl) .nil))))
   have hno:∀r∈ks.map KBlk.row,Go.AE.noOw r=true:=fun r hr=>by
    obtain⟨k,hk,rfl⟩:=Jm.1 hr;exact KBlk.noOw (hS.ok k hk)
   refine⟨S,.ag [.int .i64 q.params,.int .i64 q.regs,.vsl zb 5 0 l.length],_,FrzL.ag (.cons (Qf rfl) (.cons (Qf rfl) (.cons (.same _ rfl) .nil))),hfz.set (o:=.vec 5 (Qm d.blocks)) hz.2 (by rw[hz.1];exact .vecR hrows hno),?_⟩;have:=hK d zb _ hR (kn.setL (o':=.vec 5 (Qm d.blocks)) 0 rfl (by simp));rw[hdl,hR.p,hR.r]at this;exact this
end Go.AE.Y
namespace Go.AE.Y
attribute [local go_sem] cond_true cond_false Bool.not_true Bool.not_false
open Go.Proofs.Tryz
variable {H H0:Heap}{K:V→Heap→Prop}{E B Lg:List (Nat×Obj)}{q:CodeD}
theorem CodeD.ok.gd (h:q.ok):q.gd:=⟨h.b0,h.b1,fun y hy=>by
 obtain⟨b,hb,rfl⟩:=Js.1 hy;exact (h.bs b hb).nxl,h.fts⟩
theorem CodeD.ok.fitB (h:q.ok):Qnq q.blocks.length (gnx q)=true:=by
 have h1:(List.range q.blocks.length).all (fun i=>(gnx q i).all fun x=>decide (0≤x∧x≤(q.blocks.length:Int)-1))=true:=by
  simp only[Jbi,Jab,decide_eq_true_eq];intro b hb x hx;rw[Q1h hb]at hx;have:=(h.bs b hb).nx x hx;omega
 have h2:decide (0<q.blocks.length)=true:=decide_eq_true h.b0;simp only[Qnq,h1,Bool.true_and]
 first|exact h2|simpa using h.b0
theorem CodeD.ok.rchPk (h:q.ok):Pk q (rchL q.blocks.length (nxN (gnx q))):=by
 have hb0:=h.b0;have hb1:=h.b1;refine⟨?_,?_,fun x hx=>?_,fun x hx v hv=>?_⟩
 ·have:=Jaj (Qlg (nxN (gnx q)) (-1)) (List.range q.blocks.length);rw[Jbg]at this;rw[rchL];omega
 ·obtain⟨m,hm⟩:∃m,q.blocks.length=m+1:=⟨q.blocks.length-1,by omega⟩;have h0:Qlg (nxN (gnx q)) (-1) 0=true:=rchB_iff.2 (.refl (by omega));rw[rchL,hm,List.range_succ_eq_map,Ja8,h0];rfl
 ·rw[rchL,Jak,Jab]at hx;exact hx.1
 ·rw[rchL,Jak,Jab]at hx⊢;have hvx:=hv;rw[Q1h hx.1]at hvx;have:=(h.bs x hx.1).nx v hvx;refine⟨by omega,rchB_iff.2 (.step (rchB_iff.1 hx.2) (Jm.2 ⟨v,hv,rfl⟩) (by omega))⟩
theorem Qbi1 {fl:Bool}(ho:q.ok)(hK:∀(d:CodeD) z H',PkR q d→Kn H H' [] [(z,.vec 5 (Qm d.blocks))]→K (.ag [.int .i64 d.params,.int .i64 d.regs,.vsl z 5 0 d.blocks.length]) H') :
  Qu prog Qv1 [.ag [.int .i64 q.params,.int .i64 q.regs,.sl fl 5 (Qm q.blocks)]] H K:=by
 refine Qdj ?_;refine Qb Qam Qbjq ?_;refine Qa ?_;simp only[go_sem];intro x2 hx2 H1 h1;have kn:=(Kn.start0 H).al hx2 h1;refine Qak ?_;simp only[go_sem];refine Qavq (rows:=Qm q.blocks) (nx:=gnx q) (Qa43 ho.gd) (by rw[Qj];exact ho.fitB) fun H2 hu=>?_;have kn:=kn.call0 hu;rw[Qj];simp only[go_sem,Q8i];refine Qbef ho ho.rchPk fun d z H3 hR k2=>?_;have kn:=kn.comp0 k2;have hx2:=kn.l 0 rfl;simp only[go_sem,Q8h,hx2];intro H4 h4;have kn:Kn H H4 [] ([(x2,.st [.int .i64 d.params,.int .i64 d.regs,.vsl z 5 0 d.blocks.length])]++[(z,.vec 5 (Qm d.blocks))]):=kn.stL 0 rfl h4;have hx2:=kn.l 0 rfl;refine Qk ?_;simp only[go_sem,Q7,Qad,Qaxa,Jg,forall_eq,RS.op,hx2];obtain⟨S,hSL,hSB,hfz,kn⟩:=(kn.perm Jy).freeze0;exact⟨S,_,_,FrzL.ag (.cons (Qf rfl) (.cons (Qf rfl) (.cons (.same _ rfl) .nil))),hfz,hK d z _ hR kn⟩
def zRow (v:Int):List C:=[.int .i64 1,.int .i64 v,.sl true 1 [],.int .i64 0]
def zIns (v:Int):InsD:=⟨1,v,[],0⟩
theorem Qbrj {S:Nat→Bool}(vs:List Int):FrzR H S (vs.map zRow) (Qap (vs.map zIns)):=by
 rw[Qap,Jap];exact Qhq vs fun v _=>.cons (Qf rfl) (.cons (Qf rfl) (.cons FrzR.nil.sl (.cons (Qf rfl) .nil)))
theorem Qbnr {d:CodeD}(ho:d.ok)(h9:∀y∈d.blocks,y.ins.length≤900∧y.phis.length≤900){vs:List Int}(hv:∀v∈vs,rIn d v)(hl:vs.length≤300){y:BlkD}{ys:List BlkD}(hd:d.blocks=y::ys) :
  (CodeD.mk d.params d.regs (⟨y.phis,vs.map zIns++y.ins,y.jump,y.on,y.next⟩::ys)).ok:=by
 obtain⟨y',hy'⟩:∃y':BlkD,y'=⟨y.phis,vs.map zIns++y.ins,y.jump,y.on,y.next⟩:=⟨_,rfl⟩;obtain⟨d',hd'⟩:∃d':CodeD,d'=⟨d.params,d.regs,y'::ys⟩:=⟨_,rfl⟩;rw[←hy',←hd'];have hlen:d'.blocks.length=d.blocks.length:=by rw[hd',hd];rfl
 have hmap:d'.blocks.map BlkD.next=d.blocks.map BlkD.next:=by rw[hd',hd,hy'];rfl
 have hg:gnx d'=gnx d:=by funext i;rw[gnx,gnx,hmap]
 have hr:∀v,rIn d v→rIn d' v:=fun v h=>by simp only[rIn,hd']at h⊢;exact h
 have h9y:=h9 y (by rw[hd];exact Jw);have hrg:d'.regs=d.regs:=by rw[hd']
 refine⟨by rw[hrg];exact ho.r0,by rw[hrg];exact ho.r1,by rw[hlen];exact ho.b0,by rw[hlen];exact ho.b1,fun b h=>?_,fun b h=>?_⟩
 ·have h':b<d.blocks.length:=by omega
  have o:=ho.bs b h';have hin:∀x∈d'.blocks[b].ins,x∈d.blocks[b].ins∨∃v∈vs,x=zIns v:=fun x hx=>by
   cases b with
   |zero=>
    simp only[hd',J4,hy']at hx;rcases Jo.1 hx with hx|hx
    ·obtain⟨v,hv,rfl⟩:=Jm.1 hx;exact .inr ⟨v,hv,rfl⟩
    ·left;simp only[hd,J4];exact hx
   |succ b=>left;simp only[hd',hd,J2]at hx⊢;exact hx
  have e:d'.blocks[b].phis=d.blocks[b].phis∧d'.blocks[b].jump=d.blocks[b].jump∧d'.blocks[b].on=d.blocks[b].on∧d'.blocks[b].next=d.blocks[b].next:=by
   cases b with
   |zero=>simp only[hd',hd,J4,hy',and_self]
   |succ b=>simp only[hd',hd,J2,and_self]
  obtain⟨e1,e2,e3,e4⟩:=e;refine⟨by rw[e4];exact o.nxl,fun v hv=>by rw[e4]at hv;rw[hlen];exact o.nx v hv,by rw[e2];exact o.jmp,fun hj=>by rw[e2]at hj;rw[e3];exact hr _ (o.on hj),fun x hx v hv=>?_,fun x hx hm=>?_,
   fun p hp=>by rw[e1]at hp;exact hr _ (o.pto p hp),fun p hp v hv=>by rw[e1]at hp;exact hr _ (o.pargs p hp v hv),fun p hp=>by rw[e1]at hp;rw[hg,hlen];exact o.pal p hp,fun x hx=>?_⟩
  ·rcases hin x hx with h|⟨v',_,rfl⟩
   ·exact hr _ (o.args x h v hv)
   ·simp[zIns]at hv
  ·rcases hin x hx with h|⟨v',hv',rfl⟩
   ·exact hr _ (o.to x h hm)
   ·exact hr _ (hv v' hv')
  ·rcases hin x hx with h|⟨v',_,rfl⟩
   ·exact o.al x h
   ·simp[zIns]
 ·have h':b<d.blocks.length:=by omega
  have o:=ho.il b h'
  cases b with
  |zero=>
   simp only[hd',J4,hy',Jag,Jd];omega
  |succ b=>simp only[hd',hd,J2]at o⊢;exact o
set_option maxHeartbeats 4000000 in
theorem Qbei {fl:Bool}(ho:q.ok)(hpar:0≤q.params)(h9:∀y∈q.blocks,y.ins.length≤900∧y.phis.length≤900)
  (hK:∀(d:CodeD) H',d.ok→d.params=q.params→d.regs=q.regs→(∀y∈d.blocks,y.phis.length≤900)→Upd H H' []→K (.ag d.cells) H') :
  Qu prog Qzc [.ag [.int .i64 q.params,.int .i64 q.regs,.sl fl 5 (Qm q.blocks)]] H K:=by
 refine Qt ?_;refine Qb Qam Qber ?_;refine Qa ?_;simp only[go_sem];intro x2 hx2 H1 h1;have kn:=(Kn.start0 H).al hx2 h1;refine Qa ?_;simp only[go_sem];refine Qbi1 ho fun d z H2 hR k2=>?_;have kn:=kn.comp0 k2;have hdo:=hR.ok;have hd9:∀y∈d.blocks,y.ins.length≤900∧y.phis.length≤900:=fun y hy=>by
  obtain⟨y0,hy0,h1,h2⟩:=hR.i y hy;rw[h1,h2];exact h9 y0 hy0
 have hpar:0≤d.params:=by rw[hR.p];exact hpar
 have hr0:=hdo.r0;have hr1:=hdo.r1;have hb0:=hdo.b0;have hb1:=hdo.b1;simp only[go_sem,Q3g];intro x3 hx3 H3 h3;have kn:=(kn.al hx3 h3).perm Jy;have hx3:=kn.l 0 rfl;simp only[go_sem,Q3f,hx3];intro H4 h4;have kn:Kn H H4 [] ([(x3,.st [.int .i64 d.params,.int .i64 d.regs,.vsl z 5 0 d.blocks.length]),(x2,.st [.int .i64 0,.int .i64 0,.sl true 5 []]),(z,.vec 5 (Qm d.blocks))]):=kn.stL 0 rfl h4;have hx3:=kn.l 0 rfl;have hz:=kn.l 2 rfl;refine Qa ?_;simp only[go_sem,hx3];refine Qawk hdo (CodeR.vsl hz (by simp)) fun zi zo H5 hu hlv=>?_;have kn:=kn.call0 hu;obtain⟨y,ys,hys⟩:∃y ys,d.blocks=y::ys:=by
  cases hb:d.blocks with
  |nil=>rw[hb]at hb0;simp at hb0
  |cons y ys=>exact⟨y,ys,rfl⟩
 have hzl:0<zi.length:=by rw[hlv.1.i];exact hb0
 obtain⟨nd,hnd⟩:∃nd,zi[0].2=nd:=⟨_,rfl⟩;have hndl:nd.length=d.regs.toNat:=by rw[←hnd];exact hlv.1.li _ (Jb hzl)
 simp only[go_sem,Q3h,hzl,Qaxp,Qaqu _ _ hzl,hnd];refine⟨Ja6 0,?_⟩;refine Qa ?_;simp only[go_sem];have hx3:=kn.l 0 rfl;refine Q5 ?_;refine Qa ?_;simp only[go_sem,hx3];refine Qh (Qc (Qv (fun m e1 H1=>∃(r:Int) (vs:List Int) (t:C) (Lg:List (Nat×Obj)),m=(d.regs-r).toNat∧0≤r∧(r≤d.regs∨r=d.params)∧(vs.length:Int)≤r∧(vs=[]∨r≤d.regs)∧(∀v∈vs,rIn d v)∧Gr Lg 4 (vs.map zRow) t∧
  Kn H H1 [] ([(x3,.st [.int .i64 d.params,.int .i64 d.regs,.vsl z 5 0 d.blocks.length]),(x2,.st [.int .i64 0,.int .i64 0,.sl true 5 []]),(z,.vec 5 (Qm d.blocks))]++Lg)∧
  lk 2 e1=.c (.ptr x2 0)∧lk 3 e1=.c (.ptr x3 0)∧lk 4 e1=.c (.sl false 1 (Qo nd))∧lk 5 e1=.c t∧lk 6 e1=.c (.int .i64 r)) (d.regs-d.params).toNat ?_ ?_))
 ·exact⟨d.params,[],_,[],rfl,hpar,.inr rfl,hpar,.inl rfl,by simp,.nil 4,by simpa using kn,rfl,rfl,rfl,rfl,rfl⟩
 ·clear kn hx3 hz;rintro m e1 H6 ⟨r,vs,t,Lg,hm,hr,hrr,hvl,hve,hvs,hgr,kn,l2,l3,l4,l5,l6⟩;have htw:=hgr.isOw;have hx3:=kn.l 0 rfl;refine Q5 ?_;refine Qa ?_;simp only[go_sem,l2,l3,l4,l5,l6,hx3,htw];refine Qh (Qd rfl ?_ ?_)
  ·intro hc;have hlt:r<d.regs:=by simpa using hc
   obtain⟨rn,hrn⟩:∃rn:Nat,r=(rn:Int):=⟨r.toNat,by omega⟩;subst hrn;have hrl:rn<nd.length:=by omega
   refine Qi ?_;try simp only[go_sem]
   refine Qcq (fun e2 H2=>∃(vs:List Int) (t:C) (Lg:List (Nat×Obj)),(vs.length:Int)≤(rn:Int)+1∧(∀v∈vs,rIn d v)∧Gr Lg 4 (vs.map zRow) t∧
    Kn H H2 [] ([(x3,.st [.int .i64 d.params,.int .i64 d.regs,.vsl z 5 0 d.blocks.length]),(x2,.st [.int .i64 0,.int .i64 0,.sl true 5 []]),(z,.vec 5 (Qm d.blocks))]++Lg)∧
    lk 2 e2=.c (.ptr x2 0)∧lk 3 e2=.c (.ptr x3 0)∧lk 4 e2=.c (.sl false 1 (Qo nd))∧lk 5 e2=.c t∧lk 6 e2=.c (.int .i64 (rn:Int))) ?_ ?_
   ·intro Q hnr _ _;refine Qc ?_;refine Qa ?_;simp only[go_sem,htw,hrl,Qy,Q4 _ _ hrl];refine Qd rfl ?_ ?_
    ·intro hc2;refine Qq ?_;simp only[go_sem,htw];refine kn.growR (new:=[zRow (rn:Int)]) hgr (.mk' _ _ _ _) (by intro w hw;simp only[Jg]at hw;rw[hw];rfl) (by simp only[Jd,LIM,Jk,Jl];omega) fun t2 Lg2 H7 hgr2 ht2 kn=>?_;simp only[go_sem,Q3i,ht2];refine hnr _ _ ⟨vs++[(rn:Int)],t2,Lg2,by simp only[Jag,Jk,Jl];omega,fun v hv=>?_,by rw[Jn];exact hgr2,kn,rfl,rfl,rfl,rfl,rfl⟩;rcases Jo.1 hv with hv|hv
     ·exact hvs v hv
     ·simp only[Jg]at hv;rw[hv];exact⟨by omega,hlt⟩
    ·intro hc2;refine Qi ?_;try simp only[go_sem]
     exact hnr _ _ ⟨vs,t,Lg,by omega,hvs,hgr,kn,rfl,rfl,rfl,rfl,rfl⟩
   ·rintro e2 H7 ⟨vs,t,Lg,hvl,hvs,hgr,kn,l2,l3,l4,l5,l6⟩;have htw:=hgr.isOw;refine Qq ?_;simp only[go_sem,l2,l3,l4,l5,l6,htw];refine⟨Qp (by omega) (by omega),?_⟩;show ∃m,_;exact⟨(d.regs-((rn:Int)+1)).toNat,by omega,(rn:Int)+1,vs,t,Lg,rfl,by omega,.inl (by omega),hvl,.inr (by omega),hvs,hgr,kn,rfl,rfl,rfl,rfl,rfl⟩
  ·intro hc;have hvl3:vs.length≤300:=by
    rcases hve with rfl|h
    ·simp
    ·omega
   have hge:d.regs≤r:=by simpa using hc
   have hz:=kn.l 2 rfl;have h0:0<(Qm d.blocks).length:=by rw[Qj];exact hb0
   have hb0g:(Qm d.blocks).getD 0 []=[.sl false 2 (Qab y.phis),.sl false 4 (Qap y.ins),.int .i64 y.jump,.int .i64 y.on,.sl false 1 (Qe y.next)]:=by rw[hys];rfl
   have hbt:(Qm d.blocks).take d.blocks.length=Qm d.blocks:=Jf (by rw[Qj];exact Ji _);have hyl:=hd9 y (by rw[hys];exact Jw);refine Qs ?_;simp only[go_sem,X.next];refine Qak ?_;simp only[go_sem,l2,l3,l4,l5,l6,hx3,hz,htw,Qj,hb0,hb0g,hbt,Jj,Ji,Ja6];refine kn.growR (new:=Qap y.ins) hgr (.mk' _ _ _ _) (Qh2 _) (by simp only[Jd,Qaa,LIM];omega) fun t2 Lg2 H7 hgr2 ht2 kn=>?_;have hx3:=kn.l 0 rfl;have hz:=kn.l 2 rfl;simp only[go_sem,Q3j,hx3,hz,ht2,Qj,hb0,hb0g,hbt,Jj,Ji,Ja6];intro H8 h8;have hset:∀R:List C,(Qm d.blocks).set 0 R=R::Qm ys:=fun R=>by rw[hys];rfl
   rw[hset]at h8;have kn:Kn H H8 [] ([(x3,.st [.int .i64 d.params,.int .i64 d.regs,.vsl z 5 0 d.blocks.length]),(x2,.st [.int .i64 0,.int .i64 0,.sl true 5 []]),(z,.vec 5 ([.sl false 2 (Qab y.phis),t2,.int .i64 y.jump,.int .i64 y.on,.sl false 1 (Qe y.next)]::Qm ys))]++Lg2):=kn.stL 2 rfl h8;have hx2:=kn.l 1 rfl;have hx3:=kn.l 0 rfl;refine Qa ?_;simp only[go_sem,hx2,hx3];intro H9 h9';have kn:Kn H H9 [] ([(x3,.st [.int .i64 d.params,.int .i64 d.regs,.vsl z 5 0 d.blocks.length]),(x2,.st [.int .i64 d.params,.int .i64 d.regs,.vsl z 5 0 d.blocks.length]),(z,.vec 5 ([.sl false 2 (Qab y.phis),t2,.int .i64 y.jump,.int .i64 y.on,.sl false 1 (Qe y.next)]::Qm ys))]++Lg2):=kn.stL 1 rfl h9';have hx2:=kn.l 1 rfl;have hz:=kn.l 2 rfl;have hzu:=kn.un 2 rfl;refine Qk ?_;simp only[go_sem,Q7,Qad,Qaqr,Jg,forall_eq,RS.op,hx2];have hins:FrzC H9 (un H) t2 (.sl false 4 (Qap (vs.map zIns++y.ins))):=by
    have:Qap (vs.map zIns++y.ins)=Qap (vs.map zIns)++Qap y.ins:=(by simp[Qap]);rw[this];exact hgr2.frzR kn ((Qbrj vs).app (FrzR.same (Qh2 _)))
   have hrows:FrzR H9 (un H) ([.sl false 2 (Qab y.phis),t2,.int .i64 y.jump,.int .i64 y.on,.sl false 1 (Qe y.next)]::Qm ys) (Qm (⟨y.phis,vs.map zIns++y.ins,y.jump,y.on,y.next⟩::ys)):=
    .cons (.cons (Qf rfl) (.cons hins (.cons (Qf rfl) (.cons (Qf rfl) (.cons (Qf rfl) .nil))))) (FrzR.same (Qaei _))
   have hdl:d.blocks.length=(⟨y.phis,vs.map zIns++y.ins,y.jump,y.on,y.next⟩::ys:List BlkD).length:=by rw[hys];rfl
   refine⟨_,FrzL.ag (.cons (Qf rfl) (.cons (Qf rfl) (.cons (hrows.vsl hzu hz (by rw[hdl,Jk,Jk,Qj])) .nil))),hK (CodeD.mk d.params d.regs (⟨y.phis,vs.map zIns++y.ins,y.jump,y.on,y.next⟩::ys)) _ (Qbnr hdo hd9 hvs hvl3 hys) hR.p hR.r (fun w hw=>?_) kn.fin⟩;rcases J3.1 hw with rfl|hw
   ·exact hyl.2
   ·exact (hd9 w (by rw[hys];exact J1 _ hw)).2
abbrev Plc:=Int×Int
def pRow (p:Plc):List C:=[.sl true 1 [[.int .i64 p.1],[.int .i64 p.2]]]
def Qca (ps:List Plc):List (List C):=ps.map pRow
theorem Qdo (ps:List Plc):(Qca ps).length=ps.length:=by simp[Qca]
theorem Q5r (ps:List Plc)(i:Nat)(h:i<ps.length):(Qca ps).getD i []=pRow ps[i]:=by simp[Qca,Ja,h]
theorem Qf5 (ps:List Plc):∀r∈Qca ps,noOw r=true:=by intro r hr;obtain⟨x,_,rfl⟩:=Jm.1 hr;rfl
def phS (q:CodeD)(b k r:Nat):List Plc:=(((Qbt q b).phis.take k).filter fun p=>decide (p.to=(r:Int))).map fun _=>((b:Int),(-1:Int))
def Qaqh (q:CodeD)(b i:Nat):Int:=(((Qbt q b).ins[i]?).map Qqi).getD (-1)
def inS (q:CodeD)(b j r:Nat):List Plc:=((List.range j).filter fun i=>decide (Qaqh q b i=(r:Int))).map fun (i:Nat)=>((b:Int),(i:Int))
def blS (q:CodeD)(b r:Nat):List Plc:=phS q b (Qbt q b).phis.length r++inS q b (Qbt q b).ins.length r
def Qgv (q:CodeD)(b r:Nat):List Plc:=(List.range b).flatMap fun b=>blS q b r
def Qbb6 (q:CodeD)(r:Nat):List Plc:=Qgv q q.blocks.length r
def Qkn (q:CodeD):List (List C):=(List.range q.regs.toNat).map fun r=>[.sl false 1 (Qca (Qbb6 q r))]
theorem Qbp4 {b k r:Nat}(h:k<(Qbt q b).phis.length):phS q b (k+1) r=phS q b k r++if (Qbt q b).phis[k].to=(r:Int)then [((b:Int),(-1:Int))]else []:=by
 rw[phS,phS,Jp h,Jaq,Jn];congr 1;by_cases hc:(Qbt q b).phis[k].to=(r:Int)
 ·rw[if_pos hc];simp[hc]
 ·rw[if_neg hc];simp[hc]
theorem Qbki {b i:Nat}(h:i<(Qbt q b).ins.length):Qaqh q b i=Qqi (Qbt q b).ins[i]:=by simp[Qaqh,h]
theorem Qbcs {b j r:Nat}:inS q b (j+1) r=inS q b j r++if Qaqh q b j=(r:Int)then [((b:Int),(j:Int))]else []:=by
 rw[inS,inS,Ja2,Jaq,Jn];congr 1;by_cases hc:Qaqh q b j=(r:Int)
 ·rw[if_pos hc];simp[hc]
 ·rw[if_neg hc];simp[hc]
theorem Qbb8 {b r:Nat}:Qgv q (b+1) r=Qgv q b r++blS q b r:=by simp[Qgv,Ja2]
theorem Qa5q (x:InsD):(Qfi x.op=true∧Qqi x=x.to)∨(Qfi x.op=false∧Qqi x=-1):=by
 cases h:Qfi x.op with
 |true=>exact .inl ⟨rfl,by simp[Qqi,h]⟩
 |false=>exact .inr ⟨rfl,by simp[Qqi,h]⟩
structure SReg where
 ps:List Plc
 c:C
 lg:List (Nat×Obj)
def SReg.row (s:SReg):List C:=[s.c]
def SReg.ok (s:SReg):Prop:=Gr s.lg 1 (Qca s.ps) s.c
structure SInv (R N:Nat)(F:Nat→List Plc)(ss:List SReg):Prop where
 n:ss.length=R
 f:∀r (h:r<ss.length),ss[r].ps=F r
 ok:∀s∈ss,s.ok
 l:∀s∈ss,s.ps.length≤N
variable {R N:Nat}{F F':Nat→List Plc}{ss:List SReg}
theorem SInv.get (h:SInv R N F ss){x:Nat}(hx:x<R):∃s∈ss,∃hx':x<ss.length,ss[x]=s∧s.ps=F x∧s.ok∧s.ps.length≤N∧(ss.map SReg.row).getD x []=[s.c]:=
 have hx':x<ss.length:=by rw[h.n];exact hx
 ⟨ss[x],Jb hx',hx',rfl,h.f x hx',h.ok _ (Jb hx'),h.l _ (Jb hx'),by simp[Ja,hx',SReg.row]⟩
theorem SInv.put (h:SInv R N F ss){x:Nat}(hx:x<R){p:Plc}{t:C}{Lg:List (Nat×Obj)}(hg:Gr Lg 1 (Qca (F x++[p])) t)(hF:∀r,F' r=if r=x then F x++[p]else F r) :
  SInv R (N+1) F' (ss.set x ⟨F x++[p],t,Lg⟩):=by
 obtain⟨s,hs,hx',e1,e2,e3,e4,_⟩:=h.get hx;refine⟨by rw[Jq];exact h.n,fun r hr=>?_,fun w hw=>?_,fun w hw=>?_⟩
 ·rw[J7,hF];split
  ·rename_i e;rw[if_pos e.symm]
  ·rename_i e;rw[if_neg (fun hh=>e hh.symm)];exact h.f r (by simpa using hr)
 ·rcases J0 hw with hw|rfl
  ·exact h.ok w hw
  ·exact hg
 ·rcases J0 hw with hw|rfl
  ·have:=h.l w hw;omega
  ·rw[e2]at e4;simp only[Jag,Jk,Jl];omega
theorem SInv.same (h:SInv R N F ss)(hF:∀r,r<R→F' r=F r):SInv R N F' ss:=⟨h.n,fun r hr=>by rw[h.f r hr,hF r (by rw[←h.n];exact hr)],h.ok,h.l⟩
theorem SInv.up (h:SInv R N F ss){M:Nat}(hM:N≤M):SInv R M F ss:=⟨h.n,h.f,h.ok,fun s hs=>by have:=h.l s hs;omega⟩
def ssL (o:Nat)(ss:List SReg):List (Nat×Obj):=[(o,.vec 1 (ss.map SReg.row))]++ss.flatMap SReg.lg
theorem Qalu {o x:Nat}{s:SReg}(hx:x<ss.length)(hs:ss[x]=s):(ssL o ss).Perm (([(o,.vec 1 (ss.map SReg.row))]++(ss.eraseIdx x).flatMap SReg.lg)++s.lg):=by
 subst hs;have:=Qee (f:=SReg.lg) hx;rw[ssL];refine Qn fun f hf h0 hc hp=>?_;have:=hp _ _ this;simp only[hf]at this⊢;omega
theorem Qbdi {o x:Nat}{s:SReg}(hx:x<ss.length):(([(o,Obj.vec 1 ((ss.set x s).map SReg.row))]++(ss.eraseIdx x).flatMap SReg.lg)++s.lg).Perm (ssL o (ss.set x s)):=by
 have h1:=Qalu (o:=o) (ss:=ss.set x s) (x:=x) (s:=s) (by rw[Jq];exact hx) (by simp);rw[Jan]at h1;exact h1.symm
set_option maxHeartbeats 4000000 in
theorem Qbjb {fl:Bool}(ho:q.ok)(hK:∀H',Upd H H' []→K (.c (.sl false 1 (Qkn q))) H') :
  Qu prog Q5c [.ag [.int .i64 q.params,.int .i64 q.regs,.sl fl 5 (Qm q.blocks)]] H K:=by
 have hr0:=ho.r0;have hr1:=ho.r1;have hb1:=ho.b1;obtain⟨R,hR⟩:∃R:Nat,q.regs.toNat=R:=⟨_,rfl⟩;have hRq:q.regs=(R:Int):=by omega
 refine Qt ?_;refine Qb Qam Qbj4 ?_;refine Qa ?_;simp only[go_sem];refine Qa ?_;simp only[go_sem,hRq];refine⟨by simp only[LIM];omega,fun o ho2 H1 h1=>?_⟩;have kn:Kn H H1 [] (ssL o (List.replicate R ⟨[],.sl true 1 [],[]⟩)):=by
  have e:(List.replicate R (SReg.mk [] (.sl true 1 []) [])).flatMap SReg.lg=[]:=List.flatMap_eq_nil_iff.2 fun s hs=>by rw[Jai hs]
  have:=(Kn.start0 H).al ho2 h1;rw[ssL,e];simpa[SReg.row]using this
 simp only[go_sem,Q9v];have hS0:SInv R 0 (Qgv q 0) (List.replicate R ⟨[],.sl true 1 [],[]⟩):=⟨by simp,fun r h=>by simp[Qgv],fun s hs=>by rw[Jai hs];exact .nil 1,fun s hs=>by rw[Jai hs];simp⟩;generalize List.replicate R (SReg.mk [] (.sl true 1 []) [])=ss0 at *;refine Q5 ?_;refine Qa ?_;simp only[go_sem];refine Qh (Qc (Qv (fun m e1 H1=>∃(b N:Nat) (ss:List SReg),m=q.blocks.length-b∧b≤q.blocks.length∧N≤b * 2400∧SInv R N (Qgv q b) ss∧Kn H H1 [] (ssL o ss)∧
  lk 1 e1=.c (.pp [.int .i64 q.params,.int .i64 (R:Int),.sl fl 5 (Qm q.blocks)])∧lk 3 e1=.c (.vsl o 1 0 R)∧lk 4 e1=.c (.int .i64 b)) q.blocks.length ?_ ?_))
 ·exact⟨0,0,ss0,by omega,by omega,by omega,hS0,kn,rfl,rfl,rfl⟩
 ·clear kn hS0 h1 ho2;clear ss0;rintro m e1 H1 ⟨b,N,ss,hm,hb,hNb,hS,kn,l1,l3,l4⟩;refine Q5 ?_;refine Qa ?_;simp only[go_sem,l1,l3,l4,Qj];try intro _
  refine Qh (Qd rfl ?_ ?_)
  ·intro hc;have hlt:b<q.blocks.length:=by simpa using hc
   obtain⟨y,hy⟩:∃y,q.blocks[b]=y:=⟨_,rfl⟩;have hya:Qbt q b=y:=by rw[Qbi hlt,hy]
   have hyo:=ho.bs b hlt;have hil:=ho.il b hlt;rw[hy]at hyo hil;refine Qi ?_;try simp only[go_sem]
   refine Qh (Qc ?_);refine Q5 ?_;refine Qa ?_;simp only[go_sem,l1,l3,l4];refine Qh (Qc (Qv (fun m e1 H1=>∃(k N:Nat) (ss:List SReg),m=y.phis.length-k∧k≤y.phis.length∧N≤b * 2400+k∧SInv R N (fun r=>Qgv q b r++phS q b k r) ss∧Kn H H1 [] (ssL o ss)∧
    lk 1 e1=.c (.pp [.int .i64 q.params,.int .i64 (R:Int),.sl fl 5 (Qm q.blocks)])∧lk 3 e1=.c (.vsl o 1 0 R)∧lk 4 e1=.c (.int .i64 b)∧lk 5 e1=.c (.int .i64 k)) y.phis.length ?_ ?_))
   ·exact⟨0,N,ss,by omega,by omega,Jbn hNb (Jbj _ _),hS.same fun r _=>by simp[phS],kn,rfl,rfl,rfl,rfl⟩
   ·clear kn hS l1 l3 l4;clear ss hNb;clear N;rintro m2 e2 H2 ⟨k,N,ss,hm2,hk,hNb,hS,kn,l1,l3,l4,l5⟩;refine Q5 ?_;refine Qa ?_;simp only[go_sem,l1,l3,l4,l5,hlt,Qj,Q9 _ _ hlt,BlkD.cells,hy,Q6];try intro _
    refine Qh (Qd rfl ?_ ?_)
    ·intro hc2;have hlt2:k<y.phis.length:=(by simpa using hc2);obtain⟨p,hp⟩:∃p,y.phis[k]=p:=⟨_,rfl⟩;have hpm:p∈y.phis:=(by rw[←hp];exact Jb hlt2);obtain⟨hv,hvl⟩:=(hyo.pto p hpm).nat;have hsucc:∀r,phS q b (k+1) r=phS q b k r++if p.to=(r:Int)then [((b:Int),(-1:Int))]else []:=fun r=>by
      have:=Qbp4 (q:=q) (b:=b) (k:=k) (r:=r) (by rw[hya];exact hlt2);simp only[hya,hp]at this;exact this
     refine Qi ?_;try simp only[go_sem]
     refine Qh (Qc ?_);rw[hR]at hvl;generalize hx:p.to.toNat=x at *;obtain⟨s,hsm,hxl,hsx,hsF,hsok,hsl,hsg⟩:=hS.get hvl;have hsw:=hsok.isOw;refine Qa ?_;simp only[go_sem,l1,l3,l4,l5,hlt,Qj,Q9 _ _ hlt,BlkD.cells,hy,Q6,hlt2,Qa0 _ _ hlt2,PhiD.cells,hp];have kn:=kn.perm (Qalu hxl hsx);have hob:H2 o=.vec 1 (ss.map SReg.row):=(kn.get (o,.vec 1 (ss.map SReg.row)) (by simp)).1;have hrl:(ss.map SReg.row).length=R:=(by rw[Jd,hS.n]);have hrt:(ss.map SReg.row).take R=ss.map SReg.row:=Jf (by omega);refine Qq ?_;simp only[go_sem,hob,hrl,hrt,hv,hvl,hsg,hsw,Jj,Ji];refine kn.growR (new:=Qca [((b:Int),(-1:Int))]) hsok (.mk' _ _ _ _) (Qf5 _) (by simp only[Qdo,LIM,Jk,Jl];omega) fun t2 Lg2 H3 hg2 ht2 kn=>?_;have hob:H3 o=.vec 1 (ss.map SReg.row):=(kn.get (o,.vec 1 (ss.map SReg.row)) (by simp)).1;simp only[go_sem,Q9w,hob,hrl,hrt,hv,hvl,hsg,hsw,ht2,Jj,Ji];intro H4 h4;obtain⟨s',hs'⟩:∃s':SReg,s'=⟨(Qgv q b x++phS q b k x)++[((b:Int),(-1:Int))],t2,Lg2⟩:=⟨_,rfl⟩;have hset:(ss.map SReg.row).set x [t2]=(ss.set x s').map SReg.row:=(by rw[Jaa,hs'];rfl);rw[hset]at h4;have kn:Kn H H4 [] (([(o,.vec 1 ((ss.set x s').map SReg.row))]++(ss.eraseIdx x).flatMap SReg.lg)++s'.lg):=by
      have e:s'.lg=Lg2:=(by rw[hs']);rw[e];exact kn.stL 0 rfl h4
     have kn:=kn.perm (Qbdi hxl);refine Qq ?_;simp only[go_sem,l1,l3,l4,l5];refine⟨Qp (by omega) (by omega),?_⟩;show ∃m,_;refine⟨y.phis.length-(k+1),by omega,k+1,N+1,ss.set x s',rfl,by omega,by omega,?_,kn,rfl,rfl,rfl,rfl⟩;rw[hs'];refine (hS.put hvl (p:=((b:Int),(-1:Int))) (t:=t2) (Lg:=Lg2) ?_ fun r=>?_)
     ·have:Qca ((Qgv q b x++phS q b k x)++[((b:Int),(-1:Int))])=Qca s.ps++Qca [((b:Int),(-1:Int))]:=(by rw[hsF];simp[Qca]);rw[this];exact hg2
     ·show Qgv q b r++phS q b (k+1) r=_;rw[hsucc];by_cases hrx:r=x
      ·subst hrx;rw[if_pos rfl,if_pos hv];simp
      ·rw[if_neg hrx,if_neg (by omega)];simp
    ·intro hc2;have hke:k=y.phis.length:=(by have:y.phis.length≤k:=(by simpa using hc2);omega);subst hke;refine Qs ?_;simp only[go_sem,X.next];refine Qa ?_;simp only[go_sem,l1,l3,l4,l5];refine Qc (Qv (fun m e1 H1=>∃(j N:Nat) (ss:List SReg),m=y.ins.length-j∧j≤y.ins.length∧N≤b * 2400+y.phis.length+j∧SInv R N (fun r=>Qgv q b r++phS q b y.phis.length r++inS q b j r) ss∧Kn H H1 [] (ssL o ss)∧
      lk 1 e1=.c (.pp [.int .i64 q.params,.int .i64 (R:Int),.sl fl 5 (Qm q.blocks)])∧lk 3 e1=.c (.vsl o 1 0 R)∧lk 4 e1=.c (.int .i64 b)∧lk 7 e1=.c (.int .i64 j)) y.ins.length ?_ ?_)
     ·exact⟨0,N,ss,by omega,by omega,Jbn hNb (Jbj _ _),hS.same fun r _=>by simp[inS],kn,rfl,rfl,rfl,rfl⟩
     ·clear kn hS l1 l3 l4 l5;clear ss hNb;clear N;rintro m3 e3 H3 ⟨j,N,ss,hm3,hj,hNb,hS,kn,l1,l3,l4,l7⟩;refine Q5 ?_;refine Qa ?_;simp only[go_sem,l1,l3,l4,l7,hlt,Qj,Q9 _ _ hlt,BlkD.cells,hy,Qaa];try intro _
      refine Qh (Qd rfl ?_ ?_)
      ·intro hc3;have hlt3:j<y.ins.length:=(by simpa using hc3);obtain⟨x,hx⟩:∃x,y.ins[j]=x:=⟨_,rfl⟩;have hxm:x∈y.ins:=(by rw[←hx];exact Jb hlt3);have hma:Qaqh q b j=Qqi x:=by
        have:=Qbki (q:=q) (b:=b) (i:=j) (by rw[hya];exact hlt3);simp only[hya,hx]at this;exact this
       refine Qi ?_;try simp only[go_sem]
       refine Qcq (fun e2 H2=>∃(N:Nat) (ss:List SReg),N≤b * 2400+y.phis.length+(j+1)∧SInv R N (fun r=>Qgv q b r++phS q b y.phis.length r++inS q b (j+1) r) ss∧Kn H H2 [] (ssL o ss)∧
        lk 1 e2=.c (.pp [.int .i64 q.params,.int .i64 (R:Int),.sl fl 5 (Qm q.blocks)])∧lk 3 e2=.c (.vsl o 1 0 R)∧lk 4 e2=.c (.int .i64 b)∧lk 7 e2=.c (.int .i64 j)) ?_ ?_
       ·intro Q hnr _ _;refine Qc ?_;refine Qa ?_;simp only[go_sem,l1,l3,l4,l7,hlt,Qj,Q9 _ _ hlt,BlkD.cells,hy,hlt3,Qaa,Qay _ _ hlt3,InsD.take4,InsD.allOw,InsD.len4,hx];refine Qara ?_;simp only[go_sem,Q9x];refine Qa ?_;simp only[go_sem];refine Qd rfl ?_ ?_
        ·intro hc4;have hge:0≤Qqi x:=(by simpa using hc4);have hmk:Qfi x.op=true∧Qqi x=x.to:=by
          rcases Qa5q x with h|⟨_,h⟩
          ·exact h
          ·omega
         obtain⟨hv,hvl⟩:=(hyo.to x hxm hmk.1).nat;rw[←hmk.2,hR]at hvl;rw[←hmk.2]at hv;clear hmk;generalize hx:(Qqi x).toNat=z at *;obtain⟨s,hsm,hxl,hsx,hsF,hsok,hsl,hsg⟩:=hS.get hvl;have hsw:=hsok.isOw;have kn:=kn.perm (Qalu hxl hsx);have hob:H3 o=.vec 1 (ss.map SReg.row):=(kn.get (o,.vec 1 (ss.map SReg.row)) (by simp)).1;have hrl:(ss.map SReg.row).length=R:=(by rw[Jd,hS.n]);have hrt:(ss.map SReg.row).take R=ss.map SReg.row:=Jf (by omega);refine Qq ?_;simp only[go_sem,hob,hrl,hrt,hv,hvl,hsg,hsw,Jj,Ji];refine kn.growR (new:=Qca [((b:Int),(j:Int))]) hsok (.mk' _ _ _ _) (Qf5 _) (by simp only[Qdo,LIM,Jk,Jl];omega) fun t2 Lg2 H4 hg2 ht2 kn=>?_;have hob:H4 o=.vec 1 (ss.map SReg.row):=(kn.get (o,.vec 1 (ss.map SReg.row)) (by simp)).1;simp only[go_sem,Q9y,hob,hrl,hrt,hv,hvl,hsg,hsw,ht2,Jj,Ji];intro H5 h5;obtain⟨s',hs'⟩:∃s':SReg,s'=⟨(Qgv q b z++phS q b y.phis.length z++inS q b j z)++[((b:Int),(j:Int))],t2,Lg2⟩:=⟨_,rfl⟩;have hset:(ss.map SReg.row).set z [t2]=(ss.set z s').map SReg.row:=(by rw[Jaa,hs'];rfl);rw[hset]at h5;have kn:Kn H H5 [] (([(o,.vec 1 ((ss.set z s').map SReg.row))]++(ss.eraseIdx z).flatMap SReg.lg)++s'.lg):=by
          have e:s'.lg=Lg2:=(by rw[hs']);rw[e];exact kn.stL 0 rfl h5
         have kn:=kn.perm (Qbdi hxl);refine hnr _ _ ⟨N+1,ss.set z s',by omega,?_,kn,rfl,rfl,rfl,rfl⟩;rw[hs'];refine (hS.put hvl (p:=((b:Int),(j:Int))) (t:=t2) (Lg:=Lg2) ?_ fun r=>?_)
         ·have:Qca ((Qgv q b z++phS q b y.phis.length z++inS q b j z)++[((b:Int),(j:Int))])=Qca s.ps++Qca [((b:Int),(j:Int))]:=(by rw[hsF];simp[Qca]);rw[this];exact hg2
         ·show Qgv q b r++phS q b y.phis.length r++inS q b (j+1) r=_;rw[Qbcs,hma];by_cases hrx:r=z
          ·subst hrx;rw[if_pos rfl,if_pos hv];simp
          ·rw[if_neg hrx,if_neg (by omega)];simp
        ·intro hc4;have hneg:¬0≤Qqi x:=(by simpa using hc4);refine Qi ?_;try simp only[go_sem]
         refine hnr _ _ ⟨N,ss,by omega,hS.same fun r _=>?_,kn,rfl,rfl,rfl,rfl⟩;rw[Qbcs,hma,if_neg (by omega)];simp
       ·rintro e4 H4 ⟨N,ss,hNb,hS,kn,l1,l3,l4,l7⟩;refine Qq ?_;simp only[go_sem,l1,l3,l4,l7];refine⟨Qp (by omega) (by omega),?_⟩;show ∃m,_;exact⟨y.ins.length-(j+1),by omega,j+1,N,ss,rfl,by omega,hNb,hS,kn,rfl,rfl,rfl,rfl⟩
      ·intro hc3;have hje:j=y.ins.length:=(by have:y.ins.length≤j:=(by simpa using hc3);omega);subst hje;refine Qs ?_;simp only[go_sem,X.next];refine Qq ?_;simp only[go_sem,l1,l3,l4];refine⟨Qp (by omega) (by omega),?_⟩;show ∃m,_;refine⟨q.blocks.length-(b+1),by omega,b+1,N,ss,rfl,by omega,by omega,hS.same fun r _=>?_,kn,rfl,rfl,rfl⟩;rw[Qbb8,blS,hya];simp
  ·intro hc;have hbe:b=q.blocks.length:=by have:q.blocks.length≤b:=(by simpa using hc);omega
   subst hbe;refine Qs ?_;simp only[go_sem,X.next];refine Qa ?_;simp only[go_sem,l3];refine Qk ?_;simp only[go_sem,Q7,Qad,Qaxj,Jg,forall_eq,RS.op];have hob:=kn.l 0 rfl;have hmem:∀p∈ssL o ss,H1 p.1=p.2∧un H p.1=true:=fun p hp=>⟨(kn.get p (Jc _ hp)).1,Qeb (kn.loc p hp)⟩;have hrows:FrzR H1 (un H) (ss.map SReg.row) (Qkn q):=by
    have e:Qkn q=ss.map fun s=>[C.sl false 1 (Qca s.ps)]:=by
     rw[Qkn,hR];refine Jaw (by simp[hS.n]) fun i h1 h2=>?_;have h3:i<ss.length:=(by simpa using h2);simp only[Jax,List.getElem_range,hS.f i h3];rfl
    rw[e];exact Qhq ss fun s hs=>.cons (Gr.frzM (hS.ok s hs) (fun p hp=>hmem p (Jc _ (Jr.2 ⟨s,hs,hp⟩))) (FrzR.same (Qf5 _))) .nil
   exact⟨_,.c _ _ (hrows.vsl (kn.un 0 rfl) hob (by rw[Jd,hS.n])),hK _ kn.fin⟩
end Go.AE.Y
namespace Go.AE.Y
open Go.Proofs.Tryz
variable {H H0:Heap}{K:V→Heap→Prop}{E B Lg:List (Nat×Obj)}
def Gq (Lg:List (Nat×Obj))(W:List Nat)(c:C):Prop:=
 (c=.sl true 1 []∧W=[]∧Lg=[])∨∃z st R,c=.vsl z 1 st W.length∧Lg=[(z,.vec 1 R)]∧(R.drop st).take W.length=Q1 W∧st+W.length≤R.length
theorem Gq.isOw {W:List Nat}{c:C}(h:Gq Lg W c):c.isOw=false:=by rcases h with ⟨rfl,_⟩|⟨z,st,R,rfl,_⟩ <;> rfl
theorem Gq.elemSz {W:List Nat}{c:C}(h:Gq Lg W c):c.elemSz=1:=by rcases h with ⟨rfl,_⟩|⟨z,st,R,rfl,_⟩ <;> rfl
theorem Gq.lenC {W:List Nat}{c:C}(h:Gq Lg W c):lenC c=W.length:=by rcases h with ⟨rfl,rfl,_⟩|⟨z,st,R,rfl,_⟩ <;> rfl
theorem Gq.get {W:List Nat}{c:C}(h:Gq Lg W c)(kn:Kn H0 H E (B++Lg)):okSl H c∧rowsOf H c=Q1 W:=by
 rcases h with ⟨rfl,rfl,_⟩|⟨z,st,R,rfl,rfl,h1,h2⟩
 ·exact⟨trivial,rfl⟩
 ·have hz:H z=.vec 1 R:=(kn.get (z,.vec 1 R) (by simp)).1;exact⟨by simp[okSl,hz,h2],by simp[rowsOf,hz,h1]⟩
theorem Gr.gq {W:List Nat}{c:C}(h:Gr Lg 1 (Q1 W) c):Gq Lg W c:=by
 rcases h with ⟨h1,h2,h3⟩|⟨y,h1,h2⟩
 ·refine .inl ⟨h1,?_,h3⟩;have:=congrArg List.length h2;rw[Qz]at this;exact List.length_eq_zero_iff.1 this
 ·exact .inr ⟨y,0,Q1 W,by rw[h1,Qz],h2,by rw[Jar,Jf (by rw[Qz];exact Ji _)],by rw[Qz];omega⟩
theorem Kn.growQ {K:V→Heap→Prop}{W new:List Nat}{b c:C}(kn:Kn H0 H E (B++Lg))(hc:Gq Lg W c)(hb:Slc H 1 (Q1 new) b)(h2:W.length+new.length≤LIM)
  (h:∀t Lg' H',Gq Lg' (W++new) t→t.isOw=false→Kn H0 H' E (B++Lg')→K (.c t) H'):appQ H 1 c b K:=by
 rcases hc with ⟨rfl,rfl,rfl⟩|⟨z,st,R,rfl,rfl,h3,h4⟩
 ·refine Kn.growR (new:=Q1 new) kn (.nil 1) hb (Qat _) (by simp only[Qz,Jl]at *;omega) fun t Lg' H' hg ht k=>h t Lg' H' (Gr.gq ?_) ht k;simpa using hg
 ·have hz:H z=.vec 1 R:=(kn.get (z,.vec 1 R) (by simp)).1;refine⟨hb.ok,hb.sz,?_⟩;simp only[hz,hb.rows,hb.len,h3,Qz];refine⟨trivial,trivial,h4,Qat _,h2,fun l' hl' H' hH'=>?_⟩;have hg:Gr [(l',.vec 1 (Q1 (W++new)))] 1 (Q1 (W++new)) (.vsl l' 1 0 (W.length+new.length)):=.mk _ _ _ (by simp[Qz]);refine h _ _ H' (Gr.gq hg) rfl ?_;have:=kn.ap B.length (y:=z) (o:=.vec 1 R) (by simp) hl' hH';rw[Qlq];simpa using this
end Go.AE.Y
namespace Go.AE.Y
attribute [local go_sem] cond_true cond_false Bool.not_true Bool.not_false
open Go.Proofs.Tryz
variable {H H0:Heap}{K:V→Heap→Prop}{E B Lg:List (Nat×Obj)}{q:CodeD}
theorem Qa5w {nx:Nat→List Int}{f:Int}{n i:Nat}(h:i<(Qac nx f n).length):∃p:Nat,(Qac nx f n).getD i 0=(p:Int)∧p<n:=by
 have h1:(Qac nx f n)[i]∈Qac nx f n:=Jb h;have e:(Qac nx f n).getD i 0=(Qac nx f n)[i]:=by simp[Ja,h]
 rw[e];generalize (Qac nx f n)[i]=v at h1;simp only[Qac,Jm,Jak,Jab]at h1;obtain⟨p,⟨h2,_⟩,rfl⟩:=h1;exact⟨p,rfl,h2⟩
theorem Qafr {ns:List Int}(h:∀x∈ns,0≤x):Qe ns=Q1 (ns.map Int.toNat):=by
 have hk:ns=(ns.map Int.toNat).map Int.ofNat:=by
  rw[Jap]
  conv=>lhs;rw[←List.map_id ns]
  refine List.map_congr_left fun x hx=>?_;have:=h x hx;simp;omega
 conv=>lhs;rw[hk]
 rfl
theorem Qr1 {ns:List Int}(h:∀x∈ns,0≤x)(ha:ns.Pairwise (· < ·)):(ns.map Int.toNat).Pairwise (· < ·):=by
 rw[List.pairwise_map];refine ha.imp_of_mem fun {a b} h1 h2 h3=>?_;have:=h a h1;have:=h b h2;omega
theorem Qaeh {l:List Nat}{n:Nat}(ha:l.Pairwise (· < ·))(hn:∀x∈l,x<n):l.length≤n:=by
 have h1:l.Nodup:=ha.imp fun h=>by omega
 have h2:l ⊆ List.range n:=fun x hx=>Jab.2 (hn x hx);have:=(List.nodup_iff_count.1 h1);have h3:=Jas h1 h2;simpa using h3
set_option maxHeartbeats 2000000 in
theorem Qart {fl flo:Bool}{b:Nat}(ho:q.ok)(hb:b<q.blocks.length)
  (hK:∀(fl':Bool) (fs:List Nat) H',Upd H H' []→fs.Pairwise (· < ·)→(∀x∈fs,x<q.blocks.length)→K (.c (.sl fl' 1 (Q1 fs))) H') :
  Qu prog Qkr [.ag [.int .i64 q.params,.int .i64 q.regs,.sl fl 5 (Qm q.blocks)],.c (.sl flo 1 (ovOf q.blocks.length (nxN (gnx q)) q.blocks.length)),.c (.int .i64 b)] H K:=by
 have hb1:=ho.b1;obtain⟨n,hn⟩:∃n,q.blocks.length=n:=⟨_,rfl⟩;obtain⟨g,hg⟩:∃g,nxN (gnx q)=g:=⟨_,rfl⟩;rw[hn]at hb hb1 hK;rw[hn,hg];refine Qt ?_;refine Qb Qam Qar5 ?_;refine Qa ?_;simp only[go_sem];refine Qa ?_;simp only[go_sem];refine Q5 ?_;refine Qa ?_;simp only[go_sem];refine Qh (Qc (Qv (fun m e1 H1=>∃(f:Nat) (fo:Bool) (ns:List Int),m=n-f∧f≤n∧ns.Pairwise (· < ·)∧(∀x∈ns,0≤x∧x<n)∧ns.length≤f * 200∧Kn H H1 [] []∧
  lk 1 e1=.c (.sl flo 1 (ovOf n g n))∧lk 2 e1=.c (.int .i64 b)∧lk 3 e1=.c (.pp [.int .i64 q.params,.int .i64 q.regs,.sl fl 5 (Qm q.blocks)])∧lk 7 e1=.c (.sl fo 1 (Qe ns))∧lk 8 e1=.c (.int .i64 f)) n ?_ ?_))
 ·exact⟨0,true,[],by omega,by omega,by simp,by simp,by simp,Kn.start0 H,rfl,rfl,rfl,rfl,rfl⟩
 ·rintro m e1 H1 ⟨f,fo,ns,hm,hf,ha,hns,hnl,kn,l1,l2,l3,l7,l8⟩;refine Q5 ?_;refine Qa ?_;simp only[go_sem,l1,l2,l3,l7,l8,Qwb];try intro _
  refine Qh (Qd rfl ?_ ?_)
  ·intro hc;have hlt:f<n:=by simpa using hc
   refine Qi ?_;try simp only[go_sem]
   refine Qh (Qc ?_);refine Qa ?_;simp only[go_sem,l1,l2,l3,l7,l8];refine Qgl (nx:=gnx q) (.mk' _ _ _ _) rfl (Qjw H1 q fl).x fun H2 hu=>?_;have kn:=kn.call0 hu;rw[Qj,hn];have hpl:=Qcw (gnx q) (f:Int) n;have hpg:=fun (i:Nat)=>Qa5w (nx:=gnx q) (f:=(f:Int)) (n:=n) (i:=i);generalize Qac (gnx q) (f:Int) n=pr at *;simp only[go_sem,Qo7];refine Qa ?_;simp only[go_sem];refine Qc (Qv (fun m e1 H1=>∃(i:Nat) (fo:Bool) (ns:List Int),m=pr.length-i∧i≤pr.length∧ns.Pairwise (· < ·)∧(∀x∈ns,0≤x∧x<n)∧ns.length≤f * 200+i∧Kn H H1 [] []∧
    lk 1 e1=.c (.sl flo 1 (ovOf n g n))∧lk 2 e1=.c (.int .i64 b)∧lk 3 e1=.c (.pp [.int .i64 q.params,.int .i64 q.regs,.sl fl 5 (Qm q.blocks)])∧lk 7 e1=.c (.sl fo 1 (Qe ns))∧lk 8 e1=.c (.int .i64 f)∧lk 9 e1=.c (.sl false 1 (Qe pr))∧lk 10 e1=.c (.int .i64 i)) pr.length ?_ ?_)
   ·exact⟨0,fo,ns,by omega,by omega,ha,hns,by omega,kn,rfl,rfl,rfl,rfl,rfl,rfl,rfl⟩
   ·clear kn ha hns hnl l1 l2 l3 l7 l8;clear ns fo;rintro m2 e2 H3 ⟨i,fo,ns,hm2,hi,ha,hns,hnl,kn,l1,l2,l3,l7,l8,l9,l10⟩;refine Q5 ?_;refine Qa ?_;simp only[go_sem,l1,l2,l3,l7,l8,l9,l10,Qg];try intro _
    refine Qh (Qd rfl ?_ ?_)
    ·intro hc2;have hlt2:i<pr.length:=(by simpa using hc2);obtain⟨p,hp1,hp2⟩:=hpg i hlt2;have hpd:p<(Qh6 n g b).length:=(by rw[Qfw];exact hp2);have hfd:f<(Qh6 n g b).length:=(by rw[Qfw];exact hlt);refine Qi ?_;try simp only[go_sem]
     refine Qcq (fun e2 H2=>∃(fo:Bool) (ns:List Int),ns.Pairwise (· < ·)∧(∀x∈ns,0≤x∧x<n)∧ns.length≤f * 200+(i+1)∧Kn H H2 [] []∧
      lk 1 e2=.c (.sl flo 1 (ovOf n g n))∧lk 2 e2=.c (.int .i64 b)∧lk 3 e2=.c (.pp [.int .i64 q.params,.int .i64 q.regs,.sl fl 5 (Qm q.blocks)])∧lk 7 e2=.c (.sl fo 1 (Qe ns))∧lk 8 e2=.c (.int .i64 f)∧lk 9 e2=.c (.sl false 1 (Qe pr))∧lk 10 e2=.c (.int .i64 i)) ?_ ?_
     ·intro Q hnr _ _;refine Qc ?_;refine Qak ?_;simp only[go_sem,l1,l2,l3,l7,l8,l9,l10,hb,Qwb,Qafv hb,hlt2,Qg,Q0 _ _ hlt2,hp1,hp2,hlt,Qfw,Qy,Q4 _ _ hpd,Q4 _ _ hfd];refine Qd rfl ?_ ?_
      ·intro _;refine Qq ?_;simp only[go_sem];refine Qv9 ha (by omega) fun fl2 ns2 H4 hu ha2 hm2' hl2=>?_;have kn:=kn.call0 hu;simp only[go_sem,Qo8];refine hnr _ _ ⟨fl2,ns2,ha2,fun x hx=>?_,by omega,kn,rfl,rfl,rfl,rfl,rfl,rfl,rfl⟩;rcases (hm2' x).1 hx with rfl|hx
       ·omega
       ·exact hns x hx
      ·intro _;refine Qi ?_;try simp only[go_sem]
       exact hnr _ _ ⟨fo,ns,ha,hns,by omega,kn,rfl,rfl,rfl,rfl,rfl,rfl,rfl⟩
     ·rintro e3 H4 ⟨fo,ns,ha,hns,hnl,kn,l1,l2,l3,l7,l8,l9,l10⟩;refine Qq ?_;simp only[go_sem,l1,l2,l3,l7,l8,l9,l10];refine⟨Qp (by omega) (by omega),?_⟩;show ∃m,_;exact⟨pr.length-(i+1),by omega,i+1,fo,ns,rfl,by omega,ha,hns,hnl,kn,rfl,rfl,rfl,rfl,rfl,rfl,rfl⟩
    ·intro hc2;refine Qs ?_;simp only[go_sem,X.next];refine Qq ?_;simp only[go_sem,l1,l2,l3,l7,l8];refine⟨Qp (by omega) (by omega),?_⟩;show ∃m,_;exact⟨n-(f+1),by omega,f+1,fo,ns,rfl,by omega,ha,hns,by omega,kn,rfl,rfl,rfl,rfl,rfl⟩
  ·intro hc;refine Qs ?_;simp only[go_sem,X.next];refine Qa ?_;simp only[go_sem,l7];refine Qk ?_;simp only[go_sem,Q7,Qad,Q11,Jg,forall_eq,RS.op];have h0:∀x∈ns,0≤x:=fun x hx=>(hns x hx).1;rw[Qafr h0];refine⟨_,.c _ _ (FrzR.same (Qat _)).sl,hK false _ _ kn.fin (Qr1 h0 ha) fun x hx=>?_⟩;obtain⟨v,hv,rfl⟩:=Jm.1 hx;have:=hns v hv;omega
set_option maxHeartbeats 2000000 in
theorem Qal4 {fl flo fll:Bool}{ls:List Nat}(ho:q.ok)(hls:ls.length≤1000000)
  (hK:∀(fs:List Nat) H',Upd H H' []→fs.Pairwise (· < ·)→(∀x∈fs,x<q.blocks.length)→K (.c (.sl false 1 (Q1 fs))) H') :
  Qu prog Qif [.ag [.int .i64 q.params,.int .i64 q.regs,.sl fl 5 (Qm q.blocks)],.c (.sl flo 1 (ovOf q.blocks.length (nxN (gnx q)) q.blocks.length)),.c (.sl fll 1 (Q1 ls))] H K:=by
 have hb1:=ho.b1;obtain⟨n,hn⟩:∃n,q.blocks.length=n:=⟨_,rfl⟩;obtain⟨OV,hOV⟩:∃OV,ovOf q.blocks.length (nxN (gnx q)) q.blocks.length=OV:=⟨_,rfl⟩;have hOVl:OV.length=n:=by rw[←hOV,Qwb,hn]
 rw[hn]at hb1 hK;rw[hOV];refine Qt ?_;refine Qb Qam Qamg ?_;refine Qa ?_;simp only[go_sem];refine Qa ?_;simp only[go_sem];refine Qa ?_;simp only[go_sem];refine⟨.inl trivial,Qat _,by rw[Qz];simp only[LIM];omega,fun y0 hy0 H1 h1=>?_⟩;have kn:Kn H H1 [] ([]++[(y0,.vec 1 (Q1 ls))]):=(Kn.start0 H).al hy0 h1;obtain⟨wc0,hwc⟩:∃wc0,C.vsl y0 1 0 (0+(Q1 ls).length)=wc0:=⟨_,rfl⟩;have hq0:Gq [(y0,.vec 1 (Q1 ls))] ls wc0:=by rw[←hwc];exact Gr.gq (.mk _ _ _ (by omega))
 have hw0:=hq0.isOw;rw[hwc];simp only[go_sem,Qmo,hw0];refine Qh (Qc (Qv (fun m e1 H1=>∃(O:List Int) (W:List Nat) (fo:Bool) (wc:C) (Lg:List (Nat×Obj)),m=W.length+2 * (n-O.length)∧W.length+2 * (n-O.length)≤ls.length+2 * n∧O.Pairwise (· < ·)∧(∀x∈O,0≤x∧x<n)∧Gq Lg W wc∧Kn H H1 [] ([]++Lg)∧
  lk 1 e1=.c (.sl flo 1 OV)∧lk 3 e1=.c (.pp [.int .i64 q.params,.int .i64 q.regs,.sl fl 5 (Qm q.blocks)])∧lk 7 e1=.c (.sl fo 1 (Qe O))∧lk 8 e1=.c wc) (ls.length+2 * n) ?_ ?_))
 ·exact⟨[],ls,true,wc0,[(y0,.vec 1 (Q1 ls))],by simp,by simp,by simp,by simp,hq0,kn,rfl,rfl,rfl,rfl⟩
 ·clear kn hq0 hw0 hwc h1 hy0;rintro m e1 H2 ⟨O,W,fo,wc,Lg,hm,hWl,ha,hO,hq,kn,l1,l3,l7,l8⟩;have hqw:=hq.isOw;obtain⟨hqok,hqr⟩:=hq.get kn;have hqok:=eq_true hqok;have hql:=hq.lenC;have hqs:=hq.elemSz;refine Q5 ?_;refine Qa ?_;simp only[go_sem,l1,l3,l7,l8,hqw,hqok,hql];try intro _
  refine Qh (Qd rfl ?_ ?_)
  ·intro hc2;obtain⟨b,W,rfl⟩:∃b W',W=b::W':=by
    cases W with
    |nil=>simp at hc2
    |cons b W=>exact⟨b,W,rfl⟩
   have hr0:(Q1 (b::W)).getD 0 []=[.int .i64 (b:Int)]:=rfl;obtain⟨wc2,hsli,hq2⟩:∃wc2,sliC (some 1) none wc=wc2∧Gq Lg W wc2:=by
    refine⟨_,rfl,?_⟩;rcases hq with ⟨_,h,_⟩|⟨z,st,R,rfl,rfl,h3,h4⟩
    ·simp at h
    ·refine .inr ⟨z,st+1,R,?_,rfl,?_,by simp at h4;omega⟩
     ·simp[sliC]
     ·have:=congrArg (List.drop 1) h3;rw[←List.drop_drop,List.drop_take]at *;simp only[Jk,Nat.add_sub_cancel]at this;rw[this];rfl
   refine Qi ?_;try simp only[go_sem]
   refine Qc ?_;refine Qa ?_;simp only[go_sem,l1,l3,l7,l8,hqw,hqok,hqr,hqs,hql,hr0,Nat.succ_pos,Jk]
   first|refine⟨by omega,?_⟩|skip
   refine Qa ?_;simp only[go_sem,hqw,hqok,hqs,hql,hsli,Jk];refine⟨⟨by omega,by omega,by omega⟩,?_⟩;have hqw2:=hq2.isOw;simp only[Jk]at hWl hm;refine Q5 ?_;refine Qa ?_;simp only[go_sem,hqw2,hOVl];try intro _
   refine⟨Qp (by omega) (by omega),?_⟩;refine Qdc ?_;simp only[go_sem,Qmp,hqw2];refine Qh (Qd rfl ?_ ?_)
   ·intro _;refine Qs ?_;show ∃m,_;exact⟨W.length+2 * (n-O.length),by omega,O,W,fo,wc2,Lg,rfl,by omega,ha,hO,hq2,kn,rfl,rfl,rfl,rfl⟩
   ·intro hc3;have hbn:b<n:=by
     have:=Qfg hc3;have:=of_decide_eq_true this;omega
    refine Qi ?_;try simp only[go_sem]
    refine Qa ?_;simp only[go_sem,hqw2];rw[←hOV];refine Qart ho (by rw[hn];exact hbn) fun flf fs H3 hu hfa hfn=>?_;rw[hOV];rw[hn]at hfn;have kn:=kn.call0 hu;have hfl:=Qaeh hfa hfn;simp only[go_sem,Qmq,hqw2];refine Qa ?_;simp only[go_sem,hqw2];refine Qc (Qv (fun m2 e1 H1=>∃(i:Nat) (O2:List Int) (W:List Nat) (fo:Bool) (wc:C) (Lg:List (Nat×Obj)),m2=fs.length-i∧i≤fs.length∧W.length+2 * (n-O2.length)<m∧O2.Pairwise (· < ·)∧(∀x∈O2,0≤x∧x<n)∧Gq Lg W wc∧Kn H H1 [] ([]++Lg)∧
     lk 1 e1=.c (.sl flo 1 OV)∧lk 3 e1=.c (.pp [.int .i64 q.params,.int .i64 q.regs,.sl fl 5 (Qm q.blocks)])∧lk 7 e1=.c (.sl fo 1 (Qe O2))∧lk 8 e1=.c wc∧lk 10 e1=.c (.sl flf 1 (Q1 fs))∧lk 11 e1=.c (.int .i64 i)) fs.length ?_ ?_)
    ·exact⟨0,O,W,fo,wc2,Lg,by omega,by omega,by omega,ha,hO,hq2,kn,rfl,rfl,rfl,rfl,rfl,rfl⟩
    ·clear kn hq2 hqw2 hqok hqr hql hqs hqw hq hsli ha hO l1 l3 l7 l8;have hmb:m≤ls.length+2 * n:=(by omega);clear hm hWl;rintro m2 e2 H4 ⟨i,O,W,fo,wc,Lg,hm2,hi,hWl,ha,hO,hq,kn,l1,l3,l7,l8,l10,l11⟩;have hqw:=hq.isOw;refine Q5 ?_;refine Qa ?_;simp only[go_sem,l1,l3,l7,l8,l10,l11,hqw,Qz];try intro _
     refine Qh (Qd rfl ?_ ?_)
     ·intro hc4;have hlt:i<fs.length:=(by simpa using hc4);obtain⟨f,hf⟩:∃f,fs[i]=f:=⟨_,rfl⟩;have hfg:fs.getD i 0=f:=(by simp[Ja,hlt,hf]);have hfn2:f<n:=(by rw[←hf];exact hfn _ (Jb hlt));have hO0:∀x∈O,0≤x:=fun x hx=>(hO x hx).1;have hOl:O.length≤n:=by
       have:=Qaeh (n:=n) (Qr1 hO0 ha) fun x hx=>by
        obtain⟨v,hv,rfl⟩:=Jm.1 hx;have:=hO v hv;omega
       simpa using this
      refine Qi ?_;try simp only[go_sem]
      refine Qcq (fun e1 H1=>∃(O:List Int) (W:List Nat) (fo:Bool) (wc:C) (Lg:List (Nat×Obj)),W.length+2 * (n-O.length)<m∧O.Pairwise (· < ·)∧(∀x∈O,0≤x∧x<n)∧Gq Lg W wc∧Kn H H1 [] ([]++Lg)∧
       lk 1 e1=.c (.sl flo 1 OV)∧lk 3 e1=.c (.pp [.int .i64 q.params,.int .i64 q.regs,.sl fl 5 (Qm q.blocks)])∧lk 7 e1=.c (.sl fo 1 (Qe O))∧lk 8 e1=.c wc∧lk 10 e1=.c (.sl flf 1 (Q1 fs))∧lk 11 e1=.c (.int .i64 i)) ?_ ?_
      ·intro Q hnr _ _;refine Qc ?_;refine Qa ?_;simp only[go_sem,l1,l3,l7,l8,l10,l11,hqw,hlt,Qz,Qai _ _ hlt,hfg];refine Qafc (ns:=O) (.mk' _ _ _ _) rfl fun r hr=>?_;simp only[go_sem,Qmr,hqw];refine Qd rfl ?_ ?_
       ·intro hc5;have hneg:r<0:=(by simpa using hc5);have hnin:(f:Int)∉O:=by
         rcases hr with ⟨_,h⟩|⟨i,rfl,_⟩
         ·exact h
         ·omega
        refine Qa ?_;simp only[go_sem,hqw,hlt,Qz,Qai _ _ hlt,hfg];refine Qv9 ha (by omega) fun fl2 O2 H5 hu ha2 hm2' hl2=>?_;have kn:=kn.call0 hu;have hO2l:O2.length=O.length+1:=by
         have h1:((f:Int)::O).Nodup:=Jba.2 ⟨hnin,ha.imp fun h=>by omega⟩;have h2:((f:Int)::O) ⊆ O2:=fun x hx=>by
          rw[hm2'];rcases J3.1 hx with h|h
          ·exact .inl h
          ·exact .inr h
         have:=Jas h1 h2;simp only[Jk]at this;omega
        have hO2:∀x∈O2,0≤x∧x<n:=fun x hx=>by
         rcases (hm2' x).1 hx with rfl|hx
         ·omega
         ·exact hO x hx
        have hO2n:O2.length≤n:=by
         have:=Qaeh (n:=n) (Qr1 (fun x hx=>(hO2 x hx).1) ha2) fun x hx=>by
          obtain⟨v,hv,rfl⟩:=Jm.1 hx;have:=hO2 v hv;omega
         simpa using this
        simp only[go_sem,Qms,hqw];refine Qq ?_;simp only[go_sem,hqw,hlt,Qz,Qai _ _ hlt,hfg];refine Kn.growQ kn (new:=[f]) hq (.mk' _ _ _ _) (by simp only[LIM,Jk,Jl];omega) fun wc2 Lg2 H6 hq2 hw2 kn=>?_;simp only[go_sem,Qmt,hw2];refine hnr _ _ ⟨O2,W++[f],fl2,wc2,Lg2,by simp only[Jag,Jk,Jl];omega,ha2,hO2,hq2,kn,rfl,rfl,rfl,rfl,rfl,rfl⟩
       ·intro _;refine Qi ?_;try simp only[go_sem]
        exact hnr _ _ ⟨O,W,fo,wc,Lg,hWl,ha,hO,hq,kn,rfl,rfl,rfl,rfl,rfl,rfl⟩
      ·rintro e3 H5 ⟨O,W,fo,wc,Lg,hWl,ha,hO,hq,kn,l1,l3,l7,l8,l10,l11⟩;have hqw:=hq.isOw;refine Qq ?_;simp only[go_sem,l1,l3,l7,l8,l10,l11,hqw];refine⟨Qp (by omega) (by omega),?_⟩;show ∃m,_;exact⟨fs.length-(i+1),by omega,i+1,O,W,fo,wc,Lg,rfl,by omega,hWl,ha,hO,hq,kn,rfl,rfl,rfl,rfl,rfl,rfl⟩
     ·intro _;refine Qs ?_;show ∃m,_;exact⟨_,hWl,O,W,fo,wc,Lg,rfl,by omega,ha,hO,hq,kn,rfl,rfl,rfl,rfl⟩
  ·intro _;refine Qs ?_;simp only[go_sem,X.next];refine Qa ?_;simp only[go_sem,l7];refine Qk ?_;simp only[go_sem,Q7,Qad,Qxw,Jg,forall_eq,RS.op];have h0:∀x∈O,0≤x:=fun x hx=>(hO x hx).1;rw[Qafr h0];refine⟨_,.c _ _ (FrzR.same (Qat _)).sl,hK _ _ kn.fin (Qr1 h0 ha) fun x hx=>?_⟩;obtain⟨v,hv,rfl⟩:=Jm.1 hx;have:=hO v hv;omega
end Go.AE.Y
namespace Go.AE.Y
attribute [local go_sem] cond_true cond_false Bool.not_true Bool.not_false
open Go.Proofs.Tryz
variable {H H0:Heap}{K:V→Heap→Prop}{E B Lg:List (Nat×Obj)}{q:CodeD}{S:Nat→Bool}
theorem OBlk.frzD (x:OBlk)(hok:x.ok)(h:Held H S x.lg):FrzL H S x.row x.d.cells:=
 .cons (Gr.frzM hok.p h.r.r.l (Qafw hok.a h.r.l)) (.cons (Gr.frzM hok.i h.r.r.r.r (Qars h.r.r.r.l)) (.cons (Qf rfl) (.cons (Qf rfl) (.cons (x.nx.frz h.l) .nil))))
theorem OBlks.frzD {os:List OBlk}(hok:∀b∈os,b.ok)(h:Held H S (os.flatMap OBlk.lg)):FrzR H S (os.map OBlk.row) (Qm (os.map OBlk.d)):=by
 rw[Qm,Jap];exact Qhq os fun x hx=>x.frzD (hok x hx) (h.m hx)
theorem Qbm7 {r:Nat}{p:Plc}(h:p∈Qbb6 q r):∃b:Nat,p.1=(b:Int)∧b<q.blocks.length:=by
 simp only[Qbb6,Qgv,Jr,Jab]at h;obtain⟨b,hb,h⟩:=h;refine⟨b,?_,hb⟩;simp only[blS,phS,inS,Jo,Jm]at h;rcases h with ⟨_,_,rfl⟩|⟨_,_,rfl⟩ <;> rfl
theorem Qaq9:(Qkn q).length=q.regs.toNat:=by simp[Qkn]
theorem Qbb7 {r:Nat}(h:r<q.regs.toNat):(Qkn q).getD r []=[.sl false 1 (Qca (Qbb6 q r))]:=by simp[Qkn,Ja,h]
structure PhS (q:CodeD)(k:Nat→Nat)(os:List OBlk):Prop where
 n:os.length=q.blocks.length
 ok:∀b∈os,b.ok
 d:∀j (h:j<os.length) (h':j<q.blocks.length),os[j].d.ins=q.blocks[j].ins∧os[j].jump=q.blocks[j].jump∧os[j].on=q.blocks[j].on∧os[j].nx.ns=q.blocks[j].next
 p:∀j (h:j<os.length),∀p∈os[j].phis,rIn q p.to∧(∀v∈p.ns,rIn q v)∧p.ns.length=(Qac (gnx q) (j:Int) q.blocks.length).length
 l:∀j (h:j<os.length) (h':j<q.blocks.length),os[j].phis.length≤q.blocks[j].phis.length+k j
variable {k k':Nat→Nat}{os:List OBlk}
theorem PhS.up (h:PhS q k os)(hk:∀j,k j≤k' j):PhS q k' os:=⟨h.n,h.ok,h.d,h.p,fun j h1 h2=>by have:=h.l j h1 h2;have:=hk j;omega⟩
theorem Qbp3 (ho:q.ok){o:OCode}(hok:o.ok)(hd:o.d=q):PhS q (fun _=>0) o.blocks:=by
 have hb:o.blocks.map OBlk.d=q.blocks:=by rw[←hd];rfl
 have hl:o.blocks.length=q.blocks.length:=by rw[←hb,Jd]
 have hg:∀j (h:j<o.blocks.length) (h':j<q.blocks.length),o.blocks[j].d=q.blocks[j]:=fun j h h'=>by
  have h1:(o.blocks.map OBlk.d)[j]? = some o.blocks[j].d:=by simp[h]
  rw[hb,Je h']at h1;exact (Jad h1).symm
 refine⟨hl,hok.bs,fun j h h'=>by rw[←hg j h h'];exact⟨rfl,rfl,rfl,rfl⟩,fun j h p hp=>?_,fun j h h'=>?_⟩
 ·have h':j<q.blocks.length:=by omega
  have o1:=ho.bs j h';rw[←hg j h h']at o1;have hm:p.d∈o.blocks[j].d.phis:=Jm.2 ⟨p,hp,rfl⟩;exact⟨o1.pto _ hm,o1.pargs _ hm,o1.pal _ hm⟩
 ·rw[←hg j h h'];simp[OBlk.d]
theorem PhS.step {b:Nat}(h:PhS q k os)(hb:b<os.length){o:OBlk}(hob:os[b]=o){p:OPhi}{pc:C}{pl:List (Nat×Obj)}(hp:p.ok)(hg:Gr pl 2 ((p::o.phis).map OPhi.row) pc)
  (h1:rIn q p.to) (h2:∀v∈p.ns,rIn q v) (h3:p.ns.length=(Qac (gnx q) (b:Int) q.blocks.length).length) (hk:∀j,k' j=if j=b then k j+1 else k j) :
  PhS q k' (os.set b ⟨p::o.phis,pc,pl,o.ins,o.ic,o.il,o.jump,o.on,o.nx⟩):=by
 subst hob;have hok:=h.ok _ (Jb hb);refine⟨by rw[Jq];exact h.n,fun w hw=>?_,fun j hj hj'=>?_,fun j hj x hx=>?_,fun j hj hj'=>?_⟩
 ·rcases J0 hw with hw|rfl
  ·exact h.ok w hw
  ·refine⟨hg,hok.i,fun x hx=>?_⟩;rcases J3.1 hx with rfl|hx
   ·exact hp
   ·exact hok.a x hx
 ·have hjl:j<os.length:=by simpa using hj
  have hd:=h.d j hjl hj';rw[J7];split
  ·rename_i e;subst e;exact hd
  ·exact hd
 ·have hjl:j<os.length:=by simpa using hj
  rw[J7]at hx;split at hx
  ·rename_i e;subst e
   rcases J3.1 hx with rfl|hx
   ·exact⟨h1,h2,h3⟩
   ·exact h.p _ hjl x hx
  ·exact h.p j hjl x hx
 ·have hjl:j<os.length:=by simpa using hj
  have hl:=h.l j hjl hj';rw[J7,hk];split
  ·rename_i e;subst e;rw[if_pos rfl];show (p::os[b].phis).length≤_;simp only[Jk];omega
  ·rename_i e;rw[if_neg (fun h=>e h.symm)];exact hl
theorem PhS.fin (ho:q.ok)(h:PhS q k os)(hk:∀j (hj:j<q.blocks.length),q.blocks[j].phis.length+k j≤1200):(CodeD.mk q.params q.regs (os.map OBlk.d)).ok:=by
 obtain⟨d,hd⟩:∃d:CodeD,d=⟨q.params,q.regs,os.map OBlk.d⟩:=⟨_,rfl⟩;rw[←hd];have hl:d.blocks.length=q.blocks.length:=by rw[hd];simpa using h.n
 have hget:∀j (h1:j<d.blocks.length) (h2:j<os.length),d.blocks[j]=os[j].d:=fun j h1 h2=>by subst hd;simp
 have hmap:d.blocks.map BlkD.next=q.blocks.map BlkD.next:=Jaw (by simp[hl]) fun j h1 h2=>by
  simp only[Jd]at h1 h2;have h3:j<os.length:=by rw[h.n];exact h2
  simp only[Jax,hget j h1 h3];exact (h.d j h3 h2).2.2.2
 have hg:gnx d=gnx q:=by funext i;rw[gnx,gnx,hmap]
 have hr:∀v,rIn q v→rIn d v:=fun v hv=>by simp only[rIn,hd]at hv⊢;exact hv
 have hrg:d.regs=q.regs:=by rw[hd]
 refine⟨by rw[hrg];exact ho.r0,by rw[hrg];exact ho.r1,by rw[hl];exact ho.b0,by rw[hl];exact ho.b1,fun b hb=>?_,fun b hb=>?_⟩
 ·have h2:b<q.blocks.length:=by omega
  have h3:b<os.length:=by rw[h.n];exact h2
  have o:=ho.bs b h2;obtain⟨e1,e2,e3,e4⟩:=h.d b h3 h2;have hp:=h.p b h3;rw[hget b hb h3];have hph:∀p∈os[b].d.phis,rIn q p.to∧(∀v∈p.args,rIn q v)∧p.args.length=(Qac (gnx q) (b:Int) q.blocks.length).length:=fun p hp'=>by
   obtain⟨x,hx,rfl⟩:=Jm.1 hp';exact hp x hx
  refine⟨by show os[b].nx.ns.length≤2;rw[e4];exact o.nxl,fun v hv=>by rw[hl];exact o.nx v (by rw[←e4];exact hv),by show os[b].jump=1∨os[b].jump=2∨os[b].jump=3;rw[e2];exact o.jmp,fun hj=>?_,
   fun x hx v hv=>hr _ (o.args x (by rw[←e1];exact hx) v hv),fun x hx hm=>hr _ (o.to x (by rw[←e1];exact hx) hm),fun p hp=>hr _ (hph p hp).1,fun p hp v hv=>hr _ ((hph p hp).2.1 v hv),fun p hp=>by rw[hg,hl];exact (hph p hp).2.2,
   fun x hx=>o.al x (by rw[←e1];exact hx)⟩
  show rIn d os[b].on;rw[e3];exact hr _ (o.on (by rw[←e2];exact hj))
 ·have h2:b<q.blocks.length:=by omega
  have h3:b<os.length:=by rw[h.n];exact h2
  have o:=ho.il b h2;have e1:=(h.d b h3 h2).1;have:=h.l b h3 h2;have:=hk b h2;rw[hget b hb h3,e1];refine⟨o.1,?_⟩;simp only[OBlk.d,Jd];omega
theorem Qbc3 {l:List Nat}(h:l.Nodup){i:Nat}(hi:i<l.length):l[i]∉l.take i:=fun hh=>by
 obtain⟨j,hj,he⟩:=Js.1 hh;rw[Jay]at hj;rw[List.getElem_take]at he;have hj2:j<l.length:=by omega
 have:=(List.getElem?_inj hj2 h (j:=i)).1 (by rw[Je hj2,Je hi,he]);omega
def OBlk.rst (o:OBlk):List (Nat×Obj):=o.nx.lg++(o.phis.flatMap OPhi.lg++(o.ins.flatMap OIns.lg++o.il))
theorem OBlk.lg_perm (o:OBlk):o.lg.Perm (o.rst++o.pl):=Qn fun f hf h0 hc hp=>by simp only[hf,OBlk.lg,OBlk.rst];omega
set_option maxHeartbeats 8000000 in
theorem Qbja (ho:q.ok)(hph:∀y∈q.blocks,y.phis.length≤900)(hK:∀(d:CodeD) H',d.ok→d.params=q.params→d.regs=q.regs→Upd H H' []→K (.ag d.cells) H') :
  Qu prog Q5b [.ag [.int .i64 q.params,.int .i64 q.regs,.sl false 5 (Qm q.blocks)]] H K:=by
 have hr0:=ho.r0;have hr1:=ho.r1;have hb0:=ho.b0;have hb1:=ho.b1;obtain⟨n,hn⟩:∃n,q.blocks.length=n:=⟨_,rfl⟩;obtain⟨R,hR⟩:∃R:Nat,q.regs.toNat=R:=⟨_,rfl⟩;have hRq:q.regs=(R:Int):=by omega
 have hgf:=Qa43 ho.gd;refine Qt ?_;refine Qb Qam Qbj3 ?_;refine Qa ?_;simp only[go_sem];intro x2 hx2 H1 h1;have kn:=(Kn.start0 H).al hx2 h1;refine Qa ?_;simp only[go_sem];refine Qad7 ho.sg fun o H2 k2 hok hod _=>?_;have kn:=kn.comp0 k2;have hpar:o.params=q.params:=by rw[←hod];rfl
 have hreg:o.regs=q.regs:=by rw[←hod];rfl
 have hol:o.blocks.length=n:=by rw[←hn,←hod];simp[OCode.d]
 obtain⟨zb,hbc,hbl⟩:∃z,o.bc=.vsl z 5 0 n∧o.bl=[(z,.vec 5 (o.blocks.map OBlk.row))]:=by
  rcases hok.b with ⟨_,h,_⟩|⟨y,h1,h2⟩
  ·have:=congrArg List.length h;simp only[Jd,Jl]at this;omega
  ·exact⟨y,by rw[h1,Jd,hol],h2⟩
 have hrow:o.row=[.int .i64 q.params,.int .i64 q.regs,.vsl zb 5 0 n]:=by rw[OCode.row,hpar,hreg,hbc]
 have hP:=Qbp3 ho hok hod;have hlg:o.lg=o.blocks.flatMap OBlk.lg++[(zb,.vec 5 (o.blocks.map OBlk.row))]:=by rw[OCode.lg,hbl]
 rw[hlg]at kn;rw[hrow];generalize o.blocks=os0 at *;clear hok hod hpar hreg hrow hlg hbc hbl k2;simp only[go_sem,Q9p];intro x3 hx3 H3 h3;have kn:=(kn.al hx3 h3).perm Jy;have hx3:=kn.l 0 rfl;simp only[go_sem,Q9o,hx3];intro H4 h4;have kn:Kn H H4 [] ([(x3,.st [.int .i64 q.params,.int .i64 q.regs,.vsl zb 5 0 n])]++([(x2,.st [.int .i64 0,.int .i64 0,.sl true 5 []])]++(os0.flatMap OBlk.lg++[(zb,.vec 5 (os0.map OBlk.row))]))):=kn.stL 0 rfl h4;refine Qa ?_;simp only[go_sem];refine Qawj (rows:=Qm q.blocks) (nx:=gnx q) hgf (by rw[Qj];exact ho.fitB) fun H5 hu=>?_;have kn:=kn.call0 hu;rw[Qj];simp only[go_sem,Q9q];refine Qa ?_;simp only[go_sem];refine Qawk ho (.sl _ _ _ _) fun zi zo H6 hu hlv=>?_;have kn:=kn.call0 hu;simp only[go_sem,Q9s];intro x5 hx5 H7 h7;have kn:=(kn.al hx5 h7).perm Jy;have hx5:=kn.l 0 rfl;simp only[go_sem,Q9r,hx5];intro H8 h8;have kn:Kn H H8 [] (([(x3,.st [.int .i64 q.params,.int .i64 q.regs,.vsl zb 5 0 n]),(x2,.st [.int .i64 0,.int .i64 0,.sl true 5 []]),(x5,.st [.sl false 1 (Qzo zi),.sl false 1 (Qzo zo)])]++[(zb,.vec 5 (os0.map OBlk.row))])++os0.flatMap OBlk.lg):=
  (kn.stL 0 rfl h8).perm (Qn fun f hf h0 hc hp=>by
   have e3:∀(a b c:Nat×Obj),f [a,b,c]=f [a]+f [b]+f [c]:=fun a b c=>by rw[hc a [b,c],hc b [c]];omega
   show f ([(x5,_)]++_)=_;simp only[hf,e3];omega)
 obtain⟨XL,hX⟩:∃XL,[(x3,Obj.st [.int .i64 q.params,.int .i64 q.regs,.vsl zb 5 0 n]),(x2,.st [.int .i64 0,.int .i64 0,.sl true 5 []]),(x5,.st [.sl false 1 (Qzo zi),.sl false 1 (Qzo zo)])]=XL:=⟨_,rfl⟩;rw[hX]at kn;have gX:∀{H1:Heap} {A:List (Nat×Obj)},Kn H H1 [] (XL++A)→H1 x3=.st [.int .i64 q.params,.int .i64 q.regs,.vsl zb 5 0 n]∧H1 x5=.st [.sl false 1 (Qzo zi),.sl false 1 (Qzo zo)]:=fun {H1 A} k=>by
  rw[←hX]at k;exact⟨k.l 0 rfl,k.l 2 rfl⟩
 clear hx3 hx5 h8 h4 h1 hx2;refine Qa ?_;simp only[go_sem];refine Qbjb ho fun H9 hu=>?_;have kn:=kn.call0 hu;simp only[go_sem,Q9t];refine Q5 ?_;refine Qa ?_;simp only[go_sem];refine⟨Qp (by omega) (by omega),?_⟩;have hS0:PhS q (fun _=>0) os0:=hP;refine Qh (Qc (Qv (fun m e1 H1=>∃(r:Nat) (os:List OBlk),m=r∧r≤R∧PhS q (fun _=>R-r) os∧Kn H H1 [] ((XL++[(zb,.vec 5 (os.map OBlk.row))])++os.flatMap OBlk.lg)∧
  lk 1 e1=.c (.pp [.int .i64 q.params,.int .i64 q.regs,.sl false 5 (Qm q.blocks)])∧lk 2 e1=.c (.ptr x2 0)∧lk 3 e1=.c (.ptr x3 0)∧lk 4 e1=.c (.sl false 1 (ovOf q.blocks.length (nxN (gnx q)) q.blocks.length))∧lk 5 e1=.c (.ptr x5 0)∧lk 6 e1=.c (.sl false 1 (Qkn q))∧lk 7 e1=.c (.int .i64 ((r:Int)-1))) R ?_ ?_))
 ·exact⟨R,os0,rfl,by omega,hS0.up fun j=>by simp,kn,rfl,rfl,rfl,rfl,rfl,rfl,by simp only[lk,hRq];rfl⟩
 ·clear kn hS0 hP;rintro m e1 H10 ⟨r,os,rfl,hrR,hS,kn,l1,l2,l3,l4,l5,l6,l7⟩;refine Q5 ?_;refine Qa ?_;simp only[go_sem,l1,l2,l3,l4,l5,l6,l7];refine Qh (Qd rfl ?_ ?_)
  ·intro hc;have hge:(0:Int)≤(m:Int)-1:=by simpa using hc
   obtain⟨r,rfl⟩:∃r,m=r+1:=⟨m-1,by omega⟩;have er:((r+1:Nat):Int)-1=(r:Int):=by omega
   rw[er];have hrlt:r<R:=by omega
   have hrR2:r<q.regs.toNat:=by omega
   refine Qi ?_;try simp only[go_sem]
   refine Qh (Qc ?_);refine Qa ?_;simp only[go_sem];refine Q5 ?_;refine Qa ?_;simp only[go_sem];refine Qcq (fun e2 H2=>∃(fo:Bool) (ns:List Int),H2=H10∧ns.Pairwise (· < ·)∧(∀x∈ns,0≤x∧x<n)∧
    lk 1 e2=.c (.pp [.int .i64 q.params,.int .i64 q.regs,.sl false 5 (Qm q.blocks)])∧lk 2 e2=.c (.ptr x2 0)∧lk 3 e2=.c (.ptr x3 0)∧lk 4 e2=.c (.sl false 1 (ovOf q.blocks.length (nxN (gnx q)) q.blocks.length))∧lk 5 e2=.c (.ptr x5 0)∧lk 6 e2=.c (.sl false 1 (Qkn q))∧lk 7 e2=.c (.int .i64 r)∧lk 8 e2=.c (.sl fo 1 (Qe ns))) ?_ ?_
   ·intro Q hnr _ _;refine Qd rfl ?_ ?_
    ·intro _;refine Qq ?_;simp only[go_sem];refine hnr _ _ ⟨true,[0],rfl,by simp,?_,rfl,rfl,rfl,rfl,rfl,rfl,rfl,rfl⟩;intro x hx;simp only[Jg]at hx;subst hx;omega
    ·intro _;refine Qi ?_;try simp only[go_sem]
     exact hnr _ _ ⟨true,[],rfl,by simp,by simp,rfl,rfl,rfl,rfl,rfl,rfl,rfl,rfl⟩
   rintro e2 H2 ⟨fo,ns,rfl,ha,hns,l1,l2,l3,l4,l5,l6,l7,l8⟩;refine Q5 ?_;refine Qa ?_;simp only[go_sem,l1,l2,l3,l4,l5,l6,l7,l8];have hsm:∀i (h:i<(Qbb6 q r).length),∃b:Nat,(Qbb6 q r)[i].1=(b:Int)∧b<n:=fun i h=>by rw[←hn];exact Qbm7 (Jb h)
   obtain⟨sl,hsl⟩:∃sl,Qbb6 q r=sl:=⟨_,rfl⟩;have hsg:=Qbb7 hrR2;rw[hsl]at hsg hsm;refine Qh (Qc (Qv (fun m2 e1 H1=>∃(i:Nat) (fo:Bool) (ns:List Int),m2=sl.length-i∧i≤sl.length∧ns.Pairwise (· < ·)∧(∀x∈ns,0≤x∧x<n)∧Kn H H1 [] ((XL++[(zb,.vec 5 (os.map OBlk.row))])++os.flatMap OBlk.lg)∧
    lk 1 e1=.c (.pp [.int .i64 q.params,.int .i64 q.regs,.sl false 5 (Qm q.blocks)])∧lk 2 e1=.c (.ptr x2 0)∧lk 3 e1=.c (.ptr x3 0)∧lk 4 e1=.c (.sl false 1 (ovOf q.blocks.length (nxN (gnx q)) q.blocks.length))∧lk 5 e1=.c (.ptr x5 0)∧lk 6 e1=.c (.sl false 1 (Qkn q))∧lk 7 e1=.c (.int .i64 r)∧lk 8 e1=.c (.sl fo 1 (Qe ns))∧lk 9 e1=.c (.int .i64 i)) sl.length ?_ ?_))
   ·exact⟨0,fo,ns,by omega,by omega,ha,hns,kn,rfl,rfl,rfl,rfl,rfl,rfl,rfl,rfl,rfl⟩
   ·clear kn ha hns l1 l2 l3 l4 l5 l6 l7 l8;rintro m2 e3 H11 ⟨i,fo,ns,hm2,hi,ha,hns,kn,l1,l2,l3,l4,l5,l6,l7,l8,l9⟩;have hns0:∀x∈ns,0≤x:=fun x hx=>(hns x hx).1;have hnsl:ns.length≤n:=by
     have:=Qaeh (n:=n) (Qr1 hns0 ha) fun x hx=>by
      obtain⟨v,hv,rfl⟩:=Jm.1 hx;have:=hns v hv;omega
     simpa using this
    refine Q5 ?_;refine Qa ?_;simp only[go_sem,l1,l2,l3,l4,l5,l6,l7,l8,l9,hrR2,Qaq9,hsg,Qdo];intro hlim;simp only[LIM]at hlim;refine Qh (Qd rfl ?_ ?_)
    ·intro hc2;have hlt:i<sl.length:=(by simpa using hc2);obtain⟨b,hb,hbn⟩:=hsm i hlt;refine Qi ?_;try simp only[go_sem]
     refine Qh (Qc ?_);refine Qq ?_;simp only[go_sem,hrR2,Qaq9,hsg,Qdo,hlt,Q5r _ _ hlt,pRow,hb,Jbe,Jbk];try simp only[go_sem,Jbe,Jbk,Jk,Jl]
     refine⟨Ja6 0,?_⟩;refine Qv9 ha (by omega) fun fl2 ns2 H12 hu ha2 hm2' hl2=>?_;have kn:=kn.call0 hu;simp only[go_sem,Q9u];refine Qq ?_;simp only[go_sem];refine⟨Qp (by omega) (by omega),?_⟩;show ∃m,_;refine⟨sl.length-(i+1),by omega,i+1,fl2,ns2,rfl,by omega,ha2,fun x hx=>?_,kn,rfl,rfl,rfl,rfl,rfl,rfl,rfl,rfl,by simp[lk]⟩;rcases (hm2' x).1 hx with rfl|hx
     ·omega
     ·exact hns x hx
    ·intro _;refine Qs ?_;simp only[go_sem,X.next];refine Qa ?_;simp only[go_sem,l1,l2,l3,l4,l5,l6,l7,l8];rw[Qafr hns0];refine Qal4 ho (by rw[Jd];omega) fun fs H12 hu hfa hfn=>?_;have kn:=kn.call0 hu;have hfl:=Qaeh hfa hfn;rw[hn]at hfl hfn;simp only[go_sem,Q3s];refine Qa ?_;simp only[go_sem];refine Qc (Qv (fun m2 e1 H1=>∃(i:Nat) (os:List OBlk),m2=fs.length-i∧i≤fs.length∧PhS q (fun j=>R-(r+1)+if j∈fs.take i then 1 else 0) os∧Kn H H1 [] ((XL++[(zb,.vec 5 (os.map OBlk.row))])++os.flatMap OBlk.lg)∧
      lk 1 e1=.c (.pp [.int .i64 q.params,.int .i64 q.regs,.sl false 5 (Qm q.blocks)])∧lk 2 e1=.c (.ptr x2 0)∧lk 3 e1=.c (.ptr x3 0)∧lk 4 e1=.c (.sl false 1 (ovOf q.blocks.length (nxN (gnx q)) q.blocks.length))∧lk 5 e1=.c (.ptr x5 0)∧lk 6 e1=.c (.sl false 1 (Qkn q))∧lk 7 e1=.c (.int .i64 r)∧
      lk 10 e1=.c (.sl false 1 (Q1 fs))∧lk 11 e1=.c (.int .i64 i)) fs.length ?_ ?_)
     ·exact⟨0,os,by omega,by omega,hS.up fun j=>by simp,kn,rfl,rfl,rfl,rfl,rfl,rfl,rfl,rfl,rfl⟩
     ·have hfnd:fs.Nodup:=hfa.imp fun h=>(by omega);clear kn hS hfa ha hns hns0 hnsl l1 l2 l3 l4 l5 l6 l7 l8 l9;rintro m3 e4 H13 ⟨i,os,hm3,hi,hS,kn,l1,l2,l3,l4,l5,l6,l7,l10,l11⟩;refine Q5 ?_;refine Qa ?_;simp only[go_sem,l1,l2,l3,l4,l5,l6,l7,l10,l11,Qz];try intro _
      refine Qh (Qd rfl ?_ ?_)
      ·intro hc2;have hlt:i<fs.length:=(by simpa using hc2);obtain⟨b,hb⟩:∃b,fs[i]=b:=⟨_,rfl⟩;have hfg:fs.getD i 0=b:=(by simp[Ja,hlt,hb]);have hbn:b<n:=(by rw[←hb];exact hfn _ (Jb hlt));have hnotin:b∉fs.take i:=(by rw[←hb];exact Qbc3 hfnd hlt);have htk:∀j,j∈fs.take (i+1)↔j∈fs.take i∨j=b:=fun j=>by
        rw[Jp hlt,hb];simp
       have hbz:b<zi.length:=(by rw[hlv.1.i,hn];exact hbn);obtain⟨nd,hnd⟩:∃nd,zi[b].2=nd:=⟨_,rfl⟩;have hndl:r<nd.length:=(by rw[←hnd,hlv.1.li _ (Jb hbz)];exact hrR2);have hx5:=(gX (by rw[Jac]at kn;exact kn)).2;refine Qi ?_;try simp only[go_sem]
       refine Qcq (fun e2 H2=>∃(os:List OBlk),PhS q (fun j=>R-(r+1)+if j∈fs.take (i+1)then 1 else 0) os∧Kn H H2 [] ((XL++[(zb,.vec 5 (os.map OBlk.row))])++os.flatMap OBlk.lg)∧
        lk 1 e2=.c (.pp [.int .i64 q.params,.int .i64 q.regs,.sl false 5 (Qm q.blocks)])∧lk 2 e2=.c (.ptr x2 0)∧lk 3 e2=.c (.ptr x3 0)∧lk 4 e2=.c (.sl false 1 (ovOf q.blocks.length (nxN (gnx q)) q.blocks.length))∧lk 5 e2=.c (.ptr x5 0)∧lk 6 e2=.c (.sl false 1 (Qkn q))∧lk 7 e2=.c (.int .i64 r)∧
        lk 10 e2=.c (.sl false 1 (Q1 fs))∧lk 11 e2=.c (.int .i64 i)) ?_ ?_
       ·intro Q hnr _ _;refine Qc ?_;refine Q5 ?_;refine Qak ?_;simp only[go_sem,l1,l2,l3,l4,l5,l6,l7,l10,l11,hx5,hlt,Qz,Qai _ _ hlt,hfg,hbz,Qaxp,Qaqu _ _ hbz,hnd,hndl,Qy,Q4 _ _ hndl];refine Qh (Qd rfl ?_ ?_)
        ·intro _;refine Qs ?_;simp only[go_sem];refine hnr _ _ ⟨os,hS.up fun j=>?_,kn,rfl,rfl,rfl,rfl,rfl,rfl,rfl,rfl,rfl⟩;show _+_≤_+_;by_cases hj:j∈fs.take i
         ·rw[if_pos hj,if_pos ((htk j).2 (.inl hj))];exact Ji _
         ·rw[if_neg hj];omega
        ·intro _;refine Qi ?_;try simp only[go_sem]
         refine Qa ?_;simp only[go_sem];intro x12 hx12 H14 h14;have kn:=kn.al hx12 h14;have hx12:H14 x12=.st [.int .i64 0,.sl true 1 []]:=(kn.get (x12,.st [.int .i64 0,.sl true 1 []]) (by simp)).1;simp only[go_sem,Q3t,hx12];intro H15 h15;have kn:Kn H H15 [] (([(x12,.st [.int .i64 r,.sl true 1 []])]++((XL++[(zb,.vec 5 (os.map OBlk.row))])++os.flatMap OBlk.lg))++[]):=by
          rw[Ja0];exact (kn.perm Jy).stL 0 rfl h15
         refine Q5 ?_;refine Qak ?_;simp only[go_sem,hlt,Qz,Qai _ _ hlt,hfg];refine Qgl (nx:=gnx q) (.mk' _ _ _ _) rfl (Qjw H15 q false).x fun H16 hu=>?_;have kn:=kn.call0 hu;rw[Qj];have hpl:=Qcw (gnx q) (b:Int) q.blocks.length;obtain⟨np,hnp⟩:∃np,(Qac (gnx q) (b:Int) q.blocks.length).length=np:=⟨_,rfl⟩;rw[hnp]at hpl;simp only[go_sem,Q3u,Qg,hnp];try intro _
         refine Qh (Qc (Qv (fun m4 e1 H1=>∃(j:Nat) (t:C) (Lg:List (Nat×Obj)),m4=np-j∧j≤np∧Gr Lg 1 (Qe (List.replicate j (r:Int))) t∧Kn H H1 [] (([(x12,.st [.int .i64 r,t])]++((XL++[(zb,.vec 5 (os.map OBlk.row))])++os.flatMap OBlk.lg))++Lg)∧
          lk 1 e1=.c (.pp [.int .i64 q.params,.int .i64 q.regs,.sl false 5 (Qm q.blocks)])∧lk 2 e1=.c (.ptr x2 0)∧lk 3 e1=.c (.ptr x3 0)∧lk 4 e1=.c (.sl false 1 (ovOf q.blocks.length (nxN (gnx q)) q.blocks.length))∧lk 5 e1=.c (.ptr x5 0)∧lk 6 e1=.c (.sl false 1 (Qkn q))∧lk 7 e1=.c (.int .i64 r)∧
          lk 10 e1=.c (.sl false 1 (Q1 fs))∧lk 11 e1=.c (.int .i64 i)∧lk 12 e1=.c (.ptr x12 0)∧lk 85 e1=.c (.int .i64 np)∧lk 86 e1=.c (.int .i64 j)) np ?_ ?_))
         ·exact⟨0,_,[],by omega,by omega,.nil 1,kn,rfl,rfl,rfl,rfl,rfl,rfl,rfl,rfl,rfl,rfl,rfl,rfl⟩
         ·clear kn hx12 hx5 l1 l2 l3 l4 l5 l6 l7 l10 l11;rintro m4 e5 H17 ⟨j,t,Lg,hm4,hj,hgt,kn,l1,l2,l3,l4,l5,l6,l7,l10,l11,l12,l85,l86⟩;have htw:=hgt.isOw;have hx12:=kn.l 0 rfl;refine Qa ?_;simp only[go_sem,l1,l2,l3,l4,l5,l6,l7,l10,l11,l12,l85,l86];refine Qh (Qd rfl ?_ ?_)
          ·intro hc3;have hlt3:j<np:=(by simpa using hc3);refine Qi ?_;try simp only[go_sem]
           refine Qh (Qc ?_);refine Qq ?_;simp only[go_sem,hx12,htw];refine kn.growR (new:=Qe [(r:Int)]) hgt (.mk' _ _ _ _) (Qw _) (by simp only[Qg,LIM,Jk,Jl,List.length_replicate];omega) fun t2 Lg2 H18 hgt2 ht2 kn=>?_;have hx12:=kn.l 0 rfl;simp only[go_sem,Q3v,hx12,ht2];intro H19 h19;have kn:=kn.stL 0 rfl h19;refine Qq ?_;simp only[go_sem];refine⟨Qp (by omega) (by omega),?_⟩;show ∃m,_;refine⟨np-(j+1),by omega,j+1,t2,Lg2,rfl,by omega,?_,kn,rfl,rfl,rfl,rfl,rfl,rfl,rfl,rfl,rfl,rfl,rfl,by simp[lk]⟩;rw[List.replicate_succ',Qcn];exact hgt2
          ·intro hc3;have hje:j=np:=(by have:np≤j:=(by simpa using hc3);omega);subst hje;refine Qs ?_;simp only[go_sem,X.next];have hbo:b<os.length:=(by rw[hS.n,hn];exact hbn);obtain⟨o,hob⟩:∃o,os[b]=o:=⟨_,rfl⟩;have hoo:o.ok:=(by rw[←hob];exact hS.ok _ (Jb hbo));obtain⟨Z,hZ⟩:∃Z,(os.eraseIdx b).flatMap OBlk.lg=Z:=⟨_,rfl⟩;have hflat:(os.flatMap OBlk.lg).Perm (o.lg++Z):=(by rw[←hZ,←hob];exact Qee hbo);obtain⟨RW,hRW⟩:∃RW,os.map OBlk.row=RW:=⟨_,rfl⟩;have hRWl:RW.length=n:=(by rw[←hRW,Jd,hS.n,hn]);have hRWg:RW.getD b []=[o.pc,o.ic,.int .i64 o.jump,.int .i64 o.on,.vsl o.nx.y 1 0 o.nx.ns.length]:=by
            rw[←hRW,Ja];simp only[Ju,Je hbo,hob,Jz,Jt];exact o.row_eq
           have hRWt:RW.take n=RW:=Jf (by omega);have hpw:=hoo.p.isOw;have hiw:=hoo.i.isOw;rw[hRW]at kn;obtain⟨p,hp⟩:∃p:OPhi,p=⟨r,List.replicate j (r:Int),t,Lg⟩:=⟨_,rfl⟩;have hpok:p.ok:=by
            rw[hp];rcases hgt with ⟨h1,h2,h3⟩|⟨y,h1,h2⟩
            ·right;refine⟨true,?_,h3⟩;show t=_;rw[h1,h2]
            ·left;refine⟨y,?_,h2⟩;show t=_;rw[h1,Qg]
           have hpr:p.row=[.int .i64 r,t]:=(by rw[hp];rfl);have kn:Kn H H17 [] (([(zb,.vec 5 RW)]++([(x12,.st p.row)]++(XL++(Z++(o.rst++Lg)))))++o.pl):=kn.perm (Qn fun f hf h0 hc hp'=>by
            have h1:=hp' _ _ hflat;have h2:=hp' _ _ o.lg_perm;rw[hpr];simp only[hf]at h1 h2⊢;omega)
           have hx3:H17 x3=.st [.int .i64 q.params,.int .i64 q.regs,.vsl zb 5 0 n]:=(kn.get (x3,.st [.int .i64 q.params,.int .i64 q.regs,.vsl zb 5 0 n]) (by rw[←hX];simp)).1;have hx12:=kn.l 1 rfl;rw[hpr]at hx12;have hzb:=kn.l 0 rfl;refine Qbh ?_;simp only[go_sem,l1,l2,l3,l4,l5,l6,l7,l10,l11,l12,hx3,hx12,hzb,hRWl,hRWt,hRWg,hlt,Qz,Qai _ _ hlt,hfg,hbn,hpw,hiw,htw,Jj,Ji];intro y hy H18 h18;have kn:=kn.al hy h18;have kp:=kn.perm (L':=(([(zb,.vec 5 RW)]++([(x12,.st p.row)]++(XL++(Z++(o.rst++Lg)))))++[(y,.vec 2 [[.int .i64 r,t]])])++o.pl) Qaqk;have hget:=hoo.p.get kp;have hsl:Slc H18 2 (o.phis.map OPhi.row) o.pc:=⟨hget.1,hoo.p.elemSz,hget.2,hoo.p.lenC⟩;have hpno:∀w∈o.phis.map OPhi.row,Go.AE.noOw w=true:=fun w hw=>by
            obtain⟨x,hx,rfl⟩:=Jm.1 hw;exact x.noOw (hoo.a x hx)
           have hpg:Gr [(y,.vec 2 [[.int .i64 r,t]])] 2 [[.int .i64 r,t]] (.vsl y 2 0 1):=.mk _ _ _ rfl;generalize hyc:C.vsl y 2 0 1=yc at hpg⊢;have hycw:=hpg.isOw;have hbq:b<q.blocks.length:=(by rw[hn];exact hbn);have hplen:o.phis.length≤3000:=by
            have h1:=hS.l b hbo hbq;have h2:=ho.il b hbq;rw[hob]at h1;have h3:(R-(r+1)+if b∈fs.take i then 1 else 0)≤R+1:=(by split <;> omega);have h1:o.phis.length≤q.blocks[b].phis.length+(R-(r+1)+if b∈fs.take i then 1 else 0):=h1;omega
           have hx3:H18 x3=.st [.int .i64 q.params,.int .i64 q.regs,.vsl zb 5 0 n]:=(kn.get (x3,.st [.int .i64 q.params,.int .i64 q.regs,.vsl zb 5 0 n]) (by rw[←hX];simp)).1;have hzb:H18 zb=.vec 5 RW:=(kn.get (zb,.vec 5 RW) (by simp)).1;simp only[go_sem,Q3x,hycw,hx3,hzb,hRWl,hRWt,hRWg,hlt,Qz,Qai _ _ hlt,hfg,hbn,hpw,hiw,htw,Jj,Ji];refine kn.growR (new:=o.phis.map OPhi.row) hpg hsl hpno (by simp only[Jd,Jk,Jl,LIM];omega) fun t2 Lg2 H19 hg2 ht2 kn=>?_;have hx3:H19 x3=.st [.int .i64 q.params,.int .i64 q.regs,.vsl zb 5 0 n]:=(kn.get (x3,.st [.int .i64 q.params,.int .i64 q.regs,.vsl zb 5 0 n]) (by rw[←hX];simp)).1;have hzb:H19 zb=.vec 5 RW:=(kn.get (zb,.vec 5 RW) (by simp)).1;simp only[go_sem,Q3w,hx3,hzb,hRWl,hRWt,hRWg,hlt,Qz,Qai _ _ hlt,hfg,hbn,hpw,hiw,htw,ht2,Jj,Ji];intro H20 h20;obtain⟨o',ho'⟩:∃o':OBlk,o'=⟨p::o.phis,t2,Lg2,o.ins,o.ic,o.il,o.jump,o.on,o.nx⟩:=⟨_,rfl⟩;have hset:RW.set b [t2,o.ic,.int .i64 o.jump,.int .i64 o.on,.vsl o.nx.y 1 0 o.nx.ns.length]=(os.set b o').map OBlk.row:=(by rw[←hRW,Jaa,ho'];rfl);rw[hset]at h20;have kn:=kn.stL 0 rfl h20;have hst:=hS.step hbo hob (k':=fun j=>R-(r+1)+if j∈fs.take (i+1)then 1 else 0) hpok (pc:=t2) (pl:=Lg2) (by rw[J9,hpr];exact hg2) (by rw[hp];exact (⟨by omega,by omega⟩:(0:Int)≤(r:Int)∧(r:Int)<q.regs)) (fun v hv=>by
            rw[hp]at hv;rw[Jai hv];exact⟨by omega,by omega⟩) (by rw[hp,hnp];simp) (fun j'=>by
            by_cases hj':j'=b
            ·subst hj';rw[if_pos rfl,if_pos ((htk j').2 (.inr rfl)),if_neg hnotin]
            ·rw[if_neg hj'];by_cases hj2:j'∈fs.take i
             ·rw[if_pos hj2,if_pos ((htk j').2 (.inl hj2))]
             ·rw[if_neg hj2,if_neg (fun h=>by rcases (htk j').1 h with h|h;exact hj2 h;exact hj' h)])
           rw[←ho']at hst;refine hnr _ _ ⟨os.set b o',hst,?_,rfl,rfl,rfl,rfl,rfl,rfl,rfl,rfl,rfl⟩;have hs2:=Qee (f:=OBlk.lg) (l:=os.set b o') (i:=b) (by rw[Jq];exact hbo);rw[Jat,Jan,hZ]at hs2;have hrst:∀f:List (Nat×Obj)→Nat,(∀a b,f (a++b)=f a+f b)→f o'.rst=f o.rst+f Lg:=fun f hf=>by
            rw[ho'];simp only[OBlk.rst,Jal,hf];have:p.lg=Lg:=(by rw[hp]);rw[this];omega
           have hpl':o'.pl=Lg2:=(by rw[ho']);refine Kn.drop (B:=[(x12,.st p.row)]++o.pl) (kn.perm (Qn fun f hf h0 hc hp'=>?_));have h1:=hp' _ _ hs2;have h2:=hp' _ _ o'.lg_perm;have h3:=hrst f hf;rw[hpl']at h2;show f (([(zb,_)]++([(x12,_)]++(XL++(Z++(o.rst++Lg)))))++o.pl++Lg2)=_;simp only[hf]at h1 h2 h3⊢;omega
       ·rintro e5 H14 ⟨os,hS,kn,l1,l2,l3,l4,l5,l6,l7,l10,l11⟩;refine Qq ?_;simp only[go_sem,l1,l2,l3,l4,l5,l6,l7,l10,l11];refine⟨Qp (by omega) (by omega),?_⟩;show ∃m,_;exact⟨fs.length-(i+1),by omega,i+1,os,rfl,by omega,hS,kn,rfl,rfl,rfl,rfl,rfl,rfl,rfl,rfl,by simp[lk]⟩
      ·intro hc2;refine Qs ?_;simp only[go_sem,X.next];refine Qq ?_;simp only[go_sem,l1,l2,l3,l4,l5,l6,l7];refine⟨Qp (by omega) (by omega),?_⟩;show ∃m,_;refine⟨r,by omega,r,os,rfl,by omega,hS.up fun j=>?_,kn,rfl,rfl,rfl,rfl,rfl,rfl,rfl⟩;show _+_≤_;split <;> omega
  ·intro hc;have hre:m=0:=by have:¬(0:Int)≤(m:Int)-1:=(by simpa using hc);omega
   subst hre;refine Qs ?_;simp only[go_sem,X.next];have hx3:H10 x3=.st [.int .i64 q.params,.int .i64 q.regs,.vsl zb 5 0 n]:=(kn.get (x3,.st [.int .i64 q.params,.int .i64 q.regs,.vsl zb 5 0 n]) (by rw[←hX];simp)).1;rw[←hX]at kn;have hx2:=kn.l 1 rfl;refine Qa ?_;simp only[go_sem,l2,l3,hx3,hx2];intro H11 h11;have kn:=kn.stL 1 rfl h11;have hx2:=kn.l 1 rfl;refine Qk ?_;simp only[go_sem,Q7,Qad,Qaxi,Jg,forall_eq,RS.op,hx2];have hheld:Held H11 (un H) (os.flatMap OBlk.lg):=fun p hp=>⟨(kn.get p (by simp only[List.set,J6,J5,Jac,J3];exact .inr (.inr (.inr (.inr hp))))).1,Qeb (kn.loc p (by simp only[List.set,J6,J5,Jac,J3];exact .inr (.inr (.inr (.inr hp)))))⟩;have hz:=kn.l 3 rfl;have hrows:=OBlks.frzD (H:=H11) (S:=un H) hS.ok hheld;exact⟨_,FrzL.ag (.cons (Qf rfl) (.cons (Qf rfl) (.cons (hrows.vsl (kn.un 3 rfl) hz (by rw[Jd,hS.n,hn])) .nil))),hK ⟨q.params,q.regs,os.map OBlk.d⟩ _ (hS.fin ho fun j hj=>by
    have:=hph _ (Jb hj);have:=ho.il j hj;show _+(R-0)≤_;omega) rfl rfl kn.fin⟩
end Go.AE.Y
namespace Go.AE
def SimC (c c':C):Prop:=c'=c∨∃a b:Int,c=.int .i64 a∧c'=.int .i64 b
inductive SimR:List C→List C→Prop
 |nil:SimR [] []
 |cons {c c':C} {l l':List C} (h:SimC c c') (t:SimR l l'):SimR (c::l) (c'::l')
theorem SimR.same:∀l,SimR l l
 |[]=>.nil
 |c::l=>.cons (.inl rfl) (SimR.same l)
theorem SimC.trans {a b c:C}(h:SimC a b)(k:SimC b c):SimC a c:=by
 rcases h with rfl|⟨x,y,rfl,rfl⟩
 ·exact k
 ·rcases k with rfl|⟨u,v,hu,rfl⟩
  ·exact .inr ⟨x,y,rfl,rfl⟩
  ·exact .inr ⟨x,v,rfl,rfl⟩
theorem SimR.trans {a b c:List C}(h:SimR a b):SimR b c→SimR a c:=by
 induction h generalizing c with
 |nil=>exact id
 |cons h t ih=>
  intro k
  cases k with
  |cons h2 t2=>exact .cons (h.trans h2) (ih t2)
theorem SimC.int {a:Int}{c:C}(h:SimC (.int .i64 a) c):∃b:Int,c=.int .i64 b:=by
 rcases h with rfl|⟨x,y,_,rfl⟩
 ·exact⟨a,rfl⟩
 ·exact⟨y,rfl⟩
theorem SimC.sl {fl:Bool}{sz:Nat}{rows:List (List C)}{c:C}(h:SimC (.sl fl sz rows) c):c=.sl fl sz rows:=by
 rcases h with rfl|⟨x,y,h,_⟩
 ·rfl
 ·simp at h
theorem SimC.vsl {l sz st n:Nat}{c:C}(h:SimC (.vsl l sz st n) c):c=.vsl l sz st n:=by
 rcases h with rfl|⟨x,y,h,_⟩
 ·rfl
 ·simp at h
def SimO (X:Nat→Prop)(o o':Obj):Prop:=∃sz rows rows',o=.vec sz rows∧o'=.vec sz rows'∧rows'.length=rows.length∧∀r,r<rows.length→SimR (rows.getD r []) (rows'.getD r [])∧(X r→rows'.getD r []=rows.getD r [])
variable {X X':Nat→Prop}{o o':Obj}
theorem SimO.same (sz:Nat)(rows:List (List C)):SimO X (.vec sz rows) (.vec sz rows):=⟨sz,rows,rows,rfl,rfl,rfl,fun r _=>⟨.same _,fun _=>rfl⟩⟩
theorem SimO.mono (h:SimO X o o')(hX:∀r,X' r→X r):SimO X' o o':=by
 obtain⟨sz,rows,rows',h1,h2,h3,h4⟩:=h;exact⟨sz,rows,rows',h1,h2,h3,fun r hr=>⟨(h4 r hr).1,fun hx=>(h4 r hr).2 (hX r hx)⟩⟩
theorem SimO.get {sz:Nat}{rows:List (List C)}(h:SimO X (.vec sz rows) o'):∃rows',o'=.vec sz rows'∧rows'.length=rows.length∧∀r,r<rows.length→SimR (rows.getD r []) (rows'.getD r [])∧(X r→rows'.getD r []=rows.getD r []):=by
 obtain⟨sz,rows,rows',h1,h2,h3,h4⟩:=h;cases h1;exact⟨rows',h2,h3,h4⟩
theorem SimO.set {sz:Nat}{rows rows':List (List C)}(h:SimO X (.vec sz rows) (.vec sz rows')){r:Nat}{new:List C}(hr:r<rows.length)(hs:SimR (rows.getD r []) new)(hX:∀r',r'≠r→X' r'→X r')(hn:¬X' r) :
  SimO X' (.vec sz rows) (.vec sz (rows'.set r new)):=by
 obtain⟨rows2,h2,h3,h4⟩:=h.get;cases h2;refine⟨sz,rows,_,rfl,rfl,by rw[Jq];exact h3,fun r' hr'=>?_⟩;by_cases e:r'=r
 ·subst e;have:(rows'.set r' new).getD r' []=new:=by rw[Ja,Ja9 (by omega)];rfl
  rw[this];exact⟨hs,fun hx=>absurd hx hn⟩
 ·have:(rows'.set r new).getD r' []=rows'.getD r' []:=by rw[Ja,Jaz (fun h=>e h.symm),←Ja]
  rw[this];exact⟨(h4 r' hr').1,fun hx=>(h4 r' hr').2 (hX r' e hx)⟩
def Ty (LG:List (Nat×Obj))(F:Heap)(E0:List (Nat×Obj))(X:Nat→Nat→Prop)(H:Heap)(L:List (Nat×Obj)):Prop:=
 ∃E1:List (Nat×Obj),E1.map Prod.fst=LG.map Prod.fst∧(∀p∈LG,∀ob,(p.1,ob)∈E1→SimO (X p.1) p.2 ob)∧Kn F H (E0++E1) L
namespace Ty
variable {LG E0 L A N:List (Nat×Obj)}{F H H':Heap}{X X':Nat→Nat→Prop}{m:Nat}{o ob:Obj}
theorem nodup (t:Ty LG F E0 X H L):(LG.map Prod.fst).Nodup:=by
 obtain⟨E1,h1,h2,kn⟩:=t;have:=kn.dE;rw[Jn]at this;rw[←h1];exact (Jv.1 this).2.1
theorem get (t:Ty LG F E0 X H L)(hm:(m,o)∈LG):SimO (X m) o (H m):=by
 obtain⟨E1,h1,h2,kn⟩:=t;have h3:m∈E1.map Prod.fst:=by rw[h1];exact Qaq hm
 obtain⟨p,hp,he⟩:=Jm.1 h3;have h4:=(kn.get p (Jh _ (Jc _ hp))).1;obtain⟨a,b⟩:=p;simp only at he h4;subst he;rw[h4];exact h2 _ hm _ hp
theorem e (t:Ty LG F E0 X H L)(i:Nat){x:Nat}{oo:Obj}(h:E0[i]? = some (x,oo)):H x=oo:=by
 obtain⟨E1,h1,h2,kn⟩:=t;exact (kn.get (x,oo) (Jh _ (Jh _ (J8 h)))).1
theorem weak (t:Ty LG F E0 X H L)(hX:∀m r,X' m r→X m r):Ty LG F E0 X' H L:=by
 obtain⟨E1,h1,h2,kn⟩:=t;exact⟨E1,h1,fun p hp ob hob=>(h2 p hp ob hob).mono (hX p.1),kn⟩
theorem st (t:Ty LG F E0 X H L)(hm:(m,o)∈LG)(h:H'=H.set m ob)(hs:SimO (X' m) o ob)(hX:∀m',m'≠m→∀r,X' m' r→X m' r):Ty LG F E0 X' H' L:=by
 have hnd:=t.nodup;obtain⟨E1,h1,h2,kn⟩:=t;have h3:m∈E1.map Prod.fst:=by rw[h1];exact Qaq hm
 obtain⟨p,hp,he⟩:=Jm.1 h3;obtain⟨i,hi⟩:=Jah hp;obtain⟨a,b⟩:=p;simp only at he;subst he;have hob:ob≠.none:=by
  obtain⟨_,_,_,_,h,_⟩:=hs;rw[h];simp
 have hd1:(E1.map Prod.fst).Nodup:=by rw[h1];exact hnd
 have hi':(E0++E1)[E0.length+i]? = some (a,b):=by rw[Jam (by omega),Ja7];exact hi
 have k2:=kn.stE (E0.length+i) hi' h hob;rw[Jav _ _ (by omega),Ja7]at k2;refine⟨E1.set i (a,ob),(Qb1 hi).trans h1,fun p hp ob' hob'=>?_,k2⟩;rcases Qbl hob' with e|⟨j,hj,hj2⟩
 ·have e1:p.1=a:=congrArg Prod.fst e;have e2:ob'=ob:=congrArg Prod.snd e;have e3:p.2=o:=by
   obtain⟨i1,g1⟩:=Jah hp;obtain⟨i2,g2⟩:=Jah hm;have:=Qcp hnd g1 g2 e1;subst this;rw[g1]at g2;rw[Jad g2]
  rw[e1,e2,e3];exact hs
 ·have hne:p.1≠a:=fun hh=>hj (Qcp hd1 hj2 hi hh);exact (h2 p hp ob' (J8 hj2)).mono (hX p.1 hne)
theorem stE (t:Ty LG F E0 X H L)(i:Nat){x:Nat}{a b:Obj}(h:E0[i]? = some (x,a))(h1:H'=H.set x b)(hb:b≠.none:=by nofun):Ty LG F (E0.set i (x,b)) X H' L:=by
 obtain⟨E1,g1,g2,kn⟩:=t;have hlt:=(Jao.1 h).1;have k2:=kn.stE (o:=a) i (by rw[List.getElem?_append_left hlt];exact h) h1 hb;rw[List.set_append_left _ _ hlt]at k2;exact⟨E1,g1,g2,k2⟩
theorem call0 (t:Ty LG F E0 X H L)(hu:Upd H H' []):Ty LG F E0 X H' L:=by
 obtain⟨E1,g1,g2,kn⟩:=t;exact⟨E1,g1,g2,kn.call0 hu⟩
theorem al (t:Ty LG F E0 X H L){x:Nat}{b:Obj}(hx:H x=.none)(h1:H'=H.set x b)(hb:b≠.none:=by nofun):Ty LG F E0 X H' (L++[(x,b)]):=by
 obtain⟨E1,g1,g2,kn⟩:=t;exact⟨E1,g1,g2,kn.al hx h1 hb⟩
theorem drop (t:Ty LG F E0 X H (A++N)):Ty LG F E0 X H A:=by
 obtain⟨E1,g1,g2,kn⟩:=t;exact⟨E1,g1,g2,kn.drop⟩
theorem sub {wl cy c0:Nat}{a b c:Obj}(t:Ty LG F [(wl,a),(c0,b)] X H (L++[(cy,c)])):Ty LG H [(wl,a),(cy,c)] X H []:=by
 obtain⟨E1,g1,g2,kn⟩:=t;refine⟨E1,g1,g2,Kn.startE (fun p hp=>kn.get p ?_) ?_⟩
 ·rcases Jo.1 hp with hp|hp
  ·rcases J3.1 hp with rfl|hp
   ·simp
   ·rcases J3.1 hp with rfl|hp
    ·simp
    ·simp at hp
  ·simp[hp]
 ·have hd:=kn.dE;simp only[J6,J5,J9,Jba,J3,not_or]at hd⊢;have hcy:∀p∈[(wl,a),(c0,b)]++E1,p.1≠cy:=fun p hp hh=>kn.ext p hp (hh▸kn.loc (cy,c) (by simp));refine⟨⟨hcy (wl,a) (by simp),hd.1.2⟩,fun hh=>?_,hd.2.2⟩;obtain⟨p,hp,he⟩:=Jm.1 hh;exact hcy p (Jc _ hp) he
theorem ret {wl cy c0:Nat}{a b c a' c':Obj}(t:Ty LG F [(wl,a),(c0,b)] X H (L++[(cy,c)]))(t2:Ty LG H [(wl,a'),(cy,c')] X' H' []):Ty LG F [(wl,a'),(c0,b)] X' H' L:=by
 obtain⟨E1,g1,g2,kn⟩:=t;obtain⟨E2,k1,k2,kn2⟩:=t2;have hu:=kn2.upd;have hne:∀p∈[(wl,a'),(cy,c')]++E2,p.2≠.none:=fun p hp=>(kn2.get p (Jh _ hp)).2;have hfst:E2.map Prod.fst=E1.map Prod.fst:=k1.trans g1.symm;have hd:=kn.dE;have hdL:=kn.dL;rw[Jn]at hdL;have hcy:∀p∈[(wl,a),(c0,b)]++E1,p.1≠cy:=fun p hp hh=>kn.ext p hp (hh▸kn.loc (cy,c) (by simp));have hk:Kn F H' ([(wl,a'),(c0,b)]++E2) (L++[(cy,c')]):=by
  refine kn.callg hu (by simp[hfst]) (by simp) (fun p hp=>?_) (fun u hu'=>?_)
  ·rcases Jo.1 hp with hp|hp
   ·rcases Jo.1 hp with hp|hp
    ·rcases J3.1 hp with rfl|hp
     ·exact⟨hne _ (by simp),.inl (by simp)⟩
     ·simp only[Jg]at hp;subst hp;have h0:(c0,b)∈([(wl,a),(c0,b)]++E1)++(L++[(cy,c)]):=(by simp);refine⟨(kn.get _ h0).2,.inr ⟨h0,?_⟩⟩;simp only[J6,J5,J9,Jba,J3,not_or]at hd⊢;refine⟨fun h=>hd.1.1 h.symm,hcy (c0,b) (by simp),?_⟩;rw[hfst];exact hd.2.1
    ·exact⟨hne p (Jc _ hp),.inl (Jc _ hp)⟩
   ·rcases Jo.1 hp with hp|hp
    ·have h0:p∈([(wl,a),(c0,b)]++E1)++(L++[(cy,c)]):=(by simp[hp]);refine⟨(kn.get _ h0).2,.inr ⟨h0,fun hh=>?_⟩⟩;have hpf:F p.1=.none:=kn.loc p (Jh _ hp);simp only[J6,J5,J9,J3]at hh;rcases hh with hh|hh|hh
     ·exact kn.ext (wl,a) (by simp) (hh▸hpf)
     ·exact (Jv.1 hdL).2.2 _ (Qaq hp) cy (by simp) hh
     ·rw[hfst]at hh;obtain⟨p',hp',he⟩:=Jm.1 hh;exact kn.ext p' (Jc _ hp') (he▸hpf)
    ·simp only[Jg]at hp;subst hp;exact⟨hne _ (by simp),.inl (by simp)⟩
  ·rcases Jo.1 hu' with h|h
   ·rcases J3.1 h with rfl|h
    ·left;simp
    ·simp only[Jg]at h;subst h;right;simp
   ·left;rw[Jn,Jo,←hfst];exact .inr (Qaq h)
 exact⟨E2,k1,k2,hk.drop⟩
end Ty
end Go.AE
namespace Go.AE.Y
variable {H H' F:Heap}{q:CodeD}{os:List OBlk}{zb wl cy R n:Nat}{ids:List Int}{U:Nat→Prop}{X X':Nat→Nat→Prop}{nx:Int}{cs:List Int}{o:OBlk}{b x:Nat}
def LGo (os:List OBlk)(zb:Nat):List (Nat×Obj):=os.flatMap OBlk.lg++[(zb,.vec 5 (os.map OBlk.row))]
def OBlk.inN (o:OBlk):List (Nat×Obj):=o.ins.flatMap OIns.lg++o.il
def OBlk.phN (o:OBlk):List (Nat×Obj):=o.phis.flatMap OPhi.lg++o.pl
def XU (os:List OBlk)(zb:Nat)(U:Nat→Prop)(m r:Nat):Prop:=(∃x,∃h:x<os.length,m=os[x].nx.y)∨∃x,∃h:x<os.length,U x∧((m=zb∧r=x)∨∃p∈os[x].inN,m=p.1)
def XP (o:OBlk)(zb b:Nat)(j:Bool)(i k m r:Nat):Prop:=(j=true∧m=zb∧r=b)∨(∃p∈o.il,m=p.1∧i≤r)∨∃i',∃h:i'<o.ins.length,m=o.ins[i'].a.y∧(i<i'∨(i=i'∧k≤r))
theorem Qaev {α:Type}{f:α→List (Nat×Obj)}:∀{l:List α},((l.flatMap f).map Prod.fst).Nodup→∀{i j:Nat} (hi:i<l.length) (hj:j<l.length),i≠j→∀p∈f l[i],∀p'∈f l[j],p.1≠p'.1
 |[],_,i,j,hi,_,_=>by simp at hi
 |x::l,hd,i,j,hi,hj,hij=>by
  rw[Jal,Jn]at hd;obtain⟨d1,d2,d3⟩:=Jv.1 hd;intro p hp p' hp'
  cases i with
  |zero=>
   cases j with
   |zero=>exact absurd rfl hij
   |succ j=>
    simp only[J4,J2]at hp hp';exact d3 _ (Qaq hp) _ (Qaq (Jr.2 ⟨_,Jb _,hp'⟩))
  |succ i=>
   cases j with
   |zero=>
    simp only[J4,J2]at hp hp';exact fun h=>d3 _ (Qaq hp') _ (Qaq (Jr.2 ⟨_,Jb _,hp⟩)) h.symm
   |succ j=>
    simp only[J2]at hp hp';exact Qaev d2 (by simpa using hi) (by simpa using hj) (by omega) p hp p' hp'
theorem Qbcq {α:Type}{f:α→List (Nat×Obj)}:∀{l:List α},((l.flatMap f).map Prod.fst).Nodup→∀x∈l,((f x).map Prod.fst).Nodup
 |[],_,x,h=>by simp at h
 |y::l,hd,x,h=>by
  rw[Jal,Jn]at hd;obtain⟨d1,d2,d3⟩:=Jv.1 hd;rcases J3.1 h with rfl|h
  ·exact d1
  ·exact Qbcq d2 x h
structure BlkN (o:OBlk):Prop where
 pn:∀p∈o.phN,p.1≠o.nx.y
 inn:∀p∈o.inN,p.1≠o.nx.y
 pi:∀p∈o.phN,∀p'∈o.inN,p.1≠p'.1
 ii:∀p∈o.ins.flatMap OIns.lg,∀p'∈o.il,p.1≠p'.1
 ij:∀i j (hi:i<o.ins.length) (hj:j<o.ins.length),i≠j→o.ins[i].a.y≠o.ins[j].a.y
theorem Qbr9 (h:(o.lg.map Prod.fst).Nodup):BlkN o:=by
 have e:o.lg=o.nx.lg++(o.phN++o.inN):=by simp only[OBlk.lg,OBlk.phN,OBlk.inN,Jac]
 rw[e,Jn,Jn]at h;obtain⟨_,d2,d3⟩:=Jv.1 h;obtain⟨_,e2,e3⟩:=Jv.1 d2;rw[OBlk.inN,Jn]at e2;obtain⟨g1,_,g3⟩:=Jv.1 e2;have hy:o.nx.y∈o.nx.lg.map Prod.fst:=by simp[OInts.lg]
 refine⟨fun p hp hh=>d3 _ hy _ (Jh _ (Qaq hp)) hh.symm,fun p hp hh=>d3 _ hy _ (Jc _ (Qaq hp)) hh.symm,fun p hp p' hp'=>e3 _ (Qaq hp) _ (Qaq hp'),
  fun p hp p' hp'=>g3 _ (Qaq hp) _ (Qaq hp'),fun i j hi hj hij=>?_⟩
 exact Qaev g1 hi hj hij (o.ins[i].a.y,.vec 1 (Qe o.ins[i].a.ns)) (by simp[OIns.lg,OInts.lg]) (o.ins[j].a.y,.vec 1 (Qe o.ins[j].a.ns)) (by simp[OIns.lg,OInts.lg])
def Apart (os:List OBlk)(zb:Nat):Prop:=((LGo os zb).map Prod.fst).Nodup
theorem Apart.zbn (h:Apart os zb)(hx:x<os.length){p:Nat×Obj}(hp:p∈os[x].lg):p.1≠zb:=by
 rw[Apart,LGo,Jn]at h;exact (Jv.1 h).2.2 _ (Qaq (Jr.2 ⟨_,Jb hx,hp⟩)) zb (by simp)
theorem Apart.same (h:Apart os zb){x y:Nat}(hx:x<os.length)(hy:y<os.length){p p':Nat×Obj}(hp:p∈os[x].lg)(hp':p'∈os[y].lg)(he:p.1=p'.1):x=y:=by
 rw[Apart,LGo,Jn]at h;by_cases hxy:x=y
 ·exact hxy
 ·exact absurd he (Qaev (Jv.1 h).1 hx hy hxy p hp p' hp')
theorem Apart.blk (h:Apart os zb)(hx:x<os.length):BlkN os[x]:=by
 rw[Apart,LGo,Jn]at h;exact Qbr9 (Qbcq (Jv.1 h).1 _ (Jb hx))
theorem OBlk.nxM (o:OBlk):(o.nx.y,Obj.vec 1 (Qe o.nx.ns))∈o.lg:=by simp[OBlk.lg,OInts.lg]
theorem OBlk.phM {p:Nat×Obj}(h:p∈o.phN):p∈o.lg:=by
 simp only[OBlk.phN,OBlk.lg,Jo]at h⊢;rcases h with h|h
 ·exact .inr (.inl h)
 ·exact .inr (.inr (.inl h))
theorem OBlk.inM {p:Nat×Obj}(h:p∈o.inN):p∈o.lg:=by
 simp only[OBlk.inN,OBlk.lg,Jo]at h⊢;exact .inr (.inr (.inr h))
theorem OBlk.aM (o:OBlk){i:Nat}(h:i<o.ins.length):(o.ins[i].a.y,Obj.vec 1 (Qe o.ins[i].a.ns))∈o.ins.flatMap OIns.lg:=Jr.2 ⟨_,Jb h,by simp[OIns.lg,OInts.lg]⟩
theorem LGo.of {p:Nat×Obj}(hx:x<os.length)(hp:p∈os[x].lg):p∈LGo os zb:=Jh _ (Jr.2 ⟨_,Jb hx,hp⟩)
theorem LGo.zbm:(zb,Obj.vec 5 (os.map OBlk.row))∈LGo os zb:=Jc _ (by simp)
theorem Apart.ph (h:Apart os zb)(hx:x<os.length){p:Nat×Obj}(hp:p∈os[x].phN)(r:Nat):¬XU os zb U p.1 r:=by
 rintro (⟨y,hy,he⟩|⟨y,hy,_,he⟩)
 ·have:=h.same hx hy (OBlk.phM hp) os[y].nxM he;subst this;exact (h.blk hx).pn p hp he
 ·rcases he with ⟨he,_⟩|⟨p',hp',he⟩
  ·exact h.zbn hx (OBlk.phM hp) he
  ·have:=h.same hx hy (OBlk.phM hp) (OBlk.inM hp') he;subst this;exact (h.blk hx).pi p hp p' hp' he
theorem Apart.phP (h:Apart os zb)(hx:x<os.length)(hb:b<os.length){p:Nat×Obj}(hp:p∈os[x].phN)(j:Bool)(i k r:Nat):¬XP os[b] zb b j i k p.1 r:=by
 rintro (⟨_,he,_⟩|⟨p',hp',he,_⟩|⟨i',hi',he,_⟩)
 ·exact h.zbn hx (OBlk.phM hp) he
 ·have hp2:p'∈os[b].inN:=Jc _ hp';have:=h.same hx hb (OBlk.phM hp) (OBlk.inM hp2) he;subst this;exact (h.blk hx).pi p hp p' hp2 he
 ·have hp2:(os[b].ins[i'].a.y,Obj.vec 1 (Qe os[b].ins[i'].a.ns))∈os[b].inN:=Jh _ (os[b].aM hi');have:=h.same hx hb (OBlk.phM hp) (OBlk.inM hp2) he;subst this;exact (h.blk hx).pi p hp _ hp2 he
theorem Apart.inU (h:Apart os zb)(hb:b<os.length){p:Nat×Obj}(hp:p∈os[b].inN)(hU:¬U b)(r:Nat):¬XU os zb U p.1 r:=by
 rintro (⟨y,hy,he⟩|⟨y,hy,hUy,he⟩)
 ·have:=h.same hb hy (OBlk.inM hp) os[y].nxM he;subst this;exact (h.blk hb).inn p hp he
 ·rcases he with ⟨he,_⟩|⟨p',hp',he⟩
  ·exact h.zbn hb (OBlk.inM hp) he
  ·have:=h.same hb hy (OBlk.inM hp) (OBlk.inM hp') he;subst this;exact hU hUy
theorem Apart.zbU (h:Apart os zb)(hU:¬U b):¬XU os zb U zb b:=by
 rintro (⟨y,hy,he⟩|⟨y,hy,hUy,he⟩)
 ·exact h.zbn hy os[y].nxM he.symm
 ·rcases he with ⟨_,he⟩|⟨p',hp',he⟩
  ·subst he;exact hU hUy
  ·exact h.zbn hy (OBlk.inM hp') he.symm
theorem Apart.zbP (h:Apart os zb)(hb:b<os.length)(i k r:Nat):¬XP os[b] zb b false i k zb r:=by
 rintro (⟨h0,_⟩|⟨p',hp',he,_⟩|⟨i',hi',he,_⟩)
 ·simp at h0
 ·exact h.zbn hb (OBlk.inM (Jc _ hp')) he.symm
 ·exact h.zbn hb (OBlk.inM (Jh _ (os[b].aM hi'))) he.symm
theorem XP.init {U':Nat→Prop}{m r:Nat}{j:Bool}(h:XU os zb U m r)(hb:b<os.length)(hj:j=true)(hU:∀x,U x→x≠b→U' x):XU os zb U' m r∨XP os[b] zb b j 0 0 m r:=by
 rcases h with h|⟨x,hx,hUx,he⟩
 ·exact .inl (.inl h)
 ·by_cases hxb:x=b
  ·subst hxb;right;rcases he with ⟨e1,e2⟩|⟨p,hp,e⟩
   ·exact .inl ⟨hj,e1,e2⟩
   ·rcases Jo.1 hp with hp|hp
    ·obtain⟨y,hy,hp2⟩:=Jr.1 hp;obtain⟨i,hi,rfl⟩:=Js.1 hy;simp only[OIns.lg,OInts.lg,Jg]at hp2;refine .inr (.inr ⟨i,hi,by rw[e,hp2],?_⟩);by_cases h0:i=0
     ·exact .inr ⟨h0.symm,Jbp _⟩
     ·exact .inl (by omega)
    ·exact .inr (.inl ⟨p,hp,e,Jbp _⟩)
  ·exact .inl (.inr ⟨x,hx,hU x hUx hxb,he⟩)
structure NC (q:CodeD)(os:List OBlk)(zb R n:Nat)(ids:List Int):Prop where
 ok:q.ok
 hn:q.blocks.length=n
 hR:q.regs.toNat=R
 l:os.length=n
 d:∀x (h:x<os.length) (h':x<q.blocks.length),os[x].d=q.blocks[x]
 bo:∀b∈os,b.ok
 ow:∀b∈os,∀p∈b.phis,p.own
 t:Tree n ids (depL n (nxN (gnx q)))
def wO (q:CodeD)(ids:List Int)(zb n:Nat)(nx:Int):Obj:=.st [.int .i64 q.params,.int .i64 q.regs,.sl false 5 (Qm q.blocks),.int .i64 q.params,.int .i64 q.regs,.vsl zb 5 0 n,.sl false 1 (Qe ids),.int .i64 nx]
abbrev TT (q:CodeD)(os:List OBlk)(zb n wl cy:Nat)(ids:List Int)(F:Heap)(nx:Int)(cs:List Int)(X:Nat→Nat→Prop)(H:Heap):Prop:=Ty (LGo os zb) F [(wl,wO q ids zb n nx),(cy,.vec 1 (Qe cs))] X H []
theorem Qbk6 (hs:SimO (X zb) (.vec 5 (os.map OBlk.row)) (H zb))(c:NC q os zb R n ids)(hx:x<n)(hxl:x<os.length)(ho:os[x]=o) :
  ∃RW j on,H zb=.vec 5 RW∧RW.length=n∧RW.take n=RW∧RW.getD x []=[o.pc,o.ic,.int .i64 j,.int .i64 on,.vsl o.nx.y 1 0 o.nx.ns.length]∧(X zb x→j=o.jump∧on=o.on)∧SimO (X zb) (.vec 5 (os.map OBlk.row)) (.vec 5 RW):=by
 subst ho;obtain⟨RW,h1,h2,h3⟩:=hs.get;rw[h1]at hs;rw[Jd,c.l]at h2;have hg:(os.map OBlk.row).getD x []=os[x].row:=by simp[Ja,hxl]
 obtain⟨h4,h5⟩:=h3 x (by rw[Jd];exact hxl);rw[hg]at h4 h5;have hok:=c.bo _ (Jb hxl);have hpc:∀c',SimC os[x].pc c'→c'=os[x].pc:=fun c' h=>by
  rcases hok.p with ⟨e,_⟩|⟨y,e,_⟩
  ·rw[e]at h⊢;exact h.sl
  ·rw[e]at h⊢;exact h.vsl
 have hic:∀c',SimC os[x].ic c'→c'=os[x].ic:=fun c' h=>by
  rcases hok.i with ⟨e,_⟩|⟨y,e,_⟩
  ·rw[e]at h⊢;exact h.sl
  ·rw[e]at h⊢;exact h.vsl
 generalize hR:RW.getD x []=row at h4 h5;rw[OBlk.row_eq]at h4 h5
 cases h4 with
 |cons a1 t1=>cases t1 with
  |cons a2 t2=>cases t2 with
   |cons a3 t3=>cases t3 with
    |cons a4 t4=>cases t4 with
     |cons a5 t5=>cases t5 with
      |nil=>
       have e1:=hpc _ a1;have e2:=hic _ a2;obtain⟨j,e3⟩:=a3.int;obtain⟨on,e4⟩:=a4.int;have e5:=a5.vsl;subst e1;subst e2;subst e3;subst e4;subst e5;refine⟨RW,j,on,h1,h2,Jf (by omega),hR,fun hX=>?_,hs⟩;have:=h5 hX;simp only[List.cons.injEq,C.int.injEq,true_and]at this;exact⟨this.1,this.2.1⟩
theorem Qagm (t:TT q os zb n wl cy ids F nx cs X H)(c:NC q os zb R n ids)(hx:x<n)(hxl:x<os.length)(ho:os[x]=o) :
  ∃RW j on,H zb=.vec 5 RW∧RW.length=n∧RW.take n=RW∧RW.getD x []=[o.pc,o.ic,.int .i64 j,.int .i64 on,.vsl o.nx.y 1 0 o.nx.ns.length]∧(X zb x→j=o.jump∧on=o.on)∧SimO (X zb) (.vec 5 (os.map OBlk.row)) (.vec 5 RW):=Qbk6 (t.get LGo.zbm) c hx hxl ho
theorem Qbde {m:Nat}{ns:List Int}(hs:SimO (X m) (.vec 1 (Qe ns)) (H m)):∃ns':List Int,H m=.vec 1 (Qe ns')∧ns'.length=ns.length∧(∀r,r<ns.length→X m r→ns'.getD r 0=ns.getD r 0)∧SimO (X m) (.vec 1 (Qe ns)) (.vec 1 (Qe ns')):=by
 obtain⟨rows',h1,h2,h3⟩:=hs.get;rw[Qg]at h2 h3;have hg:∀r,r<ns.length→∃v:Int,rows'.getD r []=[.int .i64 v]∧(X m r→v=ns.getD r 0):=fun r hr=>by
  obtain⟨h4,h5⟩:=h3 r hr;rw[Q0 _ _ hr]at h4 h5;generalize hR:rows'.getD r []=row at h4 h5
  cases h4 with
  |cons a1 t1=>cases t1 with
   |nil=>
    obtain⟨v,e⟩:=a1.int;subst e;refine⟨v,rfl,fun hX=>?_⟩;have:=h5 hX;simpa using this
 obtain⟨f,hf⟩:∃f:Nat→Int,∀r,r<ns.length→rows'.getD r []=[.int .i64 (f r)]∧(X m r→f r=ns.getD r 0):=by
  classical
  exact⟨fun r=>if h:r<ns.length then (hg r h).choose else 0,fun r hr=>by simp only[hr,dite_true];exact (hg r hr).choose_spec⟩
 have hrows:rows'=Qe ((List.range ns.length).map f):=by
  refine Jaw (by simp[Qe,h2]) fun i h4 h5=>?_;have hi:i<ns.length:=by omega
  have:=(hf i hi).1;rw[Ja,Je h4]at this;simp only[Jt]at this;rw[this];simp[Qe]
 subst hrows;rw[h1]at hs;refine⟨_,h1,by simp,fun r hr hX=>?_,hs⟩;rw[Ja];simp only[Ju,List.getElem?_range hr,Jz,Jt];exact (hf r hr).2 hX
theorem Qbrw (t:TT q os zb n wl cy ids F nx cs X H){m:Nat}{ns ns':List Int}(hm:(m,Obj.vec 1 (Qe ns))∈LGo os zb)(hs:SimO (X m) (.vec 1 (Qe ns)) (.vec 1 (Qe ns'))){r:Nat}(hr:r<ns.length)(v:Int)
  (h:H'=H.set m (.vec 1 (Qe (ns'.set r v)))) (hX:∀m' r',¬(m'=m∧r'=r)→X' m' r'→X m' r') (hn:¬X' m r):TT q os zb n wl cy ids F nx cs X' H':=by
 refine Ty.st t hm h ?_ fun m' hm' r'=>hX m' r' fun e=>hm' e.1;rw[←Qc6];refine hs.set (by rw[Qg];exact hr) ?_ (fun r' hr'=>hX m r' fun e=>hr' e.2) hn;rw[Q0 _ _ hr];exact .cons (.inr ⟨_,_,rfl,rfl⟩) .nil
theorem Qbe3 (t:TT q os zb n wl cy ids F nx cs X H)(c:NC q os zb R n ids)(hxl:x<os.length)(ho:os[x]=o):okSl H o.pc=True∧lenC o.pc=o.phis.length∧o.pc.isOw=false∧o.ic.isOw=false:=by
 subst ho;have hok:=c.bo _ (Jb hxl);refine⟨?_,by rw[hok.p.lenC,Jd],hok.p.isOw,hok.i.isOw⟩;rcases hok.p with ⟨e,_⟩|⟨z,e,e2⟩
 ·rw[e];rfl
 ·have hm:(z,Obj.vec 2 (os[x].phis.map OPhi.row))∈LGo os zb:=LGo.of hxl (OBlk.phM (Jc _ (by rw[e2];simp)));obtain⟨rows',h1,h2,_⟩:=(t.get hm).get;rw[e];simp only[okSl,h1,h2,Jj,Ji,and_self]
theorem OBlk.phZ (hok:o.ok){k:Nat}(hk:k<o.phis.length):∃z,o.pc=.vsl z 2 0 o.phis.length∧o.pl=[(z,.vec 2 (o.phis.map OPhi.row))]:=by
 rcases hok.p with ⟨_,h,_⟩|⟨y,h1,h2⟩
 ·have:=congrArg List.length h;simp only[Jd,Jl]at this;omega
 ·exact⟨y,by rw[h1,Jd],h2⟩
theorem OBlk.inZ (hok:o.ok){k:Nat}(hk:k<o.ins.length):∃z,o.ic=.vsl z 4 0 o.ins.length∧o.il=[(z,.vec 4 (o.ins.map OIns.row))]:=by
 rcases hok.i with ⟨_,h,_⟩|⟨y,h1,h2⟩
 ·have:=congrArg List.length h;simp only[Jd,Jl]at this;omega
 ·exact⟨y,by rw[h1,Jd],h2⟩
theorem rdPh (t:TT q os zb n wl cy ids F nx cs X H)(c:NC q os zb R n ids)(hxl:x<os.length)(ho:os[x]=o){z k:Nat}(hz:o.pl=[(z,.vec 2 (o.phis.map OPhi.row))])(hk:k<o.phis.length) :
  ∃PR to ya,H z=.vec 2 PR∧PR.length=o.phis.length∧PR.take o.phis.length=PR∧PR.getD k []=[.int .i64 to,.vsl ya 1 0 o.phis[k].ns.length]∧(ya,Obj.vec 1 (Qe o.phis[k].ns))∈o.phN∧o.phis[k].ac=.vsl ya 1 0 o.phis[k].ns.length∧SimO (X z) (.vec 2 (o.phis.map OPhi.row)) (.vec 2 PR):=by
 subst ho;have hm:(z,Obj.vec 2 (os[x].phis.map OPhi.row))∈LGo os zb:=LGo.of hxl (OBlk.phM (Jc _ (by rw[hz];simp)));have hs:=t.get hm;obtain⟨PR,h1,h2,h3⟩:=hs.get;rw[h1]at hs;rw[Jd]at h2 h3;obtain⟨h4,_⟩:=h3 k hk;obtain⟨ya,e1,e2⟩:=c.ow _ (Jb hxl) _ (Jb hk);have hg:(os[x].phis.map OPhi.row).getD k []=[.int .i64 os[x].phis[k].to,.vsl ya 1 0 os[x].phis[k].ns.length]:=by
  simp only[Ja,Ju,Je hk,Jz,Jt,OPhi.row,e1]
 rw[hg]at h4;generalize hR:PR.getD k []=row at h4
 cases h4 with
 |cons a1 t1=>cases t1 with
  |cons a2 t2=>cases t2 with
   |nil=>
    obtain⟨v,e⟩:=a1.int;have e3:=a2.vsl;subst e;subst e3;refine⟨PR,v,ya,h1,h2,Jf (by omega),hR,?_,e1,hs⟩;exact Jh _ (Jr.2 ⟨_,Jb hk,by rw[e2];simp⟩)
theorem rdIn (t:TT q os zb n wl cy ids F nx cs X H)(hxl:x<os.length)(ho:os[x]=o){z k:Nat}(hz:o.il=[(z,.vec 4 (o.ins.map OIns.row))])(hk:k<o.ins.length)(hX:X z k) :
  ∃IR,H z=.vec 4 IR∧IR.length=o.ins.length∧IR.take o.ins.length=IR∧IR.getD k []=[.int .i64 o.ins[k].op,.int .i64 o.ins[k].to,.vsl o.ins[k].a.y 1 0 o.ins[k].a.ns.length,.int .i64 o.ins[k].n]∧SimO (X z) (.vec 4 (o.ins.map OIns.row)) (.vec 4 IR):=by
 subst ho;have hm:(z,Obj.vec 4 (os[x].ins.map OIns.row))∈LGo os zb:=LGo.of hxl (OBlk.inM (Jc _ (by rw[hz];simp)));have hs:=t.get hm;obtain⟨IR,h1,h2,h3⟩:=hs.get;rw[h1]at hs;rw[Jd]at h2 h3;have h4:=(h3 k hk).2 hX;refine⟨IR,h1,h2,Jf (by omega),?_,hs⟩;rw[h4];simp only[Ja,Ju,Je hk,Jz,Jt];rfl
theorem Qbwu (t:TT q os zb n wl cy ids F nx cs X H)(c:NC q os zb R n ids)(hxl:x<os.length)(ho:os[x]=o):okSl H o.ic=True∧lenC o.ic=o.ins.length:=by
 subst ho;have hok:=c.bo _ (Jb hxl);refine⟨?_,by rw[hok.i.lenC,Jd]⟩;rcases hok.i with ⟨e,_⟩|⟨z,e,e2⟩
 ·rw[e];rfl
 ·have hm:(z,Obj.vec 4 (os[x].ins.map OIns.row))∈LGo os zb:=LGo.of hxl (OBlk.inM (Jc _ (by rw[e2];simp)));obtain⟨rows',h1,h2,_⟩:=(t.get hm).get;rw[e];simp only[okSl,h1,h2,Jj,Ji,and_self]
theorem NC.get (c:NC q os zb R n ids)(hb:b<n):∃hl:b<os.length,∃hq:b<q.blocks.length,os[b].d=q.blocks[b]∧os[b].ok∧q.blocks[b].ok q b∧os[b].phis.length≤1200∧os[b].ins.length≤1200:=by
 have hl:b<os.length:=by rw[c.l];exact hb
 have hq:b<q.blocks.length:=by rw[c.hn];exact hb
 have hd:=c.d b hl hq;have hil:=c.ok.il b hq;rw[←hd]at hil;simp only[OBlk.d,Jd]at hil;exact⟨hl,hq,hd,c.bo _ (Jb hl),c.ok.bs b hq,hil.2,hil.1⟩
end Go.AE.Y
namespace Go.AE.Y
attribute [local go_sem] cond_true cond_false Bool.not_true Bool.not_false
open Go.Proofs.Tryz
variable {H H' F:Heap}{K:V→Heap→Prop}{q:CodeD}{os:List OBlk}{zb wl cy R n b:Nat}{ids:List Int}{U:Nat→Prop}{Z Z':Nat→Nat→Prop}{nx:Int}{cs:List Int}{o:OBlk}{y:BlkD}{e:Env}{Q:X→Env→Heap→Prop}
theorem Qbc2 (hw:H wl=wO q ids zb n nx)(h1:0≤nx)(h2:nx≤2 ^ 40)(hK:∀H',H'=H.set wl (wO q ids zb n (nx+1))→K (.c (.int .i64 nx)) H'):Qu prog Qc4 [.c (.ptr wl 0)] H K:=by
 refine Qb Qam Qabh ?_;rw[wO]at hw;refine Qa ?_;simp only[go_sem];refine Qa ?_;simp only[go_sem,hw];refine⟨Qp (by omega) (by omega),fun H' h'=>?_⟩;have hw2:H' wl=wO q ids zb n (nx+1):=by rw[h',Heap.set_same];rfl
 have hK:=hK H' h';rw[wO]at hw2;refine Qa ?_;simp only[go_sem,hw2];try refine⟨Qp (by omega) (by omega),?_⟩
 refine Qk ?_;simp only[go_sem,Q7,Qad,Qo2,Jg,forall_eq,RS.op]
 first|exact hK|(have e:nx+1-1=nx:=(by omega);rw[e];exact hK)
def LK (wl b cy R n zb:Nat)(e:Env):Prop:=lk 0 e=.c (.ptr wl 0)∧lk 1 e=.c (.int .i64 b)∧lk 2 e=.c (.vsl cy 1 0 R)∧lk 6 e=.c (.ep (.vsl zb 5 0 n) 5 b 0)
structure NSt (q:CodeD)(os:List OBlk)(zb n R wl cy:Nat)(ids:List Int)(F:Heap)(nx:Int)(cs:List Int)(Z:Nat→Nat→Prop)(H:Heap):Prop where
 t:TT q os zb n wl cy ids F nx cs Z H
 c:cs.length=R
theorem NSt.w (s:NSt q os zb n R wl cy ids F nx cs Z H):H wl=wO q ids zb n nx:=s.t.e 0 rfl
theorem NSt.cu (s:NSt q os zb n R wl cy ids F nx cs Z H):H cy=.vec 1 (Qe cs):=s.t.e 1 rfl
theorem NSt.ct (s:NSt q os zb n R wl cy ids F nx cs Z H):(Qe cs).take R=Qe cs:=Jf (by rw[Qg];exact Nat.le_of_eq s.c)
theorem NSt.cl (s:NSt q os zb n R wl cy ids F nx cs Z H):(Qe cs).length=R:=by rw[Qg];exact s.c
theorem NSt.setW (s:NSt q os zb n R wl cy ids F nx cs Z H){nx':Int}(h:H'=H.set wl (wO q ids zb n nx')):NSt q os zb n R wl cy ids F nx' cs Z H':=⟨s.t.stE 0 rfl h (by simp[wO]),s.c⟩
theorem NSt.setC (s:NSt q os zb n R wl cy ids F nx cs Z H){i:Nat}{v:Int}(h:H'=H.set cy (.vec 1 (Qe (cs.set i v)))):NSt q os zb n R wl cy ids F nx (cs.set i v) Z H':=⟨s.t.stE 1 rfl h,by rw[Jq];exact s.c⟩
theorem NSt.weak (s:NSt q os zb n R wl cy ids F nx cs Z H)(hX:∀m r,Z' m r→Z m r):NSt q os zb n R wl cy ids F nx cs Z' H:=⟨s.t.weak hX,s.c⟩
set_option maxHeartbeats 4000000 in
theorem phA (c:NC q os zb R n ids)(hb:b<n)(hl:b<os.length)(ho:os[b]=o)(hX:∀p∈o.phN,∀r,¬Z p.1 r)(s:NSt q os zb n R wl cy ids F nx cs Z H)(hk:LK wl b cy R n zb e)(h0:0≤nx)(h1:nx+o.phis.length≤2 ^ 40)(hN:o.phis.length≤100000)
  (h:∀e' H',NSt q os zb n R wl cy ids F (nx+o.phis.length) cs Z H'→LK wl b cy R n zb e'→Qah prog Qea Q e' H'):Qah prog Qi8 Q e H:=by
 obtain⟨l0,l1,l2,l6⟩:=hk;have hok:=c.bo _ (Jb hl);rw[ho]at hok;refine Q5 ?_;refine Qa ?_;simp only[go_sem,l0,l1,l2,l6];refine Qh (Qc (Qv (fun m e1 H1=>∃i:Nat,m=o.phis.length-i∧i≤o.phis.length∧NSt q os zb n R wl cy ids F (nx+i) cs Z H1∧lk 0 e1=.c (.ptr wl 0)∧lk 1 e1=.c (.int .i64 b)∧lk 2 e1=.c (.vsl cy 1 0 R)∧lk 6 e1=.c (.ep (.vsl zb 5 0 n) 5 b 0)∧lk 7 e1=.c (.int .i64 i)) o.phis.length ?_ ?_))
 ·exact⟨0,by omega,by omega,by simpa using s,rfl,rfl,rfl,rfl,rfl⟩
 ·clear s l0 l1 l2 l6;rintro m e1 H1 ⟨i,hm,hi,s,l0,l1,l2,l6,l7⟩;obtain⟨RW,j,on,hzb,hRWl,hRWt,hRWg,_,_⟩:=Qagm s.t c hb hl ho;obtain⟨hpok,hplen,hpw,hiw⟩:=Qbe3 s.t c hl ho;refine Q5 ?_;refine Qa ?_;simp only[go_sem,l0,l1,l2,l6,l7,hzb,hRWl,hRWt,hRWg,hb,hpok,hplen,hpw,hiw,Jj,Ji];try intro _
  refine Qh (Qd rfl ?_ ?_)
  ·intro hc;have hlt:i<o.phis.length:=by simpa using hc
   obtain⟨z,hpc,hpl⟩:=OBlk.phZ hok hlt;rw[hpc]at hRWg;refine Qi ?_;try simp only[go_sem]
   refine Qh (Qc ?_);refine Qbh ?_;simp only[go_sem,l0,l1,l2,l6,l7,hzb,hRWl,hRWt,hRWg,hb,hiw,Jj,Ji];refine Qbc2 s.w (by omega) (by omega) fun H2 h2=>?_;have s:=s.setW h2;obtain⟨RW,j,on,hzb,hRWl,hRWt,hRWg,_,_⟩:=Qagm s.t c hb hl ho;rw[hpc]at hRWg;obtain⟨PR,to,ya,hz,hPl,hPt,hPg,hya,hac,hsim⟩:=rdPh s.t c hl ho hpl hlt;simp only[go_sem,Qi9,hzb,hRWl,hRWt,hRWg,hb,hiw,hz,hPl,hPt,hPg,hlt,Jj,Ji];intro H3 h3;have hzm:(z,Obj.vec 2 (o.phis.map OPhi.row))∈o.phN:=Jc _ (by rw[hpl];simp);have s:NSt q os zb n R wl cy ids F (nx+i+1) cs Z H3:=⟨Ty.st s.t (LGo.of hl (by rw[ho];exact OBlk.phM hzm)) h3 (hsim.set (by rw[Jd];exact hlt) (by
    have hg:(o.phis.map OPhi.row).getD i []=[.int .i64 o.phis[i].to,.vsl ya 1 0 o.phis[i].ns.length]:=by
     simp only[Ja,Ju,Je hlt,Jz,Jt,OPhi.row,hac]
    rw[hg];exact .cons (.inr ⟨_,_,rfl,rfl⟩) (.cons (.inl rfl) .nil)) (fun r' _ h=>h) (hX _ hzm _)) (fun m' _ r h=>h),s.c⟩
   refine Qq ?_;simp only[go_sem,l0,l1,l2,l6,l7];refine⟨Qp (by omega) (by omega),?_⟩;show ∃m,_;exact⟨o.phis.length-(i+1),by omega,i+1,rfl,by omega,by have e:nx+((i+1:Nat):Int)=nx+i+1:=(by omega);rw[e];exact s,rfl,rfl,rfl,rfl,rfl⟩
  ·intro hc;have hie:i=o.phis.length:=by have:o.phis.length≤i:=(by simpa using hc);omega
   subst hie;refine Qs ?_;simp only[go_sem,X.next];exact h _ _ s ⟨rfl,rfl,rfl,rfl⟩
set_option maxHeartbeats 4000000 in
theorem phB (c:NC q os zb R n ids)(hb:b<n)(hl:b<os.length)(ho:os[b]=o)(hy:o.d=y)(hq:b<q.blocks.length)(hyq:q.blocks[b]=y)(s:NSt q os zb n R wl cy ids F nx cs Z H)(hk:LK wl b cy R n zb e)(hN:o.phis.length≤100000)
  (h:∀e' H' cs',NSt q os zb n R wl cy ids F nx cs' Z H'→LK wl b cy R n zb e'→Qah prog Qd9 Q e' H'):Qah prog Qea Q e H:=by
 obtain⟨l0,l1,l2,l6⟩:=hk;have hok:=c.bo _ (Jb hl);rw[ho]at hok;have hyo:=c.ok.bs b hq;rw[hyq]at hyo;have hyl:y.phis.length=o.phis.length:=by rw[←hy];simp[OBlk.d]
 refine Q5 ?_;refine Qa ?_;simp only[go_sem,l0,l1,l2,l6];refine Qh (Qc (Qv (fun m e1 H1=>∃(i:Nat) (cs:List Int),m=o.phis.length-i∧i≤o.phis.length∧NSt q os zb n R wl cy ids F nx cs Z H1∧lk 0 e1=.c (.ptr wl 0)∧lk 1 e1=.c (.int .i64 b)∧lk 2 e1=.c (.vsl cy 1 0 R)∧lk 6 e1=.c (.ep (.vsl zb 5 0 n) 5 b 0)∧lk 8 e1=.c (.int .i64 i)) o.phis.length ?_ ?_))
 ·exact⟨0,cs,by omega,by omega,s,rfl,rfl,rfl,rfl,rfl⟩
 ·clear s l0 l1 l2 l6;rintro m e1 H1 ⟨i,cs,hm,hi,s,l0,l1,l2,l6,l8⟩;obtain⟨RW,j,on,hzb,hRWl,hRWt,hRWg,_,_⟩:=Qagm s.t c hb hl ho;obtain⟨hpok,hplen,hpw,hiw⟩:=Qbe3 s.t c hl ho;refine Q5 ?_;refine Qa ?_;simp only[go_sem,l0,l1,l2,l6,l8,hzb,hRWl,hRWt,hRWg,hb,hpok,hplen,hpw,hiw,Jj,Ji];try intro _
  refine Qh (Qd rfl ?_ ?_)
  ·intro hc;have hlt:i<o.phis.length:=by simpa using hc
   have hlt2:i<y.phis.length:=by omega
   obtain⟨z,hpc,hpl⟩:=OBlk.phZ hok hlt;rw[hpc]at hRWg;obtain⟨PR,to,ya,hz,hPl,hPt,hPg,hya,hac,hsim⟩:=rdPh s.t c hl ho hpl hlt;have hw:=s.w;rw[wO]at hw;have hcu:=s.cu;have hct:=s.ct;have hcl:=s.cl;obtain⟨hv,hvl⟩:=(hyo.pto _ (Jb hlt2)).nat;rw[c.hR]at hvl;refine Qi ?_;try simp only[go_sem]
   refine Qh (Qc ?_);refine Qbh ?_;generalize hr:y.phis[i].to.toNat=r at *;have hrc:r<cs.length:=by rw[s.c];exact hvl
   simp only[go_sem,l0,l1,l2,l6,l8,hw,hzb,hRWl,hRWt,hRWg,hb,hiw,hz,hPl,hPt,hPg,hlt,hq,Qj,Q9 _ _ hq,BlkD.cells,hyq,Q6,hlt2,Qa0 _ _ hlt2,PhiD.cells,hv,hvl,hcu,hct,hcl,Q0 _ _ hrc,Qc6,Jj,Ji];intro H2 h2;have s:=s.setC h2;refine Qq ?_;simp only[go_sem,l0,l1,l2,l6,l8];refine⟨Qp (by omega) (by omega),?_⟩;show ∃m,_;exact⟨o.phis.length-(i+1),by omega,i+1,_,rfl,by omega,s,rfl,rfl,rfl,rfl,rfl⟩
  ·intro hc;refine Qs ?_;simp only[go_sem,X.next];exact h _ _ _ s ⟨rfl,rfl,rfl,rfl⟩
def XC (os:List OBlk)(zb:Nat)(U:Nat→Prop)(o:OBlk)(b:Nat)(j:Bool)(i k m r:Nat):Prop:=XU os zb U m r∨XP o zb b j i k m r
theorem XC.stepA {i k m r:Nat}(h:XC os zb U o b true i (k+1) m r):XC os zb U o b true i k m r:=by
 rcases h with h|h|h|⟨i',hi',h1,h2⟩
 ·exact .inl h
 ·exact .inr (.inl h)
 ·exact .inr (.inr (.inl h))
 ·exact .inr (.inr (.inr ⟨i',hi',h1,by omega⟩))
theorem XC.stepI {i k m r:Nat}(h:XC os zb U o b true (i+1) 0 m r):XC os zb U o b true i k m r:=by
 rcases h with h|h|⟨p,hp,h1,h2⟩|⟨i',hi',h1,h2⟩
 ·exact .inl h
 ·exact .inr (.inl h)
 ·exact .inr (.inr (.inl ⟨p,hp,h1,by omega⟩))
 ·exact .inr (.inr (.inr ⟨i',hi',h1,by omega⟩))
theorem XC.notA (ap:Apart os zb)(hl:b<os.length)(ho:os[b]=o)(hU:¬U b){i k:Nat}(hi:i<o.ins.length):¬XC os zb U o b true i (k+1) o.ins[i].a.y k:=by
 subst ho;have hm:(os[b].ins[i].a.y,Obj.vec 1 (Qe os[b].ins[i].a.ns))∈os[b].inN:=Jh _ (os[b].aM hi);rintro (h|⟨_,h,_⟩|⟨p,hp,h1,h2⟩|⟨i',hi',h1,h2⟩)
 ·exact ap.inU hl hm hU _ h
 ·exact ap.zbn hl (OBlk.inM hm) h
 ·exact (ap.blk hl).ii _ (os[b].aM hi) p hp h1
 ·by_cases hii:i=i'
  ·subst hii;omega
  ·exact (ap.blk hl).ij i i' hi hi' hii h1
theorem XC.notI (ap:Apart os zb)(hl:b<os.length)(ho:os[b]=o)(hU:¬U b){i z:Nat}{ob:Obj}(hz:(z,ob)∈o.il):¬XC os zb U o b true (i+1) 0 z i:=by
 subst ho;have hm:(z,ob)∈os[b].inN:=Jc _ hz;rintro (h|⟨_,h,_⟩|⟨p,hp,h1,h2⟩|⟨i',hi',h1,h2⟩)
 ·exact ap.inU hl hm hU _ h
 ·exact ap.zbn hl (OBlk.inM hm) h
 ·omega
 ·exact (ap.blk hl).ii _ (os[b].aM hi') (z,ob) hz h1.symm
set_option maxHeartbeats 8000000 in
theorem phC (c:NC q os zb R n ids)(hb:b<n)(hl:b<os.length)(ho:os[b]=o)(hy:o.d=y)(hq:b<q.blocks.length)(hyq:q.blocks[b]=y)(hU:¬U b)(s:NSt q os zb n R wl cy ids F nx cs (XC os zb U o b true 0 0) H)(hk:LK wl b cy R n zb e)
  (h0:0≤nx) (h1:nx+o.ins.length≤2 ^ 40) (hN:o.ins.length≤100000)
  (h:∀e' H' nx' cs',nx≤nx'→nx'≤nx+o.ins.length→NSt q os zb n R wl cy ids F nx' cs' (XC os zb U o b true o.ins.length 0) H'→LK wl b cy R n zb e'→Qah prog Qd8 Q e' H'):Qah prog Qd9 Q e H:=by
 obtain⟨l0,l1,l2,l6⟩:=hk;have hok:=c.bo _ (Jb hl);rw[ho]at hok;have hyo:=c.ok.bs b hq;rw[hyq]at hyo;have ap:Apart os zb:=s.t.nodup;refine Q5 ?_;refine Qa ?_;simp only[go_sem,l0,l1,l2,l6];refine Qh (Qc (Qv (fun m e1 H1=>∃(i:Nat) (nx':Int) (cs:List Int),m=o.ins.length-i∧i≤o.ins.length∧nx≤nx'∧nx'≤nx+i∧NSt q os zb n R wl cy ids F nx' cs (XC os zb U o b true i 0) H1∧lk 0 e1=.c (.ptr wl 0)∧lk 1 e1=.c (.int .i64 b)∧lk 2 e1=.c (.vsl cy 1 0 R)∧lk 6 e1=.c (.ep (.vsl zb 5 0 n) 5 b 0)∧lk 9 e1=.c (.int .i64 i)) o.ins.length ?_ ?_))
 ·exact⟨0,nx,cs,by omega,by omega,by omega,by omega,s,rfl,rfl,rfl,rfl,rfl⟩
 ·clear s l0 l1 l2 l6;rintro m e1 H1 ⟨i,nx',cs,hm,hi,hnx,hnx2,s,l0,l1,l2,l6,l9⟩;obtain⟨RW,j,on,hzb,hRWl,hRWt,hRWg,_,_⟩:=Qagm s.t c hb hl ho;obtain⟨_,_,hpw,hiw⟩:=Qbe3 s.t c hl ho;obtain⟨hiok,hilen⟩:=Qbwu s.t c hl ho;refine Q5 ?_;refine Qa ?_;simp only[go_sem,l0,l1,l2,l6,l9,hzb,hRWl,hRWt,hRWg,hb,hiok,hilen,hpw,hiw,Jj,Ji];try intro _
  refine Qh (Qd rfl ?_ ?_)
  ·intro hc;have hlt:i<o.ins.length:=by simpa using hc
   clear hzb hRWl hRWt hRWg hiok hilen;obtain⟨z,hic,hil⟩:=OBlk.inZ hok hlt;have hzm:(z,Obj.vec 4 (o.ins.map OIns.row))∈o.il:=by rw[hil];simp
   obtain⟨x,hx⟩:∃x,o.ins[i]=x:=⟨_,rfl⟩;have hxm:x.d∈y.ins:=by rw[←hy,←hx];exact Jm.2 ⟨_,Jb hlt,rfl⟩
   have hal3:x.a.ns.length≤3:=hyo.al _ hxm;have hXz:∀k,XC os zb U o b true i k z i:=fun k=>.inr (.inr (.inl ⟨_,hzm,rfl,Ji _⟩));refine Qi ?_;try simp only[go_sem]
   refine Qcq (fun e2 H2=>∃(nx2:Int) (cs:List Int),nx'≤nx2∧nx2≤nx'+1∧NSt q os zb n R wl cy ids F nx2 cs (XC os zb U o b true (i+1) 0) H2∧lk 0 e2=.c (.ptr wl 0)∧lk 1 e2=.c (.int .i64 b)∧lk 2 e2=.c (.vsl cy 1 0 R)∧lk 6 e2=.c (.ep (.vsl zb 5 0 n) 5 b 0)∧lk 9 e2=.c (.int .i64 i)) ?_ ?_
   ·intro Q2 hnr _ _;refine Qc ?_;refine Q5 ?_;refine Qa ?_;simp only[go_sem,l0,l1,l2,l6,l9];refine Qh (Qc (Qv (fun m e1 H1=>∃(k:Nat),m=x.a.ns.length-k∧k≤x.a.ns.length∧NSt q os zb n R wl cy ids F nx' cs (XC os zb U o b true i k) H1∧lk 0 e1=.c (.ptr wl 0)∧lk 1 e1=.c (.int .i64 b)∧lk 2 e1=.c (.vsl cy 1 0 R)∧lk 6 e1=.c (.ep (.vsl zb 5 0 n) 5 b 0)∧lk 9 e1=.c (.int .i64 i)∧lk 10 e1=.c (.int .i64 k)) x.a.ns.length ?_ ?_))
    ·exact⟨0,by omega,by omega,s,rfl,rfl,rfl,rfl,rfl,rfl⟩
    ·clear s l0 l1 l2 l6 l9;rintro m2 e3 H3 ⟨k,hm2,hk2,s,l0,l1,l2,l6,l9,l10⟩;obtain⟨RW,j,on,hzb,hRWl,hRWt,hRWg,_,_⟩:=Qagm s.t c hb hl ho;rw[hic]at hRWg;obtain⟨IR,hz,hIl,hIt,hIg,_⟩:=rdIn s.t hl ho hil hlt (hXz k);have hsa:SimO (XC os zb U o b true i k o.ins[i].a.y) (.vec 1 (Qe o.ins[i].a.ns)) (H3 o.ins[i].a.y):=s.t.get (LGo.of hl (by rw[ho];exact OBlk.inM (Jh _ (o.aM hlt))));obtain⟨ns',hay,hnl,hex,hsim⟩:=Qbde hsa;have hnot:=fun k=>XC.notA (k:=k) ap hl ho hU hlt;have hmem:(o.ins[i].a.y,Obj.vec 1 (Qe o.ins[i].a.ns))∈LGo os zb:=LGo.of hl (by rw[ho];exact OBlk.inM (Jh _ (o.aM hlt)));rw[hx]at hIg hay hnl hex hsim hnot hmem;refine Q5 ?_;refine Qa ?_;simp only[go_sem,l0,l1,l2,l6,l9,l10,hzb,hRWl,hRWt,hRWg,hb,hpw,hz,hIl,hIt,hIg,hlt,hay,Qg,hnl,Jj,Ji];try intro _
     refine Qh (Qd rfl ?_ ?_)
     ·intro hc2;have hlt2:k<x.a.ns.length:=(by simpa using hc2);have hlt3:k<ns'.length:=(by omega);have hXk:XC os zb U o b true i k x.a.y k:=.inr (.inr (.inr ⟨i,hlt,by rw[hx],.inr ⟨rfl,Ji _⟩⟩));have hv0:=hex k hlt2 hXk;have hvm:x.a.ns.getD k 0∈x.d.args:=Qln hlt2;obtain⟨hv,hvl⟩:=(hyo.args _ hxm _ hvm).nat;rw[c.hR]at hvl;rw[←hv0]at hv hvl;have hat:(Qe ns').take x.a.ns.length=Qe ns':=Jf (by rw[Qg];omega);have hcu:=s.cu;have hct:=s.ct;have hcl:=s.cl;refine Qi ?_;try simp only[go_sem]
      refine Qh (Qc ?_);refine Qbh ?_;generalize hr:(ns'.getD k 0).toNat=r at *;have hrc:r<cs.length:=(by rw[s.c];exact hvl);simp only[go_sem,l0,l1,l2,l6,l9,l10,hzb,hRWl,hRWt,hRWg,hb,hpw,hz,hIl,hIt,hIg,hlt,hay,hat,Qg,hnl,hlt2,Q0 _ _ hlt3,hv,hvl,hcu,hct,s.c,Q0 _ _ hrc,Qc6,Jj,Ji];intro H4 h4;have s:NSt q os zb n R wl cy ids F nx' cs (XC os zb U o b true i (k+1)) H4:=⟨Qbrw s.t hmem hsim hlt2 _ h4 (fun m' r' _ hh=>hh.stepA) (hnot k),s.c⟩;refine Qq ?_;simp only[go_sem,l0,l1,l2,l6,l9,l10];refine⟨Qp (by omega) (by omega),?_⟩;show ∃m,_;exact⟨x.a.ns.length-(k+1),by omega,k+1,rfl,by omega,s,rfl,rfl,rfl,rfl,rfl,rfl⟩
     ·intro hc2;refine Qs ?_;simp only[go_sem,X.next];refine Qa ?_;simp only[go_sem,l0,l1,l2,l6,l9,l10,hzb,hRWl,hRWt,hRWg,hb,hpw,hz,hIl,hIt,hIg,hlt,Jj,Ji];refine Qsm ?_;try simp only[go_sem]
      refine Qd rfl ?_ ?_
      ·intro hc3;obtain⟨hv,hvl⟩:=(hyo.to _ hxm hc3).nat;rw[c.hR]at hvl;have hxto:x.d.to=x.to:=rfl;rw[hxto]at hv hvl;refine Qa ?_;simp only[go_sem];refine Qbc2 s.w (by omega) (by omega) fun H4 h4=>?_;have s:=s.setW h4;obtain⟨RW,j,on,hzb,hRWl,hRWt,hRWg,_,_⟩:=Qagm s.t c hb hl ho;rw[hic]at hRWg;obtain⟨IR,hz,hIl,hIt,hIg,_⟩:=rdIn s.t hl ho hil hlt (hXz k);rw[hx]at hIg;have hcu:=s.cu;have hct:=s.ct;have hcl:=s.cl;simp only[go_sem,Qhc];generalize hr:x.to.toNat=r at *;have hrc:r<cs.length:=(by rw[s.c];exact hvl);refine Qa ?_;simp only[go_sem,hzb,hRWl,hRWt,hRWg,hb,hpw,hz,hIl,hIt,hIg,hlt,hv,hvl,hcu,hct,Qg,s.c,Q0 _ _ hrc,Qc6,Jj,Ji];intro H5 h5;have s:=s.setC h5;obtain⟨RW,j,on,hzb,hRWl,hRWt,hRWg,_,_⟩:=Qagm s.t c hb hl ho;rw[hic]at hRWg;obtain⟨IR,hz,hIl,hIt,hIg,hsimI⟩:=rdIn s.t hl ho hil hlt (hXz k);rw[hx]at hIg;refine Qq ?_;simp only[go_sem,hzb,hRWl,hRWt,hRWg,hb,hpw,hz,hIl,hIt,hIg,hlt,Jj,Ji];intro H6 h6;have s:NSt q os zb n R wl cy ids F (nx'+1) (cs.set r nx') (XC os zb U o b true (i+1) 0) H6:=⟨Ty.st s.t (LGo.of hl (by rw[ho];exact OBlk.inM (Jc _ hzm))) h6 (hsimI.set (by rw[Jd];exact hlt) (by
        have hg:(o.ins.map OIns.row).getD i []=[.int .i64 x.op,.int .i64 x.to,.vsl x.a.y 1 0 x.a.ns.length,.int .i64 x.n]:=by
         simp only[Ja,Ju,Je hlt,Jz,Jt,hx];rfl
        rw[hg];exact .cons (.inl rfl) (.cons (.inr ⟨_,_,rfl,rfl⟩) (.cons (.inl rfl) (.cons (.inl rfl) .nil)))) (fun r' _ hh=>hh.stepI) (XC.notI ap hl ho hU hzm)) (fun m' _ r' hh=>hh.stepI),s.c⟩
       exact hnr _ _ ⟨nx'+1,_,by omega,by omega,s,rfl,rfl,rfl,rfl,rfl⟩
      ·intro hc3;refine Qi ?_;try simp only[go_sem]
       exact hnr _ _ ⟨nx',cs,by omega,by omega,s.weak fun m r hh=>hh.stepI,rfl,rfl,rfl,rfl,rfl⟩
   ·rintro e2 H2 ⟨nx2,cs,hn1,hn2,s,l0,l1,l2,l6,l9⟩;refine Qq ?_;simp only[go_sem,l0,l1,l2,l6,l9];refine⟨Qp (by omega) (by omega),?_⟩;show ∃m,_;exact⟨o.ins.length-(i+1),by omega,i+1,nx2,cs,rfl,by omega,by omega,by omega,s,rfl,rfl,rfl,rfl,rfl⟩
  ·intro hc;have hie:i=o.ins.length:=by have:o.ins.length≤i:=(by simpa using hc);omega
   subst hie;refine Qs ?_;simp only[go_sem,X.next];exact h _ _ _ _ hnx hnx2 s ⟨rfl,rfl,rfl,rfl⟩
set_option maxHeartbeats 4000000 in
theorem phD (c:NC q os zb R n ids)(hb:b<n)(hl:b<os.length)(ho:os[b]=o)(hy:o.d=y)(hq:b<q.blocks.length)(hyq:q.blocks[b]=y)(hU:¬U b){i0:Nat}(s:NSt q os zb n R wl cy ids F nx cs (XC os zb U o b true i0 0) H)(hk:LK wl b cy R n zb e)
  (h:∀e' H',NSt q os zb n R wl cy ids F nx cs (XU os zb U) H'→LK wl b cy R n zb e'→Qah prog Qd7 Q e' H'):Qah prog Qd8 Q e H:=by
 obtain⟨l0,l1,l2,l6⟩:=hk;have hyo:=c.ok.bs b hq;rw[hyq]at hyo;have ap:Apart os zb:=s.t.nodup;obtain⟨RW,j,on,hzb,hRWl,hRWt,hRWg,hex,hsim⟩:=Qagm s.t c hb hl ho;obtain⟨_,_,hpw,hiw⟩:=Qbe3 s.t c hl ho;obtain⟨rfl,rfl⟩:=hex (.inr (.inl ⟨rfl,rfl,rfl⟩));have hyj:y.jump=o.jump∧y.on=o.on:=by rw[←hy];exact⟨rfl,rfl⟩
 refine Q5 ?_;refine Qa ?_;simp only[go_sem,l0,l1,l2,l6,hzb,hRWl,hRWt,hRWg,hb,hpw,hiw,Jj,Ji];refine Qcq (fun e2 H2=>NSt q os zb n R wl cy ids F nx cs (XU os zb U) H2∧LK wl b cy R n zb e2) ?_ ?_
 ·intro Q2 hnr _ _;refine Qd rfl ?_ ?_
  ·intro hc;have hj:¬y.jump=1:=by rw[hyj.1];simpa using hc
   obtain⟨hv,hvl⟩:=(hyo.on hj).nat;rw[c.hR]at hvl;rw[hyj.2]at hv hvl;have hcu:=s.cu;have hct:=s.ct;generalize hr:o.on.toNat=r at *;have hrc:r<cs.length:=by rw[s.c];exact hvl
   refine Qq ?_;simp only[go_sem,l0,l1,l2,l6,hzb,hRWl,hRWt,hRWg,hb,hpw,hiw,hv,hvl,hcu,hct,Qg,s.c,Q0 _ _ hrc,Jj,Ji];intro H2 h2;have hne:=fun r'=>ap.zbP hl i0 0 r';have hX:∀m' r',XU os zb U m' r'→XC os zb U o b true i0 0 m' r':=fun m' r' hh=>.inl hh;refine hnr _ _ ⟨⟨Ty.st s.t LGo.zbm h2 (hsim.set (by rw[Jd];exact hl) (by
    have hg:(os.map OBlk.row).getD b []=o.row:=by
     simp only[Ja,Ju,Je hl,Jz,Jt,ho]
    rw[hg,OBlk.row_eq];exact .cons (.inl rfl) (.cons (.inl rfl) (.cons (.inl rfl) (.cons (.inr ⟨_,_,rfl,rfl⟩) (.cons (.inl rfl) .nil))))) (fun r' _ hh=>hX _ _ hh) (ap.zbU hU)) (fun m' _ r' hh=>hX _ _ hh),s.c⟩,rfl,rfl,rfl,rfl⟩
  ·intro _;refine Qi ?_;try simp only[go_sem]
   exact hnr _ _ ⟨s.weak fun m r hh=>.inl hh,rfl,rfl,rfl,rfl⟩
 ·rintro e2 H2 ⟨s,hk⟩;exact h _ _ s hk
set_option maxHeartbeats 8000000 in
theorem phE (c:NC q os zb R n ids)(hb:b<n)(hl:b<os.length)(ho:os[b]=o)(hy:o.d=y)(hq:b<q.blocks.length)(hyq:q.blocks[b]=y)(s:NSt q os zb n R wl cy ids F nx cs (XU os zb U) H)(hk:LK wl b cy R n zb e)
  (h:∀e' H',NSt q os zb n R wl cy ids F nx cs (XU os zb U) H'→LK wl b cy R n zb e'→Qah prog Qi7 Q e' H'):Qah prog Qd7 Q e H:=by
 obtain⟨l0,l1,l2,l6⟩:=hk;have hyo:=c.ok.bs b hq;rw[hyq]at hyo;have ap:Apart os zb:=s.t.nodup;have hnl0:o.nx.ns.length≤2:=by have:=hyo.nxl;rw[←hy]at this;exact this
 have hny:y.next=o.nx.ns:=by rw[←hy];rfl
 refine Q5 ?_;refine Qa ?_;simp only[go_sem,l0,l1,l2,l6];refine Qh (Qc (Qv (fun m e1 H1=>∃(i:Nat),m=o.nx.ns.length-i∧i≤o.nx.ns.length∧NSt q os zb n R wl cy ids F nx cs (XU os zb U) H1∧lk 0 e1=.c (.ptr wl 0)∧lk 1 e1=.c (.int .i64 b)∧lk 2 e1=.c (.vsl cy 1 0 R)∧lk 6 e1=.c (.ep (.vsl zb 5 0 n) 5 b 0)∧lk 12 e1=.c (.int .i64 i)) o.nx.ns.length ?_ ?_))
 ·exact⟨0,by omega,by omega,s,rfl,rfl,rfl,rfl,rfl⟩
 ·clear s l0 l1 l2 l6;rintro m e1 H1 ⟨i,hm,hi,s,l0,l1,l2,l6,l12⟩;obtain⟨RW,j,on,hzb,hRWl,hRWt,hRWg,_,_⟩:=Qagm s.t c hb hl ho;obtain⟨_,_,hpw,hiw⟩:=Qbe3 s.t c hl ho;have hsn:SimO (XU os zb U o.nx.y) (.vec 1 (Qe o.nx.ns)) (H1 o.nx.y):=s.t.get (LGo.of hl (by rw[ho];exact o.nxM));obtain⟨ns',hay,hnl,hex,_⟩:=Qbde hsn;refine Q5 ?_;refine Qa ?_;simp only[go_sem,l0,l1,l2,l6,l12,hzb,hRWl,hRWt,hRWg,hb,hpw,hiw,hay,Qg,hnl,Jj,Ji];try intro _
  refine Qh (Qd rfl ?_ ?_)
  ·intro hc;have hlt:i<o.nx.ns.length:=by simpa using hc
   have hlt2:i<ns'.length:=by omega
   have hat:(Qe ns').take o.nx.ns.length=Qe ns':=Jf (by rw[Qg];omega);have hv0:=hex i hlt (.inl ⟨b,hl,by rw[ho]⟩);have hvm:o.nx.ns.getD i 0∈y.next:=by rw[hny];exact Qln hlt
   have hvr:=hyo.nx _ hvm;obtain⟨v,hv⟩:∃v:Nat,o.nx.ns.getD i 0=(v:Int):=⟨(o.nx.ns.getD i 0).toNat,by omega⟩;rw[hv]at hv0 hvr;have hvq:v<q.blocks.length:=by omega
   have hvn:v<n:=by rw[←c.hn];exact hvq
   refine Qi ?_;try simp only[go_sem]
   refine Qh (Qc ?_);refine Qa ?_;simp only[go_sem,l0,l1,l2,l6,l12,hzb,hRWl,hRWt,hRWg,hb,hpw,hiw,hay,hat,Qg,hnl,hlt,Q0 _ _ hlt2,hv0,Jj,Ji];have hw:=s.w;rw[wO]at hw;refine Qa ?_;simp only[go_sem,hw];refine Qgl (nx:=gnx q) (.mk' _ _ _ _) rfl (Qjw H1 q false).x fun H2 hu=>?_;have s:NSt q os zb n R wl cy ids F nx cs (XU os zb U) H2:=⟨s.t.call0 hu,s.c⟩;rw[Qj];simp only[go_sem,Qhe];refine Qafc (ns:=Qac (gnx q) (v:Int) q.blocks.length) (.mk' _ _ _ _) rfl fun r hr=>?_;have hbm:(b:Int)∈Qac (gnx q) (v:Int) q.blocks.length:=by
    simp only[Qac,Jm,Jak,Jab];refine⟨b,⟨hq,Jaf.2 ?_⟩,rfl⟩;rw[Q1h hq,hyq,←hv];exact hvm
   obtain⟨a,ra,hal⟩:∃a:Nat,r=(a:Int)∧a<(Qac (gnx q) (v:Int) q.blocks.length).length:=by
    rcases hr with ⟨_,hn⟩|⟨a,h1,h2,_⟩
    ·exact absurd hbm hn
    ·exact⟨a,h1,h2⟩
   subst ra;clear hr;simp only[go_sem,Qhd];obtain⟨hvl,_,hvd,hvok,hvyo,hvp,_⟩:=c.get hvn;obtain⟨o',ho'⟩:∃o',os[v]=o':=⟨_,rfl⟩;obtain⟨y',hy'⟩:∃y',q.blocks[v]=y':=⟨_,rfl⟩;rw[ho',hy']at hvd;rw[ho']at hvok hvp;rw[hy']at hvyo;have hyl':y'.phis.length=o'.phis.length:=by rw[←hvd];simp[OBlk.d]
   refine Qa ?_;simp only[go_sem];refine Qc (Qv (fun m e1 H1=>∃(k:Nat),m=o'.phis.length-k∧k≤o'.phis.length∧NSt q os zb n R wl cy ids F nx cs (XU os zb U) H1∧lk 0 e1=.c (.ptr wl 0)∧lk 1 e1=.c (.int .i64 b)∧lk 2 e1=.c (.vsl cy 1 0 R)∧lk 6 e1=.c (.ep (.vsl zb 5 0 n) 5 b 0)∧lk 12 e1=.c (.int .i64 i)∧
    lk 13 e1=.c (.int .i64 v)∧lk 14 e1=.c (.int .i64 a)∧lk 15 e1=.c (.int .i64 k)) o'.phis.length ?_ ?_)
   ·exact⟨0,by omega,by omega,s,rfl,rfl,rfl,rfl,rfl,rfl,rfl,rfl⟩
   ·clear s hw hzb hRWl hRWt hRWg hay hat hnl hex hlt2 hsn l0 l1 l2 l6 l12;rintro m2 e2 H3 ⟨k,hm2,hk2,s,l0,l1,l2,l6,l12,l13,l14,l15⟩;have hw:=s.w;rw[wO]at hw;refine Q5 ?_;refine Qa ?_;simp only[go_sem,l0,l1,l2,l6,l12,l13,l14,l15,hw,hvq,Qj,Q9 _ _ hvq,BlkD.cells,hy',Q6];try intro _
    refine Qh (Qd rfl ?_ ?_)
    ·intro hc2;have hlt2:k<y'.phis.length:=(by simpa using hc2);have hlt3:k<o'.phis.length:=(by omega);obtain⟨z,hpc,hpl⟩:=OBlk.phZ hvok hlt3;obtain⟨RW,j,on,hzb,hRWl,hRWt,hRWg,_,_⟩:=Qagm s.t c hvn hvl ho';obtain⟨_,_,hpw',hiw'⟩:=Qbe3 s.t c hvl ho';rw[hpc]at hRWg;obtain⟨PR,to,ya,hz,hPl,hPt,hPg,hya,hac,_⟩:=rdPh s.t c hvl ho' hpl hlt3;obtain⟨p,hp⟩:∃p,y'.phis[k]=p:=⟨_,rfl⟩;have hpm:p∈y'.phis:=(by rw[←hp];exact Jb hlt2);have hpns:p.args=o'.phis[k].ns:=by
      have h1:(o'.phis.map OPhi.d)[k]? = some o'.phis[k].d:=(by simp[hlt3]);have h2:o'.phis.map OPhi.d=y'.phis:=(by rw[←hvd];rfl);rw[h2,Je hlt2,hp]at h1;rw[Jad h1];rfl
     have hpal:=hvyo.pal p hpm;have hap:a<p.args.length:=(by omega);have hnsl:o'.phis[k].ns.length=p.args.length:=(by rw[hpns]);have hyam:(ya,Obj.vec 1 (Qe o'.phis[k].ns))∈LGo os zb:=LGo.of hvl (by rw[ho'];exact OBlk.phM hya);obtain⟨ns',hay,hnl,_,hsim⟩:=Qbde (s.t.get hyam);rw[hnsl]at hPg hnl;have hnotX:∀r,¬XU os zb U ya r:=fun r=>ap.ph hvl (p:=(ya,Obj.vec 1 (Qe o'.phis[k].ns))) (by rw[ho'];exact hya) r;have hat:(Qe ns').take p.args.length=Qe ns':=Jf (by rw[Qg];omega);have han:a<ns'.length:=(by omega);obtain⟨hu,hul⟩:=(hvyo.pargs p hpm _ (Qln hap)).nat;rw[c.hR]at hul;have hcu:=s.cu;have hct:=s.ct;generalize hr:(p.args.getD a 0).toNat=r at *;have hrc:r<cs.length:=(by rw[s.c];exact hul);refine Qi ?_;try simp only[go_sem]
     refine Qh (Qc ?_);refine Qbh ?_;simp only[go_sem,l0,l1,l2,l6,l12,l13,l14,l15,hw,hvq,hvn,Qj,Q9 _ _ hvq,BlkD.cells,hy',Q6,hlt2,Qa0 _ _ hlt2,PhiD.cells,hp,hzb,hRWl,hRWt,hRWg,hpw',hiw',hz,hPl,hPt,hPg,hlt3,hay,hat,Qg,hnl,hap,Q0 _ _ hap,Q0 _ _ han,hu,hul,hcu,hct,s.c,Q0 _ _ hrc,Qc6,Jj,Ji];intro H4 h4;have s:NSt q os zb n R wl cy ids F nx cs (XU os zb U) H4:=⟨Qbrw s.t hyam hsim (by rw[hnsl];exact hap) _ h4 (fun m' r' _ hh=>hh) (hnotX a),s.c⟩;refine Qq ?_;simp only[go_sem,l0,l1,l2,l6,l12,l13,l14,l15];refine⟨Qp (by omega) (by omega),?_⟩;show ∃m,_;exact⟨o'.phis.length-(k+1),by omega,k+1,rfl,by omega,s,rfl,rfl,rfl,rfl,rfl,rfl,rfl,rfl⟩
    ·intro _;refine Qs ?_;simp only[go_sem,X.next];refine Qq ?_;simp only[go_sem,l0,l1,l2,l6,l12];refine⟨Qp (by omega) (by omega),?_⟩;show ∃m,_;exact⟨o.nx.ns.length-(i+1),by omega,i+1,rfl,by omega,s,rfl,rfl,rfl,rfl,rfl⟩
  ·intro _;refine Qs ?_;simp only[go_sem,X.next];exact h _ _ s ⟨rfl,rfl,rfl,rfl⟩
end Go.AE.Y
namespace Go.AE.Y
attribute [local go_sem] cond_true cond_false Bool.not_true Bool.not_false
attribute [local instance] Classical.propDecidable
open Go.Proofs.Tryz
variable {H H' F:Heap}{K:V→Heap→Prop}{q:CodeD}{os:List OBlk}{zb wl cy R n b:Nat}{ids:List Int}{nx:Int}{cs:List Int}
def wgt (os:List OBlk)(x:Nat):Nat:=match os[x]? with
 |some o=>o.phis.length+o.ins.length
 |none=>0
theorem Qbv8 {x:Nat}{o:OBlk}(h:x<os.length)(ho:os[x]=o):wgt os x=o.phis.length+o.ins.length:=by simp[wgt,h,ho]
theorem Qbsh {n:Nat}{g:Nat→List Nat}{b:Nat}:depL n g b≤n:=by
 have:=Jaj (fun a=>Q09 g a b) (List.range n);simpa[depL]using this
theorem Qa44 (ids:List Int)(b:Nat):(Qwg ids b).Nodup:=List.Nodup.sublist Jbd List.nodup_range
theorem Qbe1 {N B:Nat}{w:Nat→Nat}(hw:∀x,w x≤B)(U:Nat→Prop):potW N w U≤N * B:=by
 have key:∀m,(((List.range m).filter fun x=>decide (U x)).map w).sum≤m * B:=fun m=>by
  induction m with
  |zero=>simp
  |succ m ih=>
   rw[Ja2,Jaq,Jn,List.sum_append,Jbo];have h1:(((List.filter (fun x=>decide (U x)) [m]).map w)).sum≤B:=by
    by_cases h:U m
    ·simp[h];exact hw m
    ·simp[h]
   omega
 exact key N
noncomputable def pW (n:Nat)(w:Nat→Nat)(U:Nat→Prop):Nat:=@potW n w U fun _=>Classical.propDecidable _
theorem Qbvm {w:Nat→Nat}{U V:Nat→Prop}{b:Nat}(hb:b<n)(hU:U b)(hV:∀x,V x↔U x∧x≠b):pW n w V+w b=pW n w U:=by
 unfold pW;exact Qbp6 hb hU hV
theorem Qbvl {w:Nat→Nat}{U V:Nat→Prop}(h:∀x,V x→U x):pW n w V≤pW n w U:=by
 unfold pW;exact Qbt0 h
theorem Qbp1 {N B:Nat}{w:Nat→Nat}(hw:∀x,w x≤B)(U:Nat→Prop):pW N w U≤N * B:=by
 unfold pW;exact Qbe1 hw U
set_option maxHeartbeats 8000000 in
theorem Qbtt (c:NC q os zb R n ids)(M:Int)(hM:M≤2 ^ 40):∀(N b:Nat) (U:Nat→Prop) (nx:Int) (cs:List Int) (cy:Nat) (H:Heap) (K:V→Heap→Prop),n<N+depL n (nxN (gnx q)) b→b<n→(∀x,Sub ids b x→U x)→NSt q os zb n R wl cy ids H nx cs (XU os zb U) H→0≤nx→nx+pW n (wgt os) U≤M→
  (∀nx' cs' H',NSt q os zb n R wl cy ids H nx' cs' (XU os zb fun x=>U x∧¬Sub ids b x) H'→0≤nx'→nx'+pW n (wgt os) (fun x=>U x∧¬Sub ids b x)≤M→K (.tup []) H')→
  Qu prog Qc3 [.c (.ptr wl 0),.c (.int .i64 b),.c (.vsl cy 1 0 R)] H K:=by
 intro N
 induction N with
 |zero=>intro b U nx cs cy H K h1;have:=Qbsh (n:=n) (g:=nxN (gnx q)) (b:=b);omega
 |succ N ih=>
  intro b U nx cs cy H K hN hb hUs s h0 hpot hK;obtain⟨hl,hq,hd,hok,hyo,hpl,hil⟩:=c.get hb;obtain⟨o,ho⟩:∃o,os[b]=o:=⟨_,rfl⟩;obtain⟨y,hy⟩:∃y,q.blocks[b]=y:=⟨_,rfl⟩;rw[ho]at hd hok hpl hil;rw[hy]at hd hyo;have ap:Apart os zb:=s.t.nodup;have hbU:U b:=hUs b .refl;obtain⟨U1,hU1⟩:∃U1:Nat→Prop,U1=fun x=>U x∧x≠b:=⟨_,rfl⟩;have hU1b:¬U1 b:=by rw[hU1];exact fun h=>h.2 rfl
  have hpo:=Qbvm (n:=n) (w:=wgt os) (U:=U) (V:=U1) hb hbU (fun x=>by rw[hU1]);rw[Qbv8 hl ho]at hpo;have s1:NSt q os zb n R wl cy ids H nx cs (XC os zb U1 o b true 0 0) H:=by
   refine⟨?_,s.c⟩;refine s.t.weak fun m r hh=>?_;rcases hh with (h|⟨x,hx,hUx,he⟩)|⟨_,h1,h2⟩|⟨p,hp,h1,_⟩|⟨i',hi',h1,_⟩
   ·exact .inl h
   ·rw[hU1]at hUx;exact .inr ⟨x,hx,hUx.1,he⟩
   ·exact .inr ⟨b,hl,hbU,.inl ⟨h1,h2⟩⟩
   ·exact .inr ⟨b,hl,hbU,.inr ⟨p,by rw[ho];exact Jc _ hp,h1⟩⟩
   ·exact .inr ⟨b,hl,hbU,.inr ⟨_,by rw[ho];exact Jh _ (o.aM hi'),h1⟩⟩
  have hXph:∀p∈o.phN,∀r,¬XC os zb U1 o b true 0 0 p.1 r:=fun p hp r hh=>by
   have hp':p∈os[b].phN:=by rw[ho];exact hp
   rcases hh with h|h
   ·exact ap.ph hl hp' r h
   ·exact ap.phP hl hl hp' true 0 0 r (by rw[ho];exact h)
  clear s;refine Qb Qam Qabg ?_;have hw:=s1.w;rw[wO]at hw;obtain⟨RW,j,on,hzb,hRWl,hRWt,hRWg,_,_⟩:=Qagm s1.t c hb hl ho;refine Qa ?_;simp only[go_sem,hw,hzb,hRWl,hb,Jj,Ji];refine phA c hb hl ho hXph s1 ⟨rfl,rfl,rfl,rfl⟩ h0 (by omega) (by omega) fun e2 H2 s2 k2=>?_;refine phB c hb hl ho hd hq hy s2 k2 (by omega) fun e3 H3 cs3 s3 k3=>?_;refine phC c hb hl ho hd hq hy hU1b s3 k3 (by omega) (by omega) (by omega) fun e4 H4 nx4 cs4 hn1 hn2 s4 k4=>?_;refine phD c hb hl ho hd hq hy hU1b s4 k4 fun e5 H5 s5 k5=>?_;refine phE c hb hl ho hd hq hy s5 k5 fun e6 H6 s6 k6=>?_;obtain⟨l0,l1,l2,l6⟩:=k6;have hw:=s6.w;rw[wO]at hw;refine Qa ?_;simp only[go_sem,l0,l1,l2,l6,hw];refine Qbi5 (by rw[c.t.1];have:=c.ok.b1;rw[c.hn]at this;omega) fun H7 hu=>?_;have s7:NSt q os zb n R wl cy ids H nx4 cs4 (XU os zb U1) H7:=⟨s6.t.call0 hu,s6.c⟩;simp only[go_sem,Qhf,l0,l1,l2,l6];obtain⟨kl,hkl⟩:∃kl,Qwg ids b=kl:=⟨_,rfl⟩;rw[hkl];have hkll:kl.length≤160:=by
   have h1:=Jaj (fun i=>decide (ids.getD i 0=(b:Int))) (List.range ids.length);rw[Jbg,c.t.1]at h1;have h2:=c.ok.b1;rw[c.hn]at h2;rw[←hkl,Qwg,c.t.1];omega
  have hkm:∀k∈kl,k∈Qwg ids b:=fun k hk=>by rw[hkl];exact hk
  have hknd:kl.Nodup:=by rw[←hkl];exact Qa44 ids b
  refine Qa ?_;simp only[go_sem];refine Qc (Qv (fun m e1 H1=>∃(i:Nat) (nx':Int) (cs:List Int),m=kl.length-i∧i≤kl.length∧NSt q os zb n R wl cy ids H nx' cs (XU os zb fun x=>U1 x∧∀k∈kl.take i,¬Sub ids k x) H1∧0≤nx'∧nx'+pW n (wgt os) (fun x=>U1 x∧∀k∈kl.take i,¬Sub ids k x)≤M∧
   lk 0 e1=.c (.ptr wl 0)∧lk 2 e1=.c (.vsl cy 1 0 R)∧lk 16 e1=.c (.sl false 1 (Q1 kl))∧lk 17 e1=.c (.int .i64 i)) kl.length ?_ ?_)
  ·refine⟨0,nx4,cs4,by omega,by omega,⟨s7.t.weak fun m r hh=>?_,s7.c⟩,by omega,?_,rfl,rfl,rfl,rfl⟩
   ·rcases hh with h|⟨x,hx,hUx,he⟩
    ·exact .inl h
    ·exact .inr ⟨x,hx,hUx.1,he⟩
   ·have:=Qbvl (n:=n) (w:=wgt os) (U:=U1) (V:=fun x=>U1 x∧∀k∈kl.take 0,¬Sub ids k x) fun x hx=>hx.1;omega
  ·clear hw hzb hRWl hRWt hRWg s1 s6 s7 hu l0 l1 l2 l6;rintro m e7 H8 ⟨i,nx',cs,hm,hi,s,hn0,hpot',l0,l2,l16,l17⟩;refine Q5 ?_;refine Qa ?_;simp only[go_sem,l0,l2,l16,l17,Qz];try intro _
   refine Qh (Qd rfl ?_ ?_)
   ·intro hc;have hlt:i<kl.length:=(by simpa using hc);obtain⟨k,hk⟩:∃k,kl[i]=k:=⟨_,rfl⟩;have hkmem:k∈Qwg ids b:=hkm k (by rw[←hk];exact Jb hlt);have hgd:kl.getD i 0=k:=(by simp[Ja,hlt,hk]);have hkid:=kidsL_mem.1 hkmem;have hkn:k<n:=(by rw[←c.t.1];exact hkid.1);have hdep:=(c.t.up hkid.1 hkid.2).2;have hcu:=s.cu;refine Qi ?_;try simp only[go_sem]
    refine Qh (Qc ?_);refine Qbh ?_;simp only[go_sem,l0,l2,l16,l17,hlt,Qz,Qai _ _ hlt,hgd,hcu,s.ct,s.cl,J5,Jl,Jar,Jj,Ji];refine⟨.inl trivial,Qw _,by have h1:=c.ok.r1;have h2:=c.ok.r0;have:=c.hR;simp only[LIM];omega,fun z hz H9 h9=>?_⟩;have t9:=s.t.al hz h9;simp only[go_sem,Qhg,l0,l2,l16,l17,hlt,Qz,Qai _ _ hlt,hgd];have hsub:Ty (LGo os zb) H9 [(wl,wO q ids zb n nx'),(z,.vec 1 (Qe cs))] (XU os zb fun x=>U1 x∧∀k∈kl.take i,¬Sub ids k x) H9 []:=Ty.sub (L:=[]) t9;refine ih k (fun x=>U1 x∧∀k∈kl.take i,¬Sub ids k x) nx' cs z H9 _ (by omega) hkn (fun x hx=>?_) ⟨hsub,s.c⟩ hn0 hpot' fun nx2 cs2 H10 s10 hn2' hpot2=>?_
    ·refine⟨?_,fun k' hk' hs'=>?_⟩
     ·rw[hU1];refine⟨hUs x (Sub.kid hkmem hx),fun hxb=>?_⟩;subst hxb;exact Sub.kid_ne c.t hkmem hx
     ·have hk'm:k'∈kl:=List.mem_of_mem_take hk';have:=Sub.kids_apart c.t (hkm k' hk'm) hkmem hs' hx;subst this;rw[←hk]at hk';exact Qbc3 hknd hlt hk'
    have hXeq:∀x,(U1 x∧∀k∈kl.take (i+1),¬Sub ids k x)↔((U1 x∧∀k∈kl.take i,¬Sub ids k x)∧¬Sub ids k x):=fun x=>by
     rw[Jp hlt,hk];constructor
     ·rintro⟨g1,g2⟩;exact⟨⟨g1,fun k' hk'=>g2 k' (Jh _ hk')⟩,g2 k (Jc _ (by simp))⟩
     ·rintro⟨⟨g1,g2⟩,g3⟩;refine⟨g1,fun k' hk'=>?_⟩;rcases Jo.1 hk' with h|h
      ·exact g2 k' h
      ·simp only[Jg]at h;rw[h];exact g3
    have hfe:(fun x=>U1 x∧∀k∈kl.take (i+1),¬Sub ids k x)=fun x=>(U1 x∧∀k∈kl.take i,¬Sub ids k x)∧¬Sub ids k x:=funext fun x=>propext (hXeq x);have t11:=Ty.ret (L:=[]) t9 s10.t;refine Qq ?_;simp only[go_sem,l0,l2,l16,l17];refine⟨Qp (by omega) (by omega),?_⟩;show ∃m,_;refine⟨kl.length-(i+1),by omega,i+1,nx2,cs,rfl,by omega,?_,hn2',?_,rfl,rfl,rfl,rfl⟩
    ·rw[hfe];exact⟨t11,s.c⟩
    ·rw[hfe];exact hpot2
   ·intro hc;have hie:i=kl.length:=(by have:kl.length≤i:=(by simpa using hc);omega);subst hie;rw[Jae]at s hpot';refine Qs ?_;simp only[go_sem,X.next,Q7,Qad,Qo1,List.not_mem_nil,false_imp_iff,implies_true,Jau];have hsubset:∀x,(U x∧¬Sub ids b x)→(U1 x∧∀k∈kl,¬Sub ids k x):=fun x hx=>by
     refine⟨by rw[hU1];exact⟨hx.1,fun hxb=>hx.2 (by rw[hxb];exact .refl)⟩,fun k hk hs=>hx.2 (Sub.kid (hkm k hk) hs)⟩
    refine hK nx' cs H8 ⟨s.t.weak fun m r hh=>?_,s.c⟩ hn0 ?_
    ·rcases hh with h|⟨x,hx,hUx,he⟩
     ·exact .inl h
     ·exact .inr ⟨x,hx,hsubset x hUx,he⟩
    ·have:=Qbvl (n:=n) (w:=wgt os) hsubset;omega
theorem LGo.vec {zb:Nat}(hok:∀b∈os,b.ok)(how:∀b∈os,∀p∈b.phis,p.own):∀p∈LGo os zb,∃sz rows,p.2=.vec sz rows:=fun p hp=>by
 rcases Jo.1 hp with hp|hp
 ·obtain⟨o,ho,hp⟩:=Jr.1 hp;have h1:=hok o ho;simp only[OBlk.lg,Jo]at hp;rcases hp with hp|hp|hp|hp|hp
  ·simp only[OInts.lg,Jg]at hp;rw[hp];exact⟨_,_,rfl⟩
  ·obtain⟨x,hx,hp⟩:=Jr.1 hp;obtain⟨y,_,e⟩:=how o ho x hx;rw[e]at hp;simp only[Jg]at hp;rw[hp];exact⟨_,_,rfl⟩
  ·rcases h1.p with ⟨_,_,e⟩|⟨y,_,e⟩
   ·rw[e]at hp;simp at hp
   ·rw[e]at hp;simp only[Jg]at hp;rw[hp];exact⟨_,_,rfl⟩
  ·obtain⟨x,hx,hp⟩:=Jr.1 hp;simp only[OIns.lg,OInts.lg,Jg]at hp;rw[hp];exact⟨_,_,rfl⟩
  ·rcases h1.i with ⟨_,_,e⟩|⟨y,_,e⟩
   ·rw[e]at hp;simp at hp
   ·rw[e]at hp;simp only[Jg]at hp;rw[hp];exact⟨_,_,rfl⟩
 ·simp only[Jg]at hp;rw[hp];exact⟨_,_,rfl⟩
theorem Qbrd {LG E0:List (Nat×Obj)}{Z:Nat→Nat→Prop}(hv:∀p∈LG,∃sz rows,p.2=.vec sz rows)(kn:Kn H H (E0++LG) []):Ty LG H E0 Z H []:=by
 refine⟨LG,rfl,fun p hp ob hob=>?_,kn⟩;have hd:=kn.dE;rw[Jn]at hd;have hnd:=(Jv.1 hd).2.1;obtain⟨i1,g1⟩:=Jah hp;obtain⟨i2,g2⟩:=Jah hob;have:=Qcp hnd g1 g2 rfl;subst this;rw[g1]at g2;have e:p.2=ob:=by rw[Jad g2]
 obtain⟨sz,rows,h⟩:=hv p hp;rw[←e,h];exact .same _ _
theorem Qare {S:Nat→Bool}{Z:Nat→Prop}{m k:Nat}{ns:List Int}(hs:SimO Z (.vec 1 (Qe ns)) (H m))(hS:S m=true)(hk:k=ns.length):∃ns':List Int,ns'.length=ns.length∧FrzC H S (.vsl m 1 0 k) (.sl false 1 (Qe ns')):=by
 obtain⟨ns',h1,h2,_⟩:=Qbde (X:=fun _=>Z) (m:=m) hs;exact⟨ns',h2,(FrzR.same (Qw _)).vsl hS h1 (by rw[Qg];omega)⟩
theorem Qad6 {β:Type}{S:Nat→Bool}{g:β→List C}{P:β→Prop}:∀(l:List (List C)),(∀r∈l,∃y,FrzL H S r (g y)∧P y)→∃l':List β,FrzR H S l (l'.map g)∧l'.length=l.length∧∀y∈l',P y
 |[],_=>⟨[],.nil,rfl,by simp⟩
 |x::l,h=>by
  obtain⟨y,hy,hp⟩:=h x Jw;obtain⟨l',hl',hn,hps⟩:=Qad6 l fun z hz=>h z (J1 _ hz);refine⟨y::l',.cons hy hl',by simp[hn],fun z hz=>?_⟩;rcases J3.1 hz with rfl|hz
  ·exact hp
  ·exact hps z hz
theorem Qbla {l:List (List C)}{r:List C}(h:r∈l):∃i,i<l.length∧l.getD i []=r:=by
 obtain⟨i,hi,rfl⟩:=Js.1 h;exact⟨i,hi,by simp[Ja,hi]⟩
theorem Qbnn {S:Nat→Bool}{Z:Nat→Nat→Prop}{o:OBlk}(hok:o.ok)(how:∀p∈o.phis,p.own)(hs:∀p∈o.phN,SimO (Z p.1) p.2 (H p.1)∧S p.1=true):∃ps:List PhiD,FrzC H S o.pc (.sl false 2 (Qab ps))∧ps.length=o.phis.length:=by
 rcases hok.p with ⟨h1,h2,_⟩|⟨z,h1,h2⟩
 ·have h0:o.phis=[]:=Ja1.1 h2;exact⟨[],by rw[h1];exact FrzR.nil.sl,by simp[h0]⟩
 ·obtain⟨hz,hSz⟩:=hs (z,.vec 2 (o.phis.map OPhi.row)) (Jc _ (by rw[h2];simp));obtain⟨PR,g1,g2,g3⟩:=hz.get;rw[Jd]at g2 g3;obtain⟨ps,e1,e2,_⟩:=Qad6 (H:=H) (S:=S) (g:=PhiD.cells) (P:=fun _=>True) PR fun r hr=>by
   obtain⟨i,hi,he⟩:=Qbla hr;have hi':i<o.phis.length:=by omega
   obtain⟨h4,_⟩:=g3 i hi';obtain⟨ya,e3,e4⟩:=how _ (Jb hi');have hg:(o.phis.map OPhi.row).getD i []=[.int .i64 o.phis[i].to,.vsl ya 1 0 o.phis[i].ns.length]:=by
    simp only[Ja,Ju,Je hi',Jz,Jt,OPhi.row,e3]
   rw[hg,he]at h4;have hya:=hs (ya,.vec 1 (Qe o.phis[i].ns)) (Jh _ (Jr.2 ⟨_,Jb hi',by rw[e4];simp⟩));obtain⟨ns',_,hfr⟩:=Qare hya.1 hya.2 rfl
   cases h4 with
   |cons a1 t1=>cases t1 with
    |cons a2 t2=>cases t2 with
     |nil=>
      obtain⟨v,e⟩:=a1.int;have e5:=a2.vsl;subst e;subst e5;exact⟨⟨v,ns'⟩,.cons (Qf rfl) (.cons hfr .nil),trivial⟩
  exact⟨ps,by rw[h1];exact e1.vsl hSz g1 (by rw[Jd,g2]),by omega⟩
theorem Qbr5 {S:Nat→Bool}{Z:Nat→Nat→Prop}{o:OBlk}(hok:o.ok)(hs:∀p∈o.inN,SimO (Z p.1) p.2 (H p.1)∧S p.1=true):∃is:List InsD,FrzC H S o.ic (.sl false 4 (Qap is))∧is.length=o.ins.length:=by
 rcases hok.i with ⟨h1,h2,_⟩|⟨z,h1,h2⟩
 ·have h0:o.ins=[]:=Ja1.1 h2;exact⟨[],by rw[h1];exact FrzR.nil.sl,by simp[h0]⟩
 ·obtain⟨hz,hSz⟩:=hs (z,.vec 4 (o.ins.map OIns.row)) (Jc _ (by rw[h2];simp));obtain⟨PR,g1,g2,g3⟩:=hz.get;rw[Jd]at g2 g3;obtain⟨ps,e1,e2,_⟩:=Qad6 (H:=H) (S:=S) (g:=InsD.cells) (P:=fun _=>True) PR fun r hr=>by
   obtain⟨i,hi,he⟩:=Qbla hr;have hi':i<o.ins.length:=by omega
   obtain⟨h4,_⟩:=g3 i hi';have hg:(o.ins.map OIns.row).getD i []=[.int .i64 o.ins[i].op,.int .i64 o.ins[i].to,.vsl o.ins[i].a.y 1 0 o.ins[i].a.ns.length,.int .i64 o.ins[i].n]:=by
    simp only[Ja,Ju,Je hi',Jz,Jt];rfl
   rw[hg,he]at h4;have hya:=hs (o.ins[i].a.y,.vec 1 (Qe o.ins[i].a.ns)) (Jh _ (o.aM hi'));obtain⟨ns',_,hfr⟩:=Qare hya.1 hya.2 rfl
   cases h4 with
   |cons a1 t1=>cases t1 with
    |cons a2 t2=>cases t2 with
     |cons a3 t3=>cases t3 with
      |cons a4 t4=>cases t4 with
       |nil=>
        obtain⟨v1,f1⟩:=a1.int;obtain⟨v2,f2⟩:=a2.int;have f3:=a3.vsl;obtain⟨v4,f4⟩:=a4.int;subst f1;subst f2;subst f3;subst f4;exact⟨⟨v1,v2,ns',v4⟩,.cons (Qf rfl) (.cons (Qf rfl) (.cons hfr (.cons (Qf rfl) .nil))),trivial⟩
  exact⟨ps,by rw[h1];exact e1.vsl hSz g1 (by rw[Jd,g2]),by omega⟩
theorem Qbnm {S:Nat→Bool}{Z:Nat→Nat→Prop}(c:NC q os zb R n ids)(t:∀p∈LGo os zb,SimO (Z p.1) p.2 (H p.1))(hS:∀p∈LGo os zb,S p.1=true) :
  ∃bs:List BlkD,FrzC H S (.vsl zb 5 0 n) (.sl false 5 (Qm bs))∧bs.length=n∧∀y∈bs,y.ins.length≤1200∧y.phis.length≤1200:=by
 have hs:=t _ LGo.zbm;obtain⟨RW,h1,h2,h3⟩:=hs.get;rw[Jd,c.l]at h2;obtain⟨bs,e1,e2,e3⟩:=Qad6 (H:=H) (S:=S) (g:=BlkD.cells) (P:=fun y=>y.ins.length≤1200∧y.phis.length≤1200) RW fun r hr=>by
  obtain⟨x,hx,he⟩:=Qbla hr;have hxn:x<n:=by omega
  obtain⟨hl,hq,hd,hok,hyo,hpl,hil⟩:=c.get hxn;obtain⟨RW',j,on,g1,g2,_,g4,_,_⟩:=Qbk6 hs c hxn hl rfl;rw[h1]at g1;cases g1;rw[g4]at he;subst he;have hsx:∀p∈os[x].lg,SimO (Z p.1) p.2 (H p.1)∧S p.1=true:=fun p hp=>⟨t p (LGo.of hl hp),hS p (LGo.of hl hp)⟩;obtain⟨ps,p1,p2⟩:=Qbnn (H:=H) (S:=S) (Z:=Z) hok (c.ow _ (Jb hl)) fun p hp=>hsx p (OBlk.phM hp);obtain⟨is,i1,i2⟩:=Qbr5 (H:=H) (S:=S) (Z:=Z) hok fun p hp=>hsx p (OBlk.inM hp);have hnx:=hsx _ os[x].nxM;obtain⟨ns',_,n2⟩:=Qare hnx.1 hnx.2 rfl;exact⟨⟨ps,is,j,on,ns'⟩,.cons p1 (.cons i1 (.cons (Qf rfl) (.cons (Qf rfl) (.cons n2 .nil)))),by show is.length≤_;omega,by show ps.length≤_;omega⟩
 exact⟨bs,e1.vsl (hS _ LGo.zbm) h1 (by omega),by omega,e3⟩
set_option maxHeartbeats 8000000 in
theorem Qa48 {q:CodeD}(ho:q.ok)(hpar:0≤q.params)(hpr:q.params≤q.regs)(h9:∀y∈q.blocks,y.ins.length≤900∧y.phis.length≤900)(hK:∀(d:CodeD) H',d.fits→Upd H H' []→K (.ag d.cells) H') :
  Qu prog Qr9 [.ag [.int .i64 q.params,.int .i64 q.regs,.sl false 5 (Qm q.blocks)]] H K:=by
 refine Qt ?_;refine Qb Qam Qa5h ?_;refine Qa ?_;simp only[go_sem];intro x2 hx2 H1 h1;have kn:=(Kn.start0 H).al hx2 h1;refine Qa ?_;simp only[go_sem];refine Qbei ho hpar h9 fun d1 H2 hd1 hp1 hr1 h9d hu=>?_;have kn:=kn.call0 hu;simp only[go_sem,Qyg,CodeD.cells];refine Qbja hd1 h9d fun d2 H3 hd2 hp2 hr2 hu=>?_;have kn:=kn.call0 hu;have hp:d2.params=q.params:=hp2.trans hp1;have hr:d2.regs=q.regs:=hr2.trans hr1;simp only[go_sem,Qyf,CodeD.cells];intro x3 hx3 H4 h4;have kn:=kn.al hx3 h4;have hx3:=kn.l 1 rfl;simp only[go_sem,Qye,hx3];intro H5 h5;have kn:Kn H H5 [] [(x2,.st [.int .i64 0,.int .i64 0,.sl true 5 []]),(x3,.st [.int .i64 d2.params,.int .i64 d2.regs,.sl false 5 (Qm d2.blocks)])]:=kn.stL 1 rfl h5;have hx3:=kn.l 1 rfl;have hb0:=hd2.b0;have hb1:=hd2.b1;have hrr0:=hd2.r0;have hrr1:=hd2.r1;refine Qak ?_;simp only[go_sem,hx3];refine Qad7 hd2.sg fun o H6 k2 hok hod how=>?_;have kn:=kn.comp0 k2;obtain⟨n,hn⟩:∃n,d2.blocks.length=n:=⟨_,rfl⟩;have hol:o.blocks.length=n:=by rw[←hn,←hod];simp[OCode.d]
 obtain⟨zb,hbc,hbl⟩:∃z,o.bc=.vsl z 5 0 n∧o.bl=[(z,.vec 5 (o.blocks.map OBlk.row))]:=by
  rcases hok.b with ⟨_,h,_⟩|⟨y,h1,h2⟩
  ·have:=congrArg List.length h;simp only[Jd,Jl]at this;omega
  ·exact⟨y,by rw[h1,Jd,hol],h2⟩
 have hrow:o.row=[.int .i64 d2.params,.int .i64 d2.regs,.vsl zb 5 0 n]:=by
  rw[OCode.row,hbc,←hod];rfl
 have hlg:o.lg=LGo o.blocks zb:=by rw[OCode.lg,hbl];rfl
 have hos:o.blocks.map OBlk.d=d2.blocks:=by rw[←hod];rfl
 have hobs:=hok.bs;rw[hlg]at kn;have hx3:=kn.l 1 rfl;simp only[go_sem,Qyk,hx3];refine Qawj (rows:=Qm d2.blocks) (nx:=gnx d2) (Qa43 hd2.gd) (by rw[Qj];exact hd2.fitB) fun H7 hu=>?_;have kn:=kn.call0 hu;have hx3:=kn.l 1 rfl;rw[Qj,hn];simp only[go_sem,Qyj,hx3];refine Qbeh (by omega) (by omega) fun ids H8 htree hu=>?_;have kn:=kn.call0 hu;have hx3:=kn.l 1 rfl;rw[hrow];simp only[go_sem,Qyi,hx3];intro x4 hx4 H9 h9';have kn:=kn.al hx4 h9';have hx3:=kn.l 1 rfl;simp only[go_sem,Qyh];obtain⟨R,hR⟩:∃R:Nat,d2.regs.toNat=R:=⟨_,rfl⟩;have hRq:d2.regs=(R:Int):=by omega
 refine Qa ?_;simp only[go_sem,hx3];refine⟨by omega,by simp only[LIM];omega,fun cy hcy H10 h10=>?_⟩;rw[Q1m,hR]at h10;have kn:=kn.al hcy h10;simp only[go_sem,Qyl,hR];refine Q5 ?_;refine Qa ?_;simp only[go_sem];generalize hos0:o.blocks=os at *;have kn:Kn H H10 [] ([(cy,.vec 1 (Qe (List.replicate R 0)))]++([(x2,.st [.int .i64 0,.int .i64 0,.sl true 5 []]),(x3,.st [.int .i64 d2.params,.int .i64 d2.regs,.sl false 5 (Qm d2.blocks)])]++([(x4,wO d2 ids zb n q.params)]++LGo os zb))):=kn.perm (Qn fun f hf h0 hc hp=>by
  have e2:∀(a b:Nat×Obj),f [a,b]=f [a]+f [b]:=fun a b=>hc a [b];simp only[hf,e2,wO];omega)
 refine Qh (Qc (Qv (fun m e1 H1=>∃(r:Nat) (cs:List Int),m=q.params.toNat-r∧(r:Int)≤q.params∧cs.length=R∧
  Kn H H1 [] ([(cy,.vec 1 (Qe cs))]++([(x2,.st [.int .i64 0,.int .i64 0,.sl true 5 []]),(x3,.st [.int .i64 d2.params,.int .i64 d2.regs,.sl false 5 (Qm d2.blocks)])]++([(x4,wO d2 ids zb n q.params)]++LGo os zb)))∧
  lk 1 e1=.c (.pp [.int .i64 q.params,.int .i64 q.regs,.sl false 5 (Qm q.blocks)])∧lk 2 e1=.c (.ptr x2 0)∧lk 4 e1=.c (.ptr x4 0)∧lk 5 e1=.c (.vsl cy 1 0 R)∧lk 6 e1=.c (.int .i64 r)) q.params.toNat ?_ ?_))
 ·exact⟨0,List.replicate R 0,by omega,hpar,by simp,kn,rfl,rfl,rfl,rfl,rfl⟩
 ·clear kn h10;rintro m e1 H11 ⟨r,cs,hm,hrp,hcl,kn,l1,l2,l4,l5,l6⟩;refine Q5 ?_;refine Qa ?_;simp only[go_sem,l1,l2,l4,l5,l6];refine Qh (Qd rfl ?_ ?_)
  ·intro hc;have hlt:(r:Int)<q.params:=by simpa using hc
   have hrR:r<R:=by omega
   have hrc:r<cs.length:=by omega
   have hcu:=kn.l 0 rfl;have hct:(Qe cs).take R=Qe cs:=Jf (by rw[Qg];omega);refine Qi ?_;try simp only[go_sem]
   refine Qh (Qc ?_);refine Qq ?_;simp only[go_sem,hcu,hct,Qg,hcl,hrR,Q0 _ _ hrc,Qc6,Jj,Ji];intro H12 h12;have kn:=kn.stL 0 rfl h12;refine Qq ?_;simp only[go_sem];refine⟨Qp (by omega) (by omega),?_⟩;show ∃m,_;exact⟨q.params.toNat-(r+1),by omega,r+1,_,rfl,by omega,by rw[Jq];exact hcl,kn,rfl,rfl,rfl,rfl,by simp[lk]⟩
  ·intro hc;refine Qs ?_;simp only[go_sem,X.next];have hC:NC d2 os zb R n ids:=⟨hd2,hn,hR,hol,fun x h h'=>by
    have h1:(os.map OBlk.d)[x]? = some os[x].d:=(by simp[h]);rw[hos,Je h']at h1;exact (Jad h1).symm,hobs,how,htree⟩
   have kn:Kn H H11 [] ((([(x4,wO d2 ids zb n q.params),(cy,.vec 1 (Qe cs))])++LGo os zb)++[(x2,.st [.int .i64 0,.int .i64 0,.sl true 5 []]),(x3,.st [.int .i64 d2.params,.int .i64 d2.regs,.sl false 5 (Qm d2.blocks)])]):=kn.perm (Qn fun f hf h0 hc hp=>by
    have e2:∀(a b:Nat×Obj),f [a,b]=f [a]+f [b]:=fun a b=>hc a [b];simp only[hf,e2];omega)
   have hw0:wgt os=wgt os:=rfl;have hwb:∀x,wgt os x≤2400:=fun x=>by
    rw[wgt]
    cases hx:os[x]? with
    |none=>simp
    |some o'=>
     obtain⟨hxl,hxo⟩:=Jao.1 hx;have hxn:x<n:=(by omega);obtain⟨_,_,_,_,_,a1,a2⟩:=hC.get hxn;rw[hxo]at a1 a2;show o'.phis.length+o'.ins.length≤2400;omega
   have hpb:=Qbp1 (N:=n) hwb (fun _=>True);have hst:NSt d2 os zb n R x4 cy ids H11 q.params cs (XU os zb fun _=>True) H11:=⟨Qbrd (LGo.vec hobs how) kn.mid,hcl⟩;refine Qa ?_;simp only[go_sem,l1,l2,l4,l5,l6];refine Qbtt hC (2 ^ 40) (Ja6 _) (n+1) 0 (fun _=>True) q.params cs cy H11 _ (by omega) (by omega) (fun _ _=>trivial) hst (by omega) (by
    have:n * 2400≤160 * 2400:=Nat.mul_le_mul_right _ (by omega);omega) fun nx' cs' H12 s2 hn0 hpot=>?_
   obtain⟨t2,hcl2⟩:=s2;have hwx:=Ty.e t2 0 rfl;have ht2:=t2;obtain⟨E1,g1,g2,k3⟩:=t2;have kn:=kn.comp k3 (by simp[g1]);have kn:Kn H H12 [] ([(x4,wO d2 ids zb n nx'),(x2,.st [.int .i64 0,.int .i64 0,.sl true 5 []])]++([(x3,.st [.int .i64 d2.params,.int .i64 d2.regs,.sl false 5 (Qm d2.blocks)])]++([(cy,.vec 1 (Qe cs'))]++E1))):=kn.perm (Qn fun f hf h0 hc hp=>by
    have e2:∀(a b:Nat×Obj),f [a,b]=f [a]+f [b]:=fun a b=>hc a [b];simp only[hf,h0,e2];omega)
   rw[wO]at hwx;try simp only[go_sem,l2,l4]
   refine Qa ?_;simp only[go_sem,l2,l4,hwx];intro H13 h13;have kn:=kn.stL 0 rfl h13;have hx4:=kn.l 0 rfl;have hx2:=kn.l 1 rfl;refine Qa ?_;simp only[go_sem,hx4,hx2];intro H14 h14;have kn:=kn.stL 1 rfl h14;have hx2:=kn.l 1 rfl;refine Qk ?_;simp only[go_sem,Q7,Qad,Qaf9,Jg,forall_eq,RS.op,hx2];have hE:∀p∈E1,H14 p.1=p.2∧un H p.1=true:=fun p hp=>by
    have hm:p∈([(x4,Obj.st [.int .i64 d2.params,.int .i64 d2.regs,.sl false 5 (Qm d2.blocks),.int .i64 d2.params,.int .i64 nx',.vsl zb 5 0 n,.sl false 1 (Qe ids),.int .i64 nx']),(x2,.st [.int .i64 d2.params,.int .i64 nx',.vsl zb 5 0 n])]++([(x3,.st [.int .i64 d2.params,.int .i64 d2.regs,.sl false 5 (Qm d2.blocks)])]++([(cy,.vec 1 (Qe cs'))]++E1)):List (Nat×Obj)):=by
     simp[hp]
    exact⟨(kn.get p (Jc _ hm)).1,Qeb (kn.loc p hm)⟩
   have hty:TT d2 os zb n x4 cy ids H11 nx' cs' (XU os zb fun x=>True∧¬Sub ids 0 x) H12:=ht2;have hH:∀p∈LGo os zb,H14 p.1=H12 p.1:=fun p hp=>by
    have h1:p.1∈E1.map Prod.fst:=(by rw[g1];exact Qaq hp);obtain⟨p',hp',he⟩:=Jm.1 h1;rw[←he,(hE p' hp').1,(k3.get p' (Jh _ (Jc _ hp'))).1]
   have hS:∀p∈LGo os zb,un H p.1=true:=fun p hp=>by
    have h1:p.1∈E1.map Prod.fst:=(by rw[g1];exact Qaq hp);obtain⟨p',hp',he⟩:=Jm.1 h1;rw[←he];exact (hE p' hp').2
   have hty2:∀p∈LGo os zb,SimO (XU os zb (fun x=>True∧¬Sub ids 0 x) p.1) p.2 (H14 p.1):=fun p hp=>by
    rw[hH p hp];exact Ty.get hty hp
   obtain⟨bs,b1,b2,b3⟩:=Qbnm (S:=un H) hC hty2 hS;exact⟨_,FrzL.ag (.cons (Qf rfl) (.cons (Qf rfl) (.cons b1 .nil))),hK ⟨d2.params,nx',bs⟩ _ (fun y hy=>by have:=b3 y hy;exact⟨by omega,by omega⟩) kn.fin⟩
end Go.AE.Y
