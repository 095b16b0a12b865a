/- Part 4 of the proof: the engine, codes, walks and plain laws, each named where it stands. -/
import Derived.Test.YthnafimjdcihlaaGreatDoorZC
import Derived.ProofKit
import Derived.Shelf.Sort.Plain
import Derived.Shelf.Sort.So_math_bits_LenIn
open Nat (reduceEqDiff reduceAdd reduceLeDiff reduceLT)
set_option linter.unusedVariables false
set_option linter.unusedSimpArgs false
set_option maxRecDepth 4000
set_option maxHeartbeats 4000000
open Array renaming getElem?_eq_getElem->Jaa
open Bool renaming and_eq_true->J6
open List renaming mem_singleton->Ja,take_of_length_le->Jb,getD_eq_getElem?_getD->Jc,take_succ_eq_append_getElem->Jd,append_assoc->Je,getElem_mem->Jf,append_nil->Jg,getElem?_eq_getElem->Jh,mem_append->Ji,length_cons->Jj,cons_append->Jk,nil_append->Jl,length_append->Jm,length_eq_zero_iff->Jn,map_append->Jp,perm_append_comm->Jq,mem_append_left->Jr,nodup_append->Js,singleton_append->Jt,length_nil->Ju,mem_map->Jw,getElem?_append_right->Jx,drop_eq_getElem_cons->Jy,contains_iff_mem->Jz,getElem?_cons_zero->J0,all_eq_true->J1,map_cons->J2,mem_cons->J3,take_append_drop->J4,mem_cons_of_mem->J5,drop_of_length_le->J7,mem_cons_self->J8,length_replicate->J9,getElem?_eq_some_iff->Jab,getElem?_cons_succ->Jac,getElem?_map->Jad,length_singleton->Jae,mem_append_right->Jaf,getElem?_of_mem->Jah,all_cons->Jai,all_nil->Jaj,getElem?_append_left->Jak,getElem?_eq_none->Jam,length_map->Jan,nodup_cons->Jao,set_append_right->Jap,set_cons_zero->Jar,any_eq_true->Jat,filter_cons->Jau,not_mem_nil->Jav,all_append->Jax,count_cons->Jay,filter_nil->Jaz,drop_zero->Ja1
open List.cons renaming injEq->Jal
open Nat renaming le_refl->Jo,zero_add->Jag,lt_or_ge->Jaq,le_trans->Jas
open Option renaming getD_some->Jaw,map_some->Ja0
open Option.some renaming injEq->Jv,inj->Ja2
namespace Go.AE.Y
attribute [local go_sem] cond_true cond_false Bool.not_true Bool.not_false
open Go.Proofs.Tryz
variable {H H0:Heap}{K:V→Heap→Prop}{E E' L:List (Nat×Obj)}
theorem Hi {l:List Fn}{fl:Bool}{name:List UInt8}(hK:K (.c (.int .i64 (ixI (As l name)))) H):Qi prog If [.ag [.sl fl 3 (Ae l)],.c (.str name)] H K:=by
 refine Qb Ab Qbqw ?_;have retf:∀(n:Int) (e:Env),n=ixI (As l name)→lk 4 e=.c (.int .i64 n)→Qq Aa K .ret e H:=by
  intro b e hn h1;simp only[go_sem,Qq,Q1,Aa,Ja,forall_eq,RS.op,h1];rw[hn];exact hK
 refine Qa ?_;simp only[go_sem];refine Qp (Qa ?_);simp only[go_sem];refine Qe (Qf (Qu (fun n e1 H1=>∃(i:Nat),n=l.length-i∧i≤l.length∧H1=H∧(∀f∈l.take i,¬f.name=name)∧e1=[(1,.c (.str name)),(2,.c (.pp [.sl fl 3 (Ae l)])),(5,.c (.int .i64 i))]) l.length ?_ ?_))
 ·exact⟨0,by omega,by omega,rfl,by simp,rfl⟩
 ·rintro n e1 H1 ⟨i,cA,hi,rfl,aD,rfl⟩;refine Qp (Qa ?_);simp only[go_sem,Q8];intro hl;simp only[LIM]at hl;refine Qe (Qc rfl ?_ ?_)
  ·intro hc;have aa:i<l.length:=by simpa using hc
   refine Qd ?_;simp only[go_sem];refine Qe (Qf ?_);refine Qa ?_;simp only[go_sem,aa,Q8,Cu _ _ aa,Fn.cells];refine Qc rfl ?_ ?_
   ·intro ao;have eY:l[i].name=name:=(by simpa using ao);refine Qa ?_;simp only[go_sem];refine Qg ?_;simp only[go_sem,AE.X.next];exact retf i _ (by rw[Ki aa eY aD];rfl) rfl
   ·intro ao;have eY:¬l[i].name=name:=(by simpa using ao);refine Qd ?_;simp only[go_sem];refine Qn ?_;simp only[go_sem,AE.X.next];refine⟨Ql,l.length-(i+1),by omega,i+1,rfl,by omega,?_,rfl⟩;rw[Jd aa];intro x hx;rcases Ji.1 hx with hx|hx
    ·exact aD x hx
    ·simp only[Ja]at hx;subst hx;exact eY
  ·intro hc;have aC:l.length≤i:=by simpa using hc
   rw[Jb aC]at aD;refine Qr ?_;simp only[go_sem,AE.X.next];refine Qa ?_;simp only[go_sem];refine Qg ?_;exact retf (-1) _ (by rw[Kh aD];rfl) rfl
abbrev exO (op n:Int)(nm:List UInt8)(kc:C):Obj:=.st [.int .i64 op,.int .i64 n,.str nm,kc]
theorem V8 {w k cnt:Nat}{fl:Bool}{fns:List Fn}{vc:C}{Lg:List (Nat×Obj)}{v:Vars}(hg:Gp Lg 3 (Aq v) vc):∀(n:Nat) (x:Ex) (code:Int) (H:Heap) (K:V→Heap→Prop),
  x.size≤n→x.size≤2^38→((w::Lg.map Prod.fst).Nodup)→(∀p∈(w,wO fl fns k vc cnt code)::Lg,H p.1=p.2)→
  (∀(y:Ex) H',Upd H H' ((w,wO fl fns k vc cnt (A5 fns k v x.pre code))::Lg)→K (.ag y.cells) H')→Qi prog PU [.c (.ptr w 0),.ag x.cells] H K:=by
 have an:=hg.ah;intro n
 induction n with
 |zero=>intro x code H K h;have:=x.size_pos;omega
 |succ n ih=>
 intro x code H K hn hb cf hh hK;have be:=x.size_kids;have bm:∀c,∀p∈(w,wO fl fns k vc cnt c)::Lg,p.2≠.none:=by
  intro c p hp;rcases J3.1 hp with rfl|hp
  ·nofun
  ·exact hg.ne p hp
 have kn:Kn H H ((w,wO fl fns k vc cnt code)::Lg) []:=.startE (fun p hp=>⟨hh p hp,bm _ p hp⟩) cf;refine A0 ?_;refine Qb Ab Qa4z ?_;refine Qa ?_;simp only[go_sem,x.ab];intro x3 eF H1 h1;have kn:=kn.al eF h1;simp only[go_sem,Qyb];intro x4 dP H2 h2;have kn:Kn H H2 ((w,wO fl fns k vc cnt code)::Lg) [(x3,exO x.op x.n x.name (.sl false 4 (Af x.kids))),(x4,exO 0 0 [] (.sl true 4 []))]:=kn.al dP h2;try simp only[go_sem]
 have three:∀(H1:Heap) (e1:Env) (nm:List UInt8),Kn H H1 ((w,wO fl fns k vc cnt (Ah code (AT fns k v x)))::Lg) [(x3,exO x.op x.n nm (.sl false 4 (Af x.kids))),(x4,exO 0 0 [] (.sl true 4 []))]→
   lk 0 e1=.c (.ptr w 0)→lk 3 e1=.c (.ptr x3 0)→lk 4 e1=.c (.ptr x4 0)→Ag prog S2 (Qq Is (unK H K)) e1 H1:=by
  intro H1 e1 nm kn f0 f3 f4;refine Qa ?_;simp only[go_sem,f0,f3,f4];refine Qp (Qa ?_);simp only[go_sem];refine Qe (Qf (Qu (fun m e2 H2=>∃(j:Nat) (ks:List Ex) (Lk:List (Nat×Obj)) (t:C),m=x.kids.length-j∧j≤x.kids.length∧Gr Lk 4 (Af ks) t∧ks.length=j∧
   Kn H H2 ((w,wO fl fns k vc cnt (A5 fns k v (Ap (x.kids.take j)) (Ah code (AT fns k v x))))::Lg) ([(x3,exO x.op x.n nm (.sl false 4 (Af x.kids))),(x4,exO 0 0 [] (.sl true 4 []))]++Lk)∧
   e2=[(0,.c (.ptr w 0)),(3,.c (.ptr x3 0)),(4,.c (.ptr x4 0)),(6,.c t),(7,.c (.int .i64 j))]) x.kids.length ?_ ?_))
  ·exact⟨0,[],[],.sl true 4 [],by omega,by omega,.nil 4,rfl,by simpa[Ap,A5]using kn,rfl⟩
  ·clear kn f0 f3 f4;rintro m e2 H2 ⟨j,ks,Lk,t,hm,hj,qE,qq,kn,rfl⟩;have aE:=qE.ah;have g3:=kn.l 0 rfl;refine Qp (Qa ?_);simp only[go_sem,g3,aE,Qt];intro hl;simp only[LIM]at hl;refine Qe (Qc rfl ?_ ?_)
   ·intro hc;have aa:j<x.kids.length:=(by simpa using hc);have eK:=B0 (Jf aa);obtain⟨y,hy⟩:∃y,x.kids[j]=y:=⟨_,rfl⟩;have aO:=Pr aa;rw[hy]at eK aO;refine Qd ?_;try simp only[go_sem]
    refine Qe (Qf ?_);refine Qn ?_;simp only[go_sem,g3,aE,aa,Qt,B7 _ _ aa,hy,y.ab];have i9:=fun K=>ih y (A5 fns k v (Ap (x.kids.take j)) (Ah code (AT fns k v x))) H2 K;rw[y.ab]at i9;refine i9 _ (by omega) (by omega) cf (fun p hp=>(kn.get p (Jr _ hp)).1) fun z H5 hu=>?_;have kn:=kn.callAll hu rfl (bm _);simp only[go_sem,Qyf,aE,z.aj];refine kn.dk qE (.mk' _ true 4 _) (by simpa using z.ar) (by simp only[Qt,Jj,Ju,LIM];omega) fun t' Lk' H6 ew gD kn=>?_;rw[Ru]at ew;simp only[go_sem,Qye,gD];refine Qn ?_;simp only[go_sem,AE.X.next,gD];refine⟨Ql,x.kids.length-(j+1),by omega,j+1,ks++[z],Lk',t',rfl,by omega,ew,by simp[qq],?_,rfl⟩;rw[aO,GB];exact kn
   ·intro hc;have aC:x.kids.length≤j:=(by simpa using hc);rw[Jb aC]at kn;refine Qr ?_;simp only[go_sem,AE.X.next];refine Qa ?_;simp only[go_sem,g3,aE];intro H3 h3;have kn:=kn.aT 0 rfl h3;have g3:=kn.l 0 rfl;have g4:=kn.l 1 rfl;refine Qa ?_;simp only[go_sem,g3,g4,aE];intro H4 h4;have kn:=kn.aT 1 rfl h4;have g4:=kn.l 1 rfl;refine Qg ?_;simp only[go_sem,Qq,Q1,Is,Ja,forall_eq,RS.op,g4,aE];refine⟨.ag (Ex.mk x.op x.n nm ks).cells,?_,hK (Ex.mk x.op x.n nm ks) _ ?_⟩
    ·rw[Ex.ab];exact (FrzL.cons (Qj rfl) (.cons (Qj rfl) (.cons (Qj rfl) (.cons (qE.frz (B:=[_,_]) kn (Ij _)) .nil)))).ag
    ·rw[x.pre_eq];exact kn.fin
 have two:∀(H1:Heap) (e1:Env) (nm:List UInt8) (code1:Int),(x.op=2→code1=Ah code (AT fns k v x))→(¬x.op=2→code1=code∧nm=x.name)→Kn H H1 ((w,wO fl fns k vc cnt code1)::Lg) [(x3,exO x.op x.n nm (.sl false 4 (Af x.kids))),(x4,exO 0 0 [] (.sl true 4 []))]→
   lk 0 e1=.c (.ptr w 0)→lk 3 e1=.c (.ptr x3 0)→lk 4 e1=.c (.ptr x4 0)→Ag prog Qya (Qq Is (unK H K)) e1 H1:=by
  intro H1 e1 nm code1 bE ao kn f0 f3 f4;have g3:=kn.l 0 rfl;have gw:=kn.e 0 rfl;refine Qp (Qa ?_);simp only[go_sem,f0,f3,f4,g3];refine Qe (Qc rfl ?_ ?_)
  ·intro hc;have jw:x.op=13:=by simpa using hc
   have h2:¬x.op=2:=by omega
   obtain⟨ec,en⟩:=ao h2;rw[ec,en]at kn;rw[ec]at gw;rw[en]at g3;have cM:=Kp fns k v x;rw[if_neg h2,if_pos jw]at cM;refine Ak ?_;simp only[go_sem,g3,gw,an];refine Hi ?_;simp only[go_sem,Qyd];have bad:∀(e2:Env),AT fns k v x=4→lk 0 e2=.c (.ptr w 0)→lk 3 e2=.c (.ptr x3 0)→lk 4 e2=.c (.ptr x4 0)→lk 35 e2=.c (.bool true)→Ag prog Q3t (X.sq prog S2 (Qq Is (unK H K))) e2 H1:=by
    intro e2 hp f0 f3 f4 f35;refine Qc (c:=true) f35 (fun _=>?_) (fun h=>by cases h);refine Qn ?_;simp only[go_sem,f0,f3,f4];refine D7 an gw fun H3 hu=>?_;have kn:=kn.fU 0 rfl hu (by nofun);rw[←hp]at kn;simp only[go_sem,AE.X.next];exact three _ _ _ kn rfl rfl rfl
   cases hx:As fns x.name with
   |none=>
    rw[hx]at cM;refine Qa ?_;simp only[go_sem,ixI,gw,an];exact bad _ cM rfl rfl rfl rfl
   |some j=>
    rw[hx]at cM;obtain⟨hj,_,_⟩:=EG hx;simp only[hj,Jh,Ja0,Jaw]at cM;have sn:decide ((j:Int)<0)=false:=decide_eq_false (by omega);refine Qa ?_;simp only[go_sem,ixI,gw,an,sn];by_cases qr:k≤j
    ·have hd:decide ((k:Int)≤(j:Int))=true:=decide_eq_true (by omega);rw[if_pos qr]at cM;refine bad _ cM rfl rfl rfl ?_;simp[lk,qr]
    ·have hd:decide ((k:Int)≤(j:Int))=false:=decide_eq_false (by omega);rw[if_neg qr]at cM;refine Qc (c:=false) (by simp[Opd.raw,lk];omega) (fun h=>by cases h) (fun _=>?_);refine Ak ?_;simp only[go_sem,g3,gw,an,hj,Q8,Cu _ _ hj,Fn.cells,Qs,Qt];refine Qc rfl ?_ ?_
     ·intro bX;have bm:¬fns[j].params.length=x.kids.length:=by
       have h:=Bm bX;rw[decide_eq_false_iff_not]at h;omega
      rw[if_neg bm]at cM;refine Qn ?_;simp only[go_sem];refine D7 an gw fun H3 hu=>?_;have kn:=kn.fU 0 rfl hu (by nofun);rw[←cM]at kn;simp only[go_sem,AE.X.next];exact three _ _ _ kn rfl rfl rfl
     ·intro bX;have he:fns[j].params.length=x.kids.length:=by
       have h:=AK bX;rw[decide_eq_true_eq]at h;omega
      rw[if_pos he]at cM;refine Qd ?_;simp only[go_sem,AE.X.next];refine three _ _ x.name ?_ rfl rfl rfl;rw[cM,CV];exact kn
  ·intro hc;have jw:¬x.op=13:=by simpa using hc
   refine Qd ?_;simp only[go_sem,AE.X.next];refine three _ _ nm ?_ rfl rfl rfl;by_cases h2:x.op=2
   ·rw[←bE h2];exact kn
   ·obtain⟨ec,_⟩:=ao h2;rw[ec]at kn;have cM:=Kp fns k v x;rw[if_neg h2,if_neg jw]at cM;rw[cM,CV];exact kn
 have g3:=kn.l 0 rfl;have gw:=kn.e 0 rfl;refine Qp (Qa ?_);simp only[go_sem,g3];refine Qe (Qc rfl ?_ ?_)
 ·intro hc;have h2:x.op=2:=by simpa using hc
  have cM:AT fns k v x=if (v.find x.name).isSome then 0 else 3:=by rw[AT,if_pos h2]
  refine Qn ?_;simp only[go_sem,g3];refine IR an gw (hg.slc fun p hp=>(kn.get p (by simp[hp])).1) fun t H3 hu=>?_;have kn:=kn.fU 0 rfl hu (by nofun);have g3:=kn.l 0 rfl;simp only[go_sem,Qyc,g3];intro H4 h4;have kn:=kn.aT 0 rfl h4;try simp only[go_sem,AE.X.next]
  exact two _ _ t _ (fun _=>by rw[cM]) (fun h=>absurd h2 h) kn rfl rfl rfl
 ·intro hc;have h2:¬x.op=2:=by simpa using hc
  refine Qd ?_;simp only[go_sem,AE.X.next];exact two _ _ x.name code (fun h=>absurd h h2) (fun _=>⟨rfl,rfl⟩) kn rfl rfl rfl
end Go.AE.Y
namespace Go.AE.Y
structure Blk where
 ic:C
 ak:List (List C)
 lg:List (Nat×Obj)
 jump:Int
 on:Int
 nfl:Bool
 next:List Int
def Blk.row (b:Blk):List C:=[.sl true 2 [],b.ic,.int .i64 b.jump,.int .i64 b.on,.sl b.nfl 1 (intsOf b.next)]
structure LS where
 fns:List Fn
 pfl:Bool
 params:Int
 ae:Int
 bc:C
 lb:List (Nat×Obj)
 blocks:List Blk
 at_:Nat
 vc:C
 lv:List (Nat×Obj)
 vars:List (List C)
 next:Int
def LS.o (s:LS):Obj:=.st [.sl s.pfl 3 (Ae s.fns),.int .i64 s.params,.int .i64 s.ae,s.bc,.int .i64 s.at_,s.vc,.int .i64 s.next,.sl true 1 []]
def LS.L (s:LS)(w:Nat):List (Nat×Obj):=[(w,s.o)]++(s.lb++(s.lv++s.blocks.flatMap Blk.lg))
def InsRow (r:List C):Prop:=∃(op to n:Int) (fl:Bool) (args:List Int),r=[.int .i64 op,.int .i64 to,.sl fl 1 (intsOf args),.int .i64 n]
def VarRow (r:List C):Prop:=∃(s:List UInt8) (a b:Int),r=[.str s,.int .i64 a,.int .i64 b]
def VGr (lv:List (Nat×Obj))(vars:List (List C))(c:C):Prop:=
 (c=.sl true 3 []∧vars=[]∧lv=[])∨∃y all n,c=.aG y 3 0 n∧n≤all.length∧vars=all.take n∧lv=[(y,.vec 3 all)]
structure LInv (F H:Heap)(w:Nat)(s:LS):Prop where
 kn:Kn F H [] (s.L w)
 gb:Gr s.lb 5 (s.blocks.map Blk.row) s.bc
 gv:VGr s.lv s.vars s.vc
 gi:∀b∈s.blocks,Gr b.lg 4 b.ak b.ic
 ri:∀b∈s.blocks,∀r∈b.ak,InsRow r
 rv:∀r∈s.vars,VarRow r
structure LS.ok (s:LS)(N:Nat):Prop where
 r0:0≤s.ae
 r1:s.ae≤N
 n0:0≤s.next
 n1:s.next≤N
 b1:s.blocks.length≤N
 i1:∀b∈s.blocks,b.ak.length≤N
 v1:s.vars.length≤N
theorem LS.ok.mono {s:LS}{N M:Nat}(h:s.ok N)(hm:N≤M):s.ok M:=
 ⟨h.r0,by have:=h.r1;omega,h.n0,by have:=h.n1;omega,by have:=h.b1;omega,fun b hb=>by have:=h.i1 b hb;omega,by have:=h.v1;omega⟩
theorem InsRow.ar {r:List C}(h:InsRow r):Go.AE.ar r=true:=by obtain⟨_,_,_,_,_,rfl⟩:=h;rfl
theorem VarRow.ar {r:List C}(h:VarRow r):Go.AE.ar r=true:=by obtain⟨_,_,_,rfl⟩:=h;rfl
theorem VGr.ah {lv:List (Nat×Obj)}{vars:List (List C)}{c:C}(h:VGr lv vars c):c.ah=false:=by
 rcases h with ⟨rfl,_⟩|⟨_,_,_,rfl,_⟩ <;> rfl
theorem VGr.aQ {lv:List (Nat×Obj)}{vars:List (List C)}{c:C}(h:VGr lv vars c):c.aQ=3:=by
 rcases h with ⟨rfl,_⟩|⟨_,_,_,rfl,_⟩ <;> rfl
theorem VGr.ax {lv:List (Nat×Obj)}{vars:List (List C)}{c:C}(h:VGr lv vars c):Go.AE.ax c=vars.length:=by
 rcases h with ⟨rfl,rfl,_⟩|⟨_,_,_,rfl,h,rfl,_⟩
 ·rfl
 ·simp[Go.AE.ax];omega
variable {F H H':Heap}{w:Nat}{s:LS}
theorem LInv.hw (h:LInv F H w s):H w=s.o:=h.kn.l 0 rfl
theorem LInv.vget (h:LInv F H w s):bt H s.vc=True∧rowsOf H s.vc=s.vars:=by
 rcases h.gv with ⟨h1,h2,_⟩|⟨y,all,n,h1,h2,h3,h4⟩
 ·rw[h1,h2];exact⟨rfl,rfl⟩
 ·have hy:H y=.vec 3 all:=(h.kn.get (y,.vec 3 all) (by simp[LS.L,h4])).1;rw[h1];refine⟨eq_true ?_,?_⟩
  ·simp only[Go.AE.bt,hy];exact⟨trivial,by omega⟩
  ·simp only[Go.AE.rowsOf,hy,Ja1,h3]
theorem LInv.bvec (h:LInv F H w s)(hb:0<s.blocks.length):∃y,s.bc=.aG y 5 0 s.blocks.length∧s.lb=[(y,.vec 5 (s.blocks.map Blk.row))]∧H y=.vec 5 (s.blocks.map Blk.row):=by
 rcases h.gb with ⟨_,h2,_⟩|⟨y,h1,h2⟩
 ·simp at h2;rw[h2]at hb;simp at hb
 ·refine⟨y,by rw[h1];simp,h2,?_⟩;exact (h.kn.get (y,.vec 5 (s.blocks.map Blk.row)) (by simp[LS.L,h2])).1
theorem LInv.setw {s':LS}(h:LInv F H w s)(h1:H'=H.set w s'.o)(a1:s'.lb=s.lb)(a2:s'.lv=s.lv)(a3:s'.blocks=s.blocks)(a4:s'.bc=s.bc)(a5:VGr s.lv s'.vars s'.vc)(a6:∀r∈s'.vars,VarRow r):LInv F H' w s':=by
 refine⟨?_,by rw[a1,a3,a4];exact h.gb,by rw[a2];exact a5,by rw[a3];exact h.gi,by rw[a3];exact h.ri,a6⟩;have:=h.kn.aT 0 (x:=w) (o:=s.o) rfl h1 (by simp[LS.o]);simp only[LS.L,a1,a2,a3];exact this
theorem Xv {α:Type}{A X Y:List α}:(A++(X++Y)).Perm ((A++Y)++X):=by
 rw[Je];exact .append_left _ Jq
theorem LInv.addBlk {K:V→Heap→Prop}{fl:Bool}{b:Blk}(h:LInv F H w s)(hl:s.blocks.length+1≤LIM)(b1:b.lg=[])(b2:b.ic=.sl true 4 [])(b3:b.ak=[])
  (hK:∀(y:Nat) (H1:Heap),H1 w=s.o→(∀H2,H2=H1.set w (LS.o { s with bc:=.aG y 5 0 (s.blocks.length+1) })→
   LInv F H2 w { s with bc:=.aG y 5 0 (s.blocks.length+1),lb:=[(y,.vec 5 ((s.blocks++[b]).map Blk.row))],blocks:=s.blocks++[b] })→K (.c (.aG y 5 0 (s.blocks.length+1))) H1) :
  appQ H 5 s.bc (.sl fl 5 [b.row]) K:=by
 have kn:=h.kn;have kn:Kn F H [] (([(w,s.o)]++(s.lv++s.blocks.flatMap Blk.lg))++s.lb):=kn.perm Xv;refine kn.grow h.gb (.mk' _ _ _ _) (by
  intro r hr;simp only[Ja]at hr;subst hr;simp only[Blk.row,b2];rfl) (by simpa using hl) fun y H1 kn=>?_
 have e1:(s.blocks.map Blk.row).length+[b.row].length=s.blocks.length+1:=by simp
 rw[e1];refine hK y H1 (kn.l 0 rfl) fun H2 h2=>⟨?_,?_,h.gv,?_,?_,h.rv⟩
 ·have:=kn.aT 0 (x:=w) (o:=s.o) rfl h2 (by simp[LS.o]);simp only[LS.L,List.flatMap_append,List.flatMap_cons,List.flatMap_nil,b1,Jg,Jp,J2,List.map_nil];simp only[Jk,Jl,Jar]at this⊢;refine this.perm (.cons _ ?_);exact Jq
 ·exact .mk _ _ _ (by simp)
 ·intro b' aR;rcases Ji.1 aR with aR|aR
  ·exact h.gi b' aR
  ·simp at aR;subst aR;rw[b1,b2,b3];exact .nil 4
 ·intro b' aR;rcases Ji.1 aR with aR|aR
  ·exact h.ri b' aR
  ·simp at aR;subst aR;rw[b3];simp
theorem CQ {α β:Type}(f:α→List β)(l:List α)(i:Nat)(hi:i<l.length):(l.flatMap f).Perm (f l[i]++(l.eraseIdx i).flatMap f):=by
 have h1:(l[i]::l.eraseIdx i).Perm l:=by
  rw[List.eraseIdx_eq_take_drop_succ];refine List.perm_middle.symm.trans ?_;rw[←Jy hi,J4]
 have h2:=h1.symm.flatMap_right f;simpa using h2
theorem DE {α β:Type}(f:α→List β)(l:List α)(i:Nat)(x:α)(hi:i<l.length):((l.set i x).flatMap f).Perm (f x++(l.eraseIdx i).flatMap f):=by
 have:=CQ f (l.set i x) i (by simpa using hi);simpa[List.eraseIdx_set_eq]using this
theorem Ik (l:List Blk)(i:Nat)(b:Blk):(l.map Blk.row).set i b.row=(l.set i b).map Blk.row:=by rw[List.map_set]
theorem CB {l:List Blk}{i:Nat}{b x:Blk}(h:x∈l.set i b):x=b∨x∈l:=by
 rcases DW h with h|⟨j,_,h⟩
 ·exact .inl h
 ·exact .inr (List.mem_of_getElem? h)
theorem LInv.setBlk {b':Blk}{y i:Nat}(h:LInv F H w s)(hi:i<s.blocks.length)(cK:s.bc=.aG y 5 0 s.blocks.length)(dT:s.lb=[(y,.vec 5 (s.blocks.map Blk.row))])
  (h1:H'=H.set y (.vec 5 ((s.blocks.set i b').map Blk.row))) (a1:b'.lg=s.blocks[i].lg) (a2:b'.ic=s.blocks[i].ic) (a3:b'.ak=s.blocks[i].ak) :
  LInv F H' w { s with lb:=[(y,.vec 5 ((s.blocks.set i b').map Blk.row))],blocks:=s.blocks.set i b' }:=by
 have hm:=Jf hi;refine⟨?_,?_,h.gv,fun b hb=>?_,fun b hb=>?_,h.rv⟩
 ·have kn:=h.kn;simp only[LS.L,dT]at kn;have kn:=kn.aT 1 (x:=y) rfl h1;refine kn.perm ?_;simp only[LS.L,Jk,Jl,Jar,List.set_cons_succ];refine .cons _ (.cons _ (.append_left _ ?_));refine (CQ Blk.lg s.blocks i hi).trans ?_;rw[←a1];exact (DE Blk.lg s.blocks i b' hi).symm
 ·simp only[cK];exact .mk _ _ _ (by simp)
 ·rcases CB hb with rfl|hb
  ·rw[a1,a2,a3];exact h.gi _ hm
  ·exact h.gi b hb
 ·rcases CB hb with rfl|hb
  ·rw[a3];exact h.ri _ hm
  ·exact h.ri b hb
theorem LInv.addIns {K:V→Heap→Prop}{y i:Nat}{fl:Bool}{r:List C}(h:LInv F H w s)(hi:i<s.blocks.length)(cK:s.bc=.aG y 5 0 s.blocks.length)(dT:s.lb=[(y,.vec 5 (s.blocks.map Blk.row))])
  (hr:InsRow r) (hl:s.blocks[i].ak.length+1≤LIM)
  (hK:∀(z:Nat) (H1:Heap),H1 w=s.o→H1 y=.vec 5 (s.blocks.map Blk.row)→
   (∀H2,H2=H1.set y (.vec 5 ((s.blocks.map Blk.row).set i (Blk.row { s.blocks[i]with ic:=.aG z 4 0 (s.blocks[i].ak.length+1) })))→
    ∃b':Blk,b'.ak.length=s.blocks[i].ak.length+1∧LInv F H2 w { s with lb:=[(y,.vec 5 ((s.blocks.set i b').map Blk.row))],blocks:=s.blocks.set i b' })→K (.c (.aG z 4 0 (s.blocks[i].ak.length+1))) H1) :
  appQ H 4 s.blocks[i].ic (.sl fl 4 [r]) K:=by
 have hm:=Jf hi;have kn:=h.kn;simp only[LS.L]at kn;have kn:Kn F H [] (([(w,s.o)]++(s.lb++(s.lv++(s.blocks.eraseIdx i).flatMap Blk.lg)))++s.blocks[i].lg):=kn.perm (by
  have h1:(s.blocks.flatMap Blk.lg).Perm ((s.blocks.eraseIdx i).flatMap Blk.lg++s.blocks[i].lg):=(CQ Blk.lg s.blocks i hi).trans Jq;refine ((h1.append_left _).append_left _ |>.append_left _).trans ?_;simp only[Je];exact .refl _)
 refine kn.grow (h.gi _ hm) (.mk' _ _ _ _) (by intro r' aP;simp only[Ja]at aP;subst aP;exact hr.ar) (by simpa using hl) fun z H1 kn=>?_;have e1:s.blocks[i].ak.length+[r].length=s.blocks[i].ak.length+1:=by simp
 rw[e1];simp only[dT]at kn;refine hK z H1 (kn.l 0 rfl) (kn.l 1 rfl) fun H2 h2=>?_;refine⟨{ s.blocks[i]with ic:=.aG z 4 0 (s.blocks[i].ak.length+1),ak:=s.blocks[i].ak++[r],lg:=[(z,.vec 4 (s.blocks[i].ak++[r]))] },by simp,?_⟩;have av:Blk.row { s.blocks[i]with ic:=.aG z 4 0 (s.blocks[i].ak.length+1) }=Blk.row { s.blocks[i]with ic:=.aG z 4 0 (s.blocks[i].ak.length+1),ak:=s.blocks[i].ak++[r],lg:=[(z,.vec 4 (s.blocks[i].ak++[r]))] }:=rfl;rw[av,Ik]at h2;refine⟨?_,?_,h.gv,fun b hb=>?_,fun b hb=>?_,h.rv⟩
 ·have kn:=kn.aT 1 (x:=y) rfl h2;refine kn.perm ?_;simp only[LS.L];have h1:=(DE Blk.lg s.blocks i { s.blocks[i]with ic:=.aG z 4 0 (s.blocks[i].ak.length+1),ak:=s.blocks[i].ak++[r],lg:=[(z,.vec 4 (s.blocks[i].ak++[r]))] } hi).symm;have h3:=(Jq.trans h1).append_left ([(w,s.o)]++([(y,Obj.vec 5 ((s.blocks.set i { s.blocks[i]with ic:=.aG z 4 0 (s.blocks[i].ak.length+1),ak:=s.blocks[i].ak++[r],lg:=[(z,.vec 4 (s.blocks[i].ak++[r]))] }).map Blk.row))]++s.lv));refine List.Perm.trans ?_ (h3.trans ?_)
  ·simp only[List.set,Jk,Jl,Je];exact .refl _
  ·simp only[Jk,Jl];exact .refl _
 ·simp only[cK];exact .mk _ _ _ (by simp)
 ·rcases CB hb with rfl|hb
  ·exact .mk _ _ _ (by simp)
  ·exact h.gi b hb
 ·rcases CB hb with rfl|hb
  ·intro r' aP;rcases Ji.1 aP with aP|aP
   ·exact h.ri _ hm r' aP
   ·simp at aP;subst aP;exact hr
  ·exact h.ri b hb
theorem LInv.addVar {K:V→Heap→Prop}{fl:Bool}{r:List C}(h:LInv F H w s)(hr:VarRow r)(hl:s.vars.length+1≤LIM)
  (hK:∀(y:Nat) (H1:Heap),H1 w=s.o→(∀H2,H2=H1.set w (LS.o { s with vc:=.aG y 3 0 (s.vars.length+1) })→
   LInv F H2 w { s with vc:=.aG y 3 0 (s.vars.length+1),lv:=[(y,.vec 3 (s.vars++[r]))],vars:=s.vars++[r] })→K (.c (.aG y 3 0 (s.vars.length+1))) H1) :
  appQ H 3 s.vc (.sl fl 3 [r]) K:=by
 have pC:∀r'∈s.vars++[r],VarRow r':=fun r' aP=>by
  rcases Ji.1 aP with h1|h1
  ·exact h.rv r' h1
  ·simp at h1;subst h1;exact hr
 have kn:=h.kn;have kn:Kn F H [] (([(w,s.o)]++(s.lb++s.blocks.flatMap Blk.lg))++s.lv):=kn.perm (by
  simp only[LS.L];refine List.Perm.trans (.append_left _ (.append_left _ Jq)) ?_;simp only[Je];exact .refl _)
 have fin:∀(y:Nat) (H1:Heap),Kn F H1 [] (([(w,s.o)]++(s.lb++s.blocks.flatMap Blk.lg))++[(y,.vec 3 (s.vars++[r]))])→K (.c (.aG y 3 0 (s.vars.length+1))) H1:=by
  intro y H1 kn;refine hK y H1 (kn.l 0 rfl) fun H2 h2=>⟨?_,h.gb,.inr ⟨y,s.vars++[r],s.vars.length+1,rfl,by simp,by rw[Jb (by simp)],rfl⟩,h.gi,h.ri,pC⟩;have kn:=kn.aT 0 (x:=w) (o:=s.o) rfl h2 (by simp[LS.o]);refine kn.perm ?_;simp only[LS.L,List.set,Jk,Jl,Je];refine .cons _ (.append_left _ ?_);exact Jq
 refine⟨trivial,rfl,?_⟩;rcases h.gv with ⟨h1,h2,h3⟩|⟨y,all,n,h1,h2,h3,h4⟩
 ·rw[h1];rw[h3,Jg]at kn;simp only[rowsOf,Go.AE.ax,Jl,Ju,Jag,Jae];refine⟨trivial,.inl trivial,by intro r' aP;simp only[Ja]at aP;subst aP;exact hr.ar,by simp only[LIM];omega,fun l hl H' cu=>?_⟩;have:=fin l H' (by rw[h2];simpa using kn.al hl cu);rw[h2]at this;exact this
 ·rw[h4]at kn;have hy:H y=.vec 3 all:=(kn.get (y,.vec 3 all) (by simp)).1;have hn:s.vars.length=n:=by rw[h3];simp;omega
  rw[h1];simp only[hy,rowsOf,Go.AE.ax,Ja1,Jae];refine⟨trivial,trivial,by omega,by intro r' aP;simp only[Ja]at aP;subst aP;exact hr.ar,by omega,fun l' cB H' cu=>?_⟩;rw[←hn]at cu⊢;rw[hn,←h3]at cu;refine fin l' H' ?_;have:=kn.ap ([(w,s.o)]++(s.lb++s.blocks.flatMap Blk.lg)).length (y:=y) (o:=.vec 3 all) (by simp) cB cu;simpa using this
end Go.AE.Y
namespace Go.AE
variable {H0 H H' F:Heap}{E L B A:List (Nat×Obj)}
theorem Kn.toFrame {y:Nat}{o:Obj}(kn:Kn F H [] (L++[(y,o)])):Kn (F.set y o) H [] L:=by
 have cf:=kn.dL;rw[Jp]at cf;have bm:∀p∈L,p.1≠y:=fun p hp hh=>(Js.1 cf).2.2 _ (BO hp) y (by simp) hh;refine⟨fun p hp=>kn.get p (by simp only[Jl]at hp⊢;exact Jr _ hp),by simp,fun p hp=>?_,by simp,(Js.1 cf).1,fun m hm _=>?_⟩
 ·rw[Heap.af _ _ (bm p hp)];exact kn.loc p (Jr _ hp)
 ·by_cases h:m=y
  ·subst h;rw[Heap.ay];exact (kn.get (m,o) (by simp)).1
  ·rw[Heap.af _ _ h]at hm⊢;exact kn.chg m hm (by simp)
theorem Kn.ofFrame {y:Nat}{o:Obj}(kn:Kn (F.set y o) H [] L)(hF:F y=.none)(ho:o≠.none):Kn F H [] (L++[(y,o)]):=by
 have hy:H y=o:=by have:=kn.chg y (by rw[Heap.ay];exact ho) (by simp);rw[this,Heap.ay]
 have bm:∀p∈L,p.1≠y:=fun p hp hh=>by have:=kn.loc p hp;rw[hh,Heap.ay]at this;exact ho this
 refine⟨fun p hp=>?_,by simp,fun p hp=>?_,by simp,?_,fun m hm _=>?_⟩
 ·simp only[Jl]at hp;rcases Ji.1 hp with hp|hp
  ·exact kn.get p (by simpa using hp)
  ·simp at hp;subst hp;exact⟨hy,ho⟩
 ·rcases Ji.1 hp with hp|hp
  ·have:=kn.loc p hp;rw[Heap.af _ _ (bm p hp)]at this;exact this
  ·simp at hp;subst hp;exact hF
 ·rw[Jp];refine Js.2 ⟨kn.dL,by simp,fun a ha b hb=>?_⟩;simp at hb;subst hb;obtain⟨p,hp,rfl⟩:=Jw.1 ha;exact bm p hp
 ·have rN:m≠y:=fun h=>by subst h;exact hm hF
  have:=kn.chg m (by rw[Heap.af _ _ rN];exact hm) (by simp);rw[this,Heap.af _ _ rN]
theorem Kn.frz1 {z:Nat}{o:Obj}(kn:Kn H0 H E (B++[(z,o)])):Kn H0 (H.frz fun m=>m == z) E B:=by
 have du:H0 z=.none:=kn.loc (z,o) (by simp);have cf:=kn.dL;rw[Jp]at cf;have bm:∀p∈B,p.1≠z:=fun p hp hh=>(Js.1 cf).2.2 _ (BO hp) z (by simp) hh;have lq:∀p∈E,p.1≠z:=fun p hp hh=>kn.ext p hp (hh▸du);refine⟨fun p hp=>?_,kn.ext,fun p hp=>kn.loc p (Jr _ hp),kn.dE,(Js.1 cf).1,fun m hm hx=>?_⟩
 ·have:p.1≠z:=by
   rcases Ji.1 hp with h|h
   ·exact lq p h
   ·exact bm p h
  have h2:(H.frz fun m=>m == z) p.1=H p.1:=by simp[Heap.frz,this]
  rw[h2];refine kn.get p ?_;rcases Ji.1 hp with h|h
  ·exact Jr _ h
  ·exact Jaf _ (Jr _ h)
 ·have:m≠z:=fun h=>hm (h▸du);have h2:(H.frz fun m=>m == z) m=H m:=by simp[Heap.frz,this]
  rw[h2];exact kn.chg m hm hx
theorem Gr.freeze {Lg:List (Nat×Obj)}{sz:Nat}{rows:List (List C)}{c:C}(h:Gr Lg sz rows c)(kn:Kn H0 H E (B++Lg))(hr:∀r∈rows,ar r=true) :
  ∃S H2,FrzC H S c (.sl false sz rows)∧FrzH H S H2∧Kn H0 H2 E B:=by
 rcases h with ⟨rfl,rfl,rfl⟩|⟨y,rfl,rfl⟩
 ·refine⟨fun _=>false,H,Y.FrzR.nil.sl,fun m=>.inr ⟨rfl,.same _⟩,by simpa using kn⟩
 ·exact⟨fun m=>m == y,_,(Y.FrzR.same hr).aG (by simp) (kn.get (y,.vec sz rows) (by simp)).1 rfl,K1 _ _,kn.frz1⟩
end Go.AE
namespace Go.AE.Y
variable {F H H':Heap}{w:Nat}{s:LS}{Lg:List (Nat×Obj)}{sz:Nat}{rows:List (List C)}{c:C}
theorem LInv.re {H2:Heap}(h:LInv F H w s)(kn:Kn F H2 [] (s.L w)):LInv F H2 w s:=⟨kn,h.gb,h.gv,h.gi,h.ri,h.rv⟩
theorem LInv.beside (h:LInv F H w s)(kn:Kn F H [] (s.L w++Lg))(hg:Gr Lg sz rows c) :
  ∃F',LInv F' H w s∧∀(s':LS) (H':Heap),LInv F' H' w s'→LInv F H' w s'∧Kn F H' [] (s'.L w++Lg):=by
 rcases hg with ⟨_,_,rfl⟩|⟨y,_,rfl⟩
 ·exact⟨F,h,fun s' H' h'=>⟨h',by simpa using h'.kn⟩⟩
 ·refine⟨F.set y (.vec sz rows),⟨kn.toFrame,h.gb,h.gv,h.gi,h.ri,h.rv⟩,fun s' H' h'=>?_⟩;have k2:=h'.kn.ofFrame (kn.loc (y,.vec sz rows) (by simp)) (by simp);exact⟨⟨k2.drop,h'.gb,h'.gv,h'.gi,h'.ri,h'.rv⟩,k2⟩
end Go.AE.Y
namespace Go.AE
variable {H0 H H' F:Heap}{E L B A M:List (Nat×Obj)}{S:Nat→Bool}
theorem Kn.stM {x:Nat}{o o':Obj}(kn:Kn H0 H E (A++(x,o)::B))(h1:H'=H.set x o')(ho:o'≠.none:=by nofun):Kn H0 H' E (A++(x,o')::B):=by
 have:=kn.aT A.length (x:=x) (o:=o) (by simp) h1 ho;simpa using this
theorem Kn.getM {x:Nat}{o:Obj}(kn:Kn H0 H E (A++(x,o)::B)):H x=o:=(kn.get (x,o) (by simp)).1
theorem Qb0y {e e':Env}(h:∀p∈e',FrzV H S (lk p.1 e) p.2):∀t,FrzV H S (lk t e) (lk t e'):=fun t=>by
 induction e' with
 |nil=>exact .unk _
 |cons p e' ih=>
  obtain⟨s,v⟩:=p;by_cases ht:t=s
  ·subst ht;have:=h (t,v) J8;simpa[lk]using this
  ·have:=ih fun p hp=>h p (J5 _ hp);simpa[lk,ht]using this
end Go.AE
namespace Go.AE.Y
attribute [local go_sem] cond_true cond_false Bool.not_true Bool.not_false
open Go.Proofs.Tryz
variable {H H0 F:Heap}{K:V→Heap→Prop}{E E' L:List (Nat×Obj)}
def StsW (w k:Nat)(fl:Bool)(fns:List Fn)(n:Nat):Prop:=∀(sts:List St) (f5:Bool) (b:List (List UInt8×Nat)) (r:Vars) (s:Ck) (vc:C) (Lg:List (Nat×Obj)) (F H:Heap) (K:V→Heap→Prop),
 Qh sts≤n→s.v=b::r→(r≠[]→b=[])→Gp Lg 3 (Aq (b::r)) vc→Kn F H [] ((w,wO fl fns k vc s.n s.c)::Lg)→(Aq (b::r)).length≤s.n→s.n+Qh sts≤2^38→r.length+Qh sts≤2^38→
 (∀out H' vc' Lg',(r=[]→Gp Lg' 3 (Aq (Ai fns k sts s).v) vc')→(r≠[]→Gp Lg' 3 (Aq r) vc')→Kn F H' [] ((w,wO fl fns k vc' (Ai fns k sts s).n (Ai fns k sts s).c)::Lg')→K (.c (.sl false 5 (Qv out))) H')→
 Qi prog I9 [.c (.ptr w 0),.c (.sl f5 5 (Qv sts)),.c (.int .i64 r.length)] H K
abbrev stX (op:Int)(nm:List UInt8)(a b c:C):Obj:=.st [.int .i64 op,.str nm,a,b,c]
theorem Y9 {w k x10 i many:Nat}{fl f5:Bool}{fns:List Fn}{x:St}{sts:List St}{outs:List St}{ars:List Ex}{nm:List UInt8}{t vc:C}{Lz Lg:List (Nat×Obj)}{e:Env}{Q:X→Env→Heap→Prop}{s1:Ck}{b1:List (List UInt8×Nat)}{r:Vars}
  (hN:∀n,n<x.size→StsW w k fl fns n) (hv:s1.v=b1::r) (hg:Gp Lg 3 (Aq (b1::r)) vc) (hz:Gr Lz 5 (Qv outs) t) (ho:outs.length<2^38)
  (kn:Kn F H [] (((w,wO fl fns k vc s1.n s1.c)::Lg)++((x10,stX x.op nm (.sl false 4 (Af ars)) (.sl false 5 (Qv x.body)) (.sl false 5 (Qv x.els)))::Lz)))
  (av:(Aq (b1::r)).length≤s1.n) (hn:s1.n+Qh x.body+Qh x.els≤2^38) (hr:r.length+x.size≤2^38)
  (f0:lk 0 e=.c (.ptr w 0)) (f1:lk 1 e=.c (.sl f5 5 (Qv sts))) (f2:lk 2 e=.c (.int .i64 r.length)) (f7:lk 7 e=.c t) (f8:lk 8 e=.c (.int .i64 many)) (f9:lk 9 e=.c (.int .i64 i)) (f10:lk 10 e=.c (.ptr x10 0))
  (hQ:∀(s2 s3:Ck) H' out vc' Lg' Lz' t',Ai fns k x.body ⟨[]::s1.v,s1.c,s1.n⟩=s2→Ai fns k x.els ⟨[]::s1.v,s2.c,s2.n⟩=s3→Gp Lg' 3 (Aq (b1::r)) vc'→Gr Lz' 5 (Qv (outs++[out])) t'→
   Kn F H' [] (((w,wO fl fns k vc' s3.n s3.c)::Lg')++Lz')→Q .nrm [(0,.c (.ptr w 0)),(1,.c (.sl f5 5 (Qv sts))),(2,.c (.int .i64 r.length)),(7,.c t'),(8,.c (.int .i64 many)),(9,.c (.int .i64 i))] H') :
  Ag prog S5 Q e H:=by
 have aE:=hz.ah;have jR:=x.size_eq;have g10:=kn.getM;have elen:((r.length:Int)+1)=(((b1::r).length:Nat):Int):=by simp
 obtain⟨s2,i6⟩:∃s2,Ai fns k x.body ⟨[]::s1.v,s1.c,s1.n⟩=s2:=⟨_,rfl⟩;obtain⟨s3,rF⟩:∃s3,Ai fns k x.els ⟨[]::s1.v,s2.c,s2.n⟩=s3:=⟨_,rfl⟩;have cz:=C5 fns k x.body ⟨[]::s1.v,s1.c,s1.n⟩;rw[i6]at cz;simp only at cz;refine Qa ?_;simp only[go_sem,f0,f1,f2,f7,f8,f9,f10,g10,aE];refine⟨Ql,?_⟩;rw[elen];obtain⟨F',kn',back⟩:=kn.side;refine hN (Qh x.body) (by omega) x.body false [] (b1::r) ⟨[]::s1.v,s1.c,s1.n⟩ vc Lg F' H _ (Jo _) (by rw[hv]) (fun _=>rfl) (by rw[Ia];exact hg) kn' (by rw[Ia];exact av) (by show s1.n+_≤_;omega) (by simp only[Jj];omega) fun out1 H1 vc1 Lg1 _ dJ kn=>?_;have dJ:=dJ (by simp);rw[i6]at kn;have kn:=back _ _ kn;clear back kn';have g10:=kn.getM;simp only[go_sem,Qqr,f0,f1,f2,f7,f8,f9,f10,g10,aE];intro H2 h2;have kn:=kn.stM h2;have g10:=kn.getM;refine Qa ?_;simp only[go_sem,g10,aE];refine⟨Ql,?_⟩;rw[elen];obtain⟨F',kn',back⟩:=kn.side;refine hN (Qh x.els) (by omega) x.els false [] (b1::r) ⟨[]::s1.v,s2.c,s2.n⟩ vc1 Lg1 F' H2 _ (Jo _) (by rw[hv]) (fun _=>rfl) (by rw[Ia];exact dJ) kn' (by rw[Ia];show _≤s2.n;omega) (by show s2.n+_≤_;omega) (by simp only[Jj];omega) fun out2 H3 vc2 Lg2 _ dU kn=>?_;have dU:=dU (by simp);rw[rF]at kn;have kn:=back _ _ kn;clear back kn';have g10:=kn.getM;simp only[go_sem,Qqs,g10,aE];intro H4 h4;have kn:=kn.stM h4;have g10:=kn.getM;refine Qn ?_;simp only[go_sem,g10,aE];have kn:Kn F H4 [] ((((w,wO fl fns k vc2 s3.n s3.c)::Lg2)++[(x10,stX x.op nm (.sl false 4 (Af ars)) (.sl false 5 (Qv out1)) (.sl false 5 (Qv out2)))])++Lz):=by
  rw[Je];exact kn
 refine kn.dk hz (new:=[(St.mk x.op nm ars out1 out2).cells]) (.mk' _ true 5 _) (by simpa using (St.mk x.op nm ars out1 out2).ar) (by simp only[Q7,Jj,Ju,LIM];omega) fun t' Lz' H5 cD gD kn=>?_;rw[Gx]at cD;simp only[go_sem,Qqt,gD];refine hQ s2 s3 H5 (St.mk x.op nm ars out1 out2) vc2 Lg2 Lz' t' i6 rF dU cD ?_;refine kn.sub ?_;rw[Je];exact List.Sublist.append (List.Sublist.refl _) (List.sublist_append_right _ _)
theorem Qb0c {w k x10 i many:Nat}{fl f5:Bool}{fns:List Fn}{x:St}{sts:List St}{outs:List St}{ars:List Ex}{t vc:C}{Lz Lg:List (Nat×Obj)}{e:Env}{Q:X→Env→Heap→Prop}{s:Ck}{b:List (List UInt8×Nat)}{r:Vars}
  (hN:∀n,n<x.size→StsW w k fl fns n) (hv:s.v=b::r) (hg:Gp Lg 3 (Aq (b::r)) vc) (hz:Gr Lz 5 (Qv outs) t) (ho:outs.length<2^38)
  (kn:Kn F H [] (((w,wO fl fns k vc s.n (A5 fns k (b::r) (Ap x.args) s.c))::Lg)++((x10,stX x.op x.name (.sl false 4 (Af ars)) (.sl false 5 (Qv x.body)) (.sl false 5 (Qv x.els)))::Lz)))
  (av:(Aq (b::r)).length≤s.n) (hn:s.n+x.size≤2^38) (hr:r.length+x.size≤2^38)
  (f0:lk 0 e=.c (.ptr w 0)) (f1:lk 1 e=.c (.sl f5 5 (Qv sts))) (f2:lk 2 e=.c (.int .i64 r.length)) (f7:lk 7 e=.c t) (f8:lk 8 e=.c (.int .i64 many)) (f9:lk 9 e=.c (.int .i64 i)) (f10:lk 10 e=.c (.ptr x10 0))
  (hQ:∀H' out vc' Lg' Lz' t' b1,(x.ck fns k s).v=b1::r→Gp Lg' 3 (Aq (b1::r)) vc'→(Aq (b1::r)).length≤(x.ck fns k s).n→Gr Lz' 5 (Qv (outs++[out])) t'→
   Kn F H' [] (((w,wO fl fns k vc' (x.ck fns k s).n (x.ck fns k s).c)::Lg')++Lz')→Q .nrm [(0,.c (.ptr w 0)),(1,.c (.sl f5 5 (Qv sts))),(2,.c (.int .i64 r.length)),(7,.c t'),(8,.c (.int .i64 many)),(9,.c (.int .i64 i))] H') :
  Ag prog Qta Q e H:=by
 have aE:=hz.ah;have jR:=x.size_eq;have an:=hg.ah;have g10:=kn.getM;obtain⟨s1,eH⟩:∃s1,stC fns k x.op x.name x.args s=s1:=⟨_,rfl⟩;have cA:=LQ fns k x.op x.name x.args s;have gV:=VV fns k x.op x.name x.args s hv av;obtain⟨b1,dQ⟩:=VU fns k x.op x.name x.args s hv;have bE:=IE fns k x.op x.name x.args s;rw[eH]at cA gV dQ bE;rw[dQ]at gV;rw[hv]at bE;have cO:=x.ck_eq fns k s;rw[eH]at cO;have tail:∀(H1:Heap) (e1:Env) (nm:List UInt8) (vc1:C) (Lg1:List (Nat×Obj)),Gp Lg1 3 (Aq (b1::r)) vc1→
   Kn F H1 [] (((w,wO fl fns k vc1 s1.n s1.c)::Lg1)++((x10,stX x.op nm (.sl false 4 (Af ars)) (.sl false 5 (Qv x.body)) (.sl false 5 (Qv x.els)))::Lz))→
   lk 0 e1=.c (.ptr w 0)→lk 1 e1=.c (.sl f5 5 (Qv sts))→lk 2 e1=.c (.int .i64 r.length)→lk 7 e1=.c t→lk 8 e1=.c (.int .i64 many)→lk 9 e1=.c (.int .i64 i)→lk 10 e1=.c (.ptr x10 0)→
   Ag prog S5 Q e1 H1:=by
  intro H1 e1 nm vc1 Lg1 dJ kn f0 f1 f2 f7 f8 f9 f10;refine Y9 hN dQ dJ hz ho kn gV (by omega) hr f0 f1 f2 f7 f8 f9 f10 fun s2 s3 H' out vc' Lg' Lz' t' e2 e3 ew cD kn=>?_;rw[e2,e3]at cO;refine hQ H' out vc' Lg' Lz' t' b1 (by rw[cO];exact dQ) ew ?_ cD (by rw[cO];exact kn);have:=(St.ck_n fns k x s).1;rw[cO]at this⊢;have h2:=C5 fns k x.body ⟨[]::s1.v,s1.c,s1.n⟩;have h3:=C5 fns k x.els ⟨[]::s1.v,s2.c,s2.n⟩;rw[e2]at h2;rw[e3]at h3;simp only at h2 h3⊢;omega
 refine Qp (Qa ?_);simp only[go_sem,f0,f1,f2,f7,f8,f9,f10,g10,aE];refine Qe (Qc rfl ?_ ?_)
 ·intro hc;have h1:x.op=1:=by simpa using hc
  have es1:s1=⟨((x.name,s.n)::b)::r,Ah (A5 fns k (b::r) (Ap x.args) s.c) (if AL (b::r) x.name then 2 else 0),s.n+1⟩:=by
   rw[←eH,stC,if_pos h1,hv];rfl
  rw[es1]at tail dQ;simp only[Jal]at dQ;obtain⟨aV,_⟩:=dQ;subst aV;refine Qn ?_;simp only[go_sem,g10,aE];obtain⟨F',kn',back⟩:=kn.side;refine IT hg kn' (by omega) (by simp only[LIM];omega) fun t2 H1 vc1 Lg1 dJ kn=>?_;have kn:=back _ _ kn;have g10:=kn.getM;simp only[go_sem,Qtf,g10,aE];intro H2 h2;have kn:=kn.stM h2;have g10:=kn.getM;try simp only[go_sem,AE.X.next,aE]
  refine Qp (Qa ?_);simp only[go_sem,g10,aE];refine Qe (Qc rfl (fun h=>?_) (fun _=>?_))
  ·have:=of_decide_eq_true h;omega
  ·refine Qd ?_;try simp only[go_sem,AE.X.next,aE]
   exact tail _ _ t2 vc1 Lg1 dJ kn rfl rfl rfl rfl rfl rfl rfl
 ·intro hc;have h1:¬x.op=1:=by simpa using hc
  refine Qd ?_;try simp only[go_sem,AE.X.next,aE]
  refine Qp (Qa ?_);simp only[go_sem,g10,aE];refine Qe (Qc rfl ?_ ?_)
  ·intro ao;have h2:x.op=2:=by simpa using ao
   have es1:s1=⟨b::r,Ah (A5 fns k (b::r) (Ap x.args) s.c) (if (Vars.find (b::r) x.name).isSome then 0 else 3),s.n⟩:=by
    rw[←eH,stC,if_neg h1,if_pos h2,hv]
   rw[es1]at tail dQ;simp only[Jal]at dQ;obtain⟨aV,_⟩:=dQ;subst aV;refine Qn ?_;simp only[go_sem,g10,aE];refine IR an (kn.l 0 rfl) (hg.slc fun p hp=>(kn.get p (by simp[hp])).1) fun t2 H1 hu=>?_;have kn:Kn F H1 [] (((w,wO fl fns k vc s.n (Ah (A5 fns k (b::r) (Ap x.args) s.c) (if (Vars.find (b::r) x.name).isSome then 0 else 3)))::Lg)++((x10,stX x.op x.name (.sl false 4 (Af ars)) (.sl false 5 (Qv x.body)) (.sl false 5 (Qv x.els)))::Lz)):=kn.callL 0 rfl hu (by nofun);have g10:=kn.getM;simp only[go_sem,Qtg,g10,aE];intro H2 h2;have kn:=kn.stM h2;try simp only[go_sem,AE.X.next,aE]
   exact tail _ _ t2 vc Lg hg kn rfl rfl rfl rfl rfl rfl rfl
  ·intro ao;have h2:¬x.op=2:=by simpa using ao
   have es1:s1=⟨b::r,A5 fns k (b::r) (Ap x.args) s.c,s.n⟩:=by
    rw[←eH,stC,if_neg h1,if_neg h2,hv]
   rw[es1]at tail dQ;simp only[Jal]at dQ;obtain⟨aV,_⟩:=dQ;subst aV;refine Qd ?_;try simp only[go_sem,AE.X.next,aE]
   exact tail _ _ x.name vc Lg hg kn rfl rfl rfl rfl rfl rfl rfl
theorem Y8 (w k:Nat)(fl:Bool)(fns:List Fn):∀n,StsW w k fl fns n:=by
 intro n
 induction n using Nat.strongRecOn with
 |_ n ih=>
 intro sts f5 b r s vc Lg F H K hn pw hbr hg kn av hsn bZ hK;have an:=hg.ah;have rE:=HJ sts;refine Qbor ?_;refine Qb Ab Qawu ?_;refine Qa ?_;simp only[go_sem];refine Qa ?_;simp only[go_sem];have gw:=kn.l 0 rfl;have i7:=hg.slc fun p hp=>(kn.get p (by simp[hp])).1;have j9:=eq_true i7.ok;have nF:=i7.len;refine Qa ?_;simp only[go_sem,gw,an,j9,nF];intro fw;simp only[LIM]at fw;refine Qp (Qa ?_);simp only[go_sem];refine Qe (Qf (Qu (fun m e1 H1=>∃(i:Nat) (outs:List St) (Lz Lgi:List (Nat×Obj)) (t vci:C) (bi:List (List UInt8×Nat)),m=sts.length-i∧i≤sts.length∧(Ai fns k (sts.take i) s).v=bi::r∧Gr Lz 5 (Qv outs) t∧outs.length=i∧
   Gp Lgi 3 (Aq (bi::r)) vci∧(Aq (bi::r)).length≤(Ai fns k (sts.take i) s).n∧Kn F H1 [] (((w,wO fl fns k vci (Ai fns k (sts.take i) s).n (Ai fns k (sts.take i) s).c)::Lgi)++Lz)∧
   e1=[(0,.c (.ptr w 0)),(1,.c (.sl f5 5 (Qv sts))),(2,.c (.int .i64 r.length)),(7,.c t),(8,.c (.int .i64 (Aq (b::r)).length)),(9,.c (.int .i64 i))]) sts.length ?_ ?_))
 ·exact⟨0,[],[],Lg,.sl true 5 [],vc,b,by omega,by omega,by simpa[Ai]using pw,.nil 5,rfl,hg,by simpa[Ai]using av,by simpa[Ai]using kn,rfl⟩
 ·clear kn gw i7 j9 nF;rintro m e1 H1 ⟨i,outs,Lz,Lgi,t,vci,bi,hm,hi,jN,hz,hol,lE,kO,kn,rfl⟩;have hni:=C5 fns k (sts.take i) s;have gG:=Fb sts i;obtain⟨si,jp⟩:∃si,Ai fns k (sts.take i) s=si:=⟨_,rfl⟩;rw[jp]at jN kn kO hni;have aE:=hz.ah;have pP:=lE.ah;refine Qp (Qa ?_);simp only[go_sem,aE,Q7];intro hl;simp only[LIM]at hl;refine Qe (Qc rfl ?_ ?_)
  ·intro hc;have aa:i<sts.length:=by simpa using hc
   have eK:=Cv (Jf aa);obtain⟨x,hx⟩:∃x,sts[i]=x:=⟨_,rfl⟩;have aO:=Ox fns k aa s;have aF:=HL aa;have p9:=Fb sts (i+1);rw[hx]at eK aF;rw[jp,hx]at aO;have jR:=x.size_eq;refine Qd ?_;try simp only[go_sem]
   refine Qe (Qf ?_);refine Qa ?_;simp only[go_sem,aE,aa,Q7,Ct _ _ aa,hx,x.ab];intro x10 iL H3 h3;have kn:Kn F H3 [] (((w,wO fl fns k vci si.n si.c)::Lgi)++((x10,stX 0 [] (.sl true 4 []) (.sl true 5 []) (.sl true 5 []))::Lz)):=(kn.al iL h3).perm (by
    rw[Je];exact List.Perm.append_left _ (Jq (l₁:=Lz) (l₂:=[(x10,_)])))
   have g10:=kn.getM;simp only[go_sem,Qtc,g10,aE];intro H4 h4;have kn:Kn F H4 [] (((w,wO fl fns k vci si.n si.c)::Lgi)++((x10,stO x)::Lz)):=kn.stM h4;have g10:=kn.getM;refine Qa ?_;simp only[go_sem,aE];refine Qp (Qa ?_);simp only[go_sem,aE];refine Qe (Qf (Qu (fun m e2 H5=>∃(j:Nat) (ars:List Ex) (La:List (Nat×Obj)) (ta:C),m=x.args.length-j∧j≤x.args.length∧Gr La 4 (Af ars) ta∧ars.length=j∧
    Kn F H5 [] ((((w,wO fl fns k vci si.n (A5 fns k (bi::r) (Ap (x.args.take j)) si.c))::Lgi)++((x10,stO x)::Lz))++La)∧
    e2=[(0,.c (.ptr w 0)),(1,.c (.sl f5 5 (Qv sts))),(2,.c (.int .i64 r.length)),(7,.c t),(8,.c (.int .i64 (Aq (b::r)).length)),(9,.c (.int .i64 i)),(10,.c (.ptr x10 0)),(11,.c ta),(12,.c (.int .i64 j))]) x.args.length ?_ ?_))
   ·exact⟨0,[],[],.sl true 4 [],by omega,by omega,.nil 4,rfl,by simpa[Ap,A5]using kn,rfl⟩
   ·clear kn g10 h4 h3;rintro m2 e2 H5 ⟨j,ars,La,ta,iu,hj,qG,bB,kn,rfl⟩;have dX:=qG.ah;have kn2:Kn F H5 [] (((w,wO fl fns k vci si.n (A5 fns k (bi::r) (Ap (x.args.take j)) si.c))::Lgi)++((x10,stO x)::(Lz++La))):=by
     rw[Je]at kn;exact kn
    have g10:=kn2.getM;refine Qp (Qa ?_);simp only[go_sem,aE,dX,g10,Qt];intro lA;simp only[LIM]at lA;refine Qe (Qc rfl ?_ ?_)
    ·intro ao;have aW:j<x.args.length:=(by simpa using ao);have qg:=B0 (Jf aW);obtain⟨y,hy⟩:∃y,x.args[j]=y:=⟨_,rfl⟩;have nj:=Pr aW;rw[hy]at qg nj;refine Qd ?_;try simp only[go_sem]
     refine Qe (Qf ?_);refine Qn ?_;simp only[go_sem,aE,dX,g10,aW,Qt,B7 _ _ aW,hy,y.ab];have hE:=fun K=>V8 (k:=k) (w:=w) (cnt:=si.n) (fl:=fl) (fns:=fns) lE y.size y (A5 fns k (bi::r) (Ap (x.args.take j)) si.c) H5 K;rw[y.ab]at hE;have cf:(w::Lgi.map Prod.fst).Nodup:=by
      have:=kn2.dL;rw[Jp]at this;exact (Js.1 this).1
     refine hE _ (Jo _) (by omega) cf (fun p hp=>(kn2.get p (by simp only[Jl];exact Jr _ hp)).1) fun z H6 hu=>?_;have kn:=Kn.callLs (L:=(w,wO fl fns k vci si.n (A5 fns k (bi::r) (Ap (x.args.take j)) si.c))::Lgi) (M:=(x10,stO x)::(Lz++La)) kn2 hu rfl (by
      intro p hp;rcases J3.1 hp with rfl|hp
      ·nofun
      ·exact lE.ne p hp)
     simp only[go_sem,Qte,aE,dX,z.aj];have kn:Kn F H6 [] ((((w,wO fl fns k vci si.n (A5 fns k (bi::r) y.pre (A5 fns k (bi::r) (Ap (x.args.take j)) si.c)))::Lgi)++((x10,stO x)::Lz))++La):=by
      rw[Je];exact kn
     refine kn.dk qG (.mk' _ true 4 _) (by simpa using z.ar) (by simp only[Qt,Jj,Ju,LIM];omega) fun ta' La' H7 nU ou kn=>?_;rw[Ru]at nU;simp only[go_sem,Qtd,aE,ou];refine Qn ?_;simp only[go_sem,AE.X.next,aE,ou];refine⟨Ql,x.args.length-(j+1),by omega,j+1,ars++[z],La',ta',rfl,by omega,nU,by simp[bB],?_,rfl⟩;rw[nj,GB];exact kn
    ·intro ao;have qF:x.args.length≤j:=(by simpa using ao);rw[Jb qF]at kn;refine Qr ?_;simp only[go_sem,AE.X.next];obtain⟨S,H6,f1,f2,kn⟩:=qG.freeze kn (Ij _);refine Qp (c_gh (Rm S (Qb0y ?_) f2) (e':=[(0,.c (.ptr w 0)),(1,.c (.sl f5 5 (Qv sts))),(2,.c (.int .i64 r.length)),(7,.c t),(8,.c (.int .i64 (Aq (b::r)).length)),(9,.c (.int .i64 i)),(10,.c (.ptr x10 0)),(11,.c (.sl false 4 (Af ars)))]) ?_)
     ·intro p hp;simp only[J3,Jav,or_false]at hp;rcases hp with rfl|rfl|rfl|rfl|rfl|rfl|rfl|rfl
      ·exact .c _ _ (.same _ rfl)
      ·exact .c _ _ (.same _ rfl)
      ·exact .c _ _ (.same _ rfl)
      ·exact .c _ _ (.same _ aE)
      ·exact .c _ _ (.same _ rfl)
      ·exact .c _ _ (.same _ rfl)
      ·exact .c _ _ (.same _ rfl)
      ·exact .c _ _ f1
     have g10:=kn.getM;refine Qa ?_;simp only[go_sem,aE,g10];intro H7 h7;have kn:=kn.stM h7;refine Qb0c (fun n' qe=>ih n' (by omega)) jN lE hz (by omega) kn kO (by omega) (by omega) rfl rfl rfl rfl rfl rfl rfl fun H8 out vc8 Lg8 Lz8 t8 b8 hv8 hg8 hr8 rq kn=>?_;have ni:=rq.ah;simp only[go_sem,AE.X.next,ni];refine Qn ?_;simp only[go_sem,AE.X.next,ni];refine⟨Ql,sts.length-(i+1),by omega,i+1,outs++[out],Lz8,Lg8,t8,vc8,b8,rfl,by omega,?_,rq,by simp[hol],hg8,?_,?_,rfl⟩
     ·rw[aO];exact hv8
     ·rw[aO];exact hr8
     ·rw[aO];exact kn
  ·intro hc;have aC:sts.length≤i:=by simpa using hc
   rw[Jb aC]at jp;have gw:=kn.l 0 rfl;have kH:=lE.slc fun p hp=>(kn.get p (by simp[hp])).1;have pS:=eq_true kH.ok;have qo:=kH.len;have pu:=kH.sz;refine Qr ?_;simp only[go_sem,AE.X.next];have fin:∀(H':Heap) (e':Env) (vc':C),(r=[]→Gp Lgi 3 (Aq si.v) vc')→(r≠[]→Gp Lgi 3 (Aq r) vc')→Kn F H' [] (((w,wO fl fns k vc' si.n si.c)::Lgi)++Lz)→lk 7 e'=.c t→Ag prog Qtb (Qq AB (finK K)) e' H':=by
    intro H' e' vc' h1 h2 kn f7;refine Qa ?_;simp only[go_sem,f7,aE];refine Qg ?_;simp only[go_sem,Qq,Q1,AB,Ja,forall_eq,RS.op,aE];obtain⟨S,H6,f1,f2,kn⟩:=hz.freeze kn (Qbof _);refine⟨S,_,H6,.c _ _ f1,f2,?_⟩;rw[jp]at hK;exact hK outs H6 vc' Lgi h1 h2 kn
   refine Qp (Qa ?_);simp only[go_sem,aE];refine Qe (Qc rfl ?_ ?_)
   ·intro ao;have bM:r≠[]:=by
     intro h;rw[h]at ao;simp at ao
    have fq:=hbr bM;rw[fq,Ia];have a9:=V9 bi r;have lO:=lE.cut a9;rw[Qboj]at lO;refine Qn ?_;simp only[go_sem,gw,pP,aE,pS,qo,pu,bnds,Option.map_none,Ja0,Option.getD_none,Jaw];refine⟨⟨by omega,by omega⟩,?_⟩;intro H7 h7;have hY:=lO.ah;have kn:=kn.aT 0 rfl h7;try simp only[go_sem,AE.X.next,aE]
    exact fin _ _ _ (fun h=>absurd h bM) (fun _=>lO) kn rfl
   ·intro ao;have bM:r=[]:=by
     cases hr:r with
     |nil=>rfl
     |cons a q=>rw[hr]at ao;simp only[Jj,decide_eq_false_iff_not]at ao;omega
    refine Qd ?_;try simp only[go_sem,AE.X.next,aE]
    exact fin _ _ vci (fun _=>by rw[jN];exact lE) (fun h=>absurd bM h) kn rfl
end Go.AE.Y
namespace Go.AE
variable {H0 H H' F:Heap}{E L B A M:List (Nat×Obj)}{p:Nat×Obj}
theorem Kn.stM2 {x:Nat}{o o':Obj}(kn:Kn H0 H E (A++p::(x,o)::B))(h1:H'=H.set x o')(ho:o'≠.none:=by nofun):Kn H0 H' E (A++p::(x,o')::B):=by
 have k2:Kn H0 H E ((A++[p])++(x,o)::B):=by rw[Je];exact kn
 have k3:=k2.stM h1 ho;rw[Je]at k3;exact k3
theorem Kn.getM2 {x:Nat}{o:Obj}(kn:Kn H0 H E (A++p::(x,o)::B)):H x=o:=(kn.get (x,o) (by simp)).1
end Go.AE
namespace Go.AE.Y
attribute [local go_sem] cond_true cond_false Bool.not_true Bool.not_false
open Go.Proofs.Tryz
variable {H H0 F:Heap}{K:V→Heap→Prop}{E E' L:List (Nat×Obj)}
theorem Qb04 (l:List Fn)(s:List UInt8)(k:Nat):decide (ixI (As l s)=(k:Int))=decide (As l s=some k):=by
 rw[decide_eq_decide]
 cases As l s with
 |none=>simp only[ixI];constructor
        ·intro h;omega
        ·intro h;cases h
 |some j=>simp only[ixI,Jv];omega
theorem Qb06 {fns:List Fn}{fl:Bool}{k:Nat}(hk:k<fns.length)(hb:Qh fns[k].body≤2^36)(hp:fns[k].params.length≤2^30)
  (hK:∀(f':Fn) (cnt:Nat) H',Upd H H' []→K (.tup [.ag f'.cells,.c (.int .i64 (fnCk fns k).c),.c (.int .i64 cnt)]) H'):Qi prog FU [.ag [.sl fl 3 (Ae fns)],.c (.int .i64 k)] H K:=by
 obtain⟨f,dj⟩:∃f,fns[k]=f:=⟨_,rfl⟩;have qL:fnCk fns k=Ai fns k f.body (AC f.params ⟨[[]],ixC fns k f.name,0⟩):=by
  rw[fnCk,Jh hk,dj];rfl
 rw[dj]at hb hp;obtain⟨s0,i7⟩:∃s0:Ck,(⟨[[]],ixC fns k f.name,0⟩:Ck)=s0:=⟨_,rfl⟩;rw[i7]at qL;have kL:s0.v=[[]]:=by rw[←i7]
 have nv:s0.n=0:=by rw[←i7]
 have kM:s0.c=ixC fns k f.name:=by rw[←i7]
 refine A0 ?_;refine Qb Ab Qb1d ?_;refine Qa ?_;simp only[go_sem];intro x4 dP H1 h1;have kn:=(Kn.aw H).al dP h1;simp only[go_sem,Ll];refine Qa ?_;simp only[go_sem];intro w hw H2 h2;have kn:=kn.al hw h2;simp only[go_sem,Lj];refine Qa ?_;simp only[go_sem,hk,Q8,Cu _ _ hk,dj,Fn.cells];intro x8 dw H3 h3;have kn:=kn.al dw h3;have g8:=kn.l 2 rfl;simp only[go_sem,Li,g8];intro H4 h4;have kn:=kn.aT 2 rfl h4;have kn:Kn H H4 [] (((w,wO fl fns k (.sl true 3 []) 0 0)::[])++(x4,.st [.str [],.sl true 1 [],.sl true 5 []])::(x8,fnO f)::[]):=kn.perm (.swap _ _ _);have g8:=kn.getM2;refine Qp (Qa ?_);simp only[go_sem,g8];refine Hi ?_;have oL:=Qb04 fns f.name k;simp only[go_sem,Lh,oL];have two:∀(H1:Heap) (e1:Env),Kn H H1 [] (((w,wO fl fns k (.sl true 3 []) 0 (ixC fns k f.name))::[])++(x4,.st [.str [],.sl true 1 [],.sl true 5 []])::(x8,fnO f)::[])→lk 4 e1=.c (.ptr x4 0)→lk 7 e1=.c (.ptr w 0)→lk 8 e1=.c (.ptr x8 0)→
   Ag prog Lm (Qq FH (unK H K)) e1 H1:=by
  intro H1 e1 kn f4 f7 f8;have kn:Kn H H1 [] (((w,wO fl fns k (.sl true 3 []) s0.n s0.c)::[])++(x4,.st [.str [],.sl true 1 [],.sl true 5 []])::(x8,fnO f)::[]):=by rw[nv,kM];exact kn
  refine Qa ?_;simp only[go_sem,f4,f7,f8];refine Qp (Qa ?_);simp only[go_sem];refine Qe (Qf (Qu (fun m e2 H2=>∃(j:Nat) (ps:List (List UInt8)) (Lg Lp:List (Nat×Obj)) (vc t:C) (bj:List (List UInt8×Nat)),m=f.params.length-j∧j≤f.params.length∧(AC (f.params.take j) s0).v=[bj]∧(AC (f.params.take j) s0).n=j∧(Aq [bj]).length≤j∧
   Gp Lg 3 (Aq [bj]) vc∧Gr Lp 1 (Q3 ps) t∧ps.length=j∧
   Kn H H2 [] (((w,wO fl fns k vc (AC (f.params.take j) s0).n (AC (f.params.take j) s0).c)::Lg)++(x4,.st [.str [],.sl true 1 [],.sl true 5 []])::(x8,fnO f)::Lp)∧
   e2=[(4,.c (.ptr x4 0)),(7,.c (.ptr w 0)),(8,.c (.ptr x8 0)),(9,.c t),(10,.c (.int .i64 j))]) f.params.length ?_ ?_))
  ·exact⟨0,[],[],[],.sl true 3 [],.sl true 1 [],[],by omega,by omega,kL,nv,by simp[Aq,vT],.nil 3,.nil 1,rfl,kn,rfl⟩
  ·clear kn;rintro m e2 H2 ⟨j,ps,Lg,Lp,vc,t,bj,hm,hj,jM,oI,hrj,hg,qD,fZ,kn,rfl⟩;obtain⟨sj,j4⟩:∃sj,AC (f.params.take j) s0=sj:=⟨_,rfl⟩;rw[j4]at jM kn oI;have aE:=qD.ah;have g8:=kn.getM2;refine Qp (Qa ?_);simp only[go_sem,g8,aE,Qs];intro hl;simp only[LIM]at hl;refine Qe (Qc rfl ?_ ?_)
   ·intro hc;have aa:j<f.params.length:=(by simpa using hc);obtain⟨p,rH⟩:∃p,f.params[j]=p:=⟨_,rfl⟩;have pO:f.params.getD j []=p:=(by simp[Jc,aa,rH]);have aO:=LK aa s0;rw[j4,rH,jM]at aO;refine Qd ?_;try simp only[go_sem]
    refine Qe (Qf ?_);refine Qn ?_;simp only[go_sem,g8,aE,aa,Qs,Dk _ _ aa,pO];obtain⟨F',kn',back⟩:=kn.side;refine IT (r:=[]) hg kn' (by omega) (by simp only[LIM];omega) fun t2 H5 vc' Lg' ew kn=>?_;have kn:=back _ _ kn;simp only[go_sem,Ld,aE];have kn:Kn H H5 [] ((((w,wO fl fns k vc' (sj.n+1) (Ah sj.c (if AL [bj] p then 2 else 0)))::Lg')++[(x4,.st [.str [],.sl true 1 [],.sl true 5 []]),(x8,fnO f)])++Lp):=(by rw[Je];exact kn);refine kn.dk qD (.mk' _ true 1 _) (by simp[ar,C.ah]) (by simp only[Qs,Jj,Ju,LIM];omega) fun t' Lp' H6 nT gD kn=>?_;rw[GZ]at nT;simp only[go_sem,Lf,gD];refine Qn ?_;simp only[go_sem,AE.X.next,gD];refine⟨Ql,f.params.length-(j+1),by omega,j+1,ps++[t2],Lg',Lp',vc',t',(p,sj.n)::bj,rfl,by omega,?_,?_,?_,ew,nT,by simp[fZ],?_,rfl⟩
    ·rw[aO];simp[A9]
    ·rw[aO];simp[oI]
    ·rw[FZ];simp only[Jm,Jae];omega
    ·rw[aO];rw[Je]at kn;exact kn
   ·intro hc;have aC:f.params.length≤j:=(by simpa using hc);rw[Jb aC]at j4;rw[j4]at qL;refine Qr ?_;simp only[go_sem,AE.X.next];refine Qa ?_;simp only[go_sem,g8,aE];intro H5 h5;have kn:=kn.stM2 h5;have g8:=kn.getM2;refine Qa ?_;simp only[go_sem,g8,aE];obtain⟨F',kn',back⟩:=kn.side;refine Y8 w k fl fns (Qh f.body) f.body false bj [] sj vc Lg F' H5 _ (Jo _) jM (fun h=>absurd rfl h) hg kn' (by omega) (by omega) (by simp only[Ju];omega) fun out H6 vc' Lg' _ _ kn=>?_;have kn:=back _ _ kn;rw[←qL]at kn;have g8:=kn.getM2;simp only[go_sem,Oh,g8,aE];intro H7 h7;have kn:=kn.stM2 h7;have g8:=kn.getM2;have g4:=kn.getM;have gw:=kn.l 0 rfl;refine Ak ?_;simp only[go_sem,g8,g4,gw,aE];intro H8 h8;have kn:=kn.stM h8;have g8:=kn.getM2;have g4:=kn.getM;have gw:=kn.l 0 rfl;simp only[go_sem,Og,g8,g4,gw,aE];refine Qg ?_;simp only[go_sem,Qq,Q1,FH,List.forall_mem_cons,Jav,RS.op,g4,aE];have kn2:Kn H H8 [] ((((w,wO fl fns k vc' (fnCk fns k).n (fnCk fns k).c)::Lg')++[(x4,.st [.str f.name,t,.sl false 5 (Qv out)]),(x8,.st [.str f.name,t,.sl false 5 (Qv out)])])++Lp):=(by rw[Je];exact kn);refine⟨fun _=>trivial,.tup [.ag (Fn.cells ⟨f.name,ps,out⟩),.c (.int .i64 (fnCk fns k).c),.c (.int .i64 (fnCk fns k).n)],.tup _ _ rfl (fun j x x' h1 h2=>?_),hK ⟨f.name,ps,out⟩ _ _ kn.fin⟩;rcases j with _|_|_|j
    ·simp only[J0,Jv]at h1 h2;subst h1 h2;exact (FrzL.cons (Qj rfl) (.cons (qD.frz kn2 (Pk _)) (.cons (Qj rfl) .nil))).ag
    ·simp only[Jac,J0,Jv]at h1 h2;subst h1 h2;exact .c _ _ (Qj rfl)
    ·simp only[Jac,J0,Jv]at h1 h2;subst h1 h2;exact .c _ _ (Qj rfl)
    ·simp at h1
 refine Qe (Qc rfl ?_ ?_)
 ·intro hc;have bm:¬As fns f.name=some k:=by simpa using hc
  rw[ixC,if_neg bm]at two;refine Qn ?_;simp only[go_sem];refine D7 rfl (kn.l 0 rfl) fun H5 hu=>?_;have kn:=kn.callL 0 rfl hu (by nofun);simp only[go_sem,AE.X.next];exact two _ _ kn rfl rfl rfl
 ·intro hc;have he:As fns f.name=some k:=by simpa using hc
  rw[ixC,if_pos he]at two;refine Qd ?_;simp only[go_sem,AE.X.next];exact two _ _ kn rfl rfl rfl
theorem YP {l:List Fn}{fl:Bool}(hf:A6 l≤2^36)(hK:∀H',Upd H H' []→K (.c (.int .i64 (Bf l))) H'):Qi prog SG [.ag [.sl fl 3 (Ae l)]] H K:=by
 refine A0 ?_;refine Qb Ab Qafq ?_;have retf:∀(b:Int) (e:Env) (H':Heap) (L:List (Nat×Obj)),Bf l=b→Kn H H' [] L→lk 2 e=.c (.int .i64 b)→Qq Ad (unK H K) .ret e H':=by
  intro b e H' L hf kn h4;simp only[go_sem,Qq,Q1,Ad,Ja,forall_eq,RS.op,h4];refine⟨_,.c _ _ (Qj rfl),?_⟩;rw[←hf];exact hK _ kn.fin
 have kn:=Kn.aw H;refine Qa ?_;simp only[go_sem];refine Qp (Qa ?_);simp only[go_sem];refine Qaop (by omega) ?_;simp only[go_sem,Qm3];refine Qe (Qc rfl ?_ ?_)
 ·intro hc;have hb:B9 l=false:=by simpa using hc
  refine Qa ?_;simp only[go_sem];refine Qg ?_;simp only[go_sem,AE.X.next];exact retf 1 _ _ _ (by rw[Bf,hb];rfl) kn rfl
 intro hc;have hb:B9 l=true:=by simpa using hc
 have cM:Bf l=ckK l l.length:=by rw[Bf,if_pos hb]
 have hv:=hb;simp only[B9,J6,decide_eq_true_eq,J1]at hv;refine Qd ?_;try simp only[go_sem]
 refine Qp (Qa ?_);simp only[go_sem];refine Qe (Qf (Qu (fun m e1 H1=>∃(i:Nat),m=l.length-i∧i≤l.length∧Kn H H1 [] []∧ckK l i=0∧e1=[(1,.c (.pp [.sl fl 3 (Ae l)])),(3,.c (.int .i64 i))]) l.length ?_ ?_))
 ·exact⟨0,by omega,by omega,kn,rfl,rfl⟩
 ·clear kn;rintro m e1 H1 ⟨i,hm,hi,kn,cg,rfl⟩;refine Qp (Qa ?_);simp only[go_sem,Q8];intro hl;simp only[LIM]at hl;refine Qe (Qc rfl ?_ ?_)
  ·intro hc;have aa:i<l.length:=by simpa using hc
   have eK:=Fz (Jf aa);have jG:=hv.1.2 _ (Jf aa);have ga:l[i].params.length≤3:=by
    rw[Fn.form]at jG;simp only[J6,decide_eq_true_eq]at jG;exact jG.1.2
   have nr:=Hu l i;rw[cg]at nr;refine Qd ?_;try simp only[go_sem]
   refine Qe (Qf ?_);refine Qa ?_;simp only[go_sem];refine Qb06 aa (by omega) (by omega) fun f' cnt H2 hu=>?_;have kn:=kn.aI hu;simp only[go_sem,Qm6,List.getD_cons_zero,List.getD_cons_succ,Fn.cells];intro x4 dP H3 h3;have kn:=kn.al dP h3;have g4:=kn.l 0 rfl;simp only[go_sem,Qm5,g4,Fn.cells];intro H4 h4;have kn:=kn.aT 0 rfl h4;simp only[go_sem,Qm4];refine Qa ?_;simp only[go_sem];refine Qc rfl ?_ ?_
   ·intro ao;have bm:(fnCk l i).c≠0:=(by simpa using ao);refine Qa ?_;simp only[go_sem];refine Qg ?_;simp only[go_sem,AE.X.next];refine retf _ _ _ _ ?_ kn rfl;rw[cM];exact Y1 l (by rw[nr,Ah,if_pos rfl]) bm _ (by omega)
   ·intro ao;have he:(fnCk l i).c=0:=(by simpa using ao);refine Qd ?_;try simp only[go_sem]
    refine Qn ?_;simp only[go_sem,AE.X.next];refine⟨Ql,l.length-(i+1),by omega,i+1,rfl,by omega,Kn.drop (A:=[]) kn,?_,rfl⟩;rw[nr,he];rfl
  ·intro hc;have aC:l.length≤i:=by simpa using hc
   have gQ:i=l.length:=by omega
   subst gQ;refine Qr ?_;simp only[go_sem,AE.X.next];refine Qa ?_;simp only[go_sem];refine Qg ?_;exact retf 0 _ _ _ (by rw[cM,cg]) kn rfl
theorem VX {l:List Fn}{fl:Bool}(hf:A6 l≤2^36)(hK:∀H',Upd H H' []→K (.c (.bool (Bo l))) H'):Qi prog Gs [.ag [.sl fl 3 (Ae l)]] H K:=by
 refine Qb Ab X5 ?_;refine Qa ?_;simp only[go_sem];refine Qa ?_;simp only[go_sem];refine YP hf fun H1 hu=>?_;simp only[go_sem,Mr];refine Qg ?_;simp only[go_sem,Qq,Q1,Ad,Ja,forall_eq,RS.op];exact hK _ hu
end Go.AE.Y
namespace Go.AE.Y
structure InsD where
 op:Int
 to:Int
 args:List Int
 n:Int
def InsD.cells (x:InsD):List C:=[.int .i64 x.op,.int .i64 x.to,.sl false 1 (intsOf x.args),.int .i64 x.n]
structure PhiD where
 to:Int
 args:List Int
def PhiD.cells (x:PhiD):List C:=[.int .i64 x.to,.sl false 1 (intsOf x.args)]
def At (l:List InsD):List (List C):=l.map InsD.cells
def Az (l:List PhiD):List (List C):=l.map PhiD.cells
structure BlkD where
 am:List PhiD
 ins:List InsD
 jump:Int
 on:Int
 next:List Int
def BlkD.cells (x:BlkD):List C:=[.sl false 2 (Az x.am),.sl false 4 (At x.ins),.int .i64 x.jump,.int .i64 x.on,.sl false 1 (intsOf x.next)]
def Qx (l:List BlkD):List (List C):=l.map BlkD.cells
structure CodeD where
 params:Int
 ae:Int
 blocks:List BlkD
def CodeD.cells (x:CodeD):List C:=[.int .i64 x.params,.int .i64 x.ae,.sl false 5 (Qx x.blocks)]
def Qk (l:List CodeD):List (List C):=l.map CodeD.cells
theorem Co (l:List InsD):(At l).length=l.length:=by simp[At]
theorem Cn (l:List PhiD):(Az l).length=l.length:=by simp[Az]
theorem AQ (l:List BlkD):(Qx l).length=l.length:=by simp[Qx]
theorem Bi (l:List CodeD):(Qk l).length=l.length:=by simp[Qk]
theorem O1 (l:List InsD)(i:Nat)(h:i<l.length):(At l).getD i []=(l[i]'h).cells:=by simp[At,Jc,h]
theorem Pw (l:List PhiD)(i:Nat)(h:i<l.length):(Az l).getD i []=(l[i]'h).cells:=by simp[Az,Jc,h]
theorem HI (l:List BlkD)(i:Nat)(h:i<l.length):(Qx l).getD i []=(l[i]'h).cells:=by simp[Qx,Jc,h]
theorem DK (l:List CodeD)(i:Nat)(h:i<l.length):(Qk l).getD i []=(l[i]'h).cells:=by simp[Qk,Jc,h]
theorem Qblw (l:List InsD):∀r∈At l,ar r=true:=by intro r hr;obtain⟨x,_,rfl⟩:=Jw.1 hr;rfl
theorem Pu (l:List BlkD):∀r∈Qx l,ar r=true:=by intro r hr;obtain⟨x,_,rfl⟩:=Jw.1 hr;rfl
theorem HR (l:List CodeD):∀r∈Qk l,ar r=true:=by intro r hr;obtain⟨x,_,rfl⟩:=Jw.1 hr;rfl
theorem Nw (a:List CodeD)(x:CodeD):Qk a++[x.cells]=Qk (a++[x]):=by simp[Qk]
variable {H:Heap}{S:Nat→Bool}
theorem Gr.frzM {Lg:List (Nat×Obj)}{sz:Nat}{rows rows':List (List C)}{c:C}(h:Gr Lg sz rows c)(hm:∀p∈Lg,H p.1=p.2∧S p.1=true)(hr:FrzR H S rows rows'):FrzC H S c (.sl false sz rows'):=by
 rcases h with ⟨rfl,rfl,rfl⟩|⟨y,rfl,rfl⟩
 ·cases hr;exact FrzR.nil.sl
 ·obtain⟨h1,h2⟩:=hm (y,.vec sz rows) (by simp);exact hr.aG h2 h1 rfl
theorem InsRow.frz {r:List C}(h:InsRow r):∃d:InsD,FrzL H S r d.cells:=by
 obtain⟨op,to,n,fl,args,rfl⟩:=h;exact⟨⟨op,to,args,n⟩,.cons (Qj rfl) (.cons (Qj rfl) (.cons (FrzR.same (BD _)).sl (.cons (Qj rfl) .nil)))⟩
def CodeD.fits (c:CodeD):Prop:=∀b∈c.blocks,b.ins.length≤2^38∧b.am.length≤2^38
end Go.AE.Y
namespace Go.AE.Y
structure OInts where
 ns:List Int
 y:Nat
def OInts.c (x:OInts):C:=.aG x.y 1 0 x.ns.length
def OInts.lg (x:OInts):List (Nat×Obj):=[(x.y,.vec 1 (intsOf x.ns))]
structure OPhi where
 to:Int
 ns:List Int
 ac:C
 lg:List (Nat×Obj)
def OPhi.row (x:OPhi):List C:=[.int .i64 x.to,x.ac]
def OPhi.ok (x:OPhi):Prop:=(∃y,x.ac=.aG y 1 0 x.ns.length∧x.lg=[(y,.vec 1 (intsOf x.ns))])∨(∃fl,x.ac=.sl fl 1 (intsOf x.ns)∧x.lg=[])
def OPhi.own (x:OPhi):Prop:=∃y,x.ac=.aG y 1 0 x.ns.length∧x.lg=[(y,.vec 1 (intsOf x.ns))]
structure OIns where
 op:Int
 to:Int
 a:OInts
 n:Int
def OIns.row (x:OIns):List C:=[.int .i64 x.op,.int .i64 x.to,x.a.c,.int .i64 x.n]
def OIns.lg (x:OIns):List (Nat×Obj):=x.a.lg
structure OBlk where
 am:List OPhi
 pc:C
 pl:List (Nat×Obj)
 ins:List OIns
 ic:C
 il:List (Nat×Obj)
 jump:Int
 on:Int
 nx:OInts
def OBlk.row (x:OBlk):List C:=[x.pc,x.ic,.int .i64 x.jump,.int .i64 x.on,x.nx.c]
def OBlk.lg (x:OBlk):List (Nat×Obj):=x.nx.lg++(x.am.flatMap OPhi.lg++(x.pl++(x.ins.flatMap OIns.lg++x.il)))
structure OBlk.ok (x:OBlk):Prop where
 p:Gr x.pl 2 (x.am.map OPhi.row) x.pc
 i:Gr x.il 4 (x.ins.map OIns.row) x.ic
 a:∀p∈x.am,p.ok
structure OCode where
 params:Int
 ae:Int
 blocks:List OBlk
 bc:C
 bl:List (Nat×Obj)
def OCode.row (x:OCode):List C:=[.int .i64 x.params,.int .i64 x.ae,x.bc]
def OCode.lg (x:OCode):List (Nat×Obj):=x.blocks.flatMap OBlk.lg++x.bl
structure OCode.ok (x:OCode):Prop where
 b:Gr x.bl 5 (x.blocks.map OBlk.row) x.bc
 bs:∀b∈x.blocks,b.ok
def OPhi.d (x:OPhi):PhiD:=⟨x.to,x.ns⟩
def OIns.d (x:OIns):InsD:=⟨x.op,x.to,x.a.ns,x.n⟩
def OBlk.d (x:OBlk):BlkD:=⟨x.am.map OPhi.d,x.ins.map OIns.d,x.jump,x.on,x.nx.ns⟩
def OCode.d (x:OCode):CodeD:=⟨x.params,x.ae,x.blocks.map OBlk.d⟩
theorem OPhi.ar (x:OPhi)(h:x.ok):Go.AE.ar x.row=true:=by
 rcases h with ⟨y,h,_⟩|⟨fl,h,_⟩ <;> simp only[Go.AE.ar,OPhi.row,h] <;> rfl
theorem OIns.ar (x:OIns):Go.AE.ar x.row=true:=rfl
theorem OBlk.ar (x:OBlk)(h:x.ok):Go.AE.ar x.row=true:=by
 simp only[Go.AE.ar,OBlk.row,OInts.c,Jai,Jaj,h.p.ah,h.i.ah];rfl
theorem OCode.ar (x:OCode)(h:x.ok):Go.AE.ar x.row=true:=by
 simp only[Go.AE.ar,OCode.row,Jai,Jaj,h.b.ah];rfl
variable {H:Heap}{S:Nat→Bool}
def Held (H:Heap)(S:Nat→Bool)(l:List (Nat×Obj)):Prop:=∀p∈l,H p.1=p.2∧S p.1=true
theorem Held.l {a b:List (Nat×Obj)}(h:Held H S (a++b)):Held H S a:=fun p hp=>h p (Jr _ hp)
theorem Held.r {a b:List (Nat×Obj)}(h:Held H S (a++b)):Held H S b:=fun p hp=>h p (Jaf _ hp)
theorem Held.m {α:Type}{f:α→List (Nat×Obj)}{l:List α}(h:Held H S (l.flatMap f)){x:α}(hx:x∈l):Held H S (f x):=fun p hp=>h p (List.mem_flatMap.2 ⟨x,hx,hp⟩)
theorem OInts.frz (x:OInts)(h:Held H S x.lg):FrzC H S x.c (.sl false 1 (intsOf x.ns)):=by
 obtain⟨h1,h2⟩:=h (x.y,.vec 1 (intsOf x.ns)) (by simp[OInts.lg]);exact (FrzR.same (BD _)).aG h2 h1 (by simp[intsOf])
theorem OPhi.frz (x:OPhi)(aM:x.ok)(h:Held H S x.lg):FrzL H S x.row (PhiD.mk x.to x.ns).cells:=by
 refine .cons (Qj rfl) (.cons ?_ .nil);rcases aM with ⟨y,h1,h2⟩|⟨fl,h1,h2⟩
 ·obtain⟨h3,h4⟩:=h (y,.vec 1 (intsOf x.ns)) (by rw[h2];simp);rw[h1];exact (FrzR.same (BD _)).aG h4 h3 (by simp[intsOf])
 ·rw[h1];exact (FrzR.same (BD _)).sl
theorem OIns.frz (x:OIns)(h:Held H S x.lg):FrzL H S x.row (InsD.mk x.op x.to x.a.ns x.n).cells:=.cons (Qj rfl) (.cons (Qj rfl) (.cons (x.a.frz h) (.cons (Qj rfl) .nil)))
theorem FS {α β:Type}{f:α→List C}{g:β→List C}:∀(l:List α),(∀x∈l,∃y,FrzL H S (f x) (g y))→∃l':List β,FrzR H S (l.map f) (l'.map g)∧l'.length=l.length
 |[],_=>⟨[],.nil,rfl⟩
 |x::l,h=>by
  obtain⟨y,hy⟩:=h x J8;obtain⟨l',cB,hn⟩:=FS l fun z hz=>h z (J5 _ hz);exact⟨y::l',.cons hy cB,by simp[hn]⟩
theorem DB {α β:Type}{P:β→Prop}{f:α→List C}{g:β→List C}:∀(l:List α),(∀x∈l,∃y,FrzL H S (f x) (g y)∧P y)→∃l':List β,FrzR H S (l.map f) (l'.map g)∧l'.length=l.length∧∀y∈l',P y
 |[],_=>⟨[],.nil,rfl,by simp⟩
 |x::l,h=>by
  obtain⟨y,hy,hp⟩:=h x J8;obtain⟨l',cB,hn,fZ⟩:=DB l fun z hz=>h z (J5 _ hz);refine⟨y::l',.cons hy cB,by simp[hn],fun z hz=>?_⟩;rcases J3.1 hz with rfl|hz
  ·exact hp
  ·exact fZ z hz
theorem OBlk.frz (x:OBlk)(aM:x.ok)(h:Held H S x.lg):∃d:BlkD,FrzL H S x.row d.cells∧d.next=x.nx.ns∧d.ins.length=x.ins.length∧d.am.length=x.am.length:=by
 obtain⟨ps,fZ,rG⟩:=FS (H:=H) (S:=S) (f:=OPhi.row) (g:=PhiD.cells) x.am fun p hp=>⟨_,p.frz (aM.a p hp) (h.r.l.m hp)⟩;obtain⟨is,qx,cI⟩:=FS (H:=H) (S:=S) (f:=OIns.row) (g:=InsD.cells) x.ins fun p hp=>⟨_,p.frz (h.r.r.r.l.m hp)⟩;exact⟨⟨ps,is,x.jump,x.on,x.nx.ns⟩,.cons (Gr.frzM aM.p h.r.r.l fZ) (.cons (Gr.frzM aM.i h.r.r.r.r qx) (.cons (Qj rfl) (.cons (Qj rfl) (.cons (x.nx.frz h.l) .nil)))),rfl,cI,rG⟩
end Go.AE.Y
namespace Go.AE.Y
structure BlkD.sm (b:BlkD):Prop where
 n:b.next.length≤2
 i:b.ins.length≤1000
 p:b.am.length≤1000
 ia:∀x∈b.ins,x.args.length≤1000
 pa:∀x∈b.am,x.args.length≤1000
structure CodeD.sm (c:CodeD):Prop where
 b0:0<c.blocks.length
 b:c.blocks.length≤160
 bs:∀b∈c.blocks,b.sm
 p0:0≤c.params
 p1:c.params≤1000
structure OBlk.sm (b:OBlk)(N:Nat):Prop where
 n:b.nx.ns.length≤2
 i:b.ins.length≤1000
 p:b.am.length≤N
 ia:∀x∈b.ins,x.a.ns.length≤N
 pa:∀x∈b.am,x.ns.length≤N
structure OCode.sm (c:OCode)(N:Nat):Prop where
 b0:0<c.blocks.length
 b:c.blocks.length≤160
 bs:∀b∈c.blocks,b.sm N
 p0:0≤c.params
 p1:c.params≤1000
theorem OBlk.sm.mono {b:OBlk}{N M:Nat}(h:b.sm N)(hm:N≤M):b.sm M:=⟨h.n,h.i,by have:=h.p;omega,fun x hx=>by have:=h.ia x hx;omega,fun x hx=>by have:=h.pa x hx;omega⟩
theorem OCode.sm.mono {c:OCode}{N M:Nat}(h:c.sm N)(hm:N≤M):c.sm M:=⟨h.b0,h.b,fun b hb=>(h.bs b hb).mono hm,h.p0,h.p1⟩
structure BlkD.sg (b:BlkD):Prop where
 n:b.next.length≤1000000
 i:b.ins.length≤1000000
 p:b.am.length≤1000000
 ia:∀x∈b.ins,x.args.length≤1000000
 pa:∀x∈b.am,x.args.length≤1000000
structure CodeD.sg (c:CodeD):Prop where
 b:c.blocks.length≤1000000
 bs:∀b∈c.blocks,b.sg
theorem BlkD.sm.sg {b:BlkD}(h:b.sm):b.sg:=⟨by have:=h.n;omega,by have:=h.i;omega,by have:=h.p;omega,fun x hx=>by have:=h.ia x hx;omega,fun x hx=>by have:=h.pa x hx;omega⟩
theorem CodeD.sm.sg {c:CodeD}(h:c.sm):c.sg:=⟨by have:=h.b;omega,fun b hb=>(h.bs b hb).sg⟩
structure CodeD.gd (c:CodeD):Prop where
 b0:0<c.blocks.length
 b1:c.blocks.length≤160
 n:∀b∈c.blocks,b.next.length≤2
 f:c.fits
 s:c.sg
theorem CodeD.sm.fits {c:CodeD}(h:c.sm):c.fits:=fun b hb=>⟨by have:=(h.bs b hb).i;omega,by have:=(h.bs b hb).p;omega⟩
theorem CodeD.sm.gd {c:CodeD}(h:c.sm):c.gd:=⟨h.b0,h.b,fun b hb=>(h.bs b hb).n,h.fits,h.sg⟩
variable {H:Heap}{S:Nat→Bool}
theorem E4 {α β:Type}{f:α→List C}{g:β→List C}{d:α→β}:∀(l:List α),(∀x∈l,FrzL H S (f x) (g (d x)))→FrzR H S (l.map f) ((l.map d).map g)
 |[],_=>.nil
 |x::l,h=>.cons (h x J8) (E4 l fun z hz=>h z (J5 _ hz))
theorem OBlk.frzD (x:OBlk)(aM:x.ok)(h:Held H S x.lg):FrzL H S x.row x.d.cells:=by
 have fZ:=E4 (H:=H) (S:=S) (f:=OPhi.row) (g:=PhiD.cells) (d:=OPhi.d) x.am fun p hp=>p.frz (aM.a p hp) (h.r.l.m hp);have qx:=E4 (H:=H) (S:=S) (f:=OIns.row) (g:=InsD.cells) (d:=OIns.d) x.ins fun p hp=>p.frz (h.r.r.r.l.m hp);exact .cons (Gr.frzM aM.p h.r.r.l fZ) (.cons (Gr.frzM aM.i h.r.r.r.r qx) (.cons (Qj rfl) (.cons (Qj rfl) (.cons (x.nx.frz h.l) .nil))))
theorem OCode.frz (x:OCode){N:Nat}(hN:N≤100000)(aM:x.ok)(hs:x.sm N)(h:Held H S x.lg):∃d:CodeD,FrzL H S x.row d.cells∧d.gd:=by
 have iD:=E4 (H:=H) (S:=S) (f:=OBlk.row) (g:=BlkD.cells) (d:=OBlk.d) x.blocks fun b hb=>b.frzD (aM.bs b hb) (h.l.m hb);have fq:=hs.b0;have aV:=hs.b;have hd:∀d∈x.blocks.map OBlk.d,d.next.length≤2∧d.ins.length≤1000∧d.am.length≤N∧(∀i∈d.ins,i.args.length≤N)∧∀i∈d.am,i.args.length≤N:=fun d hd=>by
  obtain⟨b,hb,rfl⟩:=Jw.1 hd;have ml:=hs.bs b hb;refine⟨ml.n,by simpa[OBlk.d]using ml.i,by simpa[OBlk.d]using ml.p,fun i hi=>?_,fun i hi=>?_⟩
  ·obtain⟨y,hy,rfl⟩:=Jw.1 hi;exact ml.ia y hy
  ·obtain⟨y,hy,rfl⟩:=Jw.1 hi;exact ml.pa y hy
 refine⟨⟨x.params,x.ae,x.blocks.map OBlk.d⟩,.cons (Qj rfl) (.cons (Qj rfl) (.cons (Gr.frzM aM.b h.r iD) .nil)),by simpa using fq,by simpa using aV,fun b hb=>(hd b hb).1,fun b hb=>?_,by simp only[Jan];omega,fun b hb=>?_⟩
 ·obtain⟨h1,h2,h3,h4,h5⟩:=hd b hb;omega
 ·obtain⟨h1,h2,h3,h4,h5⟩:=hd b hb;exact⟨by omega,by omega,by omega,fun i hi=>by have:=h4 i hi;omega,fun i hi=>by have:=h5 i hi;omega⟩
theorem OCodes.frz {N:Nat}(hN:N≤100000){us:List OCode}{cc:C}{cl:List (Nat×Obj)}(hg:Gr cl 3 (us.map OCode.row) cc)(hu:∀u∈us,u.ok∧u.sm N)(h:Held H S (us.flatMap OCode.lg++cl)) :
  ∃cs:List CodeD,FrzC H S cc (.sl false 3 (Qk cs))∧cs.length=us.length∧∀c∈cs,c.gd:=by
 obtain⟨cs,h1,h2,h3⟩:=DB (H:=H) (S:=S) (P:=CodeD.gd) (f:=OCode.row) (g:=CodeD.cells) us fun u bU=>u.frz hN (hu u bU).1 (hu u bU).2 (h.l.m bU);exact⟨cs,Gr.frzM hg h.r h1,h2,h3⟩
end Go.AE.Y
namespace Go.AE
variable {P:Program}
theorem LW {a b:SC}{Q:X→Env→Heap→Prop}{e:Env}{H:Heap}(T:Env→Heap→Prop)(h1:∀Q':X→Env→Heap→Prop,(∀e H,T e H→Q' .nrm e H)→(∀e H,Q .ret e H→Q' .ret e H)→(∀i e H,Q (.exit i) e H→Q' (.exit i) e H)→Ag P a Q' e H)
  (h2:∀e H,T e H→Ag P b Q e H):Ag P (.seq a b) Q e H:=h1 (X.sq P b Q) h2 (fun _ _ h=>h) (fun _ _ _ h=>h)
end Go.AE
namespace Go.AE.Y
structure UPhi where
 to:Int
 ns:List Int
 ac:C
 al:List (Nat×Obj)
def UPhi.row (x:UPhi):List C:=[.int .i64 x.to,x.ac]
structure UBlk where
 am:List UPhi
 pc:C
 pl:List (Nat×Obj)
 ins:List InsD
 ic:C
 il:List (Nat×Obj)
 jump:Int
 on:Int
 nfl:Bool
 next:List Int
def UBlk.row (x:UBlk):List C:=[x.pc,x.ic,.int .i64 x.jump,.int .i64 x.on,.sl x.nfl 1 (intsOf x.next)]
def UBlk.lg (x:UBlk):List (Nat×Obj):=x.il++(x.am.flatMap UPhi.al++x.pl)
structure UBlk.ok (x:UBlk):Prop where
 p:Gr x.pl 2 (x.am.map UPhi.row) x.pc
 i:Gr x.il 4 (At x.ins) x.ic
 a:∀p∈x.am,Gr p.al 1 (intsOf p.ns) p.ac
structure UBlk.sm (b:UBlk)(N:Nat):Prop where
 n:b.next.length≤2
 i:b.ins.length≤1000
 p:b.am.length≤N
 ia:∀x∈b.ins,x.args.length≤1000
 pa:∀x∈b.am,x.ns.length≤1000
structure UCode where
 params:Int
 ae:Int
 blocks:List UBlk
 bc:C
 bl:List (Nat×Obj)
def UCode.row (x:UCode):List C:=[.int .i64 x.params,.int .i64 x.ae,x.bc]
def UCode.lg (x:UCode):List (Nat×Obj):=x.blocks.flatMap UBlk.lg++x.bl
structure UCode.ok (x:UCode):Prop where
 b:Gr x.bl 5 (x.blocks.map UBlk.row) x.bc
 bs:∀b∈x.blocks,b.ok
 p0:0≤x.params
 p1:x.params≤3
structure UCode.sm (c:UCode)(N:Nat):Prop where
 b0:0<c.blocks.length
 b:c.blocks.length≤160
 bs:∀b∈c.blocks,b.sm N
theorem UPhi.ar (x:UPhi)(h:Gr x.al 1 (intsOf x.ns) x.ac):Go.AE.ar x.row=true:=by
 simp only[Go.AE.ar,UPhi.row,Jai,Jaj,h.ah];rfl
theorem UBlk.ar (x:UBlk)(h:x.ok):Go.AE.ar x.row=true:=by
 simp only[Go.AE.ar,UBlk.row,Jai,Jaj,h.p.ah,h.i.ah];rfl
theorem UCode.ar (x:UCode)(h:x.ok):Go.AE.ar x.row=true:=by
 simp only[Go.AE.ar,UCode.row,Jai,Jaj,h.b.ah];rfl
theorem UBlk.sm.mono {b:UBlk}{N M:Nat}(h:b.sm N)(hm:N≤M):b.sm M:=⟨h.n,h.i,by have:=h.p;omega,h.ia,h.pa⟩
theorem UCode.sm.mono {c:UCode}{N M:Nat}(h:c.sm N)(hm:N≤M):c.sm M:=⟨h.b0,h.b,fun b hb=>(h.bs b hb).mono hm⟩
variable {H:Heap}{S:Nat→Bool}
theorem UBlk.frz (x:UBlk){N:Nat}(hN:N≤1000)(aM:x.ok)(hs:x.sm N)(h:Held H S x.lg):∃d:BlkD,FrzL H S x.row d.cells∧d.sm:=by
 obtain⟨ps,fZ,rG,hpp⟩:=DB (H:=H) (S:=S) (P:=fun p:PhiD=>p.args.length≤1000) (f:=UPhi.row) (g:=PhiD.cells) x.am fun p hp=>
  ⟨⟨p.to,p.ns⟩,.cons (Qj rfl) (.cons (Gr.frzM (aM.a p hp) (h.r.l.m hp) (FrzR.same (BD _))) .nil),hs.pa p hp⟩
 have h1:=hs.n;have h2:=hs.i;have h3:=hs.p;exact⟨⟨ps,x.ins,x.jump,x.on,x.next⟩,.cons (Gr.frzM aM.p h.r.r fZ) (.cons (Gr.frzM aM.i h.l (FrzR.same (Qblw _))) (.cons (Qj rfl) (.cons (Qj rfl) (.cons (FrzR.same (BD _)).sl .nil)))),
  h1,h2,by show ps.length≤_;omega,hs.ia,hpp⟩
theorem UCode.frz (x:UCode){N:Nat}(hN:N≤1000)(aM:x.ok)(hs:x.sm N)(h:Held H S x.lg):∃d:CodeD,FrzL H S x.row d.cells∧d.sm:=by
 obtain⟨bs,iD,gn,hbp⟩:=DB (H:=H) (S:=S) (P:=BlkD.sm) (f:=UBlk.row) (g:=BlkD.cells) x.blocks fun b hb=>b.frz hN (aM.bs b hb) (hs.bs b hb) (h.l.m hb);have fq:=hs.b0;have aV:=hs.b;exact⟨⟨x.params,x.ae,bs⟩,.cons (Qj rfl) (.cons (Qj rfl) (.cons (Gr.frzM aM.b h.r iD) .nil)),by show 0<bs.length;omega,by show bs.length≤_;omega,hbp,aM.p0,by have:=aM.p1;show x.params≤_;omega⟩
theorem UCodes.frz {us:List UCode}{N:Nat}(hN:N≤1000){cc:C}{cl:List (Nat×Obj)}(hg:Gr cl 3 (us.map UCode.row) cc)(hu:∀u∈us,u.ok∧u.sm N)(h:Held H S (us.flatMap UCode.lg++cl)) :
  ∃cs:List CodeD,FrzC H S cc (.sl false 3 (Qk cs))∧cs.length=us.length∧∀c∈cs,c.sm:=by
 obtain⟨cs,h1,h2,h3⟩:=DB (H:=H) (S:=S) (P:=CodeD.sm) (f:=UCode.row) (g:=CodeD.cells) us fun u bU=>u.frz hN (hu u bU).1 (hu u bU).2 (h.l.m bU);exact⟨cs,Gr.frzM hg h.r h1,h2,h3⟩
end Go.AE.Y
namespace Go.AE.Y
theorem HF {α:Type}{l1 l2:List α}(h:∀f:List α→Nat,(∀a b,f (a++b)=f a+f b)→f []=0→(∀x l,f (x::l)=f [x]+f l)→(∀a b:List α,a.Perm b→f a=f b)→f l1=f l2):l1.Perm l2:=by
 classical
 exact List.perm_iff_count.2 fun a=>h (List.count a) (fun _ _=>List.count_append) rfl (fun x l=>by rw[Jay,Jay];simp;omega) (fun _ _ hp=>hp.count_eq a)
def UCode.put (u:UCode)(bi:Nat)(b:UBlk)(bl:List (Nat×Obj)):UCode:={ u with blocks:=u.blocks.set bi b,bl:=bl }
theorem UCode.bvec {u:UCode}(h:u.ok)(h0:0<u.blocks.length):∃y,u.bc=.aG y 5 0 u.blocks.length∧u.bl=[(y,.vec 5 (u.blocks.map UBlk.row))]:=by
 rcases h.b with ⟨h1,h2,h3⟩|⟨y,h1,h2⟩
 ·have:=List.map_eq_nil_iff.1 h2;rw[this]at h0;simp at h0
 ·exact⟨y,by rw[h1];simp,h2⟩
end Go.AE.Y
namespace Go.AE
open Go.AE.Y
open Go.Proofs.Tryz
variable {H:Heap}{K:V→Heap→Prop}
theorem Slc.keep {H':Heap}{sz:Nat}{rows:List (List C)}{b:C}{E L:List (Nat×Obj)}(h:Slc H sz rows b)(kn:Kn H H' E L)(hE:∀l a c d,b=.aG l a c d→l∉E.map Prod.fst):Slc H' sz rows b:=by
 obtain⟨h1,h2,h3,h4⟩:=h
 cases b with
 |sl fl z rs=>exact⟨trivial,h2,h3,h4⟩
 |aG l z st n=>
  simp only[Go.AE.bt]at h1
  cases ho:H l with
  |vec y rs=>
   have:=kn.chg l (by rw[ho];simp) (hE l z st n rfl);refine⟨?_,h2,?_,h4⟩
   ·simp only[Go.AE.bt,this];exact h1
   ·simp only[Go.AE.rowsOf,this];exact h3
  |_=>rw[ho]at h1;exact h1.elim
 |_=>exact h1.elim
theorem Slc.keep0 {H':Heap}{sz:Nat}{rows:List (List C)}{b:C}{L:List (Nat×Obj)}(h:Slc H sz rows b)(kn:Kn H H' [] L):Slc H' sz rows b:=h.keep kn (by simp)
end Go.AE
namespace Go.AE.Y
open Go.Proofs.Tryz
variable {H:Heap}{K:V→Heap→Prop}
def Bw (nx:Nat→List Int)(b:Int)(n:Nat):List Int:=((List.range n).filter fun i=>(nx i).contains b).map Int.ofNat
theorem P3 (nx:Nat→List Int)(b:Int)(n:Nat):Bw nx b (n+1)=Bw nx b n++if (nx n).contains b then [(n:Int)]else []:=by
 simp only[Bw,List.range_succ,List.filter_append,Jp];congr 1;cases h:(nx n).contains b
 ·simp only[Jau,h,Jaz];rfl
 ·simp only[Jau,h,Jaz,if_true];rfl
theorem Q9w (nx:Nat→List Int)(b:Int)(n:Nat):(Bw nx b n).length≤n:=by
 simp only[Bw,Jan];exact Jas (List.length_filter_le _ _) (by simp)
theorem Qbl4 {p rg:Int}{bc:C}{rows:List (List C)}{nx:Nat→List Int}{b:Int}(hs:Slc H 5 rows bc)(an:bc.ah=false)
  (hx:∀i,i<rows.length→∃a1 a2 a3 a4 a5,rows.getD i []=[a1,a2,a3,a4,a5]∧a5.ah=false∧Slc H 1 (intsOf (nx i)) a5)
  (hK:∀H',Upd H H' []→K (.c (.sl false 1 (intsOf (Bw nx b rows.length)))) H'):Qi prog Rp [.ag [.int .i64 p,.int .i64 rg,bc],.c (.int .i64 b)] H K:=by
 refine A0 ?_;refine Qb Ab Qbqs ?_;refine Qa ?_;simp only[go_sem];refine Qa ?_;simp only[go_sem];refine Qp (Qa ?_);simp only[go_sem];have ai:=hs.len;have nY:=hs.sz;refine Qe (Qf (Qu (fun n e1 H1=>∃(i:Nat) (c:C) (Lg:List (Nat×Obj)),n=rows.length-i∧i≤rows.length∧Gr Lg 1 (intsOf (Bw nx b i)) c∧Kn H H1 [] ([]++Lg)∧
  e1=[(1,.c (.int .i64 b)),(2,.c (.pp [.int .i64 p,.int .i64 rg,bc])),(5,.c c),(6,.c (.int .i64 i))]) rows.length ?_ ?_))
 ·exact⟨0,_,[],by omega,by omega,.nil 1,Kn.aw H,rfl⟩
 ·rintro n e1 H1 ⟨i,c,Lg,cA,hi,bQ,kn,rfl⟩;have eH:=hs.keep0 kn;have eJ:=eq_true eH.ok;have j5:=eH.rows;refine Qp (Qa ?_);simp only[go_sem,an,eJ,ai];intro hl;simp only[LIM]at hl;refine Qe (Qc rfl ?_ ?_)
  ·intro hc;have aa:i<rows.length:=by simpa using hc
   obtain⟨a1,a2,a3,a4,a5,av,o5,jS⟩:=hx i aa;have jS:=jS.keep0 kn;have fN:=eq_true jS.ok;have jV:=jS.len;have pv:=jS.sz;have pB:=jS.rows;refine Qd ?_;simp only[go_sem];have turn:∀(e:Env) (H2:Heap) (c':C) (Lg':List (Nat×Obj)),lk 1 e=.c (.int .i64 b)→lk 2 e=.c (.pp [.int .i64 p,.int .i64 rg,bc])→lk 5 e=.c c'→lk 6 e=.c (.int .i64 i)→
     Gr Lg' 1 (intsOf (Bw nx b (i+1))) c'→Kn H H2 [] ([]++Lg')→
     Ag prog Mo (X.next (fun e2 H2=>∃m,m<n∧∃(i:Nat) (c:C) (Lg:List (Nat×Obj)),m=rows.length-i∧i≤rows.length∧Gr Lg 1 (intsOf (Bw nx b i)) c∧Kn H H2 [] ([]++Lg)∧
      e2=[(1,.c (.int .i64 b)),(2,.c (.pp [.int .i64 p,.int .i64 rg,bc])),(5,.c c),(6,.c (.int .i64 i))]) (X.inBlock 0 (X.sq prog Mn (Qq Aa (unK H K))))) e H2:=by
    intro e H2 c' Lg' l1 l2 l5 l6 ew kn';refine Qn ?_;simp only[go_sem,l1,l2,l5,l6,X.next];exact⟨Ql,rows.length-(i+1),by omega,i+1,c',Lg',rfl,by omega,ew,by simpa using kn',rfl⟩
   refine Qe (Qf ?_);refine Qa ?_;simp only[go_sem];refine Qf (Qu (fun n e1 H2=>∃(k:Nat),n=(nx i).length-k∧k≤(nx i).length∧b∉(nx i).take k∧H2=H1∧e1=[(1,.c (.int .i64 b)),(2,.c (.pp [.int .i64 p,.int .i64 rg,bc])),(5,.c c),(6,.c (.int .i64 i)),(7,.c (.int .i64 k))]) (nx i).length ?_ ?_)
   ·exact⟨0,by omega,by omega,by simp,rfl,rfl⟩
   ·rintro n e1 H2 ⟨k,cz,hk,bg,rfl,rfl⟩;refine Qp (Qa ?_);simp only[go_sem,an,eJ,ai,nY,j5,aa,av,o5,fN,jV,Qm];intro lA;simp only[LIM]at lA;refine Qe (Qc rfl ?_ ?_)
    ·intro hc;have aW:k<(nx i).length:=(by simpa using hc);have ev:(nx i).getD k 0=(nx i)[k]:=(by simp[Jc,aW]);refine Qd ?_;simp only[go_sem];refine Qe (Qf ?_);refine Qa ?_;simp only[go_sem,an,eJ,ai,nY,j5,aa,av,o5,fN,jV,pv,pB,aW,Qm,Cy _ _ aW,ev];refine Qc rfl ?_ ?_
     ·intro ao;have hb:(nx i)[k]=b:=(by simpa using ao);have eN:(nx i).contains b=true:=(by rw[Jz,←hb];exact Jf aW);refine Qa ?_;simp only[go_sem];have ga:=Q9w nx b i;refine kn.grow (B:=[]) (new:=intsOf [(i:Int)]) bQ (.mk' _ _ _ _) (BD _) (by simp only[Qm,LIM,Jj,Ju];omega) fun y' H3 kn=>?_;simp only[go_sem,MU];refine Qr ?_;have hib:((2:Nat) == 3)=false:=rfl;rw[Ya hib];simp only[go_sem,X.next];refine turn _ _ _ _ (by simp[lk]) (by simp[lk]) (by simp[lk];rfl) (by simp[lk]) ?_ kn;rw[P3,eN,if_pos rfl,HB];exact .mk _ _ _ (by simp)
     ·intro ao;have hb:¬(nx i)[k]=b:=(by simpa using ao);refine Qd ?_;simp only[go_sem];refine Qn ?_;simp only[go_sem,X.next];refine⟨Ql,(nx i).length-(k+1),by omega,k+1,rfl,by omega,?_,rfl⟩;rw[Jd aW];simp only[Ji,Ja,not_or];exact⟨bg,fun h=>hb h.symm⟩
    ·intro hc;have aC:(nx i).length≤k:=(by simpa using hc);rw[Jb aC]at bg;have eN:(nx i).contains b=false:=by
      cases dW:(nx i).contains b with
      |false=>rfl
      |true=>exact absurd (Jz.1 dW) bg
     refine Qr ?_;simp only[go_sem,X.next];refine turn _ _ _ _ (by simp[lk]) (by simp[lk]) (by simp[lk];rfl) (by simp[lk]) ?_ kn;rw[P3,eN];simpa using bQ
  ·intro hc;have aC:i=rows.length:=by have:rows.length≤i:=(by simpa using hc);omega
   subst aC;refine Qr ?_;simp only[go_sem,X.next];refine Qa ?_;simp only[go_sem];refine Qg ?_;simp only[go_sem,Qq,Q1,Aa,Ja,forall_eq,RS.op];exact⟨_,.c _ _ (bQ.frz kn (BD _)),hK _ kn.fin⟩
theorem Qbqc {p rg:Int}{bc:C}{rows:List (List C)}{nx:Nat→List Int}{b:Int}(hs:Slc H 5 rows bc)(an:bc.ah=false)
  (hx:∀i,i<rows.length→∃a1 a2 a3 a4 fl,rows.getD i []=[a1,a2,a3,a4,.sl fl 1 (intsOf (nx i))])
  (hK:∀H',Upd H H' []→K (.c (.sl false 1 (intsOf (Bw nx b rows.length)))) H'):Qi prog Rp [.ag [.int .i64 p,.int .i64 rg,bc],.c (.int .i64 b)] H K:=
 Qbl4 hs an (fun i hi=>by
  obtain⟨a1,a2,a3,a4,fl,h⟩:=hx i hi;exact⟨a1,a2,a3,a4,_,h,rfl,.mk' _ _ _ _⟩) hK
def Cc (op:Int):Int:=if op=1 then 0 else if op=2∨op=10∨op=11∨op=13 then 1 else if (3≤op∧op≤9)∨op=12 then 2 else -1
theorem XE {op:Int}(hK:K (.c (.int .i64 (Cc op))) H):Qi prog Gq [.c (.int .i64 op)] H K:=by
 refine Qb Ab X3 ?_;have retf:∀(n:Int) (e:Env),Cc op=n→lk 2 e=.c (.int .i64 n)→Qq Ad K .ret e H:=by
  intro b e h1 h3;simp only[go_sem,Qq,Q1,Ad,Ja,forall_eq,RS.op,h3];rw[←h1];exact hK
 refine Qa ?_;simp only[go_sem];refine Qe (Qf ?_);refine Qa ?_;simp only[go_sem];refine Qc rfl ?_ ?_
 ·intro hc;refine Qa ?_;simp only[go_sem];refine Qg ?_;simp only[go_sem];exact retf 0 _ (by simp only[decide_eq_true_eq]at hc;simp[Cc,hc]) (by simp[lk])
 intro bE;refine Qa ?_;simp only[go_sem];refine Qc rfl ?_ ?_
 ·intro hc;refine Qa ?_;simp only[go_sem];refine Qg ?_;simp only[go_sem];exact retf 1 _ (by simp at bE hc;rw[Cc,if_neg bE,if_pos (by omega)]) (by simp[lk])
 intro ao;refine Qa ?_;simp only[go_sem];refine BA ?_;simp only[go_sem,Mq];refine Qc rfl ?_ ?_
 ·intro hc;refine Qa ?_;simp only[go_sem];refine Qg ?_;simp only[go_sem];exact retf 2 _ (by simp at bE ao hc;rw[Cc,if_neg bE,if_neg (by omega),if_pos (by omega)]) (by simp[lk])
 ·intro hc;refine Qd ?_;simp only[go_sem];refine Qa ?_;simp only[go_sem];refine Qg ?_;exact retf (-1) _ (by simp at bE ao hc;rw[Cc,if_neg bE,if_neg (by omega),if_neg (by omega)]) (by simp[lk])
theorem Y4 {op:Int}:-1≤Cc op∧Cc op≤2:=by
 rw[Cc];split
 ·omega
 ·split
  ·omega
  ·split <;> omega
def BF (op:Int):Bool:=decide (1≤op∧op≤14)&&!decide (op=12)&&!decide (op=13)
theorem LC {op:Int}(hK:K (.c (.bool (BF op))) H):Qi prog Rq [.c (.int .i64 op)] H K:=by
 refine Qb Ab Qbqr ?_;refine Qa ?_;simp only[go_sem];refine Qa ?_;simp only[go_sem];refine BA ?_;simp only[go_sem,MV];refine Qg ?_;simp only[go_sem,Qq,Q1,Ad,Ja,forall_eq,RS.op];have:∀a b c:Bool,(bif bif a then b else false then c else false)=(a&&b&&c):=by decide
 rw[this];exact hK
def Cb (rg:Int)(l:List Int):Bool:=l.all fun x=>decide (0≤x∧x≤rg-1)
theorem Qbmo {rg:Int}{l:List Int}{i:Nat}(hi:i<l.length):Cb rg (l.take (i+1))=(Cb rg (l.take i)&&decide (0≤l.getD i 0∧l.getD i 0≤rg-1)):=by
 have e:l.getD i 0=l[i]:=by simp[Jc,hi]
 rw[Cb,Jd hi,Jax,e];simp[Cb]
theorem Qbrc {rg:Int}{l:List Int}{i:Nat}(hi:i<l.length)(h:decide (0≤l.getD i 0∧l.getD i 0≤rg-1)=false):Cb rg l=false:=by
 have e:l.getD i 0=l[i]:=by simp[Jc,hi]
 cases hc:Cb rg l with
 |false=>rfl
 |true=>
  rw[Cb,J1]at hc;have:=hc _ (Jf hi);rw[e]at h;rw[h]at this;exact absurd this (by simp)
theorem Kw {p rg:Int}{bc:C}{fl:Bool}{l:List Int}(hr:-(2^62)≤rg)(dm:rg≤2^62)(hK:K (.c (.bool (Cb rg l))) H) :
  Qi prog ED [.ag [.int .i64 p,.int .i64 rg,bc],.c (.sl fl 1 (intsOf l))] H K:=by
 refine Qb Ab X2 ?_;have retf:∀(b:Bool) (e:Env),Cb rg l=b→lk 4 e=.c (.bool b)→Qq Aa K .ret e H:=by
  intro b e h1 h3;simp only[go_sem,Qq,Q1,Aa,Ja,forall_eq,RS.op,h3];rw[←h1];exact hK
 refine Qa ?_;simp only[go_sem];refine Qp (Qa ?_);simp only[go_sem];refine Qe (Qf (Qu (fun n e1 H1=>∃(i:Nat),n=l.length-i∧i≤l.length∧H1=H∧Cb rg (l.take i)=true∧e1=[(1,.c (.sl fl 1 (intsOf l))),(2,.c (.pp [.int .i64 p,.int .i64 rg,bc])),(5,.c (.int .i64 i))]) l.length ?_ ?_))
 ·exact⟨0,by omega,by omega,rfl,rfl,rfl⟩
 ·rintro n e1 H1 ⟨i,cA,hi,rfl,aD,rfl⟩;refine Qp (Qa ?_);simp only[go_sem,Qm];intro hl;simp only[LIM]at hl;refine Qe (Qc rfl ?_ ?_)
  ·intro hc;have aa:i<l.length:=by simpa using hc
   refine Qd ?_;simp only[go_sem];refine Qe (Qf ?_);refine Ak ?_;simp only[go_sem,aa,Qm,Cy _ _ aa];refine⟨Ql,?_⟩;refine BA ?_;simp only[go_sem,Mm];refine Qc rfl ?_ ?_
   ·intro ao;refine Qa ?_;simp only[go_sem];refine Qg ?_;simp only[go_sem,X.next];exact retf false _ (Qbrc aa (Bm ao)) (by simp[lk])
   ·intro ao;refine Qd ?_;simp only[go_sem];refine Qn ?_;simp only[go_sem,X.next];exact⟨Ql,l.length-(i+1),by omega,i+1,rfl,by omega,by rw[Qbmo aa,aD,AK ao];rfl,rfl⟩
  ·intro hc;have aC:l.length≤i:=by simpa using hc
   rw[Jb aC]at aD;refine Qr ?_;simp only[go_sem,X.next];refine Qa ?_;simp only[go_sem];refine Qg ?_;exact retf true _ aD (by simp[lk])
def rgOf (cs:List CodeD)(k:Nat):Int:=(cs[k]?.map CodeD.ae).getD 0
def pmOf (cs:List CodeD)(k:Nat):Int:=(cs[k]?.map CodeD.params).getD 0
theorem FN {cs:List CodeD}{k:Nat}(h:k<cs.length):rgOf cs k=cs[k].ae:=by simp[rgOf,h]
theorem EO {cs:List CodeD}{k:Nat}(h:k<cs.length):pmOf cs k=cs[k].params:=by simp[pmOf,h]
def insH (rg:Int)(x:InsD):Bool:=decide (1≤x.op∧x.op≤14)&&Cb rg x.args
def insT (rg:Int)(x:InsD):Bool:=if BF x.op then decide (0≤x.to∧x.to≤rg-1)else decide (x.to=-1)
def insL (cs:List CodeD)(k:Nat)(x:InsD):Bool:=
 if x.op=14 then decide (0≤x.n∧x.n≤(k:Int)-1)&&decide ((x.args.length:Int)=pmOf cs x.n.toNat)
 else decide ((x.args.length:Int)=Cc x.op)&&decide (0≤x.n∧x.n≤255)&&(decide (x.n=0) || decide (x.op=1))
def insG (cs:List CodeD)(k:Nat)(x:InsD):Bool:=insH (rgOf cs k) x&&insT (rgOf cs k) x&&insL cs k x
theorem TH {cs:List CodeD}{fl:Bool}{k:Nat}{x:InsD}(hk:k<cs.length)(hr:0≤cs[k].ae)(dm:cs[k].ae≤300)(bP:cs.length≤100)(hK:∀(H':Heap),Upd H H' []→K (.c (.bool (insG cs k x))) H') :
  Qi prog Hn [.ag [.sl fl 3 (Qk cs)],.c (.int .i64 k),.ag x.cells] H K:=by
 refine A0 ?_;refine Qb Ab T9 ?_;refine Qa ?_;simp only[go_sem,InsD.cells];refine Qa ?_;simp only[go_sem,hk,Bi,DK _ _ hk,CodeD.cells];intro x7 dY H1 h1;have kn:=(Kn.aw H).al dY h1;have ko:=kn.l 0 rfl;simp only[go_sem,Od,ko];intro H2 h2;have kn:=kn.aT 0 rfl h2;have iG:=kn.l 0 rfl;have kP:=FN hk;have retf:∀(b:Bool) (e:Env),insG cs k x=b→lk 6 e=.c (.bool b)→Qq AB (unK H K) .ret e H2:=by
  intro b e h1 h3;simp only[go_sem,Qq,Q1,AB,Ja,forall_eq,RS.op,h3];rw[←h1];exact⟨_,.c _ _ (Qj rfl),hK _ kn.fin⟩
 refine Qp (Qa ?_);simp only[go_sem];refine BA ?_;simp only[go_sem,Oc,iG];have rest:∀(E1:Env) (b:Bool),insH cs[k].ae x=(!b)→lk 1 E1=.c (.int .i64 k)→lk 3 E1=.c (.pp [.sl fl 3 (Qk cs)])→lk 5 E1=.c (.pp [.int .i64 x.op,.int .i64 x.to,.sl false 1 (intsOf x.args),.int .i64 x.n])→lk 7 E1=.c (.ptr x7 0)→lk 23 E1=.c (.bool b)→
   Ag prog (s_l7Ins_3.seq Oe) (Qq AB (unK H K)) E1 H2:=by
  intro E1 b hb l1 l3 l5 l7 l23;refine Qe (Qc l23 ?_ ?_)
  ·intro hc;refine Qa ?_;simp only[go_sem];refine Qg ?_;simp only[go_sem];exact retf false _ (by rw[insG,kP,hb,hc];rfl) (by simp[lk])
  intro hc;rw[hc]at hb;refine Qd ?_;simp only[go_sem];refine Qp (Ak ?_);simp only[go_sem,l5,l7,iG];refine⟨Ql,?_⟩;refine LC ?_;simp only[go_sem,Oa,iG];refine BA ?_;simp only[go_sem,Ob,l5];have rest2:∀(E1:Env) (b:Bool),insT cs[k].ae x=(!b)→lk 1 E1=.c (.int .i64 k)→lk 3 E1=.c (.pp [.sl fl 3 (Qk cs)])→lk 5 E1=.c (.pp [.int .i64 x.op,.int .i64 x.to,.sl false 1 (intsOf x.args),.int .i64 x.n])→lk 44 E1=.c (.bool b)→
    Ag prog (s_l7Ins_7.seq Of) (Qq AB (unK H K)) E1 H2:=by
   intro E1 b br l1 l3 l5 l44;refine Qe (Qc l44 ?_ ?_)
   ·intro hc;refine Qa ?_;simp only[go_sem];refine Qg ?_;simp only[go_sem];exact retf false _ (by rw[insG,kP,br,hc];simp) (by simp[lk])
   intro hc;rw[hc]at br;have hG:insG cs k x=insL cs k x:=by rw[insG,kP,hb,br];rfl
   refine Qd ?_;simp only[go_sem];refine Qp (Qa ?_);simp only[go_sem,l1,l3,l5];refine Qe (Qc rfl ?_ ?_)
   ·intro hc;have aK:x.op=14:=of_decide_eq_true hc;rw[insL,if_pos aK]at hG;refine Ak ?_;simp only[go_sem];refine⟨Ql,?_⟩;refine BA ?_;by_cases cI:0≤x.n∧x.n≤(k:Int)-1
    ·obtain⟨m,hm⟩:=Int.eq_ofNat_of_zero_le cI.1;have eR:m<cs.length:=(by omega);have fg:(0≤(m:Int)∧(m:Int)≤(k:Int)-1)=True:=eq_true (by rw[←hm];exact cI);simp only[go_sem,Rj,hm,eR,Bi,DK _ _ eR,CodeD.cells,Qm];refine Qg ?_;refine retf _ _ ?_ (by simp[lk];rfl);rw[hG,hm,Int.toNat_natCast,EO eR];simp only[fg,decide_true,Bool.true_and];simp[show ((m:Int)≤(k:Int)-1) from by omega]
    ·have fg:decide (0≤x.n∧x.n≤(k:Int)-1)=false:=(by simpa using cI);by_cases hm:x.n.toNat<cs.length
     ·simp only[go_sem,Rj,fg,DK _ _ hm,CodeD.cells];refine Qg ?_;exact retf false _ (by rw[hG,fg];rfl) (by simp[lk])
     ·have ev:(Qk cs).getD x.n.toNat []=[]:=by
       rw[Jc,Jam (by rw[Bi];omega)];rfl
      simp only[go_sem,Rj,fg,ev,List.take_nil,List.headD_nil];refine Qg ?_;exact retf false _ (by rw[hG,fg];rfl) (by simp[lk])
   ·intro hc;have aK:¬x.op=14:=of_decide_eq_false hc;rw[insL,if_neg aK]at hG;refine Qd ?_;simp only[go_sem];refine Ak ?_;simp only[go_sem];refine XE ?_;simp only[go_sem,Mp];refine⟨fun hb=>?_,fun hb=>?_⟩
    ·refine BA ?_;simp only[go_sem,Ha];refine Qg ?_;refine retf _ _ ?_ (by simp[lk];rfl);have aR:(x.args.length:Int)=Cc x.op:=(by simpa[Qm]using hb);rw[hG];simp[aR,Qm]
    ·simp only[go_sem,Ha,hb];refine Qg ?_;refine retf _ _ ?_ (by simp[lk];rfl);have aR:¬(x.args.length:Int)=Cc x.op:=(by simpa[Qm]using hb);rw[hG];simp[aR]
  refine⟨fun hb=>?_,fun hb=>?_⟩
  ·refine LC ?_;simp only[go_sem,G0,l1,l3,l5];refine rest2 _ _ ?_ (by simp[lk]) (by simp[lk]) (by simp[lk]) (by simp[lk];rfl)
   cases eR:BF x.op with
   |true=>simp[insT,eR]
   |false=>by_cases h:x.to=-1 <;> simp[insT,eR,h]
  ·replace hb:=AK hb;simp only[go_sem,G0,l1,l3,l5,hb];refine rest2 _ true ?_ (by simp[lk]) (by simp[lk]) (by simp[lk]) (by simp[lk])
   cases eR:BF x.op with
   |true=>simp[eR]at hb;simp[insT,eR];omega
   |false=>simp[eR]at hb;simp[insT,eR];omega
 refine⟨fun hb=>?_,fun hb=>?_⟩
 ·refine Kw (by omega) (by omega) ?_;simp only[go_sem,G7];refine rest _ _ ?_ (by simp[lk]) (by simp[lk]) (by simp[lk]) (by simp[lk]) (by simp[lk];rfl);simp[insH]
 ·replace hb:=AK hb;simp only[go_sem,G7,hb];refine rest _ true ?_ (by simp[lk]) (by simp[lk]) (by simp[lk]) (by simp[lk]) (by simp[lk]);rw[insH,Bm hb];rfl
theorem InsD.b9 (x:InsD):x.cells.take 4=x.cells:=rfl
theorem InsD.aX (x:InsD):(x.cells.all fun c=>!c.ah)=true:=rfl
theorem InsD.len4 (x:InsD):x.cells.length=4:=rfl
theorem VI (l:List BlkD)(i:Nat)(h:i<(Qx l).length):∃a1 a2 a3 a4 fl,(Qx l).getD i []=[a1,a2,a3,a4,.sl fl 1 (intsOf ((l.map BlkD.next).getD i []))]:=by
 rw[AQ]at h;rw[HI _ _ h];have:(l.map BlkD.next).getD i []=l[i].next:=by simp[Jc,h]
 exact⟨.sl false 2 (Az l[i].am),.sl false 4 (At l[i].ins),.int .i64 l[i].jump,.int .i64 l[i].on,false,by rw[this];rfl⟩
def BI (j:Int):Int:=if j=1 then 1 else if j=2 then 2 else if j=3 then 0 else -1
def Cp (rg:Int)(y:BlkD):Bool:=decide ((y.next.length:Int)=BI y.jump)&&if y.jump=1 then decide (y.on=0)else decide (0≤y.on∧y.on≤rg-1)
def AN (n:Nat)(x:Int):Bool:=decide (1≤x∧x≤(n:Int)-1)
def phiG (rg:Int)(np b:Nat)(x:PhiD):Bool:=!decide (b=0)&&decide ((x.args.length:Int)=np)&&Cb rg x.args&&decide (0≤x.to∧x.to≤rg-1)
def blkG (cs:List CodeD)(k b:Nat)(q:CodeD)(y:BlkD):Bool:=
 Cp q.ae y&&y.next.all (AN (Qx q.blocks).length)&&y.ins.all (insG cs k)&&y.am.all (phiG q.ae (Bw (fun i=>(q.blocks.map BlkD.next).getD i []) (b:Int) (Qx q.blocks).length).length b)
theorem Qbov {cs:List CodeD}{k b:Nat}{q:CodeD}{y:BlkD}(h:blkG cs k b q y=true):y.next.length≤2:=by
 simp only[blkG,Cp,J6,decide_eq_true_eq]at h;have:=h.1.1.1.1;rw[BI]at this;split at this
 ·omega
 ·split at this
  ·omega
  ·split at this <;> omega
theorem Qbqb {cs:List CodeD}{fl:Bool}{k b:Nat}(hk:k<cs.length)(m9:b<cs[k].blocks.length)(hr:0≤cs[k].ae)(dm:cs[k].ae≤300)(bP:cs.length≤100)(i3:cs[k].blocks.length≤200)(hK:∀(H':Heap),Upd H H' []→K (.c (.bool (blkG cs k b cs[k] cs[k].blocks[b]))) H') :
  Qi prog GJ [.ag [.sl fl 3 (Qk cs)],.c (.int .i64 k),.c (.int .i64 b)] H K:=by
 refine A0 ?_;refine Qb Ab Qbqq ?_;have retf:∀(v:Bool) (e:Env) (H':Heap) (L:List (Nat×Obj)),blkG cs k b cs[k] cs[k].blocks[b]=v→Kn H H' [] L→lk 6 e=.c (.bool v)→Qq AB (unK H K) .ret e H':=by
  intro v e H' L hb kn h3;simp only[go_sem,Qq,Q1,AB,Ja,forall_eq,RS.op,h3];rw[←hb];exact⟨_,.c _ _ (Qj rfl),hK _ kn.fin⟩
 refine Qa ?_;simp only[go_sem];refine Qa ?_;simp only[go_sem,hk,Bi,DK _ _ hk,CodeD.cells];intro x7 dY H1 h1;have kn:=(Kn.aw H).al dY h1;have ko:=kn.l 0 rfl;simp only[go_sem,MY,ko];intro H2 h2;have kn:=kn.aT 0 rfl h2;have iG:=kn.l 0 rfl;refine Qa ?_;simp only[go_sem,iG,m9,AQ,HI _ _ m9,BlkD.cells];obtain⟨y,hy⟩:∃y,cs[k].blocks[b]=y:=⟨_,rfl⟩;rw[hy];intro x8 dw H3 h3;have kn:=kn.al dw h3;have oZ:=kn.l 1 rfl;simp only[go_sem,MX,oZ];intro H4 h4;have kn:Kn H H4 [] [(x7,.st [.int .i64 cs[k].params,.int .i64 cs[k].ae,.sl false 5 (Qx cs[k].blocks)]),(x8,.st [.sl false 2 (Az y.am),.sl false 4 (At y.ins),.int .i64 y.jump,.int .i64 y.on,.sl false 1 (intsOf y.next)])]:=kn.aT 1 rfl h4;obtain⟨q,hq⟩:∃q,cs[k]=q:=⟨_,rfl⟩;have hGe:blkG cs k b cs[k] cs[k].blocks[b]=blkG cs k b q y:=by rw[hy,hq]
 rw[hGe]at retf;rw[hq]at kn hr dm m9 i3;generalize ll:(Bw (fun i=>(q.blocks.map BlkD.next).getD i []) (b:Int) (Qx q.blocks).length).length=np;have ib:blkG cs k b q y=(Cp q.ae y&&y.next.all (AN (Qx q.blocks).length)&&y.ins.all (insG cs k)&&y.am.all (phiG q.ae np b)):=by rw[blkG,ll]
 refine Qa ?_;simp only[go_sem];have mT:=kn.l 0 rfl;have iF:=kn.l 1 rfl;refine Qp (Qa ?_);simp only[go_sem,iF];have rest31:∀(want:Int) (E1:Env),BI y.jump=want→(y.jump=1→y.on=0)→lk 1 E1=.c (.int .i64 k)→lk 2 E1=.c (.int .i64 b)→lk 3 E1=.c (.pp [.sl fl 3 (Qk cs)])→lk 7 E1=.c (.ptr x7 0)→lk 8 E1=.c (.ptr x8 0)→lk 9 E1=.c (.int .i64 want)→
   Ag prog MZ (Qq AB (unK H K)) E1 H4:=by
  intro want E1 hw hjo l1 l2 l3 l7 l8 l9;refine Qp (Qa ?_);simp only[go_sem,l7,l8,l9,mT,iF,Qm];intro jC;simp only[LIM]at jC;refine⟨fun _=>Ql,?_⟩;have rest8:∀(b1:Bool) (E1:Env),Cp q.ae y=(!b1)→lk 1 E1=.c (.int .i64 k)→lk 2 E1=.c (.int .i64 b)→lk 3 E1=.c (.pp [.sl fl 3 (Qk cs)])→lk 7 E1=.c (.ptr x7 0)→lk 8 E1=.c (.ptr x8 0)→lk 53 E1=.c (.bool b1)→
    Ag prog (s_l7Block_8.seq Na) (Qq AB (unK H K)) E1 H4:=by
   intro b1 E1 cz l1 l2 l3 l7 l8 l53;refine Qe (Qc l53 ?_ ?_)
   ·intro hc;refine Qa ?_;simp only[go_sem];refine Qg ?_;simp only[go_sem];exact retf false _ _ _ (by rw[ib,cz,hc];simp) kn (by simp[lk])
   intro mA;rw[mA]at cz;refine Qd ?_;simp only[go_sem];refine Qp (Qa ?_);simp only[go_sem,l1,l2,l3,l7,l8];refine Qe (Qf (Qu (fun n e1 H1=>∃(i:Nat),n=y.next.length-i∧i≤y.next.length∧H1=H4∧(y.next.take i).all (AN (Qx q.blocks).length)=true∧e1=[(1,.c (.int .i64 k)),(2,.c (.int .i64 b)),(3,.c (.pp [.sl fl 3 (Qk cs)])),(7,.c (.ptr x7 0)),(8,.c (.ptr x8 0)),(10,.c (.int .i64 i))]) y.next.length ?_ ?_))
   ·exact⟨0,by omega,by omega,rfl,rfl,rfl⟩
   ·rintro n e1 H1 ⟨i,cA,hi,rfl,ji,rfl⟩;refine Qp (Qa ?_);simp only[go_sem,iF,Qm];refine fun _=>?_;refine Qe (Qc rfl ?_ ?_)
    ·intro hc;have aa:i<y.next.length:=(by simpa using hc);have ev:y.next.getD i 0=y.next[i]:=(by simp[Jc,aa]);have mt:AN (Qx q.blocks).length y.next[i]=decide (1≤y.next.getD i 0∧y.next.getD i 0≤(q.blocks.length:Int)-1):=(by rw[ev,AN,AQ]);refine Qd ?_;simp only[go_sem];refine Qe (Qf ?_);refine Ak ?_;simp only[go_sem,iF,mT,aa,Qm,Cy _ _ aa,AQ];refine⟨Ql,?_⟩;refine BA ?_;simp only[go_sem,MW];refine Qc rfl ?_ ?_
     ·intro ao;refine Qa ?_;simp only[go_sem];refine Qg ?_;simp only[go_sem,X.next];exact retf false _ _ _ (by rw[ib,CF aa (by rw[mt];exact Bm ao)];simp) kn (by simp[lk])
     ·intro ao;refine Qd ?_;simp only[go_sem];refine Qn ?_;simp only[go_sem,X.next];exact⟨Ql,y.next.length-(i+1),by omega,i+1,rfl,by omega,by rw[CG aa,←AQ q.blocks,ji,mt,AK ao];rfl,rfl⟩
    ·intro hc;have aC:y.next.length≤i:=(by simpa using hc);rw[Jb aC]at ji;refine Qr ?_;simp only[go_sem,X.next];refine Qp (Qa ?_);simp only[go_sem];refine Qe (Qf (Qu (fun n e1 H1=>∃(i:Nat),n=y.ins.length-i∧i≤y.ins.length∧Kn H H1 [] [(x7,.st [.int .i64 q.params,.int .i64 q.ae,.sl false 5 (Qx q.blocks)]),(x8,.st [.sl false 2 (Az y.am),.sl false 4 (At y.ins),.int .i64 y.jump,.int .i64 y.on,.sl false 1 (intsOf y.next)])]∧(y.ins.take i).all (insG cs k)=true∧
      e1=[(1,.c (.int .i64 k)),(2,.c (.int .i64 b)),(3,.c (.pp [.sl fl 3 (Qk cs)])),(7,.c (.ptr x7 0)),(8,.c (.ptr x8 0)),(11,.c (.int .i64 i))]) y.ins.length ?_ ?_))
     ·exact⟨0,by omega,by omega,kn,rfl,rfl⟩
     ·rintro n e1 H5 ⟨i,cA,hi,kn,jh,rfl⟩;have pb:=kn.l 0 rfl;have mS:=kn.l 1 rfl;refine Qp (Qa ?_);simp only[go_sem,mS,Co];intro gQ;simp only[LIM]at gQ;refine Qe (Qc rfl ?_ ?_)
      ·intro hc;have aa:i<y.ins.length:=(by simpa using hc);refine Qd ?_;simp only[go_sem];refine Qe (Qf ?_);refine Ak ?_;simp only[go_sem,mS,aa,Co,O1 _ _ aa,InsD.b9,InsD.aX,InsD.len4];refine TH hk (by rw[hq];omega) (by rw[hq];omega) bP fun H6 hu=>?_;have kn:=kn.aI hu;simp only[go_sem,NC];refine Qc rfl ?_ ?_
       ·intro ao;refine Qa ?_;simp only[go_sem];refine Qg ?_;simp only[go_sem,X.next];exact retf false _ _ _ (by rw[ib,CF aa (Bm ao)];simp) kn (by simp[lk])
       ·intro ao;refine Qd ?_;simp only[go_sem];refine Qn ?_;simp only[go_sem,X.next];exact⟨Ql,y.ins.length-(i+1),by omega,i+1,rfl,by omega,kn,by rw[CG aa,jh,AK ao];rfl,rfl⟩
      ·intro hc;have aC:y.ins.length≤i:=(by simpa using hc);rw[Jb aC]at jh;refine Qr ?_;simp only[go_sem,X.next];refine Qa ?_;simp only[go_sem,pb];refine Qbqc (rows:=Qx q.blocks) (nx:=fun i=>(q.blocks.map BlkD.next).getD i []) (.mk' _ _ _ _) rfl (VI q.blocks) fun H6 hu=>?_;have kn:=kn.aI hu;simp only[go_sem,NB];refine Qp (Qa ?_);simp only[go_sem];obtain⟨ps,fZ⟩:∃ps,Bw (fun i=>(q.blocks.map BlkD.next).getD i []) (b:Int) (Qx q.blocks).length=ps:=⟨_,rfl⟩;rw[fZ];rw[fZ]at ll;have km:=kn.l 0 rfl;have jx:=kn.l 1 rfl;refine Qe (Qf (Qu (fun n e1 H1=>∃(i:Nat),n=y.am.length-i∧i≤y.am.length∧H1=H6∧(y.am.take i).all (phiG q.ae np b)=true∧
        e1=[(2,.c (.int .i64 b)),(7,.c (.ptr x7 0)),(8,.c (.ptr x8 0)),(12,.c (.sl false 1 (intsOf ps))),(13,.c (.int .i64 i))]) y.am.length ?_ ?_))
       ·exact⟨0,by omega,by omega,rfl,rfl,rfl⟩
       ·rintro n e1 H7 ⟨i,cA,hi,rfl,jg,rfl⟩;refine Qp (Qa ?_);simp only[go_sem,jx,Cn];intro ga;simp only[LIM]at ga;refine Qe (Qc rfl ?_ ?_)
        ·intro hc;have aa:i<y.am.length:=(by simpa using hc);refine Qd ?_;simp only[go_sem];refine Qe (Qf ?_);have fin:∀(b3:Bool) (E1:Env),phiG q.ae np b y.am[i]=(!b3)→lk 2 E1=.c (.int .i64 b)→lk 7 E1=.c (.ptr x7 0)→lk 8 E1=.c (.ptr x8 0)→lk 12 E1=.c (.sl false 1 (intsOf ps))→lk 13 E1=.c (.int .i64 i)→lk 135 E1=.c (.bool b3)→
           Ag prog Nd (X.inBlock 6 (X.sq prog Nc (X.next (fun e2 H2=>∃m,m<n∧∃(i:Nat),m=y.am.length-i∧i≤y.am.length∧H2=H7∧(y.am.take i).all (phiG q.ae np b)=true∧
            e2=[(2,.c (.int .i64 b)),(7,.c (.ptr x7 0)),(8,.c (.ptr x8 0)),(12,.c (.sl false 1 (intsOf ps))),(13,.c (.int .i64 i))]) (X.inBlock 5 (X.sq prog Nb (Qq AB (unK H K))))))) E1 H7:=by
          intro b3 E1 ny l2 l7 l8 l12 l13 l135;refine Qc l135 ?_ ?_
          ·intro ao;refine Qa ?_;simp only[go_sem];refine Qg ?_;simp only[go_sem,X.next];exact retf false _ _ _ (by rw[ib,CF aa (by rw[ny,ao];rfl)];simp) kn (by simp[lk])
          ·intro ao;refine Qd ?_;simp only[go_sem];refine Qn ?_;simp only[go_sem,X.next,l2,l7,l8,l12,l13];exact⟨Ql,y.am.length-(i+1),by omega,i+1,rfl,by omega,by rw[CG aa,jg,ny,ao];rfl,rfl⟩
         refine Ak ?_;simp only[go_sem,jx,km,aa,Cn,Pw _ _ aa,PhiD.cells,Qm];refine⟨fun aV=>?_,fun aV=>?_⟩
         ·refine Kw (by omega) (by omega) ?_;simp only[go_sem,Rx,jx,km,aa,Cn,Pw _ _ aa,PhiD.cells];refine⟨fun _=>Ql,?_⟩;refine⟨fun br=>?_,fun br=>?_⟩
          ·refine BA ?_;simp only[go_sem,PA];refine fin _ _ ?_ (by simp[lk]) (by simp[lk]) (by simp[lk]) (by simp[lk]) (by simp[lk]) (by simp[lk];rfl);simp[phiG,←ll]
          ·replace br:=AK br;simp only[go_sem,PA,br];refine fin true _ ?_ (by simp[lk]) (by simp[lk]) (by simp[lk]) (by simp[lk]) (by simp[lk]) (by simp[lk]);subst ll;simp at br;simp[phiG];intro h1 h2 h3;simp[h1,h2,h3]at br
         ·replace aV:=AK aV;simp only[go_sem,Rx,PA,aV,jx,km,aa,Cn,Pw _ _ aa,PhiD.cells];refine fin true _ ?_ (by simp[lk]) (by simp[lk]) (by simp[lk]) (by simp[lk]) (by simp[lk]) (by simp[lk]);subst ll;simp at aV;simp[phiG];intro h1 h2 h3;simp[h1,h2]at aV
        ·intro hc;have aC:y.am.length≤i:=(by simpa using hc);rw[Jb aC]at jg;refine Qr ?_;simp only[go_sem,X.next];refine Qa ?_;simp only[go_sem];refine Qg ?_;exact retf true _ _ _ (by rw[ib,cz,ji,jh,jg];rfl) kn (by simp[lk])
  refine⟨fun aV=>?_,fun aV=>?_⟩
  ·refine BA ?_;simp only[go_sem,P0,aV,l1,l2,l3,l7,l8];refine rest8 _ _ ?_ (by simp[lk]) (by simp[lk]) (by simp[lk]) (by simp[lk]) (by simp[lk]) (by simp[lk];rfl);by_cases jr:(y.next.length:Int)=want
   ·by_cases hj:y.jump=1
    ·simp[jr,hj]at aV
    ·simp[Cp,hw,jr,hj]
   ·simp[jr]at aV
  ·by_cases jr:(y.next.length:Int)=want
   ·by_cases hj:y.jump=1
    ·simp only[go_sem,P0,jr,hj,l1,l2,l3,l7,l8,decide_true,cond_false];have cZ:BI 1=want:=(by rw[←hj];exact hw);refine rest8 _ _ ?_ (by simp[lk]) (by simp[lk]) (by simp[lk]) (by simp[lk]) (by simp[lk]) (by simp[lk];rfl);simp[Cp,cZ,jr,hj,hjo hj]
    ·simp[jr,hj]at aV
   ·simp only[go_sem,P0,jr,l1,l2,l3,l7,l8,decide_false,cond_true];by_cases hj:y.jump=1
    ·simp only[go_sem,hj,decide_true];exact rest8 true _ (by simp[Cp,hw,jr]) (by simp[lk]) (by simp[lk]) (by simp[lk]) (by simp[lk]) (by simp[lk]) (by simp[lk])
    ·simp only[go_sem,hj,decide_false];exact rest8 true _ (by simp[Cp,hw,jr]) (by simp[lk]) (by simp[lk]) (by simp[lk]) (by simp[lk]) (by simp[lk]) (by simp[lk])
 refine Qe (Qf ?_);refine Qa ?_;simp only[go_sem];refine Qc rfl ?_ ?_
 ·intro hc;refine Qa ?_;simp only[go_sem,iF];refine Qc rfl ?_ ?_
  ·intro ao;refine Qa ?_;simp only[go_sem];refine Qg ?_;simp only[go_sem];exact retf false _ _ _ (by simp at hc ao;rw[ib];simp[Cp,hc,ao]) kn (by simp[lk])
  ·intro ao;refine Qd ?_;simp only[go_sem];exact rest31 1 _ (by simp at hc;simp[BI,hc]) (fun _=>by simpa using ao) (by simp[lk]) (by simp[lk]) (by simp[lk]) (by simp[lk]) (by simp[lk]) (by simp[lk])
 intro bE;refine Qa ?_;simp only[go_sem];refine Qc rfl ?_ ?_
 ·intro hc;refine Qn ?_;simp only[go_sem];exact rest31 2 _ (by simp at hc;simp[BI,hc]) (fun h=>by simp at bE;exact absurd h bE) (by simp[lk]) (by simp[lk]) (by simp[lk]) (by simp[lk]) (by simp[lk]) (by simp[lk])
 intro ao;refine Qa ?_;simp only[go_sem];refine Qc rfl ?_ ?_
 ·intro hc;refine Qn ?_;simp only[go_sem];exact rest31 0 _ (by simp at hc;simp[BI,hc]) (fun h=>by simp at bE;exact absurd h bE) (by simp[lk]) (by simp[lk]) (by simp[lk]) (by simp[lk]) (by simp[lk]) (by simp[lk])
 ·intro hc;refine Qa ?_;simp only[go_sem];refine Qg ?_;simp only[go_sem];exact retf false _ _ _ (by simp at bE ao hc;rw[ib];simp[Cp,BI,bE,ao,hc]) kn (by simp[lk])
end Go.AE.Y
namespace Go.AE
open Go.AE.Y
open Go.Proofs.Tryz
variable {H:Heap}{K:V→Heap→Prop}
theorem Gr.slc {H0 H:Heap}{E B Lg:List (Nat×Obj)}{sz:Nat}{rows:List (List C)}{c:C}(h:Gr Lg sz rows c)(kn:Kn H0 H E (B++Lg)):Slc H sz rows c:=by
 obtain⟨h1,h2⟩:=h.get kn;exact⟨h1,h.aQ,h2,h.ax⟩
theorem Gr.ne {H0 H:Heap}{E B Lg:List (Nat×Obj)}{sz:Nat}{rows:List (List C)}{c:C}{r:Nat}{o:Obj}(h:Gr Lg sz rows c)(kn:Kn H0 H E (B++Lg))(hr:(r,o)∈E):∀l a d n,c=.aG l a d n→l≠r:=by
 intro l a d n hc hh;rcases h with ⟨h1,_⟩|⟨y,h1,h2⟩
 ·rw[h1]at hc;simp at hc
 ·rw[h1]at hc;have hy:y=l:=by injection hc
  have:=kn.loc (y,.vec sz rows) (by rw[h2];simp);exact kn.ext (r,o) hr (by rw[←hh,←hy];exact this)
end Go.AE
namespace Go.AE.Y
open Go.Proofs.Tryz
variable {H:Heap}{K:V→Heap→Prop}
structure GRd (H:Heap)(c:C)(rows:List (List C))(nx:Nat→List Int):Prop where
 s:Slc H 5 rows c
 ow:c.ah=false
 no:∀r∈rows,ar r=true
 x:∀i,i<rows.length→∃a1 a2 a3 a4 fl,rows.getD i []=[a1,a2,a3,a4,.sl fl 1 (intsOf (nx i))]
theorem GRd.keep {c:C}{rows:List (List C)}{nx:Nat→List Int}{H':Heap}{E L:List (Nat×Obj)}(h:GRd H c rows nx)(kn:Kn H H' E L)(hE:∀l a b d,c=.aG l a b d→l∉E.map Prod.fst):GRd H' c rows nx:=⟨h.s.keep kn hE,h.ow,h.no,h.x⟩
theorem GRd.keep0 {c:C}{rows:List (List C)}{nx:Nat→List Int}{H':Heap}{L:List (Nat×Obj)}(h:GRd H c rows nx)(kn:Kn H H' [] L):GRd H' c rows nx:=h.keep kn (by simp)
def gnx (q:CodeD):Nat→List Int:=fun i=>(q.blocks.map BlkD.next).getD i []
theorem Yb (H:Heap)(q:CodeD)(fl:Bool):GRd H (.sl fl 5 (Qx q.blocks)) (Qx q.blocks) (gnx q):=by
 refine⟨.mk' _ _ _ _,rfl,Pu _,fun i h=>?_⟩;rw[AQ]at h;rw[HI _ _ h];have:gnx q i=q.blocks[i].next:=by simp[gnx,Jc,h]
 exact⟨.sl false 2 (Az q.blocks[i].am),.sl false 4 (At q.blocks[i].ins),.int .i64 q.blocks[i].jump,.int .i64 q.blocks[i].on,false,by rw[this];rfl⟩
theorem Dh {n lo hi:Int}(hK:K (.c (.bool (decide (lo≤n)&&decide (n≤hi)))) H):Qi prog BV [.c (.int .i64 n),.c (.int .i64 lo),.c (.int .i64 hi)] H K:=by
 refine Qb Ab MB ?_;refine Qa ?_;simp only[go_sem];refine Qa ?_;simp only[go_sem];refine Qg ?_;simp only[go_sem,Qq,Q1,AB,Ja,forall_eq,RS.op];have:(bif decide (lo≤n)then decide (n≤hi)else false)=(decide (lo≤n)&&decide (n≤hi)):=by cases decide (lo≤n) <;> rfl
 first|exact hK|(rw[this];exact hK)|(simpa[this]using hK)
def IsIx (ns:List Int)(v r:Int):Prop:=(r=-1∧v∉ns)∨∃i:Nat,r=i∧i<ns.length∧ns.getD i 0=v∧v∉ns.take i
theorem IsIx.nonneg {ns:List Int}{v r:Int}(h:IsIx ns v r):decide (0≤r)=ns.contains v:=by
 rcases h with ⟨rfl,hn⟩|⟨i,rfl,h1,h2,_⟩
 ·have:ns.contains v=false:=by
   cases hc:ns.contains v with
   |false=>rfl
   |true=>exact absurd (Jz.1 hc) hn
  rw[this];rfl
 ·have:v∈ns:=by
   rw[←h2,Jc,Jh h1];exact Jf h1
  rw[Jz.2 this];simp
theorem V6 {c:C}{ns:List Int}{v:Int}(hs:Slc H 1 (intsOf ns) c)(an:c.ah=false)(hK:∀r,IsIx ns v r→K (.c (.int .i64 r)) H) :
  Qi prog Q9p [.c c,.c (.int .i64 v)] H K:=by
 refine Qb Ab Qbmd ?_;have aM:=eq_true hs.ok;have ai:=hs.len;have be:=hs.sz;have dx:=hs.rows;refine Qa ?_;simp only[go_sem];refine Qp (Qa ?_);simp only[go_sem,aM,ai,Qm];intro hl;simp only[LIM]at hl;refine Qe (Qf (Qu (fun m e1 H1=>∃(i:Nat),m=ns.length-i∧i≤ns.length∧H1=H∧v∉ns.take i∧e1=[(0,.c c),(1,.c (.int .i64 v)),(7,.c (.int .i64 ns.length)),(8,.c (.int .i64 i))]) ns.length ?_ ?_))
 ·exact⟨0,by omega,by omega,rfl,by simp,rfl⟩
 ·rintro m e1 H1 ⟨i,hm,hi,rfl,bg,rfl⟩;refine Qa ?_;simp only[go_sem];refine Qe (Qc rfl ?_ ?_)
  ·intro hc;have aa:i<ns.length:=by simpa using hc
   have ev:ns.getD i 0=ns[i]:=by simp[Jc,aa]
   refine Qd ?_;simp only[go_sem];refine Qe (Qf ?_);refine Qa ?_;simp only[go_sem];refine Qa ?_;simp only[go_sem,aM,ai,be,dx,aa,Qm,Cy _ _ aa];refine Qc rfl ?_ ?_
   ·intro ao;have hv:v=ns.getD i 0:=(by simpa using ao);refine Qa ?_;simp only[go_sem];refine Qg ?_;simp only[go_sem,X.next,Qq,Q1,Aa,Ja,forall_eq,RS.op];exact hK _ (.inr ⟨i,rfl,aa,hv.symm,bg⟩)
   ·intro ao;have hv:¬v=ns.getD i 0:=(by simpa using ao);refine Qd ?_;simp only[go_sem];refine Qn ?_;simp only[go_sem,X.next];refine⟨Ql,ns.length-(i+1),by omega,i+1,rfl,by omega,?_,rfl⟩;rw[Jd aa];simp only[Ji,Ja,not_or];exact⟨bg,fun h=>hv (by rw[ev];exact h)⟩
  ·intro hc;have aC:ns.length≤i:=by simpa using hc
   rw[Jb aC]at bg;refine Qr ?_;simp only[go_sem,X.next];refine Qa ?_;simp only[go_sem];refine Qg ?_;simp only[go_sem,Qq,Q1,Aa,Ja,forall_eq,RS.op];exact hK _ (.inl ⟨rfl,bg⟩)
theorem Qbla {c:C}{ns:List Int}{v:Int}(hs:Slc H 1 (intsOf ns) c)(an:c.ah=false)(hK:K (.c (.bool (ns.contains v))) H) :
  Qi prog RK [.c c,.c (.int .i64 v)] H K:=by
 refine Qb Ab Qa5f ?_;refine Qa ?_;simp only[go_sem];refine Qa ?_;simp only[go_sem];refine V6 hs an fun r hr=>?_;simp only[go_sem,Qy4];refine Qg ?_;simp only[go_sem,Qq,Q1,Aa,Ja,forall_eq,RS.op];rw[hr.nonneg];exact hK
theorem Qbe8 {c:C}{ns:List Int}{f:Nat}{caps:List C}{p:Int→Bool}(hs:Slc H 1 (intsOf ns) c)(an:c.ah=false)
  (hf:∀(x:Int) (K':V→Heap→Prop),x∈ns→K' (.c (.bool (p x))) H→Qi prog f ([.c (.int .i64 x)]++caps.map .c) H K')
  (hK:∀r:Int,decide (0≤r)=ns.any p→K (.c (.int .i64 r)) H) :
  Qi prog Si [.c c,.c (.fn f caps)] H K:=by
 refine Qb Ab Qaw1 ?_;have aM:=eq_true hs.ok;have ai:=hs.len;have be:=hs.sz;have dx:=hs.rows;refine Qa ?_;simp only[go_sem];refine Qp (Qa ?_);simp only[go_sem,aM,ai,Qm];intro hl;simp only[LIM]at hl;refine Qe (Qf (Qu (fun m e1 H1=>∃(i:Nat),m=ns.length-i∧i≤ns.length∧H1=H∧(∀x∈ns.take i,p x=false)∧e1=[(0,.c c),(1,.c (.fn f caps)),(7,.c (.int .i64 ns.length)),(8,.c (.int .i64 i))]) ns.length ?_ ?_))
 ·exact⟨0,by omega,by omega,rfl,by simp,rfl⟩
 ·rintro m e1 H1 ⟨i,hm,hi,rfl,bg,rfl⟩;refine Qa ?_;simp only[go_sem];refine Qe (Qc rfl ?_ ?_)
  ·intro hc;have aa:i<ns.length:=by simpa using hc
   have ev:ns.getD i 0=ns[i]:=by simp[Jc,aa]
   refine Qd ?_;simp only[go_sem];refine Qe (Qf ?_);refine Qa ?_;simp only[go_sem];refine Qa ?_;simp only[go_sem,aM,ai,be,dx,aa,Qm,Cy _ _ aa];refine hf _ _ (by rw[ev];exact Jf aa) ?_;refine Qc rfl ?_ ?_
   ·intro ao;refine Qa ?_;simp only[go_sem];refine Qg ?_;simp only[go_sem,X.next,Qq,Q1,Aa,Ja,forall_eq,RS.op];refine hK _ ?_;have:ns.any p=true:=Jat.2 ⟨ns[i],Jf aa,by rw[←ev];exact ao⟩;rw[this];simp
   ·intro ao;refine Qd ?_;simp only[go_sem];refine Qn ?_;simp only[go_sem,X.next];refine⟨Ql,ns.length-(i+1),by omega,i+1,rfl,by omega,?_,rfl⟩;rw[Jd aa];intro x hx;rcases Ji.1 hx with hx|hx
    ·exact bg x hx
    ·simp only[Ja]at hx;subst hx;rw[←ev];exact ao
  ·intro hc;have aC:ns.length≤i:=by simpa using hc
   rw[Jb aC]at bg;refine Qr ?_;simp only[go_sem,X.next];refine Qa ?_;simp only[go_sem];refine Qg ?_;simp only[go_sem,Qq,Q1,Aa,Ja,forall_eq,RS.op];refine hK _ ?_;have:ns.any p=false:=by
    cases hc:ns.any p with
    |false=>rfl
    |true=>obtain⟨x,hx,hp⟩:=Jat.1 hc;rw[bg x hx]at hp;exact absurd hp (by simp)
   rw[this];rfl
theorem RY {c:C}{ns:List Int}{f:Nat}{caps:List C}{p:Int→Bool}(hs:Slc H 1 (intsOf ns) c)(an:c.ah=false)
  (hf:∀(x:Int) (K':V→Heap→Prop),x∈ns→K' (.c (.bool (p x))) H→Qi prog f ([.c (.int .i64 x)]++caps.map .c) H K')
  (hK:K (.c (.bool (ns.any p))) H):Qi prog IB [.c c,.c (.fn f caps)] H K:=by
 refine Qb Ab Qafn ?_;refine Qa ?_;simp only[go_sem];refine Qa ?_;simp only[go_sem];refine Qbe8 hs an hf fun r hr=>?_;simp only[go_sem,Qm2];refine Qg ?_;simp only[go_sem,Qq,Q1,Aa,Ja,forall_eq,RS.op];rw[hr];exact hK
theorem KE {rows:List (List C)}(h:∀r∈rows,ar r=true){i:Nat}(hi:i<rows.length){a1 a2 a3 a4 a5:C}(hr:rows.getD i []=[a1,a2,a3,a4,a5]) :
  a1.ah=false∧a2.ah=false∧a3.ah=false∧a4.ah=false∧a5.ah=false:=by
 have:=h _ (Jf hi);have e:rows[i]=[a1,a2,a3,a4,a5]:=by rw[←hr];simp[Jc,hi]
 rw[e]at this;simpa[Go.AE.ar]using this
theorem GRd.ows {c:C}{rows:List (List C)}{nx:Nat→List Int}(h:GRd H c rows nx){i:Nat}(hi:i<rows.length){a1 a2 a3 a4 a5:C}(hr:rows.getD i []=[a1,a2,a3,a4,a5]) :
  a1.ah=false∧a2.ah=false∧a3.ah=false∧a4.ah=false∧a5.ah=false:=KE h.no hi hr
def D2 (nx:Nat→List Int)(b:Int)(n:Nat):List Int:=if decide (0≤b)&&decide (b≤(n:Int)-1)then Bw nx b n else []
theorem Qblc {p rg:Int}{bc:C}{rows:List (List C)}{nx:Nat→List Int}{b:Int}(hs:Slc H 5 rows bc)(an:bc.ah=false)(bg:∀r∈rows,ar r=true)
  (hx:∀i,i<rows.length→∃a1 a2 a3 a4 a5,rows.getD i []=[a1,a2,a3,a4,a5]∧Slc H 1 (intsOf (nx i)) a5)
  (hK:∀fl H',Upd H H' []→K (.c (.sl fl 1 (intsOf (D2 nx b rows.length)))) H'):Qi prog PJ [.ag [.int .i64 p,.int .i64 rg,bc],.c (.int .i64 b)] H K:=by
 refine A0 ?_;refine Qb Ab Qban ?_;have aM:=eq_true hs.ok;have ai:=hs.len;have be:=hs.sz;refine Qa ?_;simp only[go_sem];refine Qa ?_;simp only[go_sem];refine Qp (Qa ?_);simp only[go_sem,an,aM,ai];intro hl;simp only[LIM]at hl;refine⟨Ql,?_⟩;refine Dh ?_;simp only[go_sem,Q2b];refine Qe (Qc rfl ?_ ?_)
 ·intro hc;have bK:=Bm hc;refine Qa ?_;simp only[go_sem];refine Qg ?_;simp only[go_sem,Qq,Q1,Aa,Ja,forall_eq,RS.op];have h:=hK false _ (Kn.aw H).fin;simp only[D2,bK]at h;exact⟨_,.c _ _ FrzR.nil.sl,h⟩
 ·intro hc;have bK:=AK hc;refine Qd ?_;simp only[go_sem];refine Qp (Qa ?_);simp only[go_sem,an,aM,ai];intro _;refine Qe (Qf (Qu (fun m e1 H1=>∃(i:Nat) (c:C) (Lg:List (Nat×Obj)),m=rows.length-i∧i≤rows.length∧Gr Lg 1 (intsOf (Bw nx b i)) c∧Kn H H1 [] ([]++Lg)∧
   e1=[(1,.c (.int .i64 b)),(5,.c c),(16,.c bc),(17,.c (.int .i64 rows.length)),(18,.c (.int .i64 i))]) rows.length ?_ ?_))
  ·exact⟨0,_,[],by omega,by omega,.nil 1,Kn.aw H,rfl⟩
  ·rintro m e1 H1 ⟨i,c,Lg,hm,hi,bQ,kn,rfl⟩;have eH:=hs.keep0 kn;have eJ:=eq_true eH.ok;have j5:=eH.rows;refine Qa ?_;simp only[go_sem];refine Qe (Qc rfl ?_ ?_)
   ·intro hc;have aa:i<rows.length:=(by simpa using hc);obtain⟨a1,a2,a3,a4,a5,av,jS⟩:=hx i aa;obtain⟨o1,o2,o3,o4,o5⟩:=KE bg aa av;refine Qd ?_;simp only[go_sem];refine LW (fun e2 H2=>∃(c:C) (Lg:List (Nat×Obj)),Gr Lg 1 (intsOf (Bw nx b (i+1))) c∧Kn H H2 [] ([]++Lg)∧
     lk 1 e2=.c (.int .i64 b)∧lk 5 e2=.c c∧lk 16 e2=.c bc∧lk 17 e2=.c (.int .i64 rows.length)∧lk 18 e2=.c (.int .i64 i)) ?_ ?_
    ·intro Q n5 _ _;refine Qf (Qa ?_);simp only[go_sem,eJ,ai,be,j5,aa,av,o1,o2,o3,o4,o5];intro x hx H2 h2;have kn:=(kn.al hx h2).perm Jq;have eG:=kn.l 0 rfl;simp only[go_sem,Q2c,eG];intro H3 h3;have kn:=kn.aT 0 rfl h3;have eF:=kn.l 0 rfl;refine Qa ?_;simp only[go_sem,eF,o5];refine Qbla (jS.keep0 kn) o5 ?_;refine Qc rfl ?_ ?_
     ·intro eN;have ga:=Q9w nx b i;refine Qn ?_;simp only[go_sem];refine kn.grow (B:=[_]) (new:=intsOf [(i:Int)]) bQ (.mk' _ _ _ _) (BD _) (by simp only[Qm,LIM,Jj,Ju];omega) fun y' H4 kn=>?_;simp only[go_sem,Q2d];refine n5 _ _ ⟨_,_,?_,(kn.perm Jq).drop,rfl,rfl,rfl,rfl,rfl⟩;rw[P3,eN,if_pos rfl,HB];exact .mk _ _ _ (by simp)
     ·intro eN;refine Qd ?_;simp only[go_sem];refine n5 _ _ ⟨c,Lg,?_,?_,rfl,rfl,rfl,rfl,rfl⟩
      ·rw[P3,eN];simpa using bQ
      ·have kn:Kn H H3 [] ([(x,.st [a1,a2,a3,a4,a5])]++([]++Lg)):=kn;exact (kn.perm Jq).drop
    ·rintro e2 H2 ⟨c2,Lg2,bQ,kn,l1,l5,l16,l17,l18⟩;refine Qn ?_;simp only[go_sem,X.next,l1,l5,l16,l17,l18];exact⟨Ql,rows.length-(i+1),by omega,i+1,c2,Lg2,rfl,by omega,bQ,kn,rfl⟩
   ·intro hc;have aC:i=rows.length:=(by have:¬i<rows.length:=(by simpa using hc);omega);subst aC;refine Qr ?_;simp only[go_sem,X.next];refine Qa ?_;simp only[go_sem];refine Qg ?_;simp only[go_sem,Qq,Q1,Aa,Ja,forall_eq,RS.op];refine⟨_,.c _ _ (bQ.frz kn (BD _)),?_⟩;have:=hK false _ kn.fin;simp only[D2,bK]at this;exact this
theorem Qbop {p rg:Int}{bc:C}{rows:List (List C)}{nx:Nat→List Int}{b:Int}(hg:GRd H bc rows nx)
  (hK:∀fl H',Upd H H' []→K (.c (.sl fl 1 (intsOf (D2 nx b rows.length)))) H'):Qi prog PJ [.ag [.int .i64 p,.int .i64 rg,bc],.c (.int .i64 b)] H K:=
 Qblc hg.s hg.ow hg.no (fun i hi=>by
  obtain⟨a1,a2,a3,a4,fl,h⟩:=hg.x i hi;exact⟨a1,a2,a3,a4,_,h,.mk' _ _ _ _⟩) hK
end Go.AE.Y
namespace Go.AE.Y
attribute [local go_sem] cond_true cond_false Bool.not_true Bool.not_false
open Go.Proofs.Tryz
variable {H H0 F:Heap}{K:V→Heap→Prop}{E B Lg:List (Nat×Obj)}{fns:List Fn}
theorem Eu {S:Nat→Bool}{rows:List (List C)}{fl:Bool}(hr:∀r∈rows,ar r=true)(b:Bool):FrzV H S (.tup [.ag [.sl fl 3 rows],.c (.bool b)]) (.tup [.ag [.sl false 3 rows],.c (.bool b)]):=by
 refine .tup _ _ rfl fun j x x' h1 h2=>?_;rcases j with _|_|j
 ·simp only[J0,Jv]at h1 h2;subst h1 h2;exact (FrzL.cons (FrzR.same hr).sl .nil).ag
 ·simp only[Jac,J0,Jv]at h1 h2;subst h1 h2;exact .c _ _ (Qj rfl)
 ·simp at h1
end Go.AE.Y
namespace Go.AE.Y
open Go.Proofs.Tryz
def Qa63:SC:=cT 9 (sR [fB 4 false] [4] .ret) .skip
def Qa64:SC:=cT 14 (sR [fB 4 false] [4] .ret) .skip
def Qa65:SC:=cT 19 (sR [fB 4 false] [4] .ret) .skip
def Q8z:List Item:=[oJ 25 24]
def Qa66:SC:=cT 25 (sR [fB 4 false] [4] .ret) .skip
def Qa67:SC:=sR [fB 4 true] [4] .ret
def Qa68:SC:=.seq (sR (fJ 20 3 2::lJ 21 20::fJ 22 3 3::lJ 23 22::aJ 24 PF [.t 21,.t 23]::Q8z) [25] Qa66) Qa67
def Qa69:SC:=.seq (sR [fJ 15 2 2,lJ 16 15,fJ 17 2 3,lJ 18 17,bJ 19 .neq 16 18] [2,3,19] Qa65) Qa68
def Qa7a:SC:=.seq (sR [fJ 10 1 2,lJ 11 10,fJ 12 1 3,lJ 13 12,bJ 14 .neq 11 13] [2,3,14] Qa64) Qa69
def Qa7b:SC:=.seq (sR [fJ 5 0 2,lJ 6 5,fJ 7 0 3,lJ 8 7,bJ 9 .neq 6 8] [2,3,9] Qa63) Qa7a
def Qbit:SC:=sR [vJ 2 0,vJ 3 1,fB 4 false] [2,3] Qa7b
theorem Qbf9:mFn prog Iq 2 26 Qbit Aa=true:=by kernel_rfl
def Qaz4:SC:=cT 10 (sR [fB 4 false] [4] .ret) .skip
def Q4i:List Item:=[oJ 26 25]
def Qaz5:SC:=cT 26 (sR [fB 4 false] [4] .ret) .skip
def Qaz6:SC:=.reg [mJ 15 5,cJ 16 .add 15 1,mJ 5 16] [0,1,5]
def Qaz7:SC:=.seq (.block 1 (.seq (.aH 10 [0,1,2,3,4,5,6,7,8,9] ( mJ 17 0::mJ 18 5::iJ 19 4 17 18::tJ 20 4 19::mJ 21 1::mJ 22 5::iJ 23 4 21 22::tJ 24 4 23::aJ 25 Iq [.t 20,.t 24]::Q4i) [0,1,5,26]) Qaz5)) Qaz6
def Qat1:SC:=.seq (sR [mJ 11 5,mJ 12 0,nJ 13 12,bJ 14 .lss 11 13] [0,1,5,14] (cT 14 .skip (.exit 0))) Qaz7
def Qaz8:SC:=sR [fB 4 true] [4] .ret
def Qaz9:SC:=.seq (sR [zJ 5 0] [0,1,5] (bL 0 Qat1)) Qaz8
def Qa0a:SC:=.seq (sR [mJ 6 0,nJ 7 6,mJ 8 1,nJ 9 8,bJ 10 .neq 7 9] [0,1,10] Qaz4) Qaz9
def Qbdc:SC:=sR [fB 4 false] [0,1] Qa0a
theorem Qba0:mFn prog PF 2 27 Qbdc Aa=true:=by kernel_rfl
def Qbiu:SC:=cT 9 (sR [fB 4 false] [4] .ret) .skip
def MT:List Item:=[oJ 15 14]
def Qbiv:SC:=cT 15 (sR [fB 4 false] [4] .ret) .skip
def MS:List Item:=[oJ 21 20]
def Qbiw:SC:=cT 21 (sR [fB 4 false] [4] .ret) .skip
def Qbix:SC:=sR [fB 4 true] [4] .ret
def Qbiy:SC:=.seq (sR (fJ 16 2 2::lJ 17 16::fJ 18 2 3::lJ 19 18::aJ 20 Iw [.t 17,.t 19]::MS) [21] Qbiw) Qbix
def Qbiz:SC:=.seq (sR (fJ 10 1 2::lJ 11 10::fJ 12 1 3::lJ 13 12::aJ 14 PX [.t 11,.t 13]::MT) [2,3,15] Qbiv) Qbiy
def Qbi0:SC:=.seq (sR [fJ 5 0 2,lJ 6 5,fJ 7 0 3,lJ 8 7,bJ 9 .neq 6 8] [2,3,9] Qbiu) Qbiz
def YT:SC:=sR [vJ 2 0,vJ 3 1,fB 4 false] [2,3] Qbi0
theorem Qbqt:mFn prog Ro 2 22 YT Aa=true:=by kernel_rfl
def Qbdd:SC:=cT 10 (sR [fB 4 false] [4] .ret) .skip
def NA:List Item:=[oJ 26 25]
def Qbde:SC:=cT 26 (sR [fB 4 false] [4] .ret) .skip
def Qbdf:SC:=.reg [mJ 15 5,cJ 16 .add 15 1,mJ 5 16] [0,1,5]
def Qbdg:SC:=.seq (.block 1 (.seq (.aH 10 [0,1,2,3,4,5,6,7,8,9] ( mJ 17 0::mJ 18 5::iJ 19 3 17 18::tJ 20 3 19::mJ 21 1::mJ 22 5::iJ 23 3 21 22::tJ 24 3 23::aJ 25 Ro [.t 20,.t 24]::NA) [0,1,5,26]) Qbde)) Qbdf
def Qa7c:SC:=.seq (sR [mJ 11 5,mJ 12 0,nJ 13 12,bJ 14 .lss 11 13] [0,1,5,14] (cT 14 .skip (.exit 0))) Qbdg
def Qbdh:SC:=sR [fB 4 true] [4] .ret
def Qbdi:SC:=.seq (sR [zJ 5 0] [0,1,5] (bL 0 Qa7c)) Qbdh
def Qbdj:SC:=.seq (sR [mJ 6 0,nJ 7 6,mJ 8 1,nJ 9 8,bJ 10 .neq 7 9] [0,1,10] Qbdd) Qbdi
def Qbn5:SC:=sR [fB 4 false] [0,1] Qbdj
theorem Qbl9:mFn prog Q9l 2 27 Qbn5 Aa=true:=by kernel_rfl
def Quk:List Item:=[oJ 10 9]
def Qalr:SC:=cT 10 (sR [fB 4 false] [4] .ret) .skip
def Qals:SC:=sR [fB 4 true] [4] .ret
def Qalt:SC:=.seq (sR (fJ 5 0 2::lJ 6 5::fJ 7 0 3::lJ 8 7::aJ 9 Q9l [.t 6,.t 8]::Quk) [10] Qalr) Qals
def Qa0e:SC:=sR [vJ 2 0,vJ 3 1,fB 4 false] [2,3] Qalt
theorem Qawv:mFn prog Sl 2 11 Qa0e Aa=true:=by kernel_rfl
def Qa7y:SC:=cT 9 (sR [fB 4 false] [4] .ret) .skip
def Qa7z:SC:=cT 14 (sR [fB 4 false] [4] .ret) .skip
def Q82:List Item:=[oJ 20 19]
def Qa70:SC:=cT 20 (sR [fB 4 false] [4] .ret) .skip
def Q83:List Item:=[oJ 26 25]
def Qa71:SC:=cT 26 (sR [fB 4 false] [4] .ret) .skip
def Q84:List Item:=[oJ 32 31]
def Qa72:SC:=cT 32 (sR [fB 4 false] [4] .ret) .skip
def Qa73:SC:=sR [fB 4 true] [4] .ret
def Qa74:SC:=.seq (sR (fJ 27 4 2::lJ 28 27::fJ 29 4 3::lJ 30 29::aJ 31 Iw [.t 28,.t 30]::Q84) [32] Qa72) Qa73
def Qa0m:SC:=.seq (sR (fJ 21 3 2::lJ 22 21::fJ 23 3 3::lJ 24 23::aJ 25 Iw [.t 22,.t 24]::Q83) [2,3,26] Qa71) Qa74
def Qa0n:SC:=.seq (sR (fJ 15 2 2::lJ 16 15::fJ 17 2 3::lJ 18 17::aJ 19 PF [.t 16,.t 18]::Q82) [2,3,20] Qa70) Qa0m
def Qa0o:SC:=.seq (sR [fJ 10 1 2,lJ 11 10,fJ 12 1 3,lJ 13 12,bJ 14 .neq 11 13] [2,3,14] Qa7z) Qa0n
def Qa0p:SC:=.seq (sR [fJ 5 0 2,lJ 6 5,fJ 7 0 3,lJ 8 7,bJ 9 .neq 6 8] [2,3,9] Qa7y) Qa0o
def Qbi4:SC:=sR [vJ 2 0,vJ 3 1,fB 4 false] [2,3] Qa0p
theorem Qbgd:mFn prog P5 2 33 Qbi4 Aa=true:=by kernel_rfl
def Qa0f:SC:=cT 10 (sR [fB 4 false] [4] .ret) .skip
def Q4j:List Item:=[oJ 26 25]
def Qa0g:SC:=cT 26 (sR [fB 4 false] [4] .ret) .skip
def Qa0h:SC:=.reg [mJ 15 5,cJ 16 .add 15 1,mJ 5 16] [0,1,5]
def Qa0i:SC:=.seq (.block 1 (.seq (.aH 10 [0,1,2,3,4,5,6,7,8,9] ( mJ 17 0::mJ 18 5::iJ 19 5 17 18::tJ 20 5 19::mJ 21 1::mJ 22 5::iJ 23 5 21 22::tJ 24 5 23::aJ 25 P5 [.t 20,.t 24]::Q4j) [0,1,5,26]) Qa0g)) Qa0h
def Qat2:SC:=.seq (sR [mJ 11 5,mJ 12 0,nJ 13 12,bJ 14 .lss 11 13] [0,1,5,14] (cT 14 .skip (.exit 0))) Qa0i
def Qa0j:SC:=sR [fB 4 true] [4] .ret
def Qa0k:SC:=.seq (sR [zJ 5 0] [0,1,5] (bL 0 Qat2)) Qa0j
def Qa0l:SC:=.seq (sR [mJ 6 0,nJ 7 6,mJ 8 1,nJ 9 8,bJ 10 .neq 7 9] [0,1,10] Qa0f) Qa0k
def Qbdy:SC:=sR [fB 4 false] [0,1] Qa0l
theorem Qba1:mFn prog Iw 2 27 Qbdy Aa=true:=by kernel_rfl
def Qalu:SC:=cT 10 (sR [fB 4 false] [4] .ret) .skip
def Qalv:SC:=cT 25 (sR [fB 4 false] [4] .ret) .skip
def Qalw:SC:=.reg [mJ 15 5,cJ 16 .add 15 1,mJ 5 16] [0,1,5]
def Qalx:SC:=.seq (.block 1 (.seq (.aH 9 [0,1,2,3,4,5,6,7,8] ( mJ 17 0::mJ 18 5::iJ 19 1 17 18::lJ 20 19::mJ 21 1::mJ 22 5::iJ 23 1 21 22::lJ 24 23::bJ 25 .neq 20 24::[]) [0,1,5,25]) Qalv)) Qalw
def Qag7:SC:=.seq (sR [mJ 11 5,mJ 12 0,nJ 13 12,bJ 14 .lss 11 13] [0,1,5,14] (cT 14 .skip (.exit 0))) Qalx
def Qaly:SC:=sR [fB 4 true] [4] .ret
def Qalz:SC:=.seq (sR [zJ 5 0] [0,1,5] (bL 0 Qag7)) Qaly
def Qal0:SC:=.seq (sR [mJ 6 0,nJ 7 6,mJ 8 1,nJ 9 8,bJ 10 .neq 7 9] [0,1,10] Qalu) Qalz
def Qa0q:SC:=sR [fB 4 false] [0,1] Qal0
theorem Qaww:mFn prog PX 2 26 Qa0q Aa=true:=by kernel_rfl
def Qun:List Item:=[iJ 30 4 26 27,fJ 31 2 30,sJ 1 31 29]
def Quo:List Item:=[mJ 1 40]
def Qamr:SC:=.reg (mJ 34 0::mJ 35 5::iJ 36 4 34 35::fJ 37 3 36::lJ 38 37::mJ 39 1::aJ 40 I8 [.t 38,.t 39]::Quo) [0,1,5]
def Qams:SC:=sR [mJ 32 1,cJ 33 .add 32 1,mJ 1 33] [0,1,5] Qamr
def Qamt:SC:=sR (mJ 26 0::mJ 27 5::mJ 28 1::aJ 29 HS [.t 28]::Qun) [0,1,5] Qams
def Qamu:SC:=sR [mJ 24 1,cJ 25 .add 24 1,mJ 1 25] [0,1,5] Qamt
def Qamv:SC:=sR [mJ 19 0,mJ 20 5,mJ 21 1,iJ 22 4 19 20,fJ 23 1 22,sJ 1 23 21] [0,1,5] Qamu
def Qamw:SC:=sR [mJ 17 1,cJ 18 .add 17 1,mJ 1 18] [0,1,5] Qamv
def Qamx:SC:=.reg [mJ 10 5,cJ 11 .add 10 1,mJ 5 11] [0,1,5]
def Qamy:SC:=.seq (.block 1 (sR [mJ 12 0,mJ 13 5,mJ 14 1,iJ 15 4 12 13,fJ 16 0 15,sJ 1 16 14] [0,1,5] Qamw)) Qamx
def Qaea:SC:=.seq (sR [mJ 6 5,mJ 7 0,nJ 8 7,bJ 9 .lss 6 8] [0,1,5,9] (cT 9 .skip (.exit 0))) Qamy
def Qahr:SC:=sR [mJ 41 1,mJ 4 41] [4] .ret
def Qahs:SC:=.seq (sR [zJ 5 0] [0,1,5] (bL 0 Qaea)) Qahr
def Qa0t:SC:=sR [zJ 4 0] [0,1] Qahs
theorem Q7y:mFn prog I8 2 42 Qa0t Aa=true:=by kernel_rfl
def Q4k:List Item:=[iJ 16 3 12 13,fJ 17 0 16,sJ 1 17 15]
def Q4l:List Item:=[mJ 1 26]
def Q4m:List Item:=[mJ 1 33]
def Qa0u:SC:=.reg (mJ 27 0::mJ 28 5::iJ 29 3 27 28::fJ 30 2 29::lJ 31 30::mJ 32 1::aJ 33 I7 [.t 31,.t 32]::Q4m) [0,1,5]
def Qa0v:SC:=sR (mJ 20 0::mJ 21 5::iJ 22 3 20 21::fJ 23 1 22::lJ 24 23::mJ 25 1::aJ 26 Rb [.t 24,.t 25]::Q4l) [0,1,5] Qa0u
def Qa0w:SC:=sR [mJ 18 1,cJ 19 .add 18 1,mJ 1 19] [0,1,5] Qa0v
def Qa0x:SC:=.reg [mJ 10 5,cJ 11 .add 10 1,mJ 5 11] [0,1,5]
def Qa0y:SC:=.seq (.block 1 (sR (mJ 12 0::mJ 13 5::mJ 14 1::aJ 15 HS [.t 14]::Q4k) [0,1,5] Qa0w)) Qa0x
def Qau5:SC:=.seq (sR [mJ 6 5,mJ 7 0,nJ 8 7,bJ 9 .lss 6 8] [0,1,5,9] (cT 9 .skip (.exit 0))) Qa0y
def Qa0z:SC:=sR [mJ 34 1,mJ 4 34] [4] .ret
def Qau4:SC:=.seq (sR [zJ 5 0] [0,1,5] (bL 0 Qau5)) Qa0z
def Qbdz:SC:=sR [zJ 4 0] [0,1] Qau4
theorem Ns:mFn prog R5 2 35 Qbdz Aa=true:=by kernel_rfl
def Qp3:List Item:=[mJ 1 8]
def Qaeb:SC:=sR [mJ 9 1,mJ 4 9] [4] .ret
def Qaec:SC:=sR (fJ 5 0 2::lJ 6 5::mJ 7 1::aJ 8 R5 [.t 6,.t 7]::Qp3) [1] Qaeb
def Qam4:SC:=sR [vJ 2 0,zJ 4 0] [1,2] Qaec
theorem Qaj2:mFn prog S7 2 10 Qam4 Aa=true:=by kernel_rfl
def Qup:List Item:=[iJ 23 5 19 20,fJ 24 1 23,sJ 1 24 22]
def Quq:List Item:=[mJ 1 33]
def Qur:List Item:=[mJ 1 40]
def Qus:List Item:=[mJ 1 47]
def Qam5:SC:=.reg (mJ 41 0::mJ 42 5::iJ 43 5 41 42::fJ 44 4 43::lJ 45 44::mJ 46 1::aJ 47 I7 [.t 45,.t 46]::Qus) [0,1,5]
def Qam6:SC:=sR (mJ 34 0::mJ 35 5::iJ 36 5 34 35::fJ 37 3 36::lJ 38 37::mJ 39 1::aJ 40 I7 [.t 38,.t 39]::Qur) [0,1,5] Qam5
def Qam7:SC:=sR (mJ 27 0::mJ 28 5::iJ 29 5 27 28::fJ 30 2 29::lJ 31 30::mJ 32 1::aJ 33 I8 [.t 31,.t 32]::Quq) [0,1,5] Qam6
def Qam8:SC:=sR [mJ 25 1,cJ 26 .add 25 1,mJ 1 26] [0,1,5] Qam7
def Qam9:SC:=sR (mJ 19 0::mJ 20 5::mJ 21 1::aJ 22 HS [.t 21]::Qup) [0,1,5] Qam8
def Qana:SC:=sR [mJ 17 1,cJ 18 .add 17 1,mJ 1 18] [0,1,5] Qam9
def Qaht:SC:=.reg [mJ 10 5,cJ 11 .add 10 1,mJ 5 11] [0,1,5]
def Qahu:SC:=.seq (.block 1 (sR [mJ 12 0,mJ 13 5,mJ 14 1,iJ 15 5 12 13,fJ 16 0 15,sJ 1 16 14] [0,1,5] Qana)) Qaht
def Qaed:SC:=.seq (sR [mJ 6 5,mJ 7 0,nJ 8 7,bJ 9 .lss 6 8] [0,1,5,9] (cT 9 .skip (.exit 0))) Qahu
def Qahv:SC:=sR [mJ 48 1,mJ 4 48] [4] .ret
def Qahw:SC:=.seq (sR [zJ 5 0] [0,1,5] (bL 0 Qaed)) Qahv
def Qa00:SC:=sR [zJ 4 0] [0,1] Qahw
theorem Q7z:mFn prog I7 2 49 Qa00 Aa=true:=by kernel_rfl
def Qp4:List Item:=[iJ 16 1 12 13,sJ 1 16 15]
def Qaee:SC:=.reg [mJ 17 1,cJ 18 .add 17 1,mJ 1 18] [0,1,5]
def Qaef:SC:=.reg [mJ 10 5,cJ 11 .add 10 1,mJ 5 11] [0,1,5]
def Qaeg:SC:=.seq (.block 1 (sR (mJ 12 0::mJ 13 5::mJ 14 1::aJ 15 HS [.t 14]::Qp4) [0,1,5] Qaee)) Qaef
def Qaau:SC:=.seq (sR [mJ 6 5,mJ 7 0,nJ 8 7,bJ 9 .lss 6 8] [0,1,5,9] (cT 9 .skip (.exit 0))) Qaeg
def Qaeh:SC:=sR [mJ 19 1,mJ 4 19] [4] .ret
def Qaei:SC:=.seq (sR [zJ 5 0] [0,1,5] (bL 0 Qaau)) Qaeh
def Qanb:SC:=sR [zJ 4 0] [0,1] Qaei
theorem Qxz:mFn prog Rb 2 20 Qanb Aa=true:=by kernel_rfl
def Qavp:SC:=cT 5 (sR [fI 2 (.mv (.k (.c (.str [109,48]))))] [2] .ret) .skip
def Qavq:SC:=.reg [mJ 16 0,cJ 17 .quo 16 10,mJ 0 17] [0,3]
def Qavr:SC:=.block 1 (sR [mJ 8 0,cJ 9 .rem 8 10,fI 10 (.bin 0 .add (kI 48) (.t 9)),fI 11 (.cvt .u8 (.t 10)),fI 12 (.bw 1 [.t 11]),fI 13 (.b2s (.t 12)),mJ 14 3,bJ 15 .add 13 14,mJ 3 15] [0,3] Qavq)
def Qanc:SC:=.seq (sR [mJ 6 0,cJ 7 .gtr 6 0] [0,3,7] (cT 7 .skip (.exit 0))) Qavr
def Qavs:SC:=sR [mJ 18 3,fI 19 (.bin 0 .add (.k (.c (.str [109]))) (.t 18)),mJ 2 19] [2] .ret
def Qavt:SC:=sR [fI 3 (.mv (.k (.c (.str []))))] [0,3] (.seq (bL 0 Qanc) Qavs)
def Qavu:SC:=.seq (sR [mJ 4 0,cJ 5 .leq 4 0] [0,5] Qavp) Qavt
def Qa8i:SC:=sR [fI 2 (.mv (.k (.c (.str []))))] [0] Qavu
theorem Qa5d:mFn prog HS 1 20 Qa8i Ad=true:=by kernel_rfl
def Qa8k:SC:=cT 11 (sR [zJ 4 (-1)] [4] .ret) .skip
def Q86:List Item:=[mJ 1 15]
def Qa8l:SC:=cT 17 (sR [zJ 4 (-1)] [4] .ret) .skip
def Qa8m:SC:=sR [mJ 18 1,mJ 4 18] [4] .ret
def Qa8n:SC:=.seq (sR [mJ 16 1,cJ 17 .lss 16 0] [1,17] Qa8l) Qa8m
def Qa8o:SC:=sR (fJ 12 3 2::lJ 13 12::mJ 14 1::aJ 15 DZ [.t 13,.t 14]::Q86) [1] Qa8n
def Qa8p:SC:=.seq (sR [mJ 10 1,cJ 11 .lss 10 0] [1,2,11] Qa8k) Qa8o
def Qa8q:SC:=sR [mJ 5 1,fJ 6 2 2,lJ 7 6,fI 8 (.lensx (.t 7)),bJ 9 .sub 5 8,mJ 1 9] [1,2] Qa8p
def Qbi6:SC:=sR [vJ 2 0,zJ 4 0] [1,2] Qa8q
theorem Qbgf:mFn prog EY 2 19 Qbi6 Aa=true:=by kernel_rfl
def Qa01:SC:=cT 11 (sR [zJ 4 (-1)] [4] .ret) .skip
def Q4n:List Item:=[mJ 1 23]
def Qa02:SC:=cT 25 (sR [zJ 4 (-1)] [4] .ret) .skip
def Qa03:SC:=sR [mJ 24 1,cJ 25 .lss 24 0] [0,1,5,25] Qa02
def Qa04:SC:=.reg [mJ 16 5,cJ 17 .add 16 1,mJ 5 17] [0,1,5]
def Qa05:SC:=.seq (.block 1 (sR (mJ 18 0::mJ 19 5::iJ 20 4 18 19::tJ 21 4 20::mJ 22 1::aJ 23 EY [.t 21,.t 22]::Q4n) [0,1,5] Qa03)) Qa04
def Qavy:SC:=.seq (sR [mJ 12 5,mJ 13 0,fI 14 (.lenx (.t 13)),bJ 15 .lss 12 14] [0,1,5,15] (cT 15 .skip (.exit 0))) Qa05
def Qa06:SC:=sR [mJ 26 1,mJ 4 26] [4] .ret
def Qa07:SC:=.seq (sR [zJ 5 0] [0,1,5] (bL 0 Qavy)) Qa06
def Qa08:SC:=.seq (sR [mJ 10 1,cJ 11 .lss 10 0] [0,1,11] Qa01) Qa07
def Qavx:SC:=sR [mJ 6 1,mJ 7 0,fI 8 (.lenx (.t 7)),bJ 9 .sub 6 8,mJ 1 9] [0,1] Qa08
def Qbd0:SC:=sR [zJ 4 0] [0,1] Qavx
theorem Nr:mFn prog DZ 2 27 Qbd0 Aa=true:=by kernel_rfl
def Qbi7:SC:=cT 11 (sR [zJ 4 (-1)] [4] .ret) .skip
def MR:List Item:=[mJ 1 15]
def Qbi8:SC:=cT 17 (sR [zJ 4 (-1)] [4] .ret) .skip
def MQ:List Item:=[mJ 1 21]
def Qbi9:SC:=cT 23 (sR [zJ 4 (-1)] [4] .ret) .skip
def Qbja:SC:=sR [mJ 24 1,mJ 4 24] [4] .ret
def Qbjb:SC:=.seq (sR [mJ 22 1,cJ 23 .lss 22 0] [1,23] Qbi9) Qbja
def Qbjc:SC:=sR (fJ 18 2 2::lJ 19 18::mJ 20 1::aJ 21 Dv [.t 19,.t 20]::MQ) [1] Qbjb
def Qbjd:SC:=.seq (sR [mJ 16 1,cJ 17 .lss 16 0] [1,2,17] Qbi8) Qbjc
def Qbje:SC:=sR (fJ 12 1 2::lJ 13 12::mJ 14 1::aJ 15 Fd [.t 13,.t 14]::MR) [1,2] Qbjd
def Qbd9:SC:=.seq (sR [mJ 10 1,cJ 11 .lss 10 0] [1,2,11] Qbi7) Qbje
def Qbea:SC:=sR [mJ 5 1,fJ 6 0 2,lJ 7 6,fI 8 (.lensx (.t 7)),bJ 9 .sub 5 8,mJ 1 9] [1,2] Qbd9
def YS:SC:=sR [vJ 2 0,zJ 4 0] [1,2] Qbea
theorem Qbqu:mFn prog Ig 2 25 YS Aa=true:=by kernel_rfl
def Qbd1:SC:=cT 11 (sR [zJ 4 (-1)] [4] .ret) .skip
def N7:List Item:=[mJ 1 23]
def Qbd2:SC:=cT 25 (sR [zJ 4 (-1)] [4] .ret) .skip
def Qbd3:SC:=sR [mJ 24 1,cJ 25 .lss 24 0] [0,1,5,25] Qbd2
def Qbd4:SC:=.reg [mJ 16 5,cJ 17 .add 16 1,mJ 5 17] [0,1,5]
def Qbd5:SC:=.seq (.block 1 (sR (mJ 18 0::mJ 19 5::iJ 20 3 18 19::tJ 21 3 20::mJ 22 1::aJ 23 Ig [.t 21,.t 22]::N7) [0,1,5] Qbd3)) Qbd4
def Qa8s:SC:=.seq (sR [mJ 12 5,mJ 13 0,fI 14 (.lenx (.t 13)),bJ 15 .lss 12 14] [0,1,5,15] (cT 15 .skip (.exit 0))) Qbd5
def Qbd6:SC:=sR [mJ 26 1,mJ 4 26] [4] .ret
def Qbd7:SC:=.seq (sR [zJ 5 0] [0,1,5] (bL 0 Qa8s)) Qbd6
def Qbd8:SC:=.seq (sR [mJ 10 1,cJ 11 .lss 10 0] [0,1,11] Qbd1) Qbd7
def Qa8r:SC:=sR [mJ 6 1,mJ 7 0,fI 8 (.lenx (.t 7)),bJ 9 .sub 6 8,mJ 1 9] [0,1] Qbd8
def Qbn8:SC:=sR [zJ 4 0] [0,1] Qa8r
theorem OR:mFn prog HG 2 27 Qbn8 Aa=true:=by kernel_rfl
def Qut:List Item:=[mJ 1 8]
def Qand:SC:=cT 10 (sR [zJ 4 (-1)] [4] .ret) .skip
def Qane:SC:=sR [mJ 11 1,mJ 4 11] [4] .ret
def Qanf:SC:=.seq (sR [mJ 9 1,cJ 10 .lss 9 0] [1,10] Qand) Qane
def Qang:SC:=sR (fJ 5 0 2::lJ 6 5::mJ 7 1::aJ 8 HG [.t 6,.t 7]::Qut) [1] Qanf
def Qa09:SC:=sR [vJ 2 0,zJ 4 0] [1,2] Qang
theorem Qawy:mFn prog I6 2 12 Qa09 Aa=true:=by kernel_rfl
def Qa8t:SC:=cT 11 (sR [zJ 4 (-1)] [4] .ret) .skip
def Q87:List Item:=[mJ 1 15]
def Qa8u:SC:=cT 17 (sR [zJ 4 (-1)] [4] .ret) .skip
def Q88:List Item:=[mJ 1 21]
def Qa8v:SC:=cT 23 (sR [zJ 4 (-1)] [4] .ret) .skip
def Q89:List Item:=[mJ 1 27]
def Qa8w:SC:=cT 29 (sR [zJ 4 (-1)] [4] .ret) .skip
def Qa8x:SC:=sR [mJ 30 1,mJ 4 30] [4] .ret
def Qa8y:SC:=.seq (sR [mJ 28 1,cJ 29 .lss 28 0] [1,29] Qa8w) Qa8x
def Qa8z:SC:=sR (fJ 24 4 2::lJ 25 24::mJ 26 1::aJ 27 Dv [.t 25,.t 26]::Q89) [1] Qa8y
def Qa1i:SC:=.seq (sR [mJ 22 1,cJ 23 .lss 22 0] [1,2,23] Qa8v) Qa8z
def Qa1j:SC:=sR (fJ 18 3 2::lJ 19 18::mJ 20 1::aJ 21 Dv [.t 19,.t 20]::Q88) [1,2] Qa1i
def Qa1k:SC:=.seq (sR [mJ 16 1,cJ 17 .lss 16 0] [1,2,17] Qa8u) Qa1j
def Qa1l:SC:=sR (fJ 12 2 2::lJ 13 12::mJ 14 1::aJ 15 DZ [.t 13,.t 14]::Q87) [1,2] Qa1k
def Qa1m:SC:=.seq (sR [mJ 10 1,cJ 11 .lss 10 0] [1,2,11] Qa8t) Qa1l
def Qa1n:SC:=sR [mJ 5 1,fJ 6 1 2,lJ 7 6,fI 8 (.lensx (.t 7)),bJ 9 .sub 5 8,mJ 1 9] [1,2] Qa1m
def Qbjf:SC:=sR [vJ 2 0,zJ 4 0] [1,2] Qa1n
theorem Qbgg:mFn prog HO 2 31 Qbjf Aa=true:=by kernel_rfl
def Qa1a:SC:=cT 11 (sR [zJ 4 (-1)] [4] .ret) .skip
def Q4o:List Item:=[mJ 1 23]
def Qa1b:SC:=cT 25 (sR [zJ 4 (-1)] [4] .ret) .skip
def Qa1c:SC:=sR [mJ 24 1,cJ 25 .lss 24 0] [0,1,5,25] Qa1b
def Qa1d:SC:=.reg [mJ 16 5,cJ 17 .add 16 1,mJ 5 17] [0,1,5]
def Qa1e:SC:=.seq (.block 1 (sR (mJ 18 0::mJ 19 5::iJ 20 5 18 19::tJ 21 5 20::mJ 22 1::aJ 23 HO [.t 21,.t 22]::Q4o) [0,1,5] Qa1c)) Qa1d
def Qav0:SC:=.seq (sR [mJ 12 5,mJ 13 0,fI 14 (.lenx (.t 13)),bJ 15 .lss 12 14] [0,1,5,15] (cT 15 .skip (.exit 0))) Qa1e
def Qa1f:SC:=sR [mJ 26 1,mJ 4 26] [4] .ret
def Qa1g:SC:=.seq (sR [zJ 5 0] [0,1,5] (bL 0 Qav0)) Qa1f
def Qa1h:SC:=.seq (sR [mJ 10 1,cJ 11 .lss 10 0] [0,1,11] Qa1a) Qa1g
def Qavz:SC:=sR [mJ 6 1,mJ 7 0,fI 8 (.lenx (.t 7)),bJ 9 .sub 6 8,mJ 1 9] [0,1] Qa1h
def Qbeb:SC:=sR [zJ 4 0] [0,1] Qavz
theorem Nq:mFn prog Dv 2 27 Qbeb Aa=true:=by kernel_rfl
def Qanh:SC:=cT 11 (sR [zJ 4 (-1)] [4] .ret) .skip
def Qani:SC:=cT 26 (sR [zJ 4 (-1)] [4] .ret) .skip
def Qanj:SC:=sR [mJ 25 1,cJ 26 .lss 25 0] [0,1,5,26] Qani
def Qank:SC:=.reg [mJ 16 5,cJ 17 .add 16 1,mJ 5 17] [0,1,5]
def Qanl:SC:=.seq (.block 1 (sR [mJ 18 1,mJ 19 0,mJ 20 5,iJ 21 1 19 20,lJ 22 21,fI 23 (.lensx (.t 22)),bJ 24 .sub 18 23,mJ 1 24] [0,1,5] Qanj)) Qank
def Qahx:SC:=.seq (sR [mJ 12 5,mJ 13 0,fI 14 (.lenx (.t 13)),bJ 15 .lss 12 14] [0,1,5,15] (cT 15 .skip (.exit 0))) Qanl
def Qanm:SC:=sR [mJ 27 1,mJ 4 27] [4] .ret
def Qann:SC:=.seq (sR [zJ 5 0] [0,1,5] (bL 0 Qahx)) Qanm
def Qano:SC:=.seq (sR [mJ 10 1,cJ 11 .lss 10 0] [0,1,11] Qanh) Qann
def Qanp:SC:=sR [mJ 6 1,mJ 7 0,fI 8 (.lenx (.t 7)),bJ 9 .sub 6 8,mJ 1 9] [0,1] Qano
def Qa1o:SC:=sR [zJ 4 0] [0,1] Qanp
theorem Q70:mFn prog Fd 2 28 Qa1o Aa=true:=by kernel_rfl
def Q9a:List Item:=[fJ 16 3 3,sJ 1 16 15]
def Qa80:SC:=sR [tJ 17 4 3,sJ 4 2 17] [2] .ret
def Qa81:SC:=sR (fJ 13 3 1::lJ 14 13::aJ 15 PE [.t 14]::Q9a) [2,3] Qa80
def Qa82:SC:=sR [fJ 10 2 1,lJ 11 10,fJ 12 2 3,sJ 1 12 11] [1,2,3] Qa81
def Qa83:SC:=sR [fJ 7 1 1,lJ 8 7,fJ 9 1 3,sJ 1 9 8] [1,2,3] Qa82
def Qa84:SC:=sR [fJ 4 0 1,lJ 5 4,fJ 6 0 3,sJ 1 6 5] [1,2,3] Qa83
def Qa85:SC:=sR [eI 3 (.alloc [.int .i64 0,.int .i64 0,.str [],.sl true 4 []])] [1,2,3] Qa84
def Qbjg:SC:=sR [vJ 1 0,eI 2 (.alloc [.int .i64 0,.int .i64 0,.str [],.sl true 4 []])] [1,2] Qa85
def M4:List RS:=[.cell 2 4 true]
theorem Qbgh:mFn prog DX 1 18 Qbjg M4=true:=by kernel_rfl
def Q4p:List Item:=[mJ 3 7]
def Q4q:List Item:=[iJ 21 4 14 15,sJ 4 21 20]
def Qa1p:SC:=.reg [mJ 12 4,cJ 13 .add 12 1,mJ 4 13] [0,3,4]
def Qa1q:SC:=.seq (.block 1 (.reg (mJ 14 3::mJ 15 4::mJ 16 0::mJ 17 4::iJ 18 4 16 17::tJ 19 4 18::aJ 20 DX [.t 19]::Q4q) [0,3,4])) Qa1p
def Qav1:SC:=.seq (sR [mJ 8 4,mJ 9 0,nJ 10 9,bJ 11 .lss 8 10] [0,3,4,11] (cT 11 .skip (.exit 0))) Qa1q
def Qa1r:SC:=sR [mJ 22 3,mJ 2 22] [2] .ret
def Qa1s:SC:=.seq (sR [zJ 4 0] [0,3,4] (bL 0 Qav1)) Qa1r
def Qa1t:SC:=sR (mJ 5 0::nJ 6 5::eI 7 (.mks 4 [.int .i64 0,.int .i64 0,.str [],.sl true 4 []] (.t 6))::Q4p) [0,3] Qa1s
def Qbec:SC:=sR [fI 2 (.mv (.k (.c (.sl true 4 []))))] [0] Qa1t
theorem Qba2:mFn prog PE 1 23 Qbec Ad=true:=by kernel_rfl
def MP:List Item:=[fJ 10 1 3,sJ 1 10 9]
def MO:List Item:=[fJ 14 2 3,sJ 1 14 13]
def Qbjh:SC:=sR [tJ 15 3 3,sJ 3 2 15] [2] .ret
def Qbji:SC:=sR (fJ 11 2 1::lJ 12 11::aJ 13 Iv [.t 12]::MO) [2,3] Qbjh
def Qbjj:SC:=sR (fJ 7 1 1::lJ 8 7::aJ 9 Fc [.t 8]::MP) [1,2,3] Qbji
def Qbjk:SC:=sR [fJ 4 0 1,lJ 5 4,fJ 6 0 3,sJ 1 6 5] [1,2,3] Qbjj
def Qbjl:SC:=sR [eI 3 (.alloc [.str [],.sl true 1 [],.sl true 5 []])] [1,2,3] Qbjk
def YR:SC:=sR [vJ 1 0,eI 2 (.alloc [.str [],.sl true 1 [],.sl true 5 []])] [1,2] Qbjl
def L5:List RS:=[.cell 2 3 true]
theorem Qbqv:mFn prog Rn 1 16 YR L5=true:=by kernel_rfl
def N6:List Item:=[mJ 3 7]
def N5:List Item:=[iJ 21 3 14 15,sJ 3 21 20]
def Qbed:SC:=.reg [mJ 12 4,cJ 13 .add 12 1,mJ 4 13] [0,3,4]
def Qbee:SC:=.seq (.block 1 (.reg (mJ 14 3::mJ 15 4::mJ 16 0::mJ 17 4::iJ 18 3 16 17::tJ 19 3 18::aJ 20 Rn [.t 19]::N5) [0,3,4])) Qbed
def Qa86:SC:=.seq (sR [mJ 8 4,mJ 9 0,nJ 10 9,bJ 11 .lss 8 10] [0,3,4,11] (cT 11 .skip (.exit 0))) Qbee
def Qbef:SC:=sR [mJ 22 3,mJ 2 22] [2] .ret
def Qbeg:SC:=.seq (sR [zJ 4 0] [0,3,4] (bL 0 Qa86)) Qbef
def Qbeh:SC:=sR (mJ 5 0::nJ 6 5::eI 7 (.mks 3 [.str [],.sl true 1 [],.sl true 5 []] (.t 6))::N6) [0,3] Qbeg
def Qbn9:SC:=sR [fI 2 (.mv (.k (.c (.sl true 3 []))))] [0] Qbeh
theorem Qbmc:mFn prog Q9o 1 23 Qbn9 Ad=true:=by kernel_rfl
def Quu:List Item:=[fJ 7 0 3,sJ 1 7 6]
def Qanq:SC:=sR [tJ 8 1 3,sJ 1 2 8] [2] .ret
def Qanr:SC:=sR (fJ 4 0 1::lJ 5 4::aJ 6 Q9o [.t 5]::Quu) [2,3] Qanq
def Qans:SC:=sR [eI 3 (.alloc [.sl true 3 []])] [1,2,3] Qanr
def Qa1u:SC:=sR [vJ 1 0,eI 2 (.alloc [.sl true 3 []])] [1,2] Qans
theorem Qawz:mFn prog F5 1 9 Qa1u Es=true:=by kernel_rfl
def Q9b:List Item:=[fJ 13 2 3,sJ 1 13 12]
def Q9c:List Item:=[fJ 17 3 3,sJ 1 17 16]
def Q9d:List Item:=[fJ 21 4 3,sJ 1 21 20]
def Qa87:SC:=sR [tJ 22 5 3,sJ 5 2 22] [2] .ret
def Qa88:SC:=sR (fJ 18 4 1::lJ 19 18::aJ 20 Iv [.t 19]::Q9d) [2,3] Qa87
def Qa89:SC:=sR (fJ 14 3 1::lJ 15 14::aJ 16 Iv [.t 15]::Q9c) [1,2,3] Qa88
def Qa9a:SC:=sR (fJ 10 2 1::lJ 11 10::aJ 12 PE [.t 11]::Q9b) [1,2,3] Qa89
def Qa9b:SC:=sR [fJ 7 1 1,lJ 8 7,fJ 9 1 3,sJ 1 9 8] [1,2,3] Qa9a
def Qa9c:SC:=sR [fJ 4 0 1,lJ 5 4,fJ 6 0 3,sJ 1 6 5] [1,2,3] Qa9b
def Qa9d:SC:=sR [eI 3 (.alloc [.int .i64 0,.str [],.sl true 4 [],.sl true 5 [],.sl true 5 []])] [1,2,3] Qa9c
def Qbjm:SC:=sR [vJ 1 0,eI 2 (.alloc [.int .i64 0,.str [],.sl true 4 [],.sl true 5 [],.sl true 5 []])] [1,2] Qa9d
def M3:List RS:=[.cell 2 5 true]
theorem Qbgi:mFn prog P4 1 23 Qbjm M3=true:=by kernel_rfl
def Q4r:List Item:=[mJ 3 7]
def Q4s:List Item:=[iJ 21 5 14 15,sJ 5 21 20]
def Qa1v:SC:=.reg [mJ 12 4,cJ 13 .add 12 1,mJ 4 13] [0,3,4]
def Qa1w:SC:=.seq (.block 1 (.reg (mJ 14 3::mJ 15 4::mJ 16 0::mJ 17 4::iJ 18 5 16 17::tJ 19 5 18::aJ 20 P4 [.t 19]::Q4s) [0,3,4])) Qa1v
def Qav2:SC:=.seq (sR [mJ 8 4,mJ 9 0,nJ 10 9,bJ 11 .lss 8 10] [0,3,4,11] (cT 11 .skip (.exit 0))) Qa1w
def Qa1x:SC:=sR [mJ 22 3,mJ 2 22] [2] .ret
def Qa1y:SC:=.seq (sR [zJ 4 0] [0,3,4] (bL 0 Qav2)) Qa1x
def Qa1z:SC:=sR (mJ 5 0::nJ 6 5::eI 7 (.mks 5 [.int .i64 0,.str [],.sl true 4 [],.sl true 5 [],.sl true 5 []] (.t 6))::Q4r) [0,3] Qa1y
def Qbei:SC:=sR [fI 2 (.mv (.k (.c (.sl true 5 []))))] [0] Qa1z
theorem Qba3:mFn prog Iv 1 23 Qbei Ad=true:=by kernel_rfl
def Quv:List Item:=[mJ 3 7]
def Qant:SC:=.reg [mJ 12 4,cJ 13 .add 12 1,mJ 4 13] [0,3,4]
def Qanu:SC:=.seq (.block 1 (.reg [mJ 14 3,mJ 15 4,mJ 16 0,mJ 17 4,iJ 18 1 16 17,lJ 19 18,iJ 20 1 14 15,sJ 1 20 19] [0,3,4])) Qant
def Qahy:SC:=.seq (sR [mJ 8 4,mJ 9 0,nJ 10 9,bJ 11 .lss 8 10] [0,3,4,11] (cT 11 .skip (.exit 0))) Qanu
def Qanv:SC:=sR [mJ 21 3,mJ 2 21] [2] .ret
def Qanw:SC:=.seq (sR [zJ 4 0] [0,3,4] (bL 0 Qahy)) Qanv
def Qanx:SC:=sR (mJ 5 0::nJ 6 5::eI 7 (.mks 1 [.str []] (.t 6))::Quv) [0,3] Qanw
def Qa10:SC:=sR [fI 2 (.mv (.k (.c (.sl true 1 []))))] [0] Qanx
theorem Qaw0:mFn prog Fc 1 22 Qa10 Ad=true:=by kernel_rfl
end Go.AE.Y
namespace Go.AE
theorem EM {dn:List (List C)}{i n:Nat}{zr cs:List C}(hd:dn.length=i)(hi:i<n)(hl:cs.length=zr.length) :
  (dn++List.replicate (n-i) zr).set (0+i) (cs++List.drop cs.length ((dn++List.replicate (n-i) zr).getD (0+i) []))=(dn++[cs])++List.replicate (n-(i+1)) zr:=by
 obtain⟨m,hm⟩:∃m,n-i=m+1:=⟨n-i-1,by omega⟩;have iu:n-(i+1)=m:=by omega
 have hr:(dn++List.replicate (n-i) zr).getD i []=zr:=by
  rw[Jc,Jx (by omega),hm];simp[hd]
 rw[Jag,hr,hl,List.drop_length,Jg,iu,hm,List.replicate_succ,Jap _ _ (by omega)];simp[hd]
end Go.AE
namespace Go.AE.Y
attribute [local go_sem] cond_true cond_false Bool.not_true Bool.not_false
open Go.Proofs.Tryz
variable {H H0 F:Heap}{K:V→Heap→Prop}{E B Lg:List (Nat×Obj)}{fns:List Fn}
theorem KY {l:List Ex}{fl:Bool}(hf:∀x∈l,∀(H1:Heap) (K':V→Heap→Prop),(∀H2 L cs,Kn H1 H2 [] L→OwL L cs x.cells→K' (.ag cs) H2)→Qi prog DX [.ag x.cells] H1 K')
  (hK:∀H' L t,Kn H H' [] L→OwS L 4 (Af l) t→K (.c t) H'):Qi prog PE [.c (.sl fl 4 (Af l))] H K:=by
 refine Qb Ab Qba2 ?_;refine Qa ?_;simp only[go_sem];refine Qa ?_;simp only[go_sem,Qt];intro hl;simp only[LIM]at hl;refine⟨by simp only[LIM];omega,fun y hy H1 h1=>?_⟩;have kn:=(Kn.aw H).al hy h1;simp only[go_sem,Q4p];refine Qp (Qa ?_);simp only[go_sem];refine Qe (Qf (Qu (fun m e1 H1=>∃(i:Nat) (M:List (Nat×Obj)) (dn:List (List C)),m=l.length-i∧i≤l.length∧dn.length=i∧(∀r∈dn,r.length=4)∧OwL M dn.flatten (Af (l.take i)).flatten∧
  Kn H H1 [] ([(y,.vec 4 (dn++List.replicate (l.length-i) ([.int .i64 0,.int .i64 0,.str [],.sl true 4 []]:List C)))]++M)∧
  e1=[(0,.c (.sl fl 4 (Af l))),(3,.c (.aG y 4 0 l.length)),(4,.c (.int .i64 i))]) l.length ?_ ?_))
 ·exact⟨0,[],[],by omega,by omega,rfl,by simp,.nil,kn,rfl⟩
 ·rintro m e1 H1 ⟨i,M,dn,hm,hi,bq,cw,an,kn,rfl⟩;refine Qp (Qa ?_);simp only[go_sem,Qt];intro _;refine Qe (Qc rfl ?_ ?_)
  ·intro hc;have aa:i<l.length:=by simpa using hc
   obtain⟨x,hx⟩:∃x,l[i]=x:=⟨_,rfl⟩;have eO:x∈l:=by rw[←hx];exact Jf aa
   have aO:Af (l.take (i+1))=Af (l.take i)++[x.cells]:=by
    rw[Ru,Jd aa,hx]
   refine Qd ?_;try simp only[go_sem]
   refine Qe (Qf ?_);refine Qn ?_;simp only[go_sem,aa,Qt,B7 _ _ aa,hx,Ex.b9,Ex.aX,Ex.aj];refine hf x eO H1 _ fun H5 L2 cs k2 ho=>?_;have bP:cs.length=4:=by rw[←ho.len,x.aj]
   have kn:=kn.comp0 k2;have gy:=kn.l 0 rfl;have ai:(dn++List.replicate (l.length-i) ([.int .i64 0,.int .i64 0,.str [],.sl true 4 []]:List C)).length=l.length:=by rw[Jm,J9];omega
   obtain⟨R,hR⟩:∃R,dn++List.replicate (l.length-i) ([.int .i64 0,.int .i64 0,.str [],.sl true 4 []]:List C)=R:=⟨_,rfl⟩;rw[hR]at gy ai;simp only[go_sem,Q4q,bP,gy,ai,aa];refine⟨by omega,by omega,fun H6 h6=>?_⟩;have e:=EM (zr:=([.int .i64 0,.int .i64 0,.str [],.sl true 4 []]:List C)) (cs:=cs) bq aa bP;rw[hR,bP]at e;rw[e]at h6;have kn:Kn H H6 [] ([(y,.vec 4 ((dn++[cs])++List.replicate (l.length-(i+1)) ([.int .i64 0,.int .i64 0,.str [],.sl true 4 []]:List C)))]++(M++L2)):=kn.aT 0 rfl h6;refine Qn ?_;simp only[go_sem,AE.X.next];refine⟨Ql,l.length-(i+1),by omega,i+1,M++L2,dn++[cs],rfl,by omega,by simp[bq],?_,?_,kn,rfl⟩
   ·intro r hr;rcases Ji.1 hr with hr|hr
    ·exact cw r hr
    ·rw[Ja.1 hr];exact bP
   ·rw[aO];simp only[List.flatten_append,List.flatten_cons,List.flatten_nil,Jg];exact an.app ho
  ·intro hc;have aC:l.length≤i:=by simpa using hc
   rw[Jb aC]at an;have h0:l.length-i=0:=by omega
   rw[h0,List.replicate_zero,Jg]at kn;have hn:l.length=dn.length:=by omega
   refine Qr ?_;simp only[go_sem,AE.X.next];refine Qa ?_;simp only[go_sem];refine Qg ?_;simp only[go_sem,Qq,Q1,Ad,Ja,forall_eq,RS.op];exact hK _ _ _ kn (.inr ⟨y,M,dn,by rw[hn],rfl,by rw[Qt,hn],cw,IN,an⟩)
theorem GW {l:List (List UInt8)}{fl:Bool}
  (hK:∀H' L t,Kn H H' [] L→OwS L 1 (Q3 l) t→K (.c t) H'):Qi prog Fc [.c (.sl fl 1 (Q3 l))] H K:=by
 refine Qb Ab Qaw0 ?_;refine Qa ?_;simp only[go_sem];refine Qa ?_;simp only[go_sem,Qs];intro hl;simp only[LIM]at hl;refine⟨by simp only[LIM];omega,fun y hy H1 h1=>?_⟩;have kn:=(Kn.aw H).al hy h1;simp only[go_sem,Quv];refine Qp (Qa ?_);simp only[go_sem];refine Qe (Qf (Qu (fun m e1 H1=>∃(i:Nat) (M:List (Nat×Obj)) (dn:List (List C)),m=l.length-i∧i≤l.length∧dn.length=i∧(∀r∈dn,r.length=1)∧OwL M dn.flatten (Q3 (l.take i)).flatten∧
  Kn H H1 [] ([(y,.vec 1 (dn++List.replicate (l.length-i) ([.str []]:List C)))]++M)∧
  e1=[(0,.c (.sl fl 1 (Q3 l))),(3,.c (.aG y 1 0 l.length)),(4,.c (.int .i64 i))]) l.length ?_ ?_))
 ·exact⟨0,[],[],by omega,by omega,rfl,by simp,.nil,kn,rfl⟩
 ·rintro m e1 H1 ⟨i,M,dn,hm,hi,bq,cw,an,kn,rfl⟩;refine Qp (Qa ?_);simp only[go_sem,Qs];intro _;refine Qe (Qc rfl ?_ ?_)
  ·intro hc;have aa:i<l.length:=by simpa using hc
   obtain⟨x,hx⟩:∃x,l[i]=x:=⟨_,rfl⟩;have aO:Q3 (l.take (i+1))=Q3 (l.take i)++[[.str x]]:=by
    rw[GZ,Jd aa,hx]
   refine Qd ?_;try simp only[go_sem]
   refine Qe (Qf ?_);refine Qn ?_;have oY:l.getD i []=x:=by simp[Jc,aa,hx]
   have gy:=kn.l 0 rfl;have ai:(dn++List.replicate (l.length-i) ([.str []]:List C)).length=l.length:=by rw[Jm,J9];omega
   obtain⟨R,hR⟩:∃R,dn++List.replicate (l.length-i) ([.str []]:List C)=R:=⟨_,rfl⟩;rw[hR]at gy ai;simp only[go_sem,aa,Qs,Dk _ _ aa,oY,gy,ai];refine⟨by omega,by omega,fun H6 h6=>?_⟩;have e:=EM (zr:=([.str []]:List C)) (cs:=[.str x]) bq aa rfl;rw[hR]at e;simp only[Jj,Ju,Jag,Nat.reduceAdd,Jk,Jl]at e h6;rw[e]at h6;have kn:Kn H H6 [] ([(y,.vec 1 ((dn++[[.str x]])++List.replicate (l.length-(i+1)) ([.str []]:List C)))]++(M)):=kn.aT 0 rfl h6;refine Qn ?_;simp only[go_sem,AE.X.next];refine⟨Ql,l.length-(i+1),by omega,i+1,M,dn++[[C.str x]],rfl,by omega,by simp[bq],?_,?_,kn,rfl⟩
   ·intro r hr;rcases Ji.1 hr with hr|hr
    ·exact cw r hr
    ·rw[Ja.1 hr];rfl
   ·rw[aO];simp only[List.flatten_append,List.flatten_cons,List.flatten_nil,Jg];have:=an.app (.atom (c:=.str x) rfl .nil)
    rwa [Jg]at this
  ·intro hc;have aC:l.length≤i:=by simpa using hc
   rw[Jb aC]at an;have h0:l.length-i=0:=by omega
   rw[h0,List.replicate_zero,Jg]at kn;have hn:l.length=dn.length:=by omega
   refine Qr ?_;simp only[go_sem,AE.X.next];refine Qa ?_;simp only[go_sem];refine Qg ?_;simp only[go_sem,Qq,Q1,Ad,Ja,forall_eq,RS.op];exact hK _ _ _ kn (.inr ⟨y,M,dn,by rw[hn],rfl,by rw[Qs,hn],cw,EK,an⟩)
theorem Hf:∀(n:Nat) (x:Ex) {H:Heap} {K:V→Heap→Prop},x.size≤n→(∀H' L cs,Kn H H' [] L→OwL L cs x.cells→K (.ag cs) H')→Qi prog DX [.ag x.cells] H K:=by
 intro n
 induction n with
 |zero=>intro x H K h;have:=x.size_pos;omega
 |succ n ih=>
 intro x H K hn hK;have be:=x.size_kids;refine Qb Ab Qbgh ?_;refine Qa ?_;simp only[go_sem,x.ab];intro x2 eG H1 h1;have kn:=(Kn.aw H).al eG h1;refine Qa ?_;simp only[go_sem];intro x3 eF H2 h2;have kn:=kn.al eF h2;have g3:=kn.l 1 rfl;refine Qa ?_;simp only[go_sem,g3];intro H2 h2;have kn:=kn.aT 1 rfl h2;have g3:=kn.l 1 rfl;refine Qa ?_;simp only[go_sem,g3];intro H2 h2;have kn:=kn.aT 1 rfl h2;have g3:=kn.l 1 rfl;refine Qa ?_;simp only[go_sem,g3];intro H2 h2;have kn:=kn.aT 1 rfl h2;have g3:=kn.l 1 rfl;refine Qa ?_;simp only[go_sem,g3];refine KY (fun y hy H1 K' cL=>ih y (by have:=B0 hy;omega) cL) fun H3 L t k2 ho=>?_;have kn:=kn.comp0 k2;have g3:=kn.l 1 rfl;have aE:=ho.ah;simp only[go_sem,Q9a,g3,aE];intro H4 h4;have kn:=kn.aT 1 rfl h4;have g2:=kn.l 0 rfl;have g3:=kn.l 1 rfl;refine Qa ?_;simp only[go_sem,g2,g3,aE];intro H5 h5;have kn:=kn.aT 0 rfl h5;have g2:=kn.l 0 rfl;refine Qg ?_;simp only[go_sem,Qq,Q1,M4,Ja,forall_eq,RS.op,g2,aE];exact hK _ L _ (kn.sub (List.sublist_append_right [_,_] _)) (by rw[x.ab];exact .atom rfl (.atom rfl (.atom rfl ho.one)))
theorem Ga {l:List St}{fl:Bool}(hf:∀x∈l,∀(H1:Heap) (K':V→Heap→Prop),(∀H2 L cs,Kn H1 H2 [] L→OwL L cs x.cells→K' (.ag cs) H2)→Qi prog P4 [.ag x.cells] H1 K')
  (hK:∀H' L t,Kn H H' [] L→OwS L 5 (Qv l) t→K (.c t) H'):Qi prog Iv [.c (.sl fl 5 (Qv l))] H K:=by
 refine Qb Ab Qba3 ?_;refine Qa ?_;simp only[go_sem];refine Qa ?_;simp only[go_sem,Q7];intro hl;simp only[LIM]at hl;refine⟨by simp only[LIM];omega,fun y hy H1 h1=>?_⟩;have kn:=(Kn.aw H).al hy h1;simp only[go_sem,Q4r];refine Qp (Qa ?_);simp only[go_sem];refine Qe (Qf (Qu (fun m e1 H1=>∃(i:Nat) (M:List (Nat×Obj)) (dn:List (List C)),m=l.length-i∧i≤l.length∧dn.length=i∧(∀r∈dn,r.length=5)∧OwL M dn.flatten (Qv (l.take i)).flatten∧
  Kn H H1 [] ([(y,.vec 5 (dn++List.replicate (l.length-i) ([.int .i64 0,.str [],.sl true 4 [],.sl true 5 [],.sl true 5 []]:List C)))]++M)∧
  e1=[(0,.c (.sl fl 5 (Qv l))),(3,.c (.aG y 5 0 l.length)),(4,.c (.int .i64 i))]) l.length ?_ ?_))
 ·exact⟨0,[],[],by omega,by omega,rfl,by simp,.nil,kn,rfl⟩
 ·rintro m e1 H1 ⟨i,M,dn,hm,hi,bq,cw,an,kn,rfl⟩;refine Qp (Qa ?_);simp only[go_sem,Q7];intro _;refine Qe (Qc rfl ?_ ?_)
  ·intro hc;have aa:i<l.length:=by simpa using hc
   obtain⟨x,hx⟩:∃x,l[i]=x:=⟨_,rfl⟩;have eO:x∈l:=by rw[←hx];exact Jf aa
   have aO:Qv (l.take (i+1))=Qv (l.take i)++[x.cells]:=by
    rw[Gx,Jd aa,hx]
   refine Qd ?_;try simp only[go_sem]
   refine Qe (Qf ?_);refine Qn ?_;simp only[go_sem,aa,Q7,Ct _ _ aa,hx,St.take5,St.aX,St.aj];refine hf x eO H1 _ fun H5 L2 cs k2 ho=>?_;have bP:cs.length=5:=by rw[←ho.len,x.aj]
   have kn:=kn.comp0 k2;have gy:=kn.l 0 rfl;have ai:(dn++List.replicate (l.length-i) ([.int .i64 0,.str [],.sl true 4 [],.sl true 5 [],.sl true 5 []]:List C)).length=l.length:=by rw[Jm,J9];omega
   obtain⟨R,hR⟩:∃R,dn++List.replicate (l.length-i) ([.int .i64 0,.str [],.sl true 4 [],.sl true 5 [],.sl true 5 []]:List C)=R:=⟨_,rfl⟩;rw[hR]at gy ai;simp only[go_sem,Q4s,bP,gy,ai,aa];refine⟨by omega,by omega,fun H6 h6=>?_⟩;have e:=EM (zr:=([.int .i64 0,.str [],.sl true 4 [],.sl true 5 [],.sl true 5 []]:List C)) (cs:=cs) bq aa bP;rw[hR,bP]at e;rw[e]at h6;have kn:Kn H H6 [] ([(y,.vec 5 ((dn++[cs])++List.replicate (l.length-(i+1)) ([.int .i64 0,.str [],.sl true 4 [],.sl true 5 [],.sl true 5 []]:List C)))]++(M++L2)):=kn.aT 0 rfl h6;refine Qn ?_;simp only[go_sem,AE.X.next];refine⟨Ql,l.length-(i+1),by omega,i+1,M++L2,dn++[cs],rfl,by omega,by simp[bq],?_,?_,kn,rfl⟩
   ·intro r hr;rcases Ji.1 hr with hr|hr
    ·exact cw r hr
    ·rw[Ja.1 hr];exact bP
   ·rw[aO];simp only[List.flatten_append,List.flatten_cons,List.flatten_nil,Jg];exact an.app ho
  ·intro hc;have aC:l.length≤i:=by simpa using hc
   rw[Jb aC]at an;have h0:l.length-i=0:=by omega
   rw[h0,List.replicate_zero,Jg]at kn;have hn:l.length=dn.length:=by omega
   refine Qr ?_;simp only[go_sem,AE.X.next];refine Qa ?_;simp only[go_sem];refine Qg ?_;simp only[go_sem,Qq,Q1,Ad,Ja,forall_eq,RS.op];exact hK _ _ _ kn (.inr ⟨y,M,dn,by rw[hn],rfl,by rw[Q7,hn],cw,ID,an⟩)
theorem Xo:∀(n:Nat) (x:St) {H:Heap} {K:V→Heap→Prop},x.size≤n→(∀H' L cs,Kn H H' [] L→OwL L cs x.cells→K (.ag cs) H')→Qi prog P4 [.ag x.cells] H K:=by
 intro n
 induction n with
 |zero=>intro x H K h;have:=x.size_pos2;omega
 |succ n ih=>
 intro x H K hn hK;have be:=x.size_eq;refine Qb Ab Qbgi ?_;refine Qa ?_;simp only[go_sem,x.ab];intro x2 eG H1 h1;have kn:=(Kn.aw H).al eG h1;refine Qa ?_;simp only[go_sem];intro x3 eF H2 h2;have kn:=kn.al eF h2;have g3:=kn.l 1 rfl;refine Qa ?_;simp only[go_sem,g3];intro H2 h2;have kn:=kn.aT 1 rfl h2;have g3:=kn.l 1 rfl;refine Qa ?_;simp only[go_sem,g3];intro H2 h2;have kn:=kn.aT 1 rfl h2;have g3:=kn.l 1 rfl;refine Qa ?_;simp only[go_sem,g3];refine KY (fun y hy H1 K' cL=>Hf y.size y (Jo _) cL) fun H3 La ta k2 oa=>?_;have kn:=kn.comp0 k2;have g3:=kn.l 1 rfl;have ha:=oa.ah;simp only[go_sem,Q9b,g3,ha];intro H4 h4;have kn:=kn.aT 1 rfl h4;have g3:=kn.l 1 rfl;refine Qa ?_;simp only[go_sem,g3,ha];refine Ga (fun y hy H1 K' cL=>ih y (by have:=Cv hy;omega) cL) fun H3 Lb tb k2 ob=>?_;have kn:=kn.comp0 k2;have g3:=kn.l 1 rfl;have hb:=ob.ah;simp only[go_sem,Q9c,g3,ha,hb];intro H4 h4;have kn:=kn.aT 1 rfl h4;have g3:=kn.l 1 rfl;refine Qa ?_;simp only[go_sem,g3,ha,hb];refine Ga (fun y hy H1 K' cL=>ih y (by have:=Cv hy;omega) cL) fun H3 Lc tc k2 oc=>?_;have kn:=kn.comp0 k2;have g3:=kn.l 1 rfl;have hc:=oc.ah;simp only[go_sem,Q9d,g3,ha,hb,hc];intro H4 h4;have kn:=kn.aT 1 rfl h4;have g3:=kn.l 1 rfl;have g2:=kn.l 0 rfl;refine Qa ?_;simp only[go_sem,g2,g3,ha,hb,hc];intro H5 h5;have kn:=kn.aT 0 rfl h5;have g2:=kn.l 0 rfl;refine Qg ?_;simp only[go_sem,Qq,Q1,M3,Ja,forall_eq,RS.op,g2,ha,hb,hc];refine hK _ (La++(Lb++Lc)) _ (kn.sub ?_) (by rw[x.ab];exact .atom rfl (.atom rfl (oa.cons (ob.cons oc.one))));show (La++(Lb++Lc)).Sublist ((_::_::La)++Lb++Lc);rw[Je];exact List.sublist_append_right [_,_] _
theorem Qb13 {f:Fn}(hK:∀H' L cs,Kn H H' [] L→OwL L cs f.cells→K (.ag cs) H'):Qi prog Rn [.ag f.cells] H K:=by
 refine Qb Ab Qbqv ?_;refine Qa ?_;simp only[go_sem,Fn.cells];intro x2 eG H1 h1;have kn:=(Kn.aw H).al eG h1;refine Qa ?_;simp only[go_sem];intro x3 eF H2 h2;have kn:=kn.al eF h2;have g3:=kn.l 1 rfl;refine Qa ?_;simp only[go_sem,g3];intro H2 h2;have kn:=kn.aT 1 rfl h2;have g3:=kn.l 1 rfl;refine Qa ?_;simp only[go_sem,g3];refine GW fun H3 La ta k2 oa=>?_;have kn:=kn.comp0 k2;have g3:=kn.l 1 rfl;have ha:=oa.ah;simp only[go_sem,MP,g3,ha];intro H4 h4;have kn:=kn.aT 1 rfl h4;have g3:=kn.l 1 rfl;refine Qa ?_;simp only[go_sem,g3,ha];refine Ga (fun y hy H1 K' cL=>Xo y.size y (Jo _) cL) fun H3 Lb tb k2 ob=>?_;have kn:=kn.comp0 k2;have g3:=kn.l 1 rfl;have hb:=ob.ah;simp only[go_sem,MO,g3,ha,hb];intro H4 h4;have kn:=kn.aT 1 rfl h4;have g3:=kn.l 1 rfl;have g2:=kn.l 0 rfl;refine Qa ?_;simp only[go_sem,g2,g3,ha,hb];intro H5 h5;have kn:=kn.aT 0 rfl h5;have g2:=kn.l 0 rfl;refine Qg ?_;simp only[go_sem,Qq,Q1,L5,Ja,forall_eq,RS.op,g2,ha,hb];exact hK _ (La++Lb) _ (kn.sub (List.sublist_append_right [_,_] _)) (.atom rfl (oa.cons ob.one))
theorem TP {l:List Fn}{fl:Bool}(hf:∀x∈l,∀(H1:Heap) (K':V→Heap→Prop),(∀H2 L cs,Kn H1 H2 [] L→OwL L cs x.cells→K' (.ag cs) H2)→Qi prog Rn [.ag x.cells] H1 K')
  (hK:∀H' L t,Kn H H' [] L→OwS L 3 (Ae l) t→K (.c t) H'):Qi prog Q9o [.c (.sl fl 3 (Ae l))] H K:=by
 refine Qb Ab Qbmc ?_;refine Qa ?_;simp only[go_sem];refine Qa ?_;simp only[go_sem,Q8];intro hl;simp only[LIM]at hl;refine⟨by simp only[LIM];omega,fun y hy H1 h1=>?_⟩;have kn:=(Kn.aw H).al hy h1;simp only[go_sem,N6];refine Qp (Qa ?_);simp only[go_sem];refine Qe (Qf (Qu (fun m e1 H1=>∃(i:Nat) (M:List (Nat×Obj)) (dn:List (List C)),m=l.length-i∧i≤l.length∧dn.length=i∧(∀r∈dn,r.length=3)∧OwL M dn.flatten (Ae (l.take i)).flatten∧
  Kn H H1 [] ([(y,.vec 3 (dn++List.replicate (l.length-i) ([.str [],.sl true 1 [],.sl true 5 []]:List C)))]++M)∧
  e1=[(0,.c (.sl fl 3 (Ae l))),(3,.c (.aG y 3 0 l.length)),(4,.c (.int .i64 i))]) l.length ?_ ?_))
 ·exact⟨0,[],[],by omega,by omega,rfl,by simp,.nil,kn,rfl⟩
 ·rintro m e1 H1 ⟨i,M,dn,hm,hi,bq,cw,an,kn,rfl⟩;refine Qp (Qa ?_);simp only[go_sem,Q8];intro _;refine Qe (Qc rfl ?_ ?_)
  ·intro hc;have aa:i<l.length:=by simpa using hc
   obtain⟨x,hx⟩:∃x,l[i]=x:=⟨_,rfl⟩;have eO:x∈l:=by rw[←hx];exact Jf aa
   have aO:Ae (l.take (i+1))=Ae (l.take i)++[x.cells]:=by
    rw[OA,Jd aa,hx]
   refine Qd ?_;try simp only[go_sem]
   refine Qe (Qf ?_);refine Qn ?_;simp only[go_sem,aa,Q8,Cu _ _ aa,hx,Fn.take3,Fn.aX,Fn.aj];refine hf x eO H1 _ fun H5 L2 cs k2 ho=>?_;have bP:cs.length=3:=by rw[←ho.len,x.aj]
   have kn:=kn.comp0 k2;have gy:=kn.l 0 rfl;have ai:(dn++List.replicate (l.length-i) ([.str [],.sl true 1 [],.sl true 5 []]:List C)).length=l.length:=by rw[Jm,J9];omega
   obtain⟨R,hR⟩:∃R,dn++List.replicate (l.length-i) ([.str [],.sl true 1 [],.sl true 5 []]:List C)=R:=⟨_,rfl⟩;rw[hR]at gy ai;simp only[go_sem,N5,bP,gy,ai,aa];refine⟨by omega,by omega,fun H6 h6=>?_⟩;have e:=EM (zr:=([.str [],.sl true 1 [],.sl true 5 []]:List C)) (cs:=cs) bq aa bP;rw[hR,bP]at e;rw[e]at h6;have kn:Kn H H6 [] ([(y,.vec 3 ((dn++[cs])++List.replicate (l.length-(i+1)) ([.str [],.sl true 1 [],.sl true 5 []]:List C)))]++(M++L2)):=kn.aT 0 rfl h6;refine Qn ?_;simp only[go_sem,AE.X.next];refine⟨Ql,l.length-(i+1),by omega,i+1,M++L2,dn++[cs],rfl,by omega,by simp[bq],?_,?_,kn,rfl⟩
   ·intro r hr;rcases Ji.1 hr with hr|hr
    ·exact cw r hr
    ·rw[Ja.1 hr];exact bP
   ·rw[aO];simp only[List.flatten_append,List.flatten_cons,List.flatten_nil,Jg];exact an.app ho
  ·intro hc;have aC:l.length≤i:=by simpa using hc
   rw[Jb aC]at an;have h0:l.length-i=0:=by omega
   rw[h0,List.replicate_zero,Jg]at kn;have hn:l.length=dn.length:=by omega
   refine Qr ?_;simp only[go_sem,AE.X.next];refine Qa ?_;simp only[go_sem];refine Qg ?_;simp only[go_sem,Qq,Q1,Ad,Ja,forall_eq,RS.op];exact hK _ _ _ kn (.inr ⟨y,M,dn,by rw[hn],rfl,by rw[Q8,hn],cw,IM,an⟩)
theorem LZ {fl:Bool}(hK:∀H' L cs,Kn H H' [] L→OwL L cs [.sl false 3 (Ae fns)]→K (.ag cs) H'):Qi prog F5 [.ag [.sl fl 3 (Ae fns)]] H K:=by
 refine Qb Ab Qawz ?_;refine Qa ?_;simp only[go_sem];intro x2 eG H1 h1;have kn:=(Kn.aw H).al eG h1;refine Qa ?_;simp only[go_sem];intro x3 eF H2 h2;have kn:=kn.al eF h2;have g3:=kn.l 1 rfl;refine Qa ?_;simp only[go_sem,g3];refine TP (fun f hf H1 K' cL=>Qb13 cL) fun H3 La ta k2 oa=>?_;have kn:=kn.comp0 k2;have g3:=kn.l 1 rfl;have ha:=oa.ah;simp only[go_sem,Quu,g3,ha];intro H4 h4;have kn:=kn.aT 1 rfl h4;have g3:=kn.l 1 rfl;have g2:=kn.l 0 rfl;refine Qa ?_;simp only[go_sem,g2,g3,ha];intro H5 h5;have kn:=kn.aT 0 rfl h5;have g2:=kn.l 0 rfl;refine Qg ?_;simp only[go_sem,Qq,Q1,Es,Ja,forall_eq,RS.op,g2,ha];exact hK _ La _ (kn.sub (List.sublist_append_right [_,_] _)) oa.one
theorem NU {l:List Ex}{fl fl2:Bool}(hf:∀x∈l,∀(H1:Heap) (K':V→Heap→Prop),K' (.c (.bool true)) H1→Qi prog Iq [.ag x.cells,.ag x.cells] H1 K')
  (hK:K (.c (.bool true)) H):Qi prog PF [.c (.sl fl 4 (Af l)),.c (.sl fl2 4 (Af l))] H K:=by
 refine Qb Ab Qba0 ?_;refine Qa ?_;simp only[go_sem];refine Qp (Qa ?_);simp only[go_sem,Qt];intro hl;simp only[LIM]at hl;refine Qe (Qc rfl (fun h=>by simp at h) (fun _=>?_));refine Qd ?_;try simp only[go_sem]
 refine Qp (Qa ?_);simp only[go_sem];refine Qe (Qf (Qu (fun m e1 H1=>∃(i:Nat),m=l.length-i∧i≤l.length∧H1=H∧
  e1=[(0,.c (.sl fl 4 (Af l))),(1,.c (.sl fl2 4 (Af l))),(5,.c (.int .i64 i))]) l.length ?_ ?_))
 ·exact⟨0,by omega,by omega,rfl,rfl⟩
 ·rintro m e1 H1 ⟨i,hm,hi,rfl,rfl⟩;refine Qp (Qa ?_);simp only[go_sem,Qt];intro _;refine Qe (Qc rfl ?_ ?_)
  ·intro hc;have aa:i<l.length:=by simpa using hc
   obtain⟨x,hx⟩:∃x,l[i]=x:=⟨_,rfl⟩;have eO:x∈l:=by rw[←hx];exact Jf aa
   refine Qd ?_;try simp only[go_sem]
   refine Qe (Qf ?_);refine Ak ?_;simp only[go_sem,aa,Qt,B7 _ _ aa,hx,Ex.b9,Ex.aX,Ex.aj];refine hf x eO H1 _ ?_;simp only[go_sem,Q4i];refine Qc rfl (fun h=>by simp[lk]at h) (fun _=>?_);refine Qd ?_;try simp only[go_sem,AE.X.next]
   refine Qn ?_;simp only[go_sem,AE.X.next];exact⟨Ql,l.length-(i+1),by omega,i+1,rfl,by omega,rfl⟩
  ·intro hc;refine Qr ?_;simp only[go_sem,AE.X.next];refine Qa ?_;simp only[go_sem];refine Qg ?_;simp only[go_sem,Qq,Q1,Aa,Ja,forall_eq,RS.op];exact hK
theorem K7:∀(n:Nat) (x:Ex) {H:Heap} {K:V→Heap→Prop},x.size≤n→K (.c (.bool true)) H→Qi prog Iq [.ag x.cells,.ag x.cells] H K:=by
 intro n
 induction n with
 |zero=>intro x H K h;have:=x.size_pos;omega
 |succ n ih=>
 intro x H K hn hK;have be:=x.size_kids;refine Qb Ab Qbf9 ?_;refine Qa ?_;simp only[go_sem,x.ab];refine Qp (Qa ?_);simp only[go_sem];refine Qe (Qc rfl (fun h=>by simp[lk]at h) (fun _=>?_));refine Qd ?_;try simp only[go_sem]
 refine Qp (Qa ?_);simp only[go_sem];refine Qe (Qc rfl (fun h=>by simp[lk]at h) (fun _=>?_));refine Qd ?_;try simp only[go_sem]
 refine Qp (Qa ?_);simp only[go_sem];refine Qe (Qc rfl (fun h=>by simp[lk]at h) (fun _=>?_));refine Qd ?_;try simp only[go_sem]
 refine Qp (Qa ?_);simp only[go_sem];refine NU (fun y hy H1 K' cL=>ih y (by have:=B0 hy;omega) cL) ?_;simp only[go_sem,Q8z];refine Qe (Qc rfl (fun h=>by simp[lk]at h) (fun _=>?_));refine Qd ?_;try simp only[go_sem]
 refine Qa ?_;simp only[go_sem];refine Qg ?_;simp only[go_sem,Qq,Q1,Aa,Ja,forall_eq,RS.op];exact hK
theorem MK {l:List (List UInt8)}{fl fl2:Bool}(hK:K (.c (.bool true)) H):Qi prog PX [.c (.sl fl 1 (Q3 l)),.c (.sl fl2 1 (Q3 l))] H K:=by
 refine Qb Ab Qaww ?_;refine Qa ?_;simp only[go_sem];refine Qp (Qa ?_);simp only[go_sem,Qs];intro hl;simp only[LIM]at hl;refine Qe (Qc rfl (fun h=>by simp at h) (fun _=>?_));refine Qd ?_;try simp only[go_sem]
 refine Qp (Qa ?_);simp only[go_sem];refine Qe (Qf (Qu (fun m e1 H1=>∃(i:Nat),m=l.length-i∧i≤l.length∧H1=H∧
  e1=[(0,.c (.sl fl 1 (Q3 l))),(1,.c (.sl fl2 1 (Q3 l))),(5,.c (.int .i64 i))]) l.length ?_ ?_))
 ·exact⟨0,by omega,by omega,rfl,rfl⟩
 ·rintro m e1 H1 ⟨i,hm,hi,rfl,rfl⟩;refine Qp (Qa ?_);simp only[go_sem,Qs];intro _;refine Qe (Qc rfl ?_ ?_)
  ·intro hc;have aa:i<l.length:=by simpa using hc
   obtain⟨x,hx⟩:∃x,l[i]=x:=⟨_,rfl⟩;have eO:x∈l:=by rw[←hx];exact Jf aa
   refine Qd ?_;try simp only[go_sem]
   refine Qe (Qf ?_);have oY:l.getD i []=x:=by simp[Jc,aa,hx]
   refine Ak ?_;simp only[go_sem,aa,Qs,Dk _ _ aa,oY];refine Qc rfl (fun h=>by simp[lk]at h) (fun _=>?_);refine Qd ?_;try simp only[go_sem,AE.X.next]
   refine Qn ?_;simp only[go_sem,AE.X.next];exact⟨Ql,l.length-(i+1),by omega,i+1,rfl,by omega,rfl⟩
  ·intro hc;refine Qr ?_;simp only[go_sem,AE.X.next];refine Qa ?_;simp only[go_sem];refine Qg ?_;simp only[go_sem,Qq,Q1,Aa,Ja,forall_eq,RS.op];exact hK
theorem Gi {l:List St}{fl fl2:Bool}(hf:∀x∈l,∀(H1:Heap) (K':V→Heap→Prop),K' (.c (.bool true)) H1→Qi prog P5 [.ag x.cells,.ag x.cells] H1 K')
  (hK:K (.c (.bool true)) H):Qi prog Iw [.c (.sl fl 5 (Qv l)),.c (.sl fl2 5 (Qv l))] H K:=by
 refine Qb Ab Qba1 ?_;refine Qa ?_;simp only[go_sem];refine Qp (Qa ?_);simp only[go_sem,Q7];intro hl;simp only[LIM]at hl;refine Qe (Qc rfl (fun h=>by simp at h) (fun _=>?_));refine Qd ?_;try simp only[go_sem]
 refine Qp (Qa ?_);simp only[go_sem];refine Qe (Qf (Qu (fun m e1 H1=>∃(i:Nat),m=l.length-i∧i≤l.length∧H1=H∧
  e1=[(0,.c (.sl fl 5 (Qv l))),(1,.c (.sl fl2 5 (Qv l))),(5,.c (.int .i64 i))]) l.length ?_ ?_))
 ·exact⟨0,by omega,by omega,rfl,rfl⟩
 ·rintro m e1 H1 ⟨i,hm,hi,rfl,rfl⟩;refine Qp (Qa ?_);simp only[go_sem,Q7];intro _;refine Qe (Qc rfl ?_ ?_)
  ·intro hc;have aa:i<l.length:=by simpa using hc
   obtain⟨x,hx⟩:∃x,l[i]=x:=⟨_,rfl⟩;have eO:x∈l:=by rw[←hx];exact Jf aa
   refine Qd ?_;try simp only[go_sem]
   refine Qe (Qf ?_);refine Ak ?_;simp only[go_sem,aa,Q7,Ct _ _ aa,hx,St.take5,St.aX,St.aj];refine hf x eO H1 _ ?_;simp only[go_sem,Q4j];refine Qc rfl (fun h=>by simp[lk]at h) (fun _=>?_);refine Qd ?_;try simp only[go_sem,AE.X.next]
   refine Qn ?_;simp only[go_sem,AE.X.next];exact⟨Ql,l.length-(i+1),by omega,i+1,rfl,by omega,rfl⟩
  ·intro hc;refine Qr ?_;simp only[go_sem,AE.X.next];refine Qa ?_;simp only[go_sem];refine Qg ?_;simp only[go_sem,Qq,Q1,Aa,Ja,forall_eq,RS.op];exact hK
theorem Yn:∀(n:Nat) (x:St) {H:Heap} {K:V→Heap→Prop},x.size≤n→K (.c (.bool true)) H→Qi prog P5 [.ag x.cells,.ag x.cells] H K:=by
 intro n
 induction n with
 |zero=>intro x H K h;have:=x.size_pos2;omega
 |succ n ih=>
 intro x H K hn hK;have be:=x.size_eq;refine Qb Ab Qbgd ?_;refine Qa ?_;simp only[go_sem,x.ab];refine Qp (Qa ?_);simp only[go_sem];refine Qe (Qc rfl (fun h=>by simp[lk]at h) (fun _=>?_));refine Qd ?_;try simp only[go_sem]
 refine Qp (Qa ?_);simp only[go_sem];refine Qe (Qc rfl (fun h=>by simp[lk]at h) (fun _=>?_));refine Qd ?_;try simp only[go_sem]
 refine Qp (Qa ?_);simp only[go_sem];refine NU (fun y hy H1 K' cL=>K7 y.size y (Jo _) cL) ?_;simp only[go_sem,Q82];refine Qe (Qc rfl (fun h=>by simp[lk]at h) (fun _=>?_));refine Qd ?_;try simp only[go_sem]
 refine Qp (Qa ?_);simp only[go_sem];refine Gi (fun y hy H1 K' cL=>ih y (by have:=Cv hy;omega) cL) ?_;simp only[go_sem,Q83];refine Qe (Qc rfl (fun h=>by simp[lk]at h) (fun _=>?_));refine Qd ?_;try simp only[go_sem]
 refine Qp (Qa ?_);simp only[go_sem];refine Gi (fun y hy H1 K' cL=>ih y (by have:=Cv hy;omega) cL) ?_;simp only[go_sem,Q84];refine Qe (Qc rfl (fun h=>by simp[lk]at h) (fun _=>?_));refine Qd ?_;try simp only[go_sem]
 refine Qa ?_;simp only[go_sem];refine Qg ?_;simp only[go_sem,Qq,Q1,Aa,Ja,forall_eq,RS.op];exact hK
theorem Qb0u {f:Fn}(hK:K (.c (.bool true)) H):Qi prog Ro [.ag f.cells,.ag f.cells] H K:=by
 refine Qb Ab Qbqt ?_;refine Qa ?_;simp only[go_sem,Fn.cells];refine Qp (Qa ?_);simp only[go_sem];refine Qe (Qc rfl (fun h=>by simp[lk]at h) (fun _=>?_));refine Qd ?_;try simp only[go_sem]
 refine Qp (Qa ?_);simp only[go_sem];refine MK ?_;simp only[go_sem,MT];refine Qe (Qc rfl (fun h=>by simp[lk]at h) (fun _=>?_));refine Qd ?_;try simp only[go_sem]
 refine Qp (Qa ?_);simp only[go_sem];refine Gi (fun y hy H1 K' cL=>Yn y.size y (Jo _) cL) ?_;simp only[go_sem,MS];refine Qe (Qc rfl (fun h=>by simp[lk]at h) (fun _=>?_));refine Qd ?_;try simp only[go_sem]
 refine Qa ?_;simp only[go_sem];refine Qg ?_;simp only[go_sem,Qq,Q1,Aa,Ja,forall_eq,RS.op];exact hK
theorem Vi {l:List Fn}{fl fl2:Bool}(hf:∀x∈l,∀(H1:Heap) (K':V→Heap→Prop),K' (.c (.bool true)) H1→Qi prog Ro [.ag x.cells,.ag x.cells] H1 K')
  (hK:K (.c (.bool true)) H):Qi prog Q9l [.c (.sl fl 3 (Ae l)),.c (.sl fl2 3 (Ae l))] H K:=by
 refine Qb Ab Qbl9 ?_;refine Qa ?_;simp only[go_sem];refine Qp (Qa ?_);simp only[go_sem,Q8];intro hl;simp only[LIM]at hl;refine Qe (Qc rfl (fun h=>by simp at h) (fun _=>?_));refine Qd ?_;try simp only[go_sem]
 refine Qp (Qa ?_);simp only[go_sem];refine Qe (Qf (Qu (fun m e1 H1=>∃(i:Nat),m=l.length-i∧i≤l.length∧H1=H∧
  e1=[(0,.c (.sl fl 3 (Ae l))),(1,.c (.sl fl2 3 (Ae l))),(5,.c (.int .i64 i))]) l.length ?_ ?_))
 ·exact⟨0,by omega,by omega,rfl,rfl⟩
 ·rintro m e1 H1 ⟨i,hm,hi,rfl,rfl⟩;refine Qp (Qa ?_);simp only[go_sem,Q8];intro _;refine Qe (Qc rfl ?_ ?_)
  ·intro hc;have aa:i<l.length:=by simpa using hc
   obtain⟨x,hx⟩:∃x,l[i]=x:=⟨_,rfl⟩;have eO:x∈l:=by rw[←hx];exact Jf aa
   refine Qd ?_;try simp only[go_sem]
   refine Qe (Qf ?_);refine Ak ?_;simp only[go_sem,aa,Q8,Cu _ _ aa,hx,Fn.take3,Fn.aX,Fn.aj];refine hf x eO H1 _ ?_;simp only[go_sem,NA];refine Qc rfl (fun h=>by simp[lk]at h) (fun _=>?_);refine Qd ?_;try simp only[go_sem,AE.X.next]
   refine Qn ?_;simp only[go_sem,AE.X.next];exact⟨Ql,l.length-(i+1),by omega,i+1,rfl,by omega,rfl⟩
  ·intro hc;refine Qr ?_;simp only[go_sem,AE.X.next];refine Qa ?_;simp only[go_sem];refine Qg ?_;simp only[go_sem,Qq,Q1,Aa,Ja,forall_eq,RS.op];exact hK
theorem Qbfh {fl fl2:Bool}(hK:K (.c (.bool true)) H):Qi prog Sl [.ag [.sl fl 3 (Ae fns)],.ag [.sl fl2 3 (Ae fns)]] H K:=by
 refine Qb Ab Qawv ?_;refine Qa ?_;simp only[go_sem];refine Qp (Qa ?_);simp only[go_sem];refine Vi (fun f hf H1 K' cL=>Qb0u cL) ?_;simp only[go_sem,Quk];refine Qe (Qc rfl (fun h=>by simp[lk]at h) (fun _=>?_));refine Qd ?_;try simp only[go_sem]
 refine Qa ?_;simp only[go_sem];refine Qg ?_;simp only[go_sem,Qq,Q1,Aa,Ja,forall_eq,RS.op];exact hK
end Go.AE.Y
namespace Go.AE.Y
attribute [local go_sem] cond_true cond_false Bool.not_true Bool.not_false
open Go.Proofs.Tryz
variable {H H0 F:Heap}{K:V→Heap→Prop}
theorem inR8 {x:Int}(h1:0≤x)(h2:x<256):inR .u8 x:=by
 unfold inR;have a1:IntKind.min .u8=0:=by decide
 have a2:IntKind.max .u8=255:=by decide
 rw[a1,a2];omega
theorem YM (f:Nat)(s:List UInt8):dgT f 0 s=s:=by cases f <;> simp[dgT]
theorem Yz {f k:Nat}{s:List UInt8}(h0:0<k)(h:k<10 ^ f):∃f',f=f'+1∧k / 10<10 ^ f'∧dgT f k s=dgT f' (k / 10) (UInt8.ofNat (48+k % 10)::s):=by
 match f,h with
 |0,h=>simp at h;omega
 |f+1,h=>
  refine⟨f,rfl,?_,?_⟩
  ·rw[Nat.pow_succ]at h;omega
  ·rw[dgT,if_neg (by omega)]
theorem Rk {k:Nat}(hb:k<2 ^ 62)(hK:K (.c (.str (mkT k))) H):Qi prog HS [.c (.int .i64 k)] H K:=by
 refine Qb Ab Qa5d ?_;refine Qa ?_;simp only[go_sem];refine Qp (Qa ?_);simp only[go_sem];refine Qe (Qc rfl (fun hc=>?_) (fun hc=>?_))
 ·have h0:k=0:=by have:=of_decide_eq_true hc;omega
  subst h0;refine Qa ?_;simp only[go_sem];refine Qg ?_;simp only[go_sem,Qq,Q1,Ad,Ja,forall_eq,RS.op];exact hK
 ·have h0:0<k:=by have:=of_decide_eq_false hc;omega
  rw[mkT,if_neg (by omega)]at hK;refine Qd ?_;try simp only[go_sem]
  refine Qa ?_;simp only[go_sem];refine Qe (Qf (Qu (fun m e1 H1=>∃(f ki:Nat) (s:List UInt8),m=ki∧H1=H∧ki<2 ^ 62∧ki<10 ^ f∧s.length+f=64∧dgT f ki s=dgT 64 k []∧
   e1=[(0,.c (.int .i64 ki)),(3,.c (.str s))]) k ?_ ?_))
  ·exact⟨64,k,[],rfl,rfl,hb,Nat.lt_of_lt_of_le hb (by decide),rfl,rfl,rfl⟩
  ·rintro m e1 H1 ⟨f,ki,s,rfl,rfl,aV,hf,hl,hd,rfl⟩;refine Qp (Qa ?_);simp only[go_sem];refine Qe (Qc rfl (fun hc=>?_) (fun hc=>?_))
   ·have h1:0<m:=(by have:=of_decide_eq_true hc;omega);obtain⟨f',rfl,cN,hs⟩:=Yz (s:=s) h1 hf;refine Qd ?_;try simp only[go_sem]
    refine Qf (Qa ?_);simp only[go_sem];have e1:(m:Int).tmod 10=((m % 10:Nat):Int):=(by rw[Int.tmod_eq_emod_of_nonneg (by omega)];omega);have e2:((48:Int)+((m % 10:Nat):Int)).toNat=48+m % 10:=(by omega);rw[e1,e2];have hm:m % 10<10:=Nat.mod_lt _ (by omega);refine⟨by omega,Ql,inR8 (by omega) (by omega),by simp only[LIM];omega,?_⟩;refine Qn ?_;simp only[go_sem,AE.X.next];have e3:(m:Int).tdiv 10=((m / 10:Nat):Int):=(by rw[Int.tdiv_eq_ediv_of_nonneg (by omega)];omega);rw[e3];exact⟨⟨by omega,Ql⟩,m / 10,by omega,f',m / 10,UInt8.ofNat (48+m % 10)::s,rfl,by omega,cN,by simp only[Jj];omega,by rw[←hs,hd],rfl⟩
   ·have h1:m=0:=(by have:=of_decide_eq_false hc;omega);subst h1;rw[YM]at hd;refine Qr ?_;simp only[go_sem,AE.X.next];refine Qa ?_;simp only[go_sem];refine⟨by simp only[LIM];omega,?_⟩;refine Qg ?_;simp only[go_sem,Qq,Q1,Ad,Ja,forall_eq,RS.op];rw[hd];exact hK
end Go.AE.Y
namespace Go.AE
variable {H0 H H':Heap}{E L M M1 M1' A B:List (Nat×Obj)}
theorem Kn.callM (kn:Kn H0 H (A++(M1++B)) L)(hu:Upd H H' M1')(hf:M1'.map Prod.fst=M1.map Prod.fst)(bm:∀p∈M1',p.2≠.none):Kn H0 H' (A++(M1'++B)) L:=by
 have hd:=kn.dE;simp only[Jp]at hd;obtain⟨d1,d2,d3⟩:=Js.1 hd;obtain⟨d4,d5,d6⟩:=Js.1 d2;refine kn.callg hu (by simp only[Jp,hf]) rfl (fun p hp=>?_) (fun m hm=>.inl (by simp only[Jp,Ji];rw[←hf];exact .inr (.inl (Jw.2 ⟨m,hm,rfl⟩))));have keep:p∈(A++(M1++B))++L→p.1∉M1.map Prod.fst→p.2≠.none∧(p∈M1'∨p∈(A++(M1++B))++L∧p.1∉M1'.map Prod.fst):=fun h1 h2=>⟨(kn.get p h1).2,.inr ⟨h1,by rw[hf];exact h2⟩⟩;rcases Ji.1 hp with hp|hp
 ·rcases Ji.1 hp with hp|hp
  ·exact keep (by simp[hp]) fun hm=>d3 _ (BO hp) _ (Jr _ hm) rfl
  ·rcases Ji.1 hp with hp|hp
   ·exact⟨bm p hp,.inl hp⟩
   ·exact keep (by simp[hp]) fun hm=>d6 _ hm _ (BO hp) rfl
 ·refine keep (by simp[hp]) fun hm=>?_;obtain⟨q,hq,mq⟩:=Jw.1 hm;have h1:=kn.loc p hp;exact kn.ext q (by simp[hq]) (by rw[mq];exact h1)
theorem OwL.uncons {r a:List C}{td rest:List (List C)}(h:OwL L (r::td).flatten (a::rest).flatten)(hl:r.length=a.length):∃L1 L2,L=L1++L2∧OwL L1 r a∧OwL L2 td.flatten rest.flatten:=by
 rw[List.flatten_cons,List.flatten_cons]at h;obtain⟨L1,L2,a',b',rfl,h1,h2,h3⟩:=h.split;obtain⟨rfl,rfl⟩:=List.append_inj h1 (by rw[h2.len,hl]);exact⟨L1,L2,rfl,h2,h3⟩
theorem OwS.vecs {sz:Nat}{rows':List (List C)}{t:C}(h:OwS L sz rows' t):∀p∈L,p.2≠.none:=fun p hp=>by
 obtain⟨z,r,h1,_⟩:=h.one.vecs p hp;rw[h1];nofun
theorem ndM1 {y:Nat}{o:Obj}{Md M1 M2:List (Nat×Obj)}(h:(((y,o)::(Md++(M1++M2))).map Prod.fst).Nodup):(M1.map Prod.fst).Nodup:=by
 simp only[J2,Jp,Jao]at h;exact (Js.1 (Js.1 h.2).2.1).1
theorem DG {A M B:List (Nat×Obj)}(h:((A++(M++B)).map Prod.fst).Nodup):(M.map Prod.fst).Nodup:=by
 simp only[Jp]at h;exact (Js.1 (Js.1 h).2.1).1
theorem Cg {dn td:List (List C)}{r:List C}{i:Nat}(h:dn.length=i):(dn++r::td).getD (0+i) []=r:=by
 rw[Jag,Jc,Jx (by omega)];simp[h]
theorem Da {dn td:List (List C)}{r:List C}{i:Nat}(h:dn.length=i):(dn++r::td).getD i []=r:=by
 rw[Jc,Jx (by omega)];simp[h]
theorem Cd {dn td:List (List C)}{r r':List C}{i:Nat}(h:dn.length=i):(dn++r::td).set (0+i) r'=dn++r'::td:=by
 rw[Jag,Jap _ _ (by omega)];simp[h]
end Go.AE
namespace Go.AE.Y
def AY:List (List UInt8)→Nat
 |[]=>0
 |_::r=>1+AY r
theorem HK:∀l,AY l=l.length
 |[]=>rfl
 |_::r=>by rw[AY,HK r,Jj];omega
theorem Mf (a b:List (List UInt8)):AY (a++b)=AY a+AY b:=by simp only[HK,Jm]
theorem Qa9o (a b:List (List UInt8))(k:Nat):Cr (a++b) k=Cr a k++Cr b (k+AY a):=by rw[Qbew,HK]
attribute [local go_sem] cond_true cond_false Bool.not_true Bool.not_false
open Go.Proofs.Tryz
variable {H H0 F:Heap}{K:V→Heap→Prop}{fns:List Fn}
theorem OwL.ex {L:List (Nat×Obj)}{cs:List C}{x:Ex}(h:OwL L cs x.cells):∃t,cs=[.int .i64 x.op,.int .i64 x.n,.str x.name,t]∧OwS L 4 (Af x.kids) t:=by
 rw[x.ab]at h;obtain⟨c1,e1,h1⟩:=h.inv_atom rfl;obtain⟨c2,e2,h2⟩:=h1.inv_atom rfl;obtain⟨c3,e3,h3⟩:=h2.inv_atom rfl;obtain⟨t,e4,h4⟩:=h3.inv_one;exact⟨t,by rw[e1,e2,e3,e4],h4⟩
theorem OwL.st {L:List (Nat×Obj)}{cs:List C}{x:St}(h:OwL L cs x.cells):∃La Lb Lc ta tb tc,cs=[.int .i64 x.op,.str x.name,ta,tb,tc]∧L=La++(Lb++Lc)∧OwS La 4 (Af x.args) ta∧OwS Lb 5 (Qv x.body) tb∧OwS Lc 5 (Qv x.els) tc:=by
 rw[x.ab]at h;obtain⟨c1,e1,h1⟩:=h.inv_atom rfl;obtain⟨c2,e2,h2⟩:=h1.inv_atom rfl;obtain⟨ta,c3,La,L2,e3,f3,ha,h3⟩:=h2.inv_sl;obtain⟨tb,c4,Lb,L3,e4,f4,hb,h4⟩:=h3.inv_sl;obtain⟨tc,e5,hc⟩:=h4.inv_one;exact⟨La,Lb,L3,ta,tb,tc,by rw[e1,e2,e3,e4,e5],by rw[f3,f4],ha,hb,hc⟩
theorem MA:∀(n:Nat) (l:List Ex) (L:List (Nat×Obj)) (t:C) (k:Nat) (H:Heap) (K:V→Heap→Prop),Q4 l≤n→OwS L 4 (Af l) t→(∀p∈L,H p.1=p.2)→(L.map Prod.fst).Nodup→k+Au l<2 ^ 62→
  (∀H' L',L'.map Prod.fst=L.map Prod.fst→OwS L' 4 (Af (Cl l k)) t→Upd H H' L'→K (.c (.int .i64 ((k+Au l:Nat):Int))) H')→Qi prog I8 [.c t,.c (.int .i64 (k:Nat))] H K:=by
 intro n
 induction n using Nat.strongRecOn with
 |ind n ih=>
 intro l L t k H K hn ho hm hd hb hK;rcases ho with ⟨rfl,h1,rfl⟩|⟨y,M,rows,rfl,rfl,bZ,cw,_,ho⟩
 ·have:l=[]:=Jn.1 (by rw[←Qt,h1];rfl);subst this;refine Qb Ab Q7y ?_;refine Qa ?_;simp only[go_sem];refine Qp (Qa ?_);simp only[go_sem];refine Qe (Qf (Qu (fun m e1 H1=>H1=H∧e1=[(0,.c (.sl true 4 [])),(1,.c (.int .i64 (k:Nat))),(5,.c (.int .i64 0))]) 0 ?_ ?_))
  ·exact⟨rfl,rfl⟩
  ·rintro m e1 H1 ⟨rfl,rfl⟩;refine Qp (Qa ?_);simp only[go_sem];refine Qe (Qc rfl (fun h=>by simp[lk]at h) (fun _=>?_));refine Qr ?_;simp only[go_sem,AE.X.next];refine Qa ?_;simp only[go_sem];refine Qg ?_;simp only[go_sem,Qq,Q1,Aa,Ja,forall_eq,RS.op];exact hK _ [] rfl (.inl ⟨rfl,rfl,rfl⟩) ⟨by simp,fun _ _ _=>rfl⟩
 ·have dq:l.length=rows.length:=by rw[←Qt];exact bZ
  refine Qb Ab Q7y ?_;refine Qa ?_;simp only[go_sem];refine Qp (Qa ?_);simp only[go_sem];refine Qe (Qf (Qu (fun m e1 H1=>∃(i:Nat) (dn td:List (List C)) (Md Mt:List (Nat×Obj)),m=l.length-i∧i≤l.length∧dn.length=i∧td.length=l.length-i∧(∀r∈dn,r.length=4)∧(∀r∈td,r.length=4)∧
   OwL Md dn.flatten (Af (Cl (l.take i) k)).flatten∧OwL Mt td.flatten (Af (l.drop i)).flatten∧(Md++Mt).map Prod.fst=M.map Prod.fst∧Kn H H1 ((y,.vec 4 (dn++td))::(Md++Mt)) []∧
   e1=[(0,.c (.aG y 4 0 rows.length)),(1,.c (.int .i64 ((k+Au (l.take i):Nat):Int))),(5,.c (.int .i64 i))]) l.length ?_ ?_))
  ·exact⟨0,[],rows,[],M,by omega,by omega,rfl,by omega,by simp,cw,.nil,ho,rfl,.startE (fun p hp=>⟨hm p hp,by
    rcases J3.1 hp with rfl|hp
    ·nofun
    ·obtain⟨z,r,h1,_⟩:=ho.vecs p hp;rw[h1];nofun⟩) hd,rfl⟩
  ·rintro m e1 H1 ⟨i,dn,td,Md,Mt,hm,hi,bq,cF,dK,dF,cy,bI,bu,kn,rfl⟩;have gy:=kn.e 0 rfl;have ai:(dn++td).length=rows.length:=by rw[Jm];omega
   refine Qp (Qa ?_);simp only[go_sem,gy,ai];refine⟨by omega,fun bS=>?_⟩;simp only[LIM]at bS;refine Qe (Qc rfl ?_ ?_)
   ·intro hc;have aa:i<l.length:=(by have:=of_decide_eq_true hc;omega);have aW:i<rows.length:=(by omega);obtain⟨x,hx⟩:∃x,l[i]=x:=⟨_,rfl⟩;have dC:l.drop i=x::l.drop (i+1):=(by rw[Jy aa,hx]);have aO:l.take (i+1)=l.take i++[x]:=(by rw[Jd aa,hx]);obtain⟨r,td,rfl⟩:∃r td',td=r::td':=by
     cases td with
     |nil=>simp at cF;omega
     |cons r td'=>exact⟨r,td',rfl⟩
    have hr:=dF r (by simp);rw[dC,show Af (x::l.drop (i+1))=x.cells::Af (l.drop (i+1)) from by simp[Fw]]at bI;obtain⟨M1,M2,rfl,dH,fv⟩:=bI.uncons (by rw[hr,x.aj]);have cS:Au (l.take (i+1))=Au (l.take i)+Au [x]:=(by rw[aO,OJ]);have a9:Au (l.take (i+1))≤Au l:=by
     have:=OJ (l.take (i+1)) (l.drop (i+1));rw[J4]at this;omega
    have jn:x∈l:=(by rw[←hx];exact Jf aa);obtain⟨kk,bD⟩:∃kk,k+Au (l.take i)=kk:=⟨_,rfl⟩;rw[bD];simp only[Au]at cS;obtain⟨tk,rfl,aM⟩:=OwL.ex dH;have ef:=aM.ah;have ai:∀r:List C,(dn++r::td).length=rows.length:=fun r=>by
     simp only[Jm,Jj]at cF⊢;omega
    have bC:∀r:List C,List.take rows.length (dn++r::td)=dn++r::td:=fun r=>Jb (by rw[ai r];omega);have dt:=x.cnt_eq;refine Qd ?_;try simp only[go_sem]
    refine Qe (Qf ?_);refine Qa ?_;simp only[go_sem,gy,ai,aW,Cg bq,ef];refine⟨by omega,by omega,fun H2 h2=>?_⟩;rw[Cd bq]at h2;have kn:Kn H H2 ((y,.vec 4 (dn++([.int .i64 (kk:Nat),.int .i64 x.n,.str x.name,tk]:List C)::td))::(Md++(M1++M2))) []:=kn.stE 0 rfl h2;have gy:=kn.e 0 rfl;refine Qa ?_;simp only[go_sem];refine⟨Ql,?_⟩;refine Qa ?_;simp only[go_sem,gy,ai,aW,Cg bq,ef];refine⟨by omega,by omega,fun H2 h2=>?_⟩;rw[Cd bq]at h2;have kn:Kn H H2 ((y,.vec 4 (dn++([.int .i64 (kk:Nat),.int .i64 ((kk:Nat)+1),.str x.name,tk]:List C)::td))::(Md++(M1++M2))) []:=kn.stE 0 rfl h2;have gy:=kn.e 0 rfl;refine Qa ?_;simp only[go_sem];refine⟨Ql,?_⟩;refine Qa ?_;simp only[go_sem];refine Rk (k:=kk+2) (by omega) ?_;simp only[go_sem,Qun,gy,ai,aW,Cg bq,ef];refine⟨by omega,by omega,fun H2 h2=>?_⟩;rw[Cd bq]at h2;have kn:Kn H H2 ((y,.vec 4 (dn++([.int .i64 (kk:Nat),.int .i64 ((kk:Nat)+1),.str (mkT (kk+2)),tk]:List C)::td))::(Md++(M1++M2))) []:=kn.stE 0 rfl h2;have gy:=kn.e 0 rfl;refine Qa ?_;simp only[go_sem];refine⟨Ql,?_⟩;refine Qn ?_;simp only[go_sem,gy,ai,aW,bC,Da bq,ef];have e3:((kk:Nat):Int)+1+1+1=((kk+3:Nat):Int):=(by omega);rw[e3];refine⟨by omega,by omega,?_⟩;have hsx:=B0 jn;have hsk:=x.size_kids;refine ih (Q4 x.kids) (by omega) x.kids M1 tk (kk+3) H2 _ (Jo _) aM (fun p hp=>(kn.get p (by simp[hp])).1) (ndM1 kn.dE) (by omega) fun H5 M1' dr iq hu=>?_;have kn:Kn H H5 (((y,_)::Md)++(M1'++M2)) []:=Kn.callM (A:=(y,_)::Md) kn hu dr iq.vecs;simp only[go_sem,Quo];refine Qn ?_;simp only[go_sem,AE.X.next];have e5:k+Au (l.take (i+1))=kk+3+Au x.kids:=(by omega);refine⟨Ql,l.length-(i+1),by omega,i+1,dn++[[.int .i64 (kk:Nat),.int .i64 ((kk:Nat)+1),.str (mkT (kk+2)),tk]],td,Md++M1',M2,rfl,by omega,by simp[bq],by simp only[Jj]at cF;omega,?_,fun r hr=>dF r (by simp[hr]),?_,fv,?_,?_,?_⟩
    ·intro r hr;rcases Ji.1 hr with hr|hr
     ·exact dK r hr
     ·rw[Ja.1 hr];rfl
    ·rw[aO,Qbfk,bD,Qbo9,List.flatten_append,List.flatten_append];refine cy.app ?_;simp only[Cl,Af,Ex.mark_eq,Ex.cells,List.flatten_cons,List.flatten_nil,Jg];exact .atom rfl (.atom rfl (.atom rfl iq.one))
    ·rw[←bu];simp only[Jp,Je,dr]
    ·have:=kn;simpa only[Je,Jk,Jl,Jt]using this
    ·rw[e5];rfl
   ·intro hc;have aC:l.length≤i:=(by have:=of_decide_eq_false hc;omega);rw[Jb aC]at cy;have cE:td=[]:=Jn.1 (by omega);rw[J7 aC]at bI;subst cE;obtain rfl:Mt=[]:=(by cases bI;rfl);rw[Jg]at bu;rw[Jg,Jg]at kn;rw[Jb aC];have cz:rows.length=dn.length:=(by omega);refine Qr ?_;simp only[go_sem,AE.X.next];refine Qa ?_;simp only[go_sem];refine Qg ?_;simp only[go_sem,Qq,Q1,Aa,Ja,forall_eq,RS.op];refine hK _ ((y,.vec 4 dn)::Md) (by simp only[J2,bu]) (.inr ⟨y,Md,dn,by rw[cz],rfl,by rw[Qt,Qbfl];omega,dK,IN,cy⟩) ?_;have:=kn.upd;simpa using this
theorem Qbgl:∀(n:Nat) (l:List St) (L:List (Nat×Obj)) (t:C) (k:Nat) (H:Heap) (K:V→Heap→Prop),Qh l≤n→OwS L 5 (Qv l) t→(∀p∈L,H p.1=p.2)→(L.map Prod.fst).Nodup→k+A7 l<2 ^ 62→
  (∀H' L',L'.map Prod.fst=L.map Prod.fst→OwS L' 5 (Qv (Cj l k)) t→Upd H H' L'→K (.c (.int .i64 ((k+A7 l:Nat):Int))) H')→Qi prog I7 [.c t,.c (.int .i64 (k:Nat))] H K:=by
 intro n
 induction n using Nat.strongRecOn with
 |ind n ih=>
 intro l L t k H K hn ho hm hd hb hK;rcases ho with ⟨rfl,h1,rfl⟩|⟨y,M,rows,rfl,rfl,bZ,cw,_,ho⟩
 ·have:l=[]:=Jn.1 (by rw[←Q7,h1];rfl);subst this;refine Qb Ab Q7z ?_;refine Qa ?_;simp only[go_sem];refine Qp (Qa ?_);simp only[go_sem];refine Qe (Qf (Qu (fun m e1 H1=>H1=H∧e1=[(0,.c (.sl true 5 [])),(1,.c (.int .i64 (k:Nat))),(5,.c (.int .i64 0))]) 0 ?_ ?_))
  ·exact⟨rfl,rfl⟩
  ·rintro m e1 H1 ⟨rfl,rfl⟩;refine Qp (Qa ?_);simp only[go_sem];refine Qe (Qc rfl (fun h=>by simp[lk]at h) (fun _=>?_));refine Qr ?_;simp only[go_sem,AE.X.next];refine Qa ?_;simp only[go_sem];refine Qg ?_;simp only[go_sem,Qq,Q1,Aa,Ja,forall_eq,RS.op];exact hK _ [] rfl (.inl ⟨rfl,rfl,rfl⟩) ⟨by simp,fun _ _ _=>rfl⟩
 ·have dq:l.length=rows.length:=by rw[←Q7];exact bZ
  refine Qb Ab Q7z ?_;refine Qa ?_;simp only[go_sem];refine Qp (Qa ?_);simp only[go_sem];refine Qe (Qf (Qu (fun m e1 H1=>∃(i:Nat) (dn td:List (List C)) (Md Mt:List (Nat×Obj)),m=l.length-i∧i≤l.length∧dn.length=i∧td.length=l.length-i∧(∀r∈dn,r.length=5)∧(∀r∈td,r.length=5)∧
   OwL Md dn.flatten (Qv (Cj (l.take i) k)).flatten∧OwL Mt td.flatten (Qv (l.drop i)).flatten∧(Md++Mt).map Prod.fst=M.map Prod.fst∧Kn H H1 ((y,.vec 5 (dn++td))::(Md++Mt)) []∧
   e1=[(0,.c (.aG y 5 0 rows.length)),(1,.c (.int .i64 ((k+A7 (l.take i):Nat):Int))),(5,.c (.int .i64 i))]) l.length ?_ ?_))
  ·exact⟨0,[],rows,[],M,by omega,by omega,rfl,by omega,by simp,cw,.nil,ho,rfl,.startE (fun p hp=>⟨hm p hp,by
    rcases J3.1 hp with rfl|hp
    ·nofun
    ·obtain⟨z,r,h1,_⟩:=ho.vecs p hp;rw[h1];nofun⟩) hd,rfl⟩
  ·rintro m e1 H1 ⟨i,dn,td,Md,Mt,hm,hi,bq,cF,dK,dF,cy,bI,bu,kn,rfl⟩;have gy:=kn.e 0 rfl;have ai:(dn++td).length=rows.length:=by rw[Jm];omega
   refine Qp (Qa ?_);simp only[go_sem,gy,ai];refine⟨by omega,fun bS=>?_⟩;simp only[LIM]at bS;refine Qe (Qc rfl ?_ ?_)
   ·intro hc;have aa:i<l.length:=(by have:=of_decide_eq_true hc;omega);have aW:i<rows.length:=(by omega);obtain⟨x,hx⟩:∃x,l[i]=x:=⟨_,rfl⟩;have dC:l.drop i=x::l.drop (i+1):=(by rw[Jy aa,hx]);have aO:l.take (i+1)=l.take i++[x]:=(by rw[Jd aa,hx]);obtain⟨r,td,rfl⟩:∃r td',td=r::td':=by
     cases td with
     |nil=>simp at cF;omega
     |cons r td'=>exact⟨r,td',rfl⟩
    have hr:=dF r (by simp);rw[dC,show Qv (x::l.drop (i+1))=x.cells::Qv (l.drop (i+1)) from by simp[Fv]]at bI;obtain⟨M1,M2,rfl,dH,fv⟩:=bI.uncons (by rw[hr,x.aj]);have cS:A7 (l.take (i+1))=A7 (l.take i)+A7 [x]:=(by rw[aO,Me]);have a9:A7 (l.take (i+1))≤A7 l:=by
     have:=Me (l.take (i+1)) (l.drop (i+1));rw[J4]at this;omega
    have jn:x∈l:=(by rw[←hx];exact Jf aa);obtain⟨kk,bD⟩:∃kk,k+A7 (l.take i)=kk:=⟨_,rfl⟩;rw[bD];simp only[A7]at cS;obtain⟨Ma,Mb,Mc,ta,tb,tc,rfl,rfl,ha,aR,bK⟩:=OwL.st dH;have jz:=ha.ah;have cq:=aR.ah;have nk:=bK.ah;have ai:∀r:List C,(dn++r::td).length=rows.length:=fun r=>by
     simp only[Jm,Jj]at cF⊢;omega
    have bC:∀r:List C,List.take rows.length (dn++r::td)=dn++r::td:=fun r=>Jb (by rw[ai r];omega);have dt:=x.mcnt_eq;have hsx:=Cv jn;have hsk:=x.size_eq;refine Qd ?_;try simp only[go_sem]
    refine Qe (Qf ?_);refine Qa ?_;simp only[go_sem,gy,ai,aW,Cg bq,jz,cq,nk];refine⟨by omega,by omega,fun H2 h2=>?_⟩;rw[Cd bq]at h2;have kn:Kn H H2 ((y,.vec 5 (dn++([.int .i64 (kk:Nat),.str x.name,ta,tb,tc]:List C)::td))::(Md++((Ma++(Mb++Mc))++M2))) []:=kn.stE 0 rfl h2;have gy:=kn.e 0 rfl;refine Qa ?_;simp only[go_sem];refine⟨Ql,?_⟩;refine Qa ?_;simp only[go_sem];refine Rk (k:=kk+1) (by omega) ?_;simp only[go_sem,Qup,gy,ai,aW,Cg bq,jz,cq,nk];refine⟨by omega,by omega,fun H2 h2=>?_⟩;rw[Cd bq]at h2;have kn:Kn H H2 ((y,.vec 5 (dn++([.int .i64 (kk:Nat),.str (mkT (kk+1)),ta,tb,tc]:List C)::td))::(Md++((Ma++(Mb++Mc))++M2))) []:=kn.stE 0 rfl h2;have gy:=kn.e 0 rfl;refine Qa ?_;simp only[go_sem];refine⟨Ql,?_⟩;refine Qa ?_;simp only[go_sem,gy,ai,aW,bC,Da bq,jz,cq,nk];refine⟨by omega,by omega,?_⟩;have e1:((kk:Nat):Int)+1+1=((kk+2:Nat):Int):=(by omega);try rw[e1]
    have kn:Kn H H2 (((y,Obj.vec 5 (dn++([.int .i64 (kk:Nat),.str (mkT (kk+1)),ta,tb,tc]:List C)::td))::Md)++(Ma++(Mb++(Mc++M2)))) []:=(by simpa only[Je,Jk,Jl,Jt]using kn);refine MA (Q4 x.args) x.args Ma ta (kk+2) H2 _ (Jo _) ha (fun p hp=>(kn.get p (by simp[hp])).1) (DG kn.dE) (by omega) fun H2 Ma' dr ov hu=>?_;have kn:Kn H H2 (((y,Obj.vec 5 (dn++([.int .i64 (kk:Nat),.str (mkT (kk+1)),ta,tb,tc]:List C)::td))::Md)++(Ma'++(Mb++(Mc++M2)))) []:=Kn.callM kn hu dr ov.vecs;have gy:=kn.e 0 rfl;simp only[go_sem,Quq];refine Qa ?_;simp only[go_sem,gy,ai,aW,bC,Da bq,jz,cq,nk];refine⟨by omega,by omega,?_⟩;have e2:((kk+2+Au x.args:Nat):Int)=((kk+2+Au x.args:Nat):Int):=(by omega);try rw[e2]
    have kn:Kn H H2 (((y,Obj.vec 5 (dn++([.int .i64 (kk:Nat),.str (mkT (kk+1)),ta,tb,tc]:List C)::td))::(Md++Ma'))++(Mb++(Mc++M2))) []:=(by simpa only[Je,Jk,Jl,Jt]using kn);refine ih (Qh x.body) (by omega) x.body Mb tb (kk+2+Au x.args) H2 _ (Jo _) aR (fun p hp=>(kn.get p (by simp[hp])).1) (DG kn.dE) (by omega) fun H2 Mb' cN hb'2 hu=>?_;have kn:Kn H H2 (((y,Obj.vec 5 (dn++([.int .i64 (kk:Nat),.str (mkT (kk+1)),ta,tb,tc]:List C)::td))::(Md++Ma'))++(Mb'++(Mc++M2))) []:=Kn.callM kn hu cN hb'2.vecs;have gy:=kn.e 0 rfl;simp only[go_sem,Qur];refine Qn ?_;simp only[go_sem,gy,ai,aW,bC,Da bq,jz,cq,nk];refine⟨by omega,by omega,?_⟩;have e3:((kk+2+Au x.args+A7 x.body:Nat):Int)=((kk+2+Au x.args+A7 x.body:Nat):Int):=(by omega);try rw[e3]
    have kn:Kn H H2 (((y,Obj.vec 5 (dn++([.int .i64 (kk:Nat),.str (mkT (kk+1)),ta,tb,tc]:List C)::td))::((Md++Ma')++Mb'))++(Mc++M2)) []:=(by simpa only[Je,Jk,Jl,Jt]using kn);refine ih (Qh x.els) (by omega) x.els Mc tc (kk+2+Au x.args+A7 x.body) H2 _ (Jo _) bK (fun p hp=>(kn.get p (by simp[hp])).1) (DG kn.dE) (by omega) fun H2 Mc' iB hc'2 hu=>?_;have kn:Kn H H2 (((y,Obj.vec 5 (dn++([.int .i64 (kk:Nat),.str (mkT (kk+1)),ta,tb,tc]:List C)::td))::((Md++Ma')++Mb'))++(Mc'++M2)) []:=Kn.callM kn hu iB hc'2.vecs;have gy:=kn.e 0 rfl;simp only[go_sem,Qus];refine Qn ?_;simp only[go_sem,AE.X.next];have e5:k+A7 (l.take (i+1))=kk+2+Au x.args+A7 x.body+A7 x.els:=(by omega);refine⟨Ql,l.length-(i+1),by omega,i+1,dn++[[.int .i64 (kk:Nat),.str (mkT (kk+1)),ta,tb,tc]],td,Md++(Ma'++(Mb'++Mc')),M2,rfl,by omega,by simp[bq],by simp only[Jj]at cF;omega,?_,fun r hr=>dF r (by simp[hr]),?_,fv,?_,?_,?_⟩
    ·intro r hr;rcases Ji.1 hr with hr|hr
     ·exact dK r hr
     ·rw[Ja.1 hr];rfl
    ·rw[aO,Qbjv,bD,←Qbs3,List.flatten_append,List.flatten_append];refine cy.app ?_;simp only[Cj,Qv,St.mark_eq,St.cells,List.flatten_cons,List.flatten_nil,Jg];exact .atom rfl (.atom rfl (ov.cons (hb'2.cons hc'2.one)))
    ·rw[←bu];simp only[Jp,Je,dr,cN,iB]
    ·have:=kn;simpa only[Je,Jk,Jl,Jt]using this
    ·rw[e5];rfl
   ·intro hc;have aC:l.length≤i:=(by have:=of_decide_eq_false hc;omega);rw[Jb aC]at cy;have cE:td=[]:=Jn.1 (by omega);rw[J7 aC]at bI;subst cE;obtain rfl:Mt=[]:=(by cases bI;rfl);rw[Jg]at bu;rw[Jg,Jg]at kn;rw[Jb aC];have cz:rows.length=dn.length:=(by omega);refine Qr ?_;simp only[go_sem,AE.X.next];refine Qa ?_;simp only[go_sem];refine Qg ?_;simp only[go_sem,Qq,Q1,Aa,Ja,forall_eq,RS.op];refine hK _ ((y,.vec 5 dn)::Md) (by simp only[J2,bu]) (.inr ⟨y,Md,dn,by rw[cz],rfl,by rw[Q7,Qbjw];omega,dK,ID,cy⟩) ?_;have:=kn.upd;simpa using this
theorem NM:∀(n:Nat) (l:List (List UInt8)) (L:List (Nat×Obj)) (t:C) (k:Nat) (H:Heap) (K:V→Heap→Prop),AY l≤n→OwS L 1 (Q3 l) t→(∀p∈L,H p.1=p.2)→(L.map Prod.fst).Nodup→k+AY l<2 ^ 62→
  (∀H' L',L'.map Prod.fst=L.map Prod.fst→OwS L' 1 (Q3 (Cr l k)) t→Upd H H' L'→K (.c (.int .i64 ((k+AY l:Nat):Int))) H')→Qi prog Rb [.c t,.c (.int .i64 (k:Nat))] H K:=by
 intro n
 induction n using Nat.strongRecOn with
 |ind n ih=>
 intro l L t k H K hn ho hm hd hb hK;rcases ho with ⟨rfl,h1,rfl⟩|⟨y,M,rows,rfl,rfl,bZ,cw,_,ho⟩
 ·have:l=[]:=Jn.1 (by rw[←Qs,h1];rfl);subst this;refine Qb Ab Qxz ?_;refine Qa ?_;simp only[go_sem];refine Qp (Qa ?_);simp only[go_sem];refine Qe (Qf (Qu (fun m e1 H1=>H1=H∧e1=[(0,.c (.sl true 1 [])),(1,.c (.int .i64 (k:Nat))),(5,.c (.int .i64 0))]) 0 ?_ ?_))
  ·exact⟨rfl,rfl⟩
  ·rintro m e1 H1 ⟨rfl,rfl⟩;refine Qp (Qa ?_);simp only[go_sem];refine Qe (Qc rfl (fun h=>by simp[lk]at h) (fun _=>?_));refine Qr ?_;simp only[go_sem,AE.X.next];refine Qa ?_;simp only[go_sem];refine Qg ?_;simp only[go_sem,Qq,Q1,Aa,Ja,forall_eq,RS.op];exact hK _ [] rfl (.inl ⟨rfl,rfl,rfl⟩) ⟨by simp,fun _ _ _=>rfl⟩
 ·have dq:l.length=rows.length:=by rw[←Qs];exact bZ
  refine Qb Ab Qxz ?_;refine Qa ?_;simp only[go_sem];refine Qp (Qa ?_);simp only[go_sem];refine Qe (Qf (Qu (fun m e1 H1=>∃(i:Nat) (dn td:List (List C)) (Md Mt:List (Nat×Obj)),m=l.length-i∧i≤l.length∧dn.length=i∧td.length=l.length-i∧(∀r∈dn,r.length=1)∧(∀r∈td,r.length=1)∧
   OwL Md dn.flatten (Q3 (Cr (l.take i) k)).flatten∧OwL Mt td.flatten (Q3 (l.drop i)).flatten∧(Md++Mt).map Prod.fst=M.map Prod.fst∧Kn H H1 ((y,.vec 1 (dn++td))::(Md++Mt)) []∧
   e1=[(0,.c (.aG y 1 0 rows.length)),(1,.c (.int .i64 ((k+AY (l.take i):Nat):Int))),(5,.c (.int .i64 i))]) l.length ?_ ?_))
  ·exact⟨0,[],rows,[],M,by omega,by omega,rfl,by omega,by simp,cw,.nil,ho,rfl,.startE (fun p hp=>⟨hm p hp,by
    rcases J3.1 hp with rfl|hp
    ·nofun
    ·obtain⟨z,r,h1,_⟩:=ho.vecs p hp;rw[h1];nofun⟩) hd,rfl⟩
  ·rintro m e1 H1 ⟨i,dn,td,Md,Mt,hm,hi,bq,cF,dK,dF,cy,bI,bu,kn,rfl⟩;have gy:=kn.e 0 rfl;have ai:(dn++td).length=rows.length:=by rw[Jm];omega
   refine Qp (Qa ?_);simp only[go_sem,gy,ai];refine⟨by omega,fun bS=>?_⟩;simp only[LIM]at bS;refine Qe (Qc rfl ?_ ?_)
   ·intro hc;have aa:i<l.length:=(by have:=of_decide_eq_true hc;omega);have aW:i<rows.length:=(by omega);obtain⟨x,hx⟩:∃x,l[i]=x:=⟨_,rfl⟩;have dC:l.drop i=x::l.drop (i+1):=(by rw[Jy aa,hx]);have aO:l.take (i+1)=l.take i++[x]:=(by rw[Jd aa,hx]);obtain⟨r,td,rfl⟩:∃r td',td=r::td':=by
     cases td with
     |nil=>simp at cF;omega
     |cons r td'=>exact⟨r,td',rfl⟩
    have hr:=dF r (by simp);rw[dC,show Q3 (x::l.drop (i+1))=([C.str x]:List C)::Q3 (l.drop (i+1)) from by simp[Q3]]at bI;obtain⟨M1,M2,rfl,dH,fv⟩:=bI.uncons (by rw[hr];rfl);have cS:AY (l.take (i+1))=AY (l.take i)+AY [x]:=(by rw[aO,Mf]);have a9:AY (l.take (i+1))≤AY l:=by
     have:=Mf (l.take (i+1)) (l.drop (i+1));rw[J4]at this;omega
    have jn:x∈l:=(by rw[←hx];exact Jf aa);obtain⟨kk,bD⟩:∃kk,k+AY (l.take i)=kk:=⟨_,rfl⟩;rw[bD];simp only[AY]at cS;obtain⟨c0,e0,h0⟩:=dH.inv_atom rfl;obtain⟨rfl,rfl⟩:=h0.inv_nil;subst e0;have ai:∀r:List C,(dn++r::td).length=rows.length:=fun r=>by
     simp only[Jm,Jj]at cF⊢;omega
    have bC:∀r:List C,List.take rows.length (dn++r::td)=dn++r::td:=fun r=>Jb (by rw[ai r];omega);refine Qd ?_;try simp only[go_sem]
    refine Qe (Qf ?_);refine Qa ?_;simp only[go_sem];refine Rk (k:=kk) (by omega) ?_;simp only[go_sem,Qp4,gy,ai,aW,Cg bq];refine⟨by omega,by omega,fun H2 h2=>?_⟩;rw[Cd bq]at h2;have kn:Kn H H2 ((y,.vec 1 (dn++([.str (mkT kk)]:List C)::td))::(Md++([]++M2))) []:=kn.stE 0 rfl h2;have gy:=kn.e 0 rfl;refine Qn ?_;simp only[go_sem];refine⟨Ql,?_⟩;refine Qn ?_;simp only[go_sem,AE.X.next];have e5:k+AY (l.take (i+1))=kk+1:=(by omega);refine⟨Ql,l.length-(i+1),by omega,i+1,dn++[[.str (mkT kk)]],td,Md,M2,rfl,by omega,by simp[bq],by simp only[Jj]at cF;omega,?_,fun r hr=>dF r (by simp[hr]),?_,fv,?_,?_,?_⟩
    ·intro r hr;rcases Ji.1 hr with hr|hr
     ·exact dK r hr
     ·rw[Ja.1 hr];rfl
    ·rw[aO,Qa9o,bD,Qbob,List.flatten_append,List.flatten_append];have:=cy.app (M:=[]) (b:=[C.str (mkT kk)]) (b':=[C.str (mkT kk)]) (.atom rfl .nil);rw[Jg]at this;simp only[Cr,Q3,Qbjt,Qboc,List.flatten_cons,List.flatten_nil,Jg];exact this
    ·rw[←bu];simp only[Jp,Je,Jl]
    ·have:=kn;simpa only[Je,Jk,Jl,Jt]using this
    ·rw[e5];rfl
   ·intro hc;have aC:l.length≤i:=(by have:=of_decide_eq_false hc;omega);rw[Jb aC]at cy;have cE:td=[]:=Jn.1 (by omega);rw[J7 aC]at bI;subst cE;obtain rfl:Mt=[]:=(by cases bI;rfl);rw[Jg]at bu;rw[Jg,Jg]at kn;rw[Jb aC];have cz:rows.length=dn.length:=(by omega);refine Qr ?_;simp only[go_sem,AE.X.next];refine Qa ?_;simp only[go_sem];refine Qg ?_;simp only[go_sem,Qq,Q1,Aa,Ja,forall_eq,RS.op];refine hK _ ((y,.vec 1 dn)::Md) (by simp only[J2,bu]) (.inr ⟨y,Md,dn,by rw[cz],rfl,by rw[Qs,Qbex];omega,dK,EK,cy⟩) ?_;have:=kn.upd;simpa using this
theorem Qbpf (f:Fn):Ae [f]=[f.cells]:=rfl
theorem Qbqx:∀(n:Nat) (l:List Fn) (L:List (Nat×Obj)) (t:C) (k:Nat) (H:Heap) (K:V→Heap→Prop),l.length≤n→OwS L 3 (Ae l) t→(∀p∈L,H p.1=p.2)→(L.map Prod.fst).Nodup→k+AZ l<2 ^ 62→
  (∀H' L',L'.map Prod.fst=L.map Prod.fst→OwS L' 3 (Ae (Db l k)) t→Upd H H' L'→K (.c (.int .i64 ((k+AZ l:Nat):Int))) H')→Qi prog R5 [.c t,.c (.int .i64 (k:Nat))] H K:=by
 intro n
 induction n using Nat.strongRecOn with
 |ind n ih=>
 intro l L t k H K hn ho hm hd hb hK;rcases ho with ⟨rfl,h1,rfl⟩|⟨y,M,rows,rfl,rfl,bZ,cw,_,ho⟩
 ·have:l=[]:=Jn.1 (by rw[←Q8,h1];rfl);subst this;refine Qb Ab Ns ?_;refine Qa ?_;simp only[go_sem];refine Qp (Qa ?_);simp only[go_sem];refine Qe (Qf (Qu (fun m e1 H1=>H1=H∧e1=[(0,.c (.sl true 3 [])),(1,.c (.int .i64 (k:Nat))),(5,.c (.int .i64 0))]) 0 ?_ ?_))
  ·exact⟨rfl,rfl⟩
  ·rintro m e1 H1 ⟨rfl,rfl⟩;refine Qp (Qa ?_);simp only[go_sem];refine Qe (Qc rfl (fun h=>by simp[lk]at h) (fun _=>?_));refine Qr ?_;simp only[go_sem,AE.X.next];refine Qa ?_;simp only[go_sem];refine Qg ?_;simp only[go_sem,Qq,Q1,Aa,Ja,forall_eq,RS.op];exact hK _ [] rfl (.inl ⟨rfl,rfl,rfl⟩) ⟨by simp,fun _ _ _=>rfl⟩
 ·have dq:l.length=rows.length:=by rw[←Q8];exact bZ
  refine Qb Ab Ns ?_;refine Qa ?_;simp only[go_sem];refine Qp (Qa ?_);simp only[go_sem];refine Qe (Qf (Qu (fun m e1 H1=>∃(i:Nat) (dn td:List (List C)) (Md Mt:List (Nat×Obj)),m=l.length-i∧i≤l.length∧dn.length=i∧td.length=l.length-i∧(∀r∈dn,r.length=3)∧(∀r∈td,r.length=3)∧
   OwL Md dn.flatten (Ae (Db (l.take i) k)).flatten∧OwL Mt td.flatten (Ae (l.drop i)).flatten∧(Md++Mt).map Prod.fst=M.map Prod.fst∧Kn H H1 ((y,.vec 3 (dn++td))::(Md++Mt)) []∧
   e1=[(0,.c (.aG y 3 0 rows.length)),(1,.c (.int .i64 ((k+AZ (l.take i):Nat):Int))),(5,.c (.int .i64 i))]) l.length ?_ ?_))
  ·exact⟨0,[],rows,[],M,by omega,by omega,rfl,by omega,by simp,cw,.nil,ho,rfl,.startE (fun p hp=>⟨hm p hp,by
    rcases J3.1 hp with rfl|hp
    ·nofun
    ·obtain⟨z,r,h1,_⟩:=ho.vecs p hp;rw[h1];nofun⟩) hd,rfl⟩
  ·rintro m e1 H1 ⟨i,dn,td,Md,Mt,hm,hi,bq,cF,dK,dF,cy,bI,bu,kn,rfl⟩;have gy:=kn.e 0 rfl;have ai:(dn++td).length=rows.length:=by rw[Jm];omega
   refine Qp (Qa ?_);simp only[go_sem,gy,ai];refine⟨by omega,fun bS=>?_⟩;simp only[LIM]at bS;refine Qe (Qc rfl ?_ ?_)
   ·intro hc;have aa:i<l.length:=(by have:=of_decide_eq_true hc;omega);have aW:i<rows.length:=(by omega);obtain⟨x,hx⟩:∃x,l[i]=x:=⟨_,rfl⟩;have dC:l.drop i=x::l.drop (i+1):=(by rw[Jy aa,hx]);have aO:l.take (i+1)=l.take i++[x]:=(by rw[Jd aa,hx]);obtain⟨r,td,rfl⟩:∃r td',td=r::td':=by
     cases td with
     |nil=>simp at cF;omega
     |cons r td'=>exact⟨r,td',rfl⟩
    have hr:=dF r (by simp);rw[dC,show Ae (x::l.drop (i+1))=x.cells::Ae (l.drop (i+1)) from by simp[Ae]]at bI;obtain⟨M1,M2,rfl,dH,fv⟩:=bI.uncons (by rw[hr,x.aj]);have cS:AZ (l.take (i+1))=AZ (l.take i)+AZ [x]:=(by rw[aO,MN]);have a9:AZ (l.take (i+1))≤AZ l:=by
     have:=MN (l.take (i+1)) (l.drop (i+1));rw[J4]at this;omega
    have jn:x∈l:=(by rw[←hx];exact Jf aa);obtain⟨kk,bD⟩:∃kk,k+AZ (l.take i)=kk:=⟨_,rfl⟩;rw[bD];simp only[AZ]at cS;obtain⟨Ma,Mb,ta,tb,rfl,rfl,ha,aR⟩:=OwL.fn dH;have jz:=ha.ah;have cq:=aR.ah;have ai:∀r:List C,(dn++r::td).length=rows.length:=fun r=>by
     simp only[Jm,Jj]at cF⊢;omega
    have bC:∀r:List C,List.take rows.length (dn++r::td)=dn++r::td:=fun r=>Jb (by rw[ai r];omega);have dt:x.mcnt=1+AY x.params+A7 x.body:=(by rw[Fn.mcnt,HK]);refine Qd ?_;try simp only[go_sem]
    refine Qe (Qf ?_);refine Qa ?_;simp only[go_sem];refine Rk (k:=kk) (by omega) ?_;simp only[go_sem,Q4k,gy,ai,aW,Cg bq,jz,cq];refine⟨by omega,by omega,fun H2 h2=>?_⟩;rw[Cd bq]at h2;have kn:Kn H H2 ((y,.vec 3 (dn++([.str (mkT kk),ta,tb]:List C)::td))::(Md++((Ma++Mb)++M2))) []:=kn.stE 0 rfl h2;have gy:=kn.e 0 rfl;refine Qa ?_;simp only[go_sem];refine⟨Ql,?_⟩;refine Qa ?_;simp only[go_sem,gy,ai,aW,bC,Da bq,jz,cq];refine⟨by omega,by omega,?_⟩;have e1:((kk:Nat):Int)+1=((kk+1:Nat):Int):=(by omega);try rw[e1]
    have kn:Kn H H2 (((y,Obj.vec 3 (dn++([.str (mkT kk),ta,tb]:List C)::td))::Md)++(Ma++(Mb++M2))) []:=(by simpa only[Je,Jk,Jl,Jt]using kn);refine NM (AY x.params) x.params Ma ta (kk+1) H2 _ (Jo _) ha (fun p hp=>(kn.get p (by simp[hp])).1) (DG kn.dE) (by omega) fun H2 Ma' dr ov hu=>?_;have kn:Kn H H2 (((y,Obj.vec 3 (dn++([.str (mkT kk),ta,tb]:List C)::td))::Md)++(Ma'++(Mb++M2))) []:=Kn.callM kn hu dr ov.vecs;have gy:=kn.e 0 rfl;simp only[go_sem,Q4l];refine Qn ?_;simp only[go_sem,gy,ai,aW,bC,Da bq,jz,cq];refine⟨by omega,by omega,?_⟩;have e2:((kk+1+AY x.params:Nat):Int)=((kk+1+AY x.params:Nat):Int):=(by omega);try rw[e2]
    have kn:Kn H H2 (((y,Obj.vec 3 (dn++([.str (mkT kk),ta,tb]:List C)::td))::(Md++Ma'))++(Mb++M2)) []:=(by simpa only[Je,Jk,Jl,Jt]using kn);refine Qbgl (Qh x.body) x.body Mb tb (kk+1+AY x.params) H2 _ (Jo _) aR (fun p hp=>(kn.get p (by simp[hp])).1) (DG kn.dE) (by omega) fun H2 Mb' cN hb'2 hu=>?_;have kn:Kn H H2 (((y,Obj.vec 3 (dn++([.str (mkT kk),ta,tb]:List C)::td))::(Md++Ma'))++(Mb'++M2)) []:=Kn.callM kn hu cN hb'2.vecs;have gy:=kn.e 0 rfl;simp only[go_sem,Q4m];refine Qn ?_;simp only[go_sem,AE.X.next];have e5:k+AZ (l.take (i+1))=kk+1+AY x.params+A7 x.body:=(by omega);refine⟨Ql,l.length-(i+1),by omega,i+1,dn++[[.str (mkT kk),ta,tb]],td,Md++(Ma'++Mb'),M2,rfl,by omega,by simp[bq],by simp only[Jj]at cF;omega,?_,fun r hr=>dF r (by simp[hr]),?_,fv,?_,?_,?_⟩
    ·intro r hr;rcases Ji.1 hr with hr|hr
     ·exact dK r hr
     ·rw[Ja.1 hr];rfl
    ·rw[aO,Qbfr,bD,Qbpe,List.flatten_append,List.flatten_append];refine cy.app ?_;simp only[Db,Qbpf,Fn.mark,Fn.cells,←HK,List.flatten_cons,List.flatten_nil,Jg];exact .atom rfl (ov.cons hb'2.one)
    ·rw[←bu];simp only[Jp,Je,dr,cN]
    ·have:=kn;simpa only[Je,Jk,Jl,Jt]using this
    ·rw[e5];rfl
   ·intro hc;have aC:l.length≤i:=(by have:=of_decide_eq_false hc;omega);rw[Jb aC]at cy;have cE:td=[]:=Jn.1 (by omega);rw[J7 aC]at bI;subst cE;obtain rfl:Mt=[]:=(by cases bI;rfl);rw[Jg]at bu;rw[Jg,Jg]at kn;rw[Jb aC];have cz:rows.length=dn.length:=(by omega);refine Qr ?_;simp only[go_sem,AE.X.next];refine Qa ?_;simp only[go_sem];refine Qg ?_;simp only[go_sem,Qq,Q1,Aa,Ja,forall_eq,RS.op];refine hK _ ((y,.vec 3 dn)::Md) (by simp only[J2,bu]) (.inr ⟨y,Md,dn,by rw[cz],rfl,by rw[Q8,Qbfs];omega,dK,IM,cy⟩) ?_;have:=kn.upd;simpa using this
theorem Qa5h {L:List (Nat×Obj)}{t:C}{k:Nat}(ho:OwS L 3 (Ae fns) t)(hm:∀p∈L,H p.1=p.2)(hd:(L.map Prod.fst).Nodup)(hb:k+AZ fns<2 ^ 62)
  (hK:∀H' L',L'.map Prod.fst=L.map Prod.fst→OwS L' 3 (Ae (Db fns k)) t→Upd H H' L'→K (.c (.int .i64 ((k+AZ fns:Nat):Int))) H'):Qi prog S7 [.ag [t],.c (.int .i64 (k:Nat))] H K:=by
 have aE:=ho.ah;refine Qb Ab Qaj2 ?_;refine Qa ?_;simp only[go_sem,aE];refine Qa ?_;simp only[go_sem,aE];refine Qbqx fns.length fns L t k H _ (Jo _) ho hm hd hb fun H2 L' hf iW hu=>?_;simp only[go_sem,Qp3];refine Qa ?_;simp only[go_sem];refine Qg ?_;simp only[go_sem,Qq,Q1,Aa,Ja,forall_eq,RS.op];exact hK _ _ hf iW hu
end Go.AE.Y
namespace Go.AE.Y
inductive TyC (P:Program):TypeId→List C→Prop
 |int {t:TypeId} (n:Int) (h:P.underlying t=some (.int .i64)) (h1:-(2 ^ 63)≤n) (h2:n<2 ^ 63):TyC P t [.int .i64 n]
 |str {t:TypeId} (s:List UInt8) (h:P.underlying t=some .string) (hl:s.length≤LIM):TyC P t [.str s]
 |stb {t:TypeId} (n:Nat) (h:P.underlying t=some .string) (hl:LIM<n) (h2:n<2 ^ 63):TyC P t [.stb n]
 |sl {t e:TypeId} (rows:List (List C)) (h:P.underlying t=some (.slice e)) (hl:rows.length≤LIM) (hr:∀r∈rows,TyC P e r) (hz:∀r∈rows,r.length=P.cellsOf e):TyC P t [.sl false (P.cellsOf e) rows]
 |slb {t e:TypeId} (n:Nat) (h:P.underlying t=some (.slice e)) (hl:LIM<n) (h2:n<2 ^ 63):TyC P t [.slb n]
 |st {t:TypeId} {fs:Array Field} (css:List (List C)) (h:P.underlying t=some (.struct fs)) (hl:css.length=fs.size) (hc:∀(k:Nat) (f:Field) (cs:List C),fs[k]? = some f→css[k]? = some cs→TyC P f.type cs):TyC P t css.flatten
def layB (P:Program):Nat→List Field→Option Nat
 |n,[]=>some n
 |n,f::r=>if f.offset=n then layB P (n+P.cellsOf f.type) r else none
def okT (P:Program)(L:List TypeId):Bool:=L.all fun t=>match P.underlying t with
 |some (.int k)=>k == .i64
 |some .string=>true
 |some (.slice e)=>L.contains e&&decide (0<P.cellsOf e)
 |some (.struct fs)=>fs.toList.all (fun f=>L.contains f.type)&&layB P 0 fs.toList == some (P.cellsOf t)
 |_=>false
theorem ML {β:Type}{n:Nat}{p:Nat→β→Prop}(h:∀i,i<n→∃b,p i b):∃l:List β,l.length=n∧∀(i:Nat) (b:β),l[i]? = some b→p i b:=by
 induction n with
 |zero=>exact⟨[],rfl,fun i b h=>by simp at h⟩
 |succ n ih=>
  obtain⟨l,h1,h2⟩:=ih fun i hi=>h i (by omega);obtain⟨b,hb⟩:=h n (by omega);refine⟨l++[b],by simp[h1],fun i c hc=>?_⟩;rcases Jaq i l.length with hi|hi
  ·rw[Jak hi]at hc;exact h2 i c hc
  ·rw[Jx hi]at hc;have:i=l.length:=by
    rcases Jaq (i-l.length) 1 with h'|h'
    ·omega
    ·rw[Jam (by simpa using h')]at hc;simp at hc
   subst this;simp at hc;subst hc;rw[h1];exact hb
theorem wf64 {n:Int}(h:(Lit.int .i64 n).wf=true):-(2 ^ 63)≤n∧n<2 ^ 63:=by
 simp[Lit.wf,IntKind.min,IntKind.max,IntKind.signed,IntKind.bits]at h;omega
theorem LB {P:Program}:∀(fs:List Field) (n m:Nat) (cs:List Value) (css:List (List C)),layB P n fs=some m→cs.length=m→css.length=fs.length→
  (∀(k:Nat) (f:Field) (c:List C),fs[k]? = some f→css[k]? = some c→c.length=P.cellsOf f.type)→
  n+css.flatten.length=m∧∀{W:World} {g:G},(∀(k:Nat) (f:Field) (c:List C),fs[k]? = some f→css[k]? = some c→∀(j:Nat) (x:C) (v:Value),c[j]? = some x→((cs.drop f.offset).take (P.cellsOf f.type))[j]? = some v→RepC W g x v)→
   ∀(j:Nat) (x:C) (v:Value),css.flatten[j]? = some x→cs[n+j]? = some v→RepC W g x v
 |[],n,m,cs,css,h,fk,hl,hk=>by
  simp only[layB,Jv]at h;have:css=[]:=Jn.1 hl;subst this;exact⟨by simpa using h,fun _ j x v h1=>by simp at h1⟩
 |f::fs,n,m,cs,css,h,fk,hl,hk=>by
  simp only[layB]at h;split at h
  ·rename_i ho
   match css,hl with
   |c::css,hl=>
    have hc:=hk 0 f c rfl rfl;obtain⟨h1,h2⟩:=LB fs (n+P.cellsOf f.type) m cs css h fk (by simpa using hl) fun k f' c' a b=>hk (k+1) f' c' (by simpa using a) (by simpa using b);refine⟨by simp only[List.flatten_cons,Jm];omega,fun hr j x v hx hv=>?_⟩;rw[List.flatten_cons]at hx;rcases Jaq j c.length with hj|hj
    ·rw[Jak hj]at hx;refine hr 0 f c rfl rfl j x v hx ?_;rw[List.getElem?_take,if_pos (by omega),List.getElem?_drop,ho];exact hv
    ·rw[Jx hj]at hx;refine h2 (fun k f' c' a b=>hr (k+1) f' c' (by simpa using a) (by simpa using b)) (j-c.length) x v hx ?_;rw[←hv];congr 1;omega
  ·simp at h
theorem VW {W:World}{base:Nat}{a:Addr}{n:Nat}{row:List Value}(hn:0<n)(h:W.cells? base a n=some row):a.spot=none:=by
 obtain⟨_,hl,hc⟩:=World.cells?_some h;have h0:=hc 0 hn;rw[Jh (by omega)]at h0;simpa[Addr.add]using World.cell?_spot h0
theorem open_ty {P:Program}{L:List TypeId}(hL:okT P L=true){H:Type}{enc:TypeId×Value→H}{W:World}{base:Nat}{sp:Nat→Bool}(rD:∀b,sp b=true){hd:Bool}{g:G}(hg:∀b,b<W.heap.size→g.per b=true) :
  ∀(fuel:Nat) (t:TypeId),t∈L→∀(cs:List Value) (x:DataW H×List MemPlace),DataW.trod enc P W base sp hd fuel t cs=some x→
   ∃cells:List C,TyC P t cells∧cells.length=cs.length∧∀(j:Nat) (c:C) (v:Value),cells[j]? = some c→cs[j]? = some v→RepC W g c v:=by
 intro fuel
 induction fuel with
 |zero=>intro t _ cs x h;simp[DataW.trod]at h
 |succ fuel ih=>
  intro t ht cs x h;have aM:=J1.1 hL t ht;split at aM
  ·rename_i k hu
   obtain rfl:k=.i64:=by simpa using aM
   obtain⟨n,rfl,rfl,hw⟩:=DataW.trod_int hu h;obtain⟨w1,w2⟩:=wf64 hw;refine⟨_,.int n hu w1 w2,rfl,fun j c v h1 h2=>?_⟩
   match j with
   |0=>cases h1;cases h2;exact .int _ _
   |j+1=>simp at h1
  ·rename_i hu
   obtain⟨s,rfl,rfl,hw⟩:=DataW.trod_string hu h;by_cases hl:s.size≤LIM
   ·refine⟨_,.str s.data.toList hu (by simpa using hl),rfl,fun j c v h1 h2=>?_⟩
    match j with
    |0=>
     cases h1;cases h2;have:=RepC.str (w:=W) (g:=g) s.data.toList (by simpa using hl);have hb:s=⟨s.data.toList.toArray⟩:=(by cases s;rfl);rw[←hb]at this;exact this
    |j+1=>simp at h1
   ·have aa:s.size<2 ^ 63:=(by unfold maxLen at hw;omega);refine⟨_,.stb s.size hu (by omega) aa,rfl,fun j c v h1 h2=>?_⟩
    match j with
    |0=>cases h1;cases h2;exact .stb s aa
    |j+1=>simp at h1
  ·rename_i e hu
   simp only[J6,decide_eq_true_eq,Jz]at aM;obtain⟨he,iS⟩:=aM;rcases DataW.trod_slice hu h with ⟨rfl,rfl⟩|⟨a,len,cap,elems,rest,n,hn,rfl,rfl,hb,hl,hm,ai,dB,bz,_⟩
   ·refine⟨_,.sl [] hu (by simp) (by simp) (by simp),rfl,fun j c v h1 h2=>?_⟩
    match j with
    |0=>cases h1;cases h2;exact .bk _ _ _
    |j+1=>simp at h1
   ·obtain rfl:n=fuel:=(by omega);have ci:len<2 ^ 63:=(by unfold maxLen at hm;omega);by_cases d9:len≤LIM
    ·have av:∀i,i<len→∃(q:List C×List Value),TyC P e q.1∧q.1.length=P.cellsOf e∧W.cells? base (a.add (i * P.cellsOf e)) (P.cellsOf e)=some q.2∧
       ∀(j:Nat) (c:C) (v:Value),q.1[j]? = some c→q.2[j]? = some v→RepC W g c v:=by
      intro i hi;have h1:=dB i hi;rw[Jh (by omega),Option.bind_eq_some_iff]at h1;obtain⟨row,h2,h3⟩:=h1;obtain⟨cells,k1,k2,k3⟩:=ih e he row _ h3;exact⟨(cells,row),k1,k2.trans (World.cells?_some h2).2.1,h2,k3⟩
     obtain⟨qs,kT,kS⟩:=ML av;have ng:TyC P t [.sl false (P.cellsOf e) (qs.map Prod.fst)]:=.sl _ hu (by simpa[kT]using d9) (fun r hr=>by
      obtain⟨q,hq,rfl⟩:=Jw.1 hr;obtain⟨i,hi⟩:=Jah hq;exact (kS i q hi).1) (fun r hr=>by
      obtain⟨q,hq,rfl⟩:=Jw.1 hr;obtain⟨i,hi⟩:=Jah hq;exact (kS i q hi).2.1)
     refine⟨_,ng,rfl,fun j c v h1 h2=>?_⟩
     match j with
     |j+1=>simp at h1
     |0=>
      cases h1;cases h2;by_cases h0:cap=0
      ·have fw:len=0:=(by omega);have:qs=[]:=Jn.1 (by omega);subst this;subst h0;subst fw;exact .bk _ _ _
      ·have fM:∃row,W.cells? base (a.add (0 * P.cellsOf e)) (P.cellsOf e)=some row:=by
        by_cases fw:len=0
        ·have h1:=(bz (rD _)).2 0 (by omega);have bZ:=(bz (rD _)).1;rw[Jh (by omega),Option.bind_eq_some_iff]at h1;obtain⟨row,h2,_⟩:=h1;rw[fw]at h2;exact⟨row,h2⟩
        ·have h1:=dB 0 (by omega);rw[Jh (by omega),Option.bind_eq_some_iff]at h1;obtain⟨row,h2,_⟩:=h1;exact⟨row,h2⟩
       obtain⟨row0,fM⟩:=fM;have jP:a.spot=none:=(by simpa[Addr.add]using VW iS fM);obtain⟨b,off,spot⟩:=a;simp only at jP;subst jP;have lZ:∀o i,(⟨b,o,none⟩:Addr).add i=⟨b,o+i,none⟩:=by
        intro o i;by_cases h:i=0 <;> simp[Addr.add,h]
       have m9:b<W.heap.size:=by
        have dW:=(World.cells?_some fM).2.2 0 iS;have dq:=(World.cells?_some fM).2.1;rw[Jh (by omega)]at dW;rcases Jaq b W.heap.size with h|h
        ·exact h
        ·simp[World.cell?,lZ,Array.getElem?_eq_none h]at dW
       have bW:∀(i:Nat) (q:List C×List Value),qs[i]? = some q→q.2.length=P.cellsOf e∧∀j,j<P.cellsOf e→W.cell? ⟨b,off+i * P.cellsOf e+j,none⟩=q.2[j]?:=by
        intro i q hq;obtain⟨_,c1,c2⟩:=World.cells?_some (kS i q hq).2.2.1;refine⟨c1,fun j hj=>?_⟩;have:=c2 j hj;rw[lZ,lZ]at this;exact this
       have:=RepC.sl (w:=W) (g:=g) false (P.cellsOf e) (qs.map Prod.fst) b off cap (fun i j=>((qs[i]?.map Prod.snd).getD []).getD j undef) (by simpa[kT]using d9) (by simp) (by simpa[kT]using hl) (hg b m9)
        (fun i row hi=>by
         rw[Jad,Option.map_eq_some_iff]at hi;obtain⟨q,hq,rfl⟩:=hi;exact (kS i q hq).2.1)
        (fun i row j c hi hj=>by
         rw[Jad,Option.map_eq_some_iff]at hi;obtain⟨q,hq,rfl⟩:=hi;have eu:j<P.cellsOf e:=(by rw[←(kS i q hq).2.1];exact (Jab.1 hj).1);obtain⟨c1,c2⟩:=bW i q hq;rw[c2 j eu,hq];simp[Jc,Jh (show j<q.2.length by omega)])
        (fun i row j c hi hj=>by
         rw[Jad,Option.map_eq_some_iff]at hi;obtain⟨q,hq,rfl⟩:=hi;have eu:j<P.cellsOf e:=(by rw[←(kS i q hq).2.1];exact (Jab.1 hj).1);obtain⟨c1,_⟩:=bW i q hq;refine (kS i q hq).2.2.2 j c _ hj ?_;rw[hq];simp[Jc,Jh (show j<q.2.length by omega)])
       rw[Jan,kT]at this;exact this
    ·refine⟨_,.slb len hu (by omega) ci,rfl,fun j c v h1 h2=>?_⟩
     match j with
     |0=>cases h1;cases h2;exact .slb _ _ _ ci
     |j+1=>simp at h1
  ·rename_i fs hu
   simp only[J6,J1,Jz,beq_iff_eq]at aM;obtain⟨gZ,nK⟩:=aM;obtain⟨xs,n,hn,rfl,bP,oX,hx⟩:=DataW.trod_struct hu h;obtain rfl:n=fuel:=by omega
   have hf:∀i,i<fs.size→∃c:List C,∀f,fs[i]? = some f→TyC P f.type c∧c.length=((cs.drop f.offset).take (P.cellsOf f.type)).length∧
     ∀(j:Nat) (x:C) (v:Value),c[j]? = some x→((cs.drop f.offset).take (P.cellsOf f.type))[j]? = some v→RepC W g x v:=by
    intro i hi;have h1:=hx i fs[i] (Jaa hi);rw[Jh (by omega)]at h1;obtain⟨c,k1,k2,k3⟩:=ih _ (gZ fs[i] (by simp)) _ _ h1;refine⟨c,fun f jv=>?_⟩;rw[Jaa hi]at jv;obtain rfl:=Ja2 jv;exact⟨k1,k2,k3⟩
   obtain⟨css,oe,lP⟩:=ML hf;have toA:∀(k:Nat) (f:Field),fs.toList[k]? = some f→fs[k]? = some f:=fun k f h=>by simpa using h
   have lT:∀(k:Nat) (f:Field),fs.toList[k]? = some f→f.offset+P.cellsOf f.type≤cs.length:=by
    have gen:∀(l:List Field) (n m:Nat),layB P n l=some m→n≤m∧∀(k:Nat) (f:Field),l[k]? = some f→f.offset+P.cellsOf f.type≤m:=by
     intro l
     induction l with
     |nil=>intro n m h;simp[layB]at h;exact⟨by omega,fun k f h=>by simp at h⟩
     |cons a l ihl=>
      intro n m h;simp only[layB]at h;split at h
      ·rename_i ho
       obtain⟨q1,q2⟩:=ihl _ _ h;refine⟨by omega,fun k f hk=>?_⟩
       cases k with
       |zero=>simp at hk;subst hk;omega
       |succ k=>exact q2 k f (by simpa using hk)
      ·simp at h
    intro k f hk;have:=(gen _ _ _ nK).2 k f hk;omega
   have nH:∀(k:Nat) (f:Field) (c:List C),fs.toList[k]? = some f→css[k]? = some c→c.length=P.cellsOf f.type:=fun k f c a b=>by
    have h1:=(lP k c b f (toA k f a)).2.1;have h2:=lT k f a;rw[h1,List.length_take,List.length_drop];omega
   obtain⟨l1,l2⟩:=LB fs.toList 0 _ cs css nK bP (by simpa using oe) nH;refine⟨css.flatten,.st css hu oe fun k f c a b=>(lP k c b f a).1,by omega,fun j x v h1 h2=>?_⟩;exact l2 (fun k f c a b=>(lP k c b f (toA k f a)).2.2) j x v h1 (by rw[Jag];exact h2)
  ·simp at aM
def CM (P:Program)(t:TypeId)(ts:List TypeId):Bool:=match P.underlying t with
 |some (.struct fs)=>fs.toList.map (·.type) == ts
 |_=>false
def CU (P:Program)(t e:TypeId)(n:Nat):Bool:=match P.underlying t with
 |some (.slice e')=>e' == e&&P.cellsOf e == n
 |_=>false
def strT (P:Program)(t:TypeId):Bool:=match P.underlying t with
 |some .string=>true
 |_=>false
def intT (P:Program)(t:TypeId):Bool:=match P.underlying t with
 |some (.int .i64)=>true
 |_=>false
variable {P:Program}{t e:TypeId}{cs:List C}
theorem TyC.of_int (h:TyC P t cs)(ht:intT P t=true):∃n,cs=[.int .i64 n]∧-(2 ^ 63)≤n∧n<2 ^ 63:=by
 unfold intT at ht;split at ht
 ·rename_i hu
  cases h with
  |int n h a b=>exact⟨n,rfl,a,b⟩
  |_=>rename_i h _ _ <;> simp_all
 ·cases ht
theorem TyC.ar (h:TyC P t cs):Go.AE.ar cs=true:=by
 induction h with
 |st css h hl hc ih=>
  rename_i t fs
  unfold Go.AE.ar;rw[J1];intro c oQ;obtain⟨cs,h1,h2⟩:=List.mem_flatten.1 oQ;obtain⟨k,hk⟩:=Jah h1;have aa:k<css.length:=(Jab.1 hk).1;have:=ih k fs[k] cs (Jaa (by omega)) hk;exact J1.1 this c h2
 |_=>rfl
def nmC (c:C):Prop:=(∃s,c=.str s)∨∃n,LIM<n∧n<2 ^ 63∧c=.stb n
theorem TyC.of_str (h:TyC P t cs)(ht:strT P t=true):∃c,cs=[c]∧nmC c:=by
 unfold strT at ht;split at ht
 ·rename_i hu
  cases h with
  |str s h a=>exact⟨_,rfl,.inl ⟨s,rfl⟩⟩
  |stb n h a b=>exact⟨_,rfl,.inr ⟨n,a,b,rfl⟩⟩
  |_=>simp_all
 ·cases ht
theorem TyC.of_sl {n:Nat}(h:TyC P t cs)(ht:CU P t e n=true):(∃rows,cs=[.sl false n rows]∧rows.length≤LIM∧(∀r∈rows,TyC P e r)∧∀r∈rows,r.length=n)∨∃m,LIM<m∧m<2 ^ 63∧cs=[.slb m]:=by
 unfold CU at ht;split at ht
 ·rename_i e' hu
  simp only[J6,beq_iff_eq]at ht;obtain⟨rfl,rfl⟩:=ht
  cases h with
  |sl rows h a b c=>
   rw[hu]at h;simp only[Jv,TypeDesc.slice.injEq]at h;subst h;exact .inl ⟨rows,rfl,a,b,c⟩
  |slb m h a b=>exact .inr ⟨m,a,b,rfl⟩
  |_=>simp_all
 ·cases ht
theorem TyC.of_struct {ts:List TypeId}(h:TyC P t cs)(ht:CM P t ts=true):∃css:List (List C),cs=css.flatten∧css.length=ts.length∧∀(k:Nat) (ty:TypeId) (c:List C),ts[k]? = some ty→css[k]? = some c→TyC P ty c:=by
 unfold CM at ht;split at ht
 ·rename_i fs' hu
  rw[beq_iff_eq]at ht;subst ht
  cases h with
  |st css h hl hc=>
   rw[hu]at h;simp only[Jv,TypeDesc.struct.injEq]at h;subst h;refine⟨css,rfl,by simpa using hl,fun k ty c h1 h2=>?_⟩;rw[Jad,Option.map_eq_some_iff]at h1;obtain⟨f,h3,rfl⟩:=h1;exact hc k f c (by simpa using h3) h2
  |_=>simp_all
 ·cases ht
end Go.AE.Y
namespace Go.AE.Y
open Go.Proofs.Tryz
abbrev Dx:Nat:=3
abbrev CS:Nat:=9
abbrev Er:Nat:=40
abbrev C6:Nat:=42
abbrev CT:Nat:=54
abbrev BB:Nat:=56
abbrev BW:Nat:=57
abbrev Cz:Nat:=144
abbrev Eb:Nat:=146
abbrev Dq:Nat:=269
theorem Dp:intT prog Dx=true:=by kernel_rfl
theorem Do:strT prog CS=true:=by kernel_rfl
theorem Qb17:CU prog BW CS 1=true:=by kernel_rfl
theorem Qb3p:CU prog CT BB 4=true:=by kernel_rfl
theorem Qb3r:CU prog Cz Dq 5=true:=by kernel_rfl
theorem Qb3q:CU prog Er Eb 3=true:=by kernel_rfl
theorem u_Ex:CM prog BB [Dx,Dx,CS,CT]=true:=by kernel_rfl
theorem u_St:CM prog Dq [Dx,CS,CT,Cz,Cz]=true:=by kernel_rfl
theorem u_Fn:CM prog Eb [CS,BW,Cz]=true:=by kernel_rfl
theorem Qb16:CM prog C6 [Er]=true:=by kernel_rfl
theorem tys_ok:okT prog [Dx,CS,Er,C6,CT,BB,BW,Cz,Eb,Dq]=true:=by kernel_rfl
end Go.AE.Y
namespace Go.AE.Y
attribute [local go_sem] cond_true cond_false Bool.not_true Bool.not_false
open Go.Proofs.Tryz
variable {H H0 F:Heap}{K:V→Heap→Prop}{fns:List Fn}
def SzE (f:Nat)(v:V)(ok:Nat→Prop):Prop:=∀(left:Int) (H:Heap) (K:V→Heap→Prop),0≤left→left≤2 ^ 20→
 (∀r:Int,-1≤r→r≤left→(0≤r→∃n:Nat,ok n∧(n:Int)+r≤left)→K (.c (.int .i64 r)) H)→Qi prog f [v,.c (.int .i64 left)] H K
theorem EB (n:Nat):FA (.slb n):=trivial
theorem Qbpg (a b:List Fn):Ca (a++b)=Ca a+Ca b:=by
 induction a with
 |nil=>simp[Ca]
 |cons x r ih=>simp only[Jk,Ca,ih];omega
theorem nmC.ow {c:C}(h:nmC c):c.ah=false:=by
 rcases h with ⟨s,rfl⟩|⟨n,_,_,rfl⟩ <;> rfl
def okXs (c:C)(n:Nat):Prop:=∃l,c=.sl false 4 (Af l)∧Q4 l≤n
def okSs (c:C)(n:Nat):Prop:=∃l,c=.sl false 5 (Qv l)∧Qh l≤n
def okTs (c:C)(n:Nat):Prop:=∃l,c=.sl false 1 (Q3 l)∧l.length≤n
def okFs (c:C)(n:Nat):Prop:=∃l,c=.sl false 3 (Ae l)∧Ca l≤n
theorem SzE.imp {f:Nat}{v:V}{p q:Nat→Prop}(h:SzE f v p)(hi:∀n,p n→q n):SzE f v q:=fun left H K h0 hl hK=>h left H K h0 hl fun r a b c=>hK r a b fun h1=>by
 obtain⟨n,h2,h3⟩:=c h1;exact⟨n,hi n h2,h3⟩
theorem Qbjy {n:Nat}(hn:LIM<n)(cz:n<2 ^ 63)(ok:Nat→Prop):SzE DZ (.c (.slb n)) ok:=by
 intro left H K h0 hl hK;simp only[LIM]at hn;refine Qb Ab Nr ?_;refine Qa ?_;simp only[go_sem];refine Qa ?_;simp only[go_sem,lenX];refine⟨.inr (EB n),fun _=>⟨Ql,?_⟩⟩;refine Qp (Qa ?_);simp only[go_sem];refine Qe (Qc rfl (fun hn=>?_) (fun hn=>by have:=of_decide_eq_false hn;omega));refine Qa ?_;simp only[go_sem];refine Qg ?_;simp only[go_sem,Qq,Q1,Aa,Ja,forall_eq,RS.op];exact hK _ (by omega) (by omega) fun h=>by omega
theorem Qbs4 {rows:List (List C)}(bZ:rows.length≤LIM)(cw:∀r∈rows,r.length=4)(jq:∀r∈rows,ar r=true)(hf:∀r∈rows,SzE EY (.ag r) fun n=>∃x:Ex,r=x.cells∧x.size≤n+1) :
  SzE DZ (.c (.sl false 4 rows)) fun n=>∃l:List Ex,rows=Af l∧Q4 l≤n:=by
 intro left H K h0 hl hK;simp only[LIM]at bZ;refine Qb Ab Nr ?_;refine Qa ?_;simp only[go_sem];refine Qa ?_;simp only[go_sem,lenX];refine⟨.inl trivial,fun _=>⟨Ql,?_⟩⟩;refine Qp (Qa ?_);simp only[go_sem];refine Qe (Qc rfl (fun hn=>?_) (fun hn=>?_))
 ·refine Qa ?_;simp only[go_sem];refine Qg ?_;simp only[go_sem,Qq,Q1,Aa,Ja,forall_eq,RS.op];exact hK _ (by omega) (by omega) fun h=>by omega
 have h2:0≤left-rows.length:=by have:=of_decide_eq_false hn;omega
 refine Qd ?_;try simp only[go_sem]
 refine Qp (Qa ?_);simp only[go_sem];refine Qe (Qf (Qu (fun m e1 H1=>∃(i:Nat) (l0:List Ex) (lf:Int),m=rows.length-i∧i≤rows.length∧H1=H∧rows.take i=Af l0∧0≤lf∧lf≤left∧(Q4 l0:Int)+lf≤left-rows.length+i∧
  e1=[(0,.c (.sl false 4 rows)),(1,.c (.int .i64 lf)),(5,.c (.int .i64 i))]) rows.length ?_ ?_))
 ·exact⟨0,[],left-rows.length,by omega,by omega,rfl,rfl,h2,by omega,by simp only[Q4];omega,rfl⟩
 ·rintro m e1 H1 ⟨i,l0,lf,hm,hi,rfl,aO,h3,h4,h5,rfl⟩;refine Qp (Qa ?_);simp only[go_sem,lenX];refine⟨.inl trivial,fun _=>?_⟩;refine Qe (Qc rfl (fun hc=>?_) (fun hc=>?_))
  ·have aa:i<rows.length:=by have:=of_decide_eq_true hc;omega
   obtain⟨r,db⟩:∃r,rows[i]=r:=⟨_,rfl⟩;have fY:r∈rows:=by rw[←db];exact Jf aa
   have av:rows.getD i []=r:=by rw[Jc,Jh aa,db];rfl
   have hr:=cw r fY;have fF:List.take 4 r=r:=Jb (by omega);have dX:(r.all fun c=>!c.ah)=true:=jq r fY;refine Qd ?_;try simp only[go_sem]
   refine Qe (Qf ?_);refine Qa ?_;simp only[go_sem,aa,av,fF,dX,hr];refine hf r fY lf H1 _ h3 (by omega) fun rr b1 b2 jT=>?_;simp only[go_sem,Q4n];refine Qa ?_;simp only[go_sem];refine Qc rfl (fun hn=>?_) (fun hn=>?_)
   ·refine Qa ?_;simp only[go_sem];refine Qg ?_;simp only[go_sem,AE.X.next,Qq,Q1,Aa,Ja,forall_eq,RS.op];exact hK _ (by omega) (by omega) fun h=>by omega
   have h6:0≤rr:=by have:=of_decide_eq_false hn;omega
   obtain⟨n,⟨x,hx,jn⟩,a9⟩:=jT h6;refine Qd ?_;try simp only[go_sem,AE.X.next]
   refine Qn ?_;simp only[go_sem,AE.X.next];refine⟨Ql,rows.length-(i+1),by omega,i+1,l0++[x],rr,rfl,by omega,?_,h6,by omega,?_,rfl⟩
   ·rw[Jd aa,aO,db,hx,Ru]
   ·simp only[Q9i,Q4];omega
  ·have aC:rows.length≤i:=by have:=of_decide_eq_false hc;omega
   rw[Jb aC]at aO;refine Qr ?_;simp only[go_sem,AE.X.next];refine Qa ?_;simp only[go_sem];refine Qg ?_;simp only[go_sem,Qq,Q1,Aa,Ja,forall_eq,RS.op];exact hK lf (by omega) h4 fun _=>⟨Q4 l0,⟨l0,aO,Jo _⟩,by omega⟩
theorem VL {a b:Int}{cn ck:C}(eY:nmC cn)(hk:SzE DZ (.c ck) (okXs ck))(hko:ck.ah=false):SzE EY (.ag [.int .i64 a,.int .i64 b,cn,ck]) fun n=>∃x:Ex,[C.int .i64 a,.int .i64 b,cn,ck]=x.cells∧x.size≤n+1:=by
 intro left H K h0 hl hK;have bg:=eY.ow;have fQ:=hko;refine Qb Ab Qbgf ?_;refine Qa ?_;simp only[go_sem,bg,fQ];rcases eY with ⟨s,rfl⟩|⟨n,cA,cz,rfl⟩
 rotate_left
 ·simp only[LIM]at cA;refine Qa ?_;simp only[go_sem,bg,fQ];refine fun _=>⟨Ql,?_⟩;refine Qp (Qa ?_);simp only[go_sem,bg,fQ];refine Qe (Qc rfl (fun hn=>?_) (fun hn=>by have:=of_decide_eq_false hn;omega));refine Qa ?_;simp only[go_sem];refine Qg ?_;simp only[go_sem,Qq,Q1,Aa,Ja,forall_eq,RS.op];exact hK _ (by omega) (by omega) fun h=>by omega
 refine Qa ?_;simp only[go_sem,bg,fQ];refine fun gG=>?_;simp only[LIM]at gG;refine⟨Ql,?_⟩;refine Qp (Qa ?_);simp only[go_sem,bg,fQ];refine Qe (Qc rfl (fun hn=>?_) (fun hn=>?_))
 ·refine Qa ?_;simp only[go_sem];refine Qg ?_;simp only[go_sem,Qq,Q1,Aa,Ja,forall_eq,RS.op];exact hK _ (by omega) (by omega) fun h=>by omega
 have k0:0≤left-s.length:=by have:=of_decide_eq_false hn;omega
 refine Qd ?_;try simp only[go_sem]
 refine Qa ?_;simp only[go_sem,bg,fQ];refine hk (left-s.length) H _ k0 (by omega) fun r1 a0 b0 d0=>?_;simp only[go_sem,Q86,bg,fQ];refine Qp (Qa ?_);simp only[go_sem,bg,fQ];refine Qe (Qc rfl (fun hn=>?_) (fun hn=>?_))
 ·refine Qa ?_;simp only[go_sem];refine Qg ?_;simp only[go_sem,Qq,Q1,Aa,Ja,forall_eq,RS.op];exact hK _ (by omega) (by omega) fun h=>by omega
 have k1:0≤r1:=by have:=of_decide_eq_false hn;omega
 obtain⟨n0,⟨x0,e0,f0⟩,g0⟩:=d0 k1;refine Qd ?_;try simp only[go_sem]
 refine Qa ?_;simp only[go_sem];refine Qg ?_;simp only[go_sem,Qq,Q1,Aa,Ja,forall_eq,RS.op];exact hK r1 (by omega) (by omega) fun _=>⟨n0,⟨.mk a b s x0,by rw[e0,Ex.cells],by simp only[Ex.size];omega⟩,by omega⟩
theorem Qbj0 {n:Nat}(hn:LIM<n)(cz:n<2 ^ 63)(ok:Nat→Prop):SzE Dv (.c (.slb n)) ok:=by
 intro left H K h0 hl hK;simp only[LIM]at hn;refine Qb Ab Nq ?_;refine Qa ?_;simp only[go_sem];refine Qa ?_;simp only[go_sem,lenX];refine⟨.inr (EB n),fun _=>⟨Ql,?_⟩⟩;refine Qp (Qa ?_);simp only[go_sem];refine Qe (Qc rfl (fun hn=>?_) (fun hn=>by have:=of_decide_eq_false hn;omega));refine Qa ?_;simp only[go_sem];refine Qg ?_;simp only[go_sem,Qq,Q1,Aa,Ja,forall_eq,RS.op];exact hK _ (by omega) (by omega) fun h=>by omega
theorem Qbs7 {rows:List (List C)}(bZ:rows.length≤LIM)(cw:∀r∈rows,r.length=5)(jq:∀r∈rows,ar r=true)(hf:∀r∈rows,SzE HO (.ag r) fun n=>∃x:St,r=x.cells∧x.size≤n+1) :
  SzE Dv (.c (.sl false 5 rows)) fun n=>∃l:List St,rows=Qv l∧Qh l≤n:=by
 intro left H K h0 hl hK;simp only[LIM]at bZ;refine Qb Ab Nq ?_;refine Qa ?_;simp only[go_sem];refine Qa ?_;simp only[go_sem,lenX];refine⟨.inl trivial,fun _=>⟨Ql,?_⟩⟩;refine Qp (Qa ?_);simp only[go_sem];refine Qe (Qc rfl (fun hn=>?_) (fun hn=>?_))
 ·refine Qa ?_;simp only[go_sem];refine Qg ?_;simp only[go_sem,Qq,Q1,Aa,Ja,forall_eq,RS.op];exact hK _ (by omega) (by omega) fun h=>by omega
 have h2:0≤left-rows.length:=by have:=of_decide_eq_false hn;omega
 refine Qd ?_;try simp only[go_sem]
 refine Qp (Qa ?_);simp only[go_sem];refine Qe (Qf (Qu (fun m e1 H1=>∃(i:Nat) (l0:List St) (lf:Int),m=rows.length-i∧i≤rows.length∧H1=H∧rows.take i=Qv l0∧0≤lf∧lf≤left∧(Qh l0:Int)+lf≤left-rows.length+i∧
  e1=[(0,.c (.sl false 5 rows)),(1,.c (.int .i64 lf)),(5,.c (.int .i64 i))]) rows.length ?_ ?_))
 ·exact⟨0,[],left-rows.length,by omega,by omega,rfl,rfl,h2,by omega,by simp only[Qh];omega,rfl⟩
 ·rintro m e1 H1 ⟨i,l0,lf,hm,hi,rfl,aO,h3,h4,h5,rfl⟩;refine Qp (Qa ?_);simp only[go_sem,lenX];refine⟨.inl trivial,fun _=>?_⟩;refine Qe (Qc rfl (fun hc=>?_) (fun hc=>?_))
  ·have aa:i<rows.length:=by have:=of_decide_eq_true hc;omega
   obtain⟨r,db⟩:∃r,rows[i]=r:=⟨_,rfl⟩;have fY:r∈rows:=by rw[←db];exact Jf aa
   have av:rows.getD i []=r:=by rw[Jc,Jh aa,db];rfl
   have hr:=cw r fY;have fF:List.take 5 r=r:=Jb (by omega);have dX:(r.all fun c=>!c.ah)=true:=jq r fY;refine Qd ?_;try simp only[go_sem]
   refine Qe (Qf ?_);refine Qa ?_;simp only[go_sem,aa,av,fF,dX,hr];refine hf r fY lf H1 _ h3 (by omega) fun rr b1 b2 jT=>?_;simp only[go_sem,Q4o];refine Qa ?_;simp only[go_sem];refine Qc rfl (fun hn=>?_) (fun hn=>?_)
   ·refine Qa ?_;simp only[go_sem];refine Qg ?_;simp only[go_sem,AE.X.next,Qq,Q1,Aa,Ja,forall_eq,RS.op];exact hK _ (by omega) (by omega) fun h=>by omega
   have h6:0≤rr:=by have:=of_decide_eq_false hn;omega
   obtain⟨n,⟨x,hx,jn⟩,a9⟩:=jT h6;refine Qd ?_;try simp only[go_sem,AE.X.next]
   refine Qn ?_;simp only[go_sem,AE.X.next];refine⟨Ql,rows.length-(i+1),by omega,i+1,l0++[x],rr,rfl,by omega,?_,h6,by omega,?_,rfl⟩
   ·rw[Jd aa,aO,db,hx,Gx]
   ·simp only[GX,Qh];omega
  ·have aC:rows.length≤i:=by have:=of_decide_eq_false hc;omega
   rw[Jb aC]at aO;refine Qr ?_;simp only[go_sem,AE.X.next];refine Qa ?_;simp only[go_sem];refine Qg ?_;simp only[go_sem,Qq,Q1,Aa,Ja,forall_eq,RS.op];exact hK lf (by omega) h4 fun _=>⟨Qh l0,⟨l0,aO,Jo _⟩,by omega⟩
theorem Xq {a:Int}{cn ca cb cd:C}(eY:nmC cn)(nN:SzE DZ (.c ca) (okXs ca))(lc:ca.ah=false)(qt:SzE Dv (.c cb) (okSs cb))(aZ:cb.ah=false)(hkd:SzE Dv (.c cd) (okSs cd))(cy:cd.ah=false):SzE HO (.ag [.int .i64 a,cn,ca,cb,cd]) fun n=>∃x:St,[C.int .i64 a,cn,ca,cb,cd]=x.cells∧x.size≤n+1:=by
 intro left H K h0 hl hK;have bg:=eY.ow;have bA:=lc;have bO:=aZ;have dh:=cy;refine Qb Ab Qbgg ?_;refine Qa ?_;simp only[go_sem,bg,bA,bO,dh];rcases eY with ⟨s,rfl⟩|⟨n,cA,cz,rfl⟩
 rotate_left
 ·simp only[LIM]at cA;refine Qa ?_;simp only[go_sem,bg,bA,bO,dh];refine fun _=>⟨Ql,?_⟩;refine Qp (Qa ?_);simp only[go_sem,bg,bA,bO,dh];refine Qe (Qc rfl (fun hn=>?_) (fun hn=>by have:=of_decide_eq_false hn;omega));refine Qa ?_;simp only[go_sem];refine Qg ?_;simp only[go_sem,Qq,Q1,Aa,Ja,forall_eq,RS.op];exact hK _ (by omega) (by omega) fun h=>by omega
 refine Qa ?_;simp only[go_sem,bg,bA,bO,dh];refine fun gG=>?_;simp only[LIM]at gG;refine⟨Ql,?_⟩;refine Qp (Qa ?_);simp only[go_sem,bg,bA,bO,dh];refine Qe (Qc rfl (fun hn=>?_) (fun hn=>?_))
 ·refine Qa ?_;simp only[go_sem];refine Qg ?_;simp only[go_sem,Qq,Q1,Aa,Ja,forall_eq,RS.op];exact hK _ (by omega) (by omega) fun h=>by omega
 have k0:0≤left-s.length:=by have:=of_decide_eq_false hn;omega
 refine Qd ?_;try simp only[go_sem]
 refine Qa ?_;simp only[go_sem,bg,bA,bO,dh];refine nN (left-s.length) H _ k0 (by omega) fun r1 a0 b0 d0=>?_;simp only[go_sem,Q87,bg,bA,bO,dh];refine Qp (Qa ?_);simp only[go_sem,bg,bA,bO,dh];refine Qe (Qc rfl (fun hn=>?_) (fun hn=>?_))
 ·refine Qa ?_;simp only[go_sem];refine Qg ?_;simp only[go_sem,Qq,Q1,Aa,Ja,forall_eq,RS.op];exact hK _ (by omega) (by omega) fun h=>by omega
 have k1:0≤r1:=by have:=of_decide_eq_false hn;omega
 obtain⟨n0,⟨x0,e0,f0⟩,g0⟩:=d0 k1;refine Qd ?_;try simp only[go_sem]
 refine Qa ?_;simp only[go_sem,bg,bA,bO,dh];refine qt r1 H _ k1 (by omega) fun r2 a1 b1 d1=>?_;simp only[go_sem,Q88,bg,bA,bO,dh];refine Qp (Qa ?_);simp only[go_sem,bg,bA,bO,dh];refine Qe (Qc rfl (fun hn=>?_) (fun hn=>?_))
 ·refine Qa ?_;simp only[go_sem];refine Qg ?_;simp only[go_sem,Qq,Q1,Aa,Ja,forall_eq,RS.op];exact hK _ (by omega) (by omega) fun h=>by omega
 have k2:0≤r2:=by have:=of_decide_eq_false hn;omega
 obtain⟨n1,⟨x1,e1,f1⟩,g1⟩:=d1 k2;refine Qd ?_;try simp only[go_sem]
 refine Qa ?_;simp only[go_sem,bg,bA,bO,dh];refine hkd r2 H _ k2 (by omega) fun r3 a2 b2 d2=>?_;simp only[go_sem,Q89,bg,bA,bO,dh];refine Qp (Qa ?_);simp only[go_sem,bg,bA,bO,dh];refine Qe (Qc rfl (fun hn=>?_) (fun hn=>?_))
 ·refine Qa ?_;simp only[go_sem];refine Qg ?_;simp only[go_sem,Qq,Q1,Aa,Ja,forall_eq,RS.op];exact hK _ (by omega) (by omega) fun h=>by omega
 have k3:0≤r3:=by have:=of_decide_eq_false hn;omega
 obtain⟨n2,⟨x2,e2,f2⟩,g2⟩:=d2 k3;refine Qd ?_;try simp only[go_sem]
 refine Qa ?_;simp only[go_sem];refine Qg ?_;simp only[go_sem,Qq,Q1,Aa,Ja,forall_eq,RS.op];exact hK r3 (by omega) (by omega) fun _=>⟨n0+n1+n2,⟨.mk a s x0 x1 x2,by rw[e0,e1,e2,St.cells],by simp only[St.size];omega⟩,by omega⟩
theorem Qa9r {n:Nat}(hn:LIM<n)(cz:n<2 ^ 63)(ok:Nat→Prop):SzE Fd (.c (.slb n)) ok:=by
 intro left H K h0 hl hK;simp only[LIM]at hn;refine Qb Ab Q70 ?_;refine Qa ?_;simp only[go_sem];refine Qa ?_;simp only[go_sem,lenX];refine⟨.inr (EB n),fun _=>⟨Ql,?_⟩⟩;refine Qp (Qa ?_);simp only[go_sem];refine Qe (Qc rfl (fun hn=>?_) (fun hn=>by have:=of_decide_eq_false hn;omega));refine Qa ?_;simp only[go_sem];refine Qg ?_;simp only[go_sem,Qq,Q1,Aa,Ja,forall_eq,RS.op];exact hK _ (by omega) (by omega) fun h=>by omega
theorem Qbj1 {rows:List (List C)}(bZ:rows.length≤LIM)(cw:∀r∈rows,r.length=1)(jq:∀r∈rows,ar r=true)(hf:∀r∈rows,∃c,r=[c]∧nmC c) :
  SzE Fd (.c (.sl false 1 rows)) fun n=>∃l:List (List UInt8),rows=Q3 l∧List.length l≤n:=by
 intro left H K h0 hl hK;simp only[LIM]at bZ;refine Qb Ab Q70 ?_;refine Qa ?_;simp only[go_sem];refine Qa ?_;simp only[go_sem,lenX];refine⟨.inl trivial,fun _=>⟨Ql,?_⟩⟩;refine Qp (Qa ?_);simp only[go_sem];refine Qe (Qc rfl (fun hn=>?_) (fun hn=>?_))
 ·refine Qa ?_;simp only[go_sem];refine Qg ?_;simp only[go_sem,Qq,Q1,Aa,Ja,forall_eq,RS.op];exact hK _ (by omega) (by omega) fun h=>by omega
 have h2:0≤left-rows.length:=by have:=of_decide_eq_false hn;omega
 refine Qd ?_;try simp only[go_sem]
 refine Qp (Qa ?_);simp only[go_sem];refine Qe (Qf (Qu (fun m e1 H1=>∃(i:Nat) (l0:List (List UInt8)) (lf:Int),m=rows.length-i∧i≤rows.length∧H1=H∧rows.take i=Q3 l0∧0≤lf∧lf≤left∧(List.length l0:Int)+lf≤left-rows.length+i∧
  e1=[(0,.c (.sl false 1 rows)),(1,.c (.int .i64 lf)),(5,.c (.int .i64 i))]) rows.length ?_ ?_))
 ·exact⟨0,[],left-rows.length,by omega,by omega,rfl,rfl,h2,by omega,by simp only[Ju];omega,rfl⟩
 ·rintro m e1 H1 ⟨i,l0,lf,hm,hi,rfl,aO,h3,h4,h5,rfl⟩;refine Qp (Qa ?_);simp only[go_sem,lenX];refine⟨.inl trivial,fun _=>?_⟩;refine Qe (Qc rfl (fun hc=>?_) (fun hc=>?_))
  ·have aa:i<rows.length:=by have:=of_decide_eq_true hc;omega
   obtain⟨r,db⟩:∃r,rows[i]=r:=⟨_,rfl⟩;have fY:r∈rows:=by rw[←db];exact Jf aa
   have av:rows.getD i []=r:=by rw[Jc,Jh aa,db];rfl
   have hr:=cw r fY;have fF:List.take 1 r=r:=Jb (by omega);have dX:(r.all fun c=>!c.ah)=true:=jq r fY;refine Qd ?_;try simp only[go_sem]
   refine Qe (Qf ?_);obtain⟨c,rfl,eY⟩:=hf r fY;have bg:=eY.ow;rcases eY with ⟨s,rfl⟩|⟨n,cA,cz,rfl⟩
   rotate_left
   ·simp only[LIM]at cA;refine Qa ?_;simp only[go_sem,aa,av,fF,dX,hr,bg];refine fun _=>⟨Ql,?_⟩;refine Qa ?_;simp only[go_sem];refine Qc rfl (fun hn=>?_) (fun hn=>by have:=of_decide_eq_false hn;omega);refine Qa ?_;simp only[go_sem];refine Qg ?_;simp only[go_sem,AE.X.next,Qq,Q1,Aa,Ja,forall_eq,RS.op];exact hK _ (by omega) (by omega) fun h=>by omega
   refine Qa ?_;simp only[go_sem,aa,av,fF,dX,hr,bg];refine fun gG=>?_;simp only[LIM]at gG;refine⟨Ql,?_⟩;refine Qa ?_;simp only[go_sem];refine Qc rfl (fun hn=>?_) (fun hn=>?_)
   ·refine Qa ?_;simp only[go_sem];refine Qg ?_;simp only[go_sem,AE.X.next,Qq,Q1,Aa,Ja,forall_eq,RS.op];exact hK _ (by omega) (by omega) fun h=>by omega
   have h6:0≤lf-s.length:=by have:=of_decide_eq_false hn;omega
   refine Qd ?_;try simp only[go_sem,AE.X.next]
   refine Qn ?_;simp only[go_sem,AE.X.next];refine⟨Ql,rows.length-(i+1),by omega,i+1,l0++[s],lf-s.length,rfl,by omega,?_,h6,by omega,?_,rfl⟩
   ·rw[Jd aa,aO,db,GZ]
   ·simp only[Jm,Jj,Ju];omega
  ·have aC:rows.length≤i:=by have:=of_decide_eq_false hc;omega
   rw[Jb aC]at aO;refine Qr ?_;simp only[go_sem,AE.X.next];refine Qa ?_;simp only[go_sem];refine Qg ?_;simp only[go_sem,Qq,Q1,Aa,Ja,forall_eq,RS.op];exact hK lf (by omega) h4 fun _=>⟨List.length l0,⟨l0,aO,Jo _⟩,by omega⟩
theorem Qb12 {cn ct cb:C}(eY:nmC cn)(nN:SzE Fd (.c ct) (okTs ct))(lc:ct.ah=false)(qt:SzE Dv (.c cb) (okSs cb))(aZ:cb.ah=false):SzE Ig (.ag [cn,ct,cb]) fun n=>∃x:Fn,[cn,ct,cb]=x.cells∧1+x.params.length+Qh x.body≤n+1:=by
 intro left H K h0 hl hK;have bg:=eY.ow;have bA:=lc;have bO:=aZ;refine Qb Ab Qbqu ?_;refine Qa ?_;simp only[go_sem,bg,bA,bO];rcases eY with ⟨s,rfl⟩|⟨n,cA,cz,rfl⟩
 rotate_left
 ·simp only[LIM]at cA;refine Qa ?_;simp only[go_sem,bg,bA,bO];refine fun _=>⟨Ql,?_⟩;refine Qp (Qa ?_);simp only[go_sem,bg,bA,bO];refine Qe (Qc rfl (fun hn=>?_) (fun hn=>by have:=of_decide_eq_false hn;omega));refine Qa ?_;simp only[go_sem];refine Qg ?_;simp only[go_sem,Qq,Q1,Aa,Ja,forall_eq,RS.op];exact hK _ (by omega) (by omega) fun h=>by omega
 refine Qa ?_;simp only[go_sem,bg,bA,bO];refine fun gG=>?_;simp only[LIM]at gG;refine⟨Ql,?_⟩;refine Qp (Qa ?_);simp only[go_sem,bg,bA,bO];refine Qe (Qc rfl (fun hn=>?_) (fun hn=>?_))
 ·refine Qa ?_;simp only[go_sem];refine Qg ?_;simp only[go_sem,Qq,Q1,Aa,Ja,forall_eq,RS.op];exact hK _ (by omega) (by omega) fun h=>by omega
 have k0:0≤left-s.length:=by have:=of_decide_eq_false hn;omega
 refine Qd ?_;try simp only[go_sem]
 refine Qa ?_;simp only[go_sem,bg,bA,bO];refine nN (left-s.length) H _ k0 (by omega) fun r1 a0 b0 d0=>?_;simp only[go_sem,MR,bg,bA,bO];refine Qp (Qa ?_);simp only[go_sem,bg,bA,bO];refine Qe (Qc rfl (fun hn=>?_) (fun hn=>?_))
 ·refine Qa ?_;simp only[go_sem];refine Qg ?_;simp only[go_sem,Qq,Q1,Aa,Ja,forall_eq,RS.op];exact hK _ (by omega) (by omega) fun h=>by omega
 have k1:0≤r1:=by have:=of_decide_eq_false hn;omega
 obtain⟨n0,⟨x0,e0,f0⟩,g0⟩:=d0 k1;refine Qd ?_;try simp only[go_sem]
 refine Qa ?_;simp only[go_sem,bg,bA,bO];refine qt r1 H _ k1 (by omega) fun r2 a1 b1 d1=>?_;simp only[go_sem,MQ,bg,bA,bO];refine Qp (Qa ?_);simp only[go_sem,bg,bA,bO];refine Qe (Qc rfl (fun hn=>?_) (fun hn=>?_))
 ·refine Qa ?_;simp only[go_sem];refine Qg ?_;simp only[go_sem,Qq,Q1,Aa,Ja,forall_eq,RS.op];exact hK _ (by omega) (by omega) fun h=>by omega
 have k2:0≤r2:=by have:=of_decide_eq_false hn;omega
 obtain⟨n1,⟨x1,e1,f1⟩,g1⟩:=d1 k2;refine Qd ?_;try simp only[go_sem]
 refine Qa ?_;simp only[go_sem];refine Qg ?_;simp only[go_sem,Qq,Q1,Aa,Ja,forall_eq,RS.op];exact hK r2 (by omega) (by omega) fun _=>⟨n0+n1,⟨⟨s,x0,x1⟩,by rw[e0,e1,Fn.cells],by simp only;omega⟩,by omega⟩
theorem Qbs5 {n:Nat}(hn:LIM<n)(cz:n<2 ^ 63)(ok:Nat→Prop):SzE HG (.c (.slb n)) ok:=by
 intro left H K h0 hl hK;simp only[LIM]at hn;refine Qb Ab OR ?_;refine Qa ?_;simp only[go_sem];refine Qa ?_;simp only[go_sem,lenX];refine⟨.inr (EB n),fun _=>⟨Ql,?_⟩⟩;refine Qp (Qa ?_);simp only[go_sem];refine Qe (Qc rfl (fun hn=>?_) (fun hn=>by have:=of_decide_eq_false hn;omega));refine Qa ?_;simp only[go_sem];refine Qg ?_;simp only[go_sem,Qq,Q1,Aa,Ja,forall_eq,RS.op];exact hK _ (by omega) (by omega) fun h=>by omega
theorem TR {rows:List (List C)}(bZ:rows.length≤LIM)(cw:∀r∈rows,r.length=3)(jq:∀r∈rows,ar r=true)(hf:∀r∈rows,SzE Ig (.ag r) fun n=>∃x:Fn,r=x.cells∧1+x.params.length+Qh x.body≤n+1) :
  SzE HG (.c (.sl false 3 rows)) fun n=>∃l:List Fn,rows=Ae l∧Ca l≤n:=by
 intro left H K h0 hl hK;simp only[LIM]at bZ;refine Qb Ab OR ?_;refine Qa ?_;simp only[go_sem];refine Qa ?_;simp only[go_sem,lenX];refine⟨.inl trivial,fun _=>⟨Ql,?_⟩⟩;refine Qp (Qa ?_);simp only[go_sem];refine Qe (Qc rfl (fun hn=>?_) (fun hn=>?_))
 ·refine Qa ?_;simp only[go_sem];refine Qg ?_;simp only[go_sem,Qq,Q1,Aa,Ja,forall_eq,RS.op];exact hK _ (by omega) (by omega) fun h=>by omega
 have h2:0≤left-rows.length:=by have:=of_decide_eq_false hn;omega
 refine Qd ?_;try simp only[go_sem]
 refine Qp (Qa ?_);simp only[go_sem];refine Qe (Qf (Qu (fun m e1 H1=>∃(i:Nat) (l0:List Fn) (lf:Int),m=rows.length-i∧i≤rows.length∧H1=H∧rows.take i=Ae l0∧0≤lf∧lf≤left∧(Ca l0:Int)+lf≤left-rows.length+i∧
  e1=[(0,.c (.sl false 3 rows)),(1,.c (.int .i64 lf)),(5,.c (.int .i64 i))]) rows.length ?_ ?_))
 ·exact⟨0,[],left-rows.length,by omega,by omega,rfl,rfl,h2,by omega,by simp only[Ca];omega,rfl⟩
 ·rintro m e1 H1 ⟨i,l0,lf,hm,hi,rfl,aO,h3,h4,h5,rfl⟩;refine Qp (Qa ?_);simp only[go_sem,lenX];refine⟨.inl trivial,fun _=>?_⟩;refine Qe (Qc rfl (fun hc=>?_) (fun hc=>?_))
  ·have aa:i<rows.length:=by have:=of_decide_eq_true hc;omega
   obtain⟨r,db⟩:∃r,rows[i]=r:=⟨_,rfl⟩;have fY:r∈rows:=by rw[←db];exact Jf aa
   have av:rows.getD i []=r:=by rw[Jc,Jh aa,db];rfl
   have hr:=cw r fY;have fF:List.take 3 r=r:=Jb (by omega);have dX:(r.all fun c=>!c.ah)=true:=jq r fY;refine Qd ?_;try simp only[go_sem]
   refine Qe (Qf ?_);refine Qa ?_;simp only[go_sem,aa,av,fF,dX,hr];refine hf r fY lf H1 _ h3 (by omega) fun rr b1 b2 jT=>?_;simp only[go_sem,N7];refine Qa ?_;simp only[go_sem];refine Qc rfl (fun hn=>?_) (fun hn=>?_)
   ·refine Qa ?_;simp only[go_sem];refine Qg ?_;simp only[go_sem,AE.X.next,Qq,Q1,Aa,Ja,forall_eq,RS.op];exact hK _ (by omega) (by omega) fun h=>by omega
   have h6:0≤rr:=by have:=of_decide_eq_false hn;omega
   obtain⟨n,⟨x,hx,jn⟩,a9⟩:=jT h6;refine Qd ?_;try simp only[go_sem,AE.X.next]
   refine Qn ?_;simp only[go_sem,AE.X.next];refine⟨Ql,rows.length-(i+1),by omega,i+1,l0++[x],rr,rfl,by omega,?_,h6,by omega,?_,rfl⟩
   ·rw[Jd aa,aO,db,hx,OA]
   ·simp only[Qbpg,Ca];omega
  ·have aC:rows.length≤i:=by have:=of_decide_eq_false hc;omega
   rw[Jb aC]at aO;refine Qr ?_;simp only[go_sem,AE.X.next];refine Qa ?_;simp only[go_sem];refine Qg ?_;simp only[go_sem,Qq,Q1,Aa,Ja,forall_eq,RS.op];exact hK lf (by omega) h4 fun _=>⟨Ca l0,⟨l0,aO,Jo _⟩,by omega⟩
theorem Qbjz {c:C}(nN:SzE HG (.c c) (okFs c))(lc:c.ah=false):SzE I6 (.ag [c]) fun n=>okFs c n:=by
 intro left H K h0 hl hK;have bA:=lc;refine Qb Ab Qawy ?_;refine Qa ?_;simp only[go_sem,bA];refine Qa ?_;simp only[go_sem,bA];refine nN left H _ h0 (by omega) fun r1 a0 b0 d0=>?_;simp only[go_sem,Qut,bA];refine Qp (Qa ?_);simp only[go_sem,bA];refine Qe (Qc rfl (fun hn=>?_) (fun hn=>?_))
 ·refine Qa ?_;simp only[go_sem];refine Qg ?_;simp only[go_sem,Qq,Q1,Aa,Ja,forall_eq,RS.op];exact hK _ (by omega) (by omega) fun h=>by omega
 have k1:0≤r1:=by have:=of_decide_eq_false hn;omega
 obtain⟨n0,⟨x0,e0,f0⟩,g0⟩:=d0 k1;refine Qd ?_;try simp only[go_sem]
 refine Qa ?_;simp only[go_sem];refine Qg ?_;simp only[go_sem,Qq,Q1,Aa,Ja,forall_eq,RS.op];exact hK r1 (by omega) (by omega) fun _=>⟨n0,⟨x0,e0,f0⟩,by omega⟩
end Go.AE.Y
namespace Go.AE.Y
open Go.Proofs.Tryz
theorem DJ:∀(a b:List C),SizeOf.sizeOf a≤SizeOf.sizeOf (a++b)∧SizeOf.sizeOf b≤SizeOf.sizeOf (a++b)
 |[],b=>⟨by cases b <;> simp <;> omega,Jo _⟩
 |x::a,b=>by have:=DJ a b;simp only[Jk,List.cons.sizeOf_spec];omega
theorem Ow {cs:List C}(h:TyC prog BW cs):∃c,cs=[c]∧c.ah=false∧SzE Fd (.c c) (okTs c):=by
 rcases h.of_sl Qb17 with ⟨rows,rfl,h1,h2,h3⟩|⟨m,h1,h2,rfl⟩
 ·refine⟨_,rfl,rfl,(Qbj1 h1 h3 (fun r hr=>(h2 r hr).ar) fun r hr=>(h2 r hr).of_str Do).imp fun n hn=>?_⟩;obtain⟨l,rfl,h4⟩:=hn;exact⟨l,rfl,h4⟩
 ·exact⟨_,rfl,rfl,Qa9r h1 h2 _⟩
theorem KA {k:Nat}(hf:∀cs,SizeOf.sizeOf cs≤k→TyC prog BB cs→SzE EY (.ag cs) fun n=>∃x:Ex,cs=x.cells∧x.size≤n+1){cs:List C}(h:TyC prog CT cs)(hk:SizeOf.sizeOf cs≤k+1):∃c,cs=[c]∧c.ah=false∧SzE DZ (.c c) (okXs c):=by
 rcases h.of_sl Qb3p with ⟨rows,rfl,h1,h2,h3⟩|⟨m,h1,h2,rfl⟩
 ·refine⟨_,rfl,rfl,(Qbs4 h1 h3 (fun r hr=>(h2 r hr).ar) fun r hr=>hf r ?_ (h2 r hr)).imp fun n hn=>?_⟩
  ·have:=List.sizeOf_lt_of_mem hr;simp only[List.cons.sizeOf_spec,C.sl.sizeOf_spec]at hk;omega
  ·obtain⟨l,rfl,h4⟩:=hn;exact⟨l,rfl,h4⟩
 ·exact⟨_,rfl,rfl,Qbjy h1 h2 _⟩
theorem KB:∀(k:Nat) (cs:List C),SizeOf.sizeOf cs≤k→TyC prog BB cs→SzE EY (.ag cs) fun n=>∃x:Ex,cs=x.cells∧x.size≤n+1:=by
 intro k
 induction k with
 |zero=>intro cs h _;cases cs <;> simp at h <;> omega
 |succ k ih=>
 intro cs hs h;obtain⟨css,rfl,h1,h2⟩:=h.of_struct u_Ex
 match css,h1 with
 |[c0,c1,c2,c3],_=>
  obtain⟨a,rfl,_⟩:=(h2 0 _ _ rfl rfl).of_int Dp;obtain⟨b,rfl,_⟩:=(h2 1 _ _ rfl rfl).of_int Dp;obtain⟨cn,rfl,hn⟩:=(h2 2 _ _ rfl rfl).of_str Do;obtain⟨ck,rfl,h3,h4⟩:=KA ih (h2 3 _ _ rfl rfl) (by
   have:SizeOf.sizeOf c3≤SizeOf.sizeOf ([[C.int .i64 a],[C.int .i64 b],[cn],c3].flatten):=by
    simp only[List.flatten_cons,List.flatten_nil,Jk,Jl,Jg,List.cons.sizeOf_spec];omega
   omega)
  exact VL hn h4 h3
theorem KZ {cs:List C}(h:TyC prog CT cs):∃c,cs=[c]∧c.ah=false∧SzE DZ (.c c) (okXs c):=KA (k:=SizeOf.sizeOf cs) (fun cs2 _ h2=>KB _ cs2 (Jo _) h2) h (by omega)
theorem Hg {k:Nat}(hf:∀cs,SizeOf.sizeOf cs≤k→TyC prog Dq cs→SzE HO (.ag cs) fun n=>∃x:St,cs=x.cells∧x.size≤n+1){cs:List C}(h:TyC prog Cz cs)(hk:SizeOf.sizeOf cs≤k+1):∃c,cs=[c]∧c.ah=false∧SzE Dv (.c c) (okSs c):=by
 rcases h.of_sl Qb3r with ⟨rows,rfl,h1,h2,h3⟩|⟨m,h1,h2,rfl⟩
 ·refine⟨_,rfl,rfl,(Qbs7 h1 h3 (fun r hr=>(h2 r hr).ar) fun r hr=>hf r ?_ (h2 r hr)).imp fun n hn=>?_⟩
  ·have:=List.sizeOf_lt_of_mem hr;simp only[List.cons.sizeOf_spec,C.sl.sizeOf_spec]at hk;omega
  ·obtain⟨l,rfl,h4⟩:=hn;exact⟨l,rfl,h4⟩
 ·exact⟨_,rfl,rfl,Qbj0 h1 h2 _⟩
theorem Xr:∀(k:Nat) (cs:List C),SizeOf.sizeOf cs≤k→TyC prog Dq cs→SzE HO (.ag cs) fun n=>∃x:St,cs=x.cells∧x.size≤n+1:=by
 intro k
 induction k with
 |zero=>intro cs h _;cases cs <;> simp at h <;> omega
 |succ k ih=>
 intro cs hs h;obtain⟨css,rfl,h1,h2⟩:=h.of_struct u_St
 match css,h1 with
 |[c0,c1,c2,c3,c4],_=>
  have gu:SizeOf.sizeOf c3≤SizeOf.sizeOf ([c0,c1,c2,c3,c4].flatten):=by
   have:=DJ c3 (c4++[]);have:=DJ c2 (c3++(c4++[]));have:=DJ c1 (c2++(c3++(c4++[])));have:=DJ c0 (c1++(c2++(c3++(c4++[]))));simp only[List.flatten_cons,List.flatten_nil];omega
  have lW:SizeOf.sizeOf c4≤SizeOf.sizeOf ([c0,c1,c2,c3,c4].flatten):=by
   have:=DJ c4 [];have:=DJ c3 (c4++[]);have:=DJ c2 (c3++(c4++[]));have:=DJ c1 (c2++(c3++(c4++[])));have:=DJ c0 (c1++(c2++(c3++(c4++[]))));simp only[List.flatten_cons,List.flatten_nil];omega
  obtain⟨a,rfl,_⟩:=(h2 0 _ _ rfl rfl).of_int Dp;obtain⟨cn,rfl,hn⟩:=(h2 1 _ _ rfl rfl).of_str Do;obtain⟨ca,rfl,h3,h4⟩:=KZ (h2 2 _ _ rfl rfl);obtain⟨cb,rfl,h5,h6⟩:=Hg ih (h2 3 _ _ rfl rfl) (by omega);obtain⟨cd,rfl,h7,h8⟩:=Hg ih (h2 4 _ _ rfl rfl) (by omega);exact Xq hn h4 h3 h6 h5 h8 h7
theorem Qbs8 {cs:List C}(h:TyC prog Cz cs):∃c,cs=[c]∧c.ah=false∧SzE Dv (.c c) (okSs c):=Hg (k:=SizeOf.sizeOf cs) (fun cs2 _ h2=>Xr _ cs2 (Jo _) h2) h (by omega)
theorem VK {cs:List C}(h:TyC prog Eb cs):SzE Ig (.ag cs) fun n=>∃x:Fn,cs=x.cells∧1+x.params.length+Qh x.body≤n+1:=by
 obtain⟨css,rfl,h1,h2⟩:=h.of_struct u_Fn
 match css,h1 with
 |[c0,c1,c2],_=>
  obtain⟨cn,rfl,hn⟩:=(h2 0 _ _ rfl rfl).of_str Do;obtain⟨ct,rfl,h3,h4⟩:=Ow (h2 1 _ _ rfl rfl);obtain⟨cb,rfl,h5,h6⟩:=Qbs8 (h2 2 _ _ rfl rfl);exact Qb12 hn h4 h3 h6 h5
theorem Qbs6 {cs:List C}(h:TyC prog Er cs):∃c,cs=[c]∧c.ah=false∧SzE HG (.c c) (okFs c):=by
 rcases h.of_sl Qb3q with ⟨rows,rfl,h1,h2,h3⟩|⟨m,h1,h2,rfl⟩
 ·refine⟨_,rfl,rfl,(TR h1 h3 (fun r hr=>(h2 r hr).ar) fun r hr=>VK (h2 r hr)).imp fun n hn=>?_⟩;obtain⟨l,rfl,h4⟩:=hn;exact⟨l,rfl,h4⟩
 ·exact⟨_,rfl,rfl,Qbs5 h1 h2 _⟩
theorem Qboh {cs:List C}(h:TyC prog C6 cs):∃c,cs=[c]∧c.ah=false∧SzE I6 (.ag [c]) (okFs c):=by
 obtain⟨css,rfl,h1,h2⟩:=h.of_struct Qb16
 match css,h1 with
 |[c0],_=>
  obtain⟨c,rfl,h3,h4⟩:=Qbs6 (h2 0 _ _ rfl rfl);exact⟨c,rfl,h3,Qbjz h4 h3⟩
end Go.AE.Y
namespace Go.AE
variable {H0 H H1:Heap}{E L N Lg B:List (Nat×Obj)}{sz:Nat}{rows rows':List (List C)}{c:C}{S:Nat→Bool}
theorem Slc.kn (h:Slc H sz rows c)(kn:Kn H H1 [] L):Slc H1 sz rows c:=by
 match c,h with
 |.sl f z r,h=>exact⟨trivial,h.sz,h.rows,h.len⟩
 |.aG l a st n,h=>
  have hl:H l≠.none:=fun e=>by
   have:=h.ok;simp only[bt,e]at this
  have he:=kn.chg l hl (by simp);have h1:=h.ok;have h2:=h.rows;simp only[bt,rowsOf]at h1 h2;refine⟨?_,h.sz,?_,h.len⟩
  ·simp only[bt,he];exact h1
  ·simp only[rowsOf,he];exact h2
end Go.AE
namespace Go.AE.Y
attribute [local go_sem] cond_true cond_false Bool.not_true Bool.not_false
open Go.Proofs.Tryz
variable {H H' H0 F:Heap}{K:V→Heap→Prop}{fns:List Fn}{L:List (Nat×Obj)}
theorem M6:∀fns:List Fn,A6 fns≤Ca fns
 |[]=>Jo _
 |f::r=>by have:=M6 r;simp only[A6,Ca];omega
theorem GK.hide (g:GK H):GK (Ao H):=by
 obtain⟨ks,rows,h3,h4⟩:=g.sign;exact⟨Kf g.keys,ks,rows,Kf h3,h4⟩
theorem Q5f {fl:Bool}(hK:∀H',Upd H H' []→K (.ag [.sl false 3 (Ae fns)]) H'):Qi prog F5 [.ag [.sl fl 3 (Ae fns)]] H K:=
 A0 (LZ fun H' L cs kn ho=>⟨_,(ho.frz fun p hp=>⟨(kn.get p (by simpa using hp)).1,DR (kn.loc p hp)⟩).ag,hK _ kn.fin⟩)
end Go.AE.Y
namespace Go.AE.Y
open Go.Proofs.Tryz
structure PrOk (l:List Fn):Prop where
 pos:0<l.length
 par:∀f∈l,f.params.length≤3
 ok:∀f∈l,Bl f.body
 size:A6 l≤2^34
 len:l.length≤4
variable {F H:Heap}{w:Nat}{s:LS}{K:V→Heap→Prop}
structure LStep (s s':LS)(d:Nat):Prop where
 bl:s.blocks.length≤s'.blocks.length
 ok:∀N,s.ok N→s'.ok (N+d)
 vl:s.vars.length≤s'.vars.length
 at_:s.at_<s.blocks.length→s'.at_<s'.blocks.length
 fn:s'.fns=s.fns∧s'.pfl=s.pfl∧s'.params=s.params
theorem LStep.trans {s s' s'':LS}{d e:Nat}(h:LStep s s' d)(k:LStep s' s'' e):LStep s s'' (d+e):=
 ⟨Jas h.bl k.bl,fun N hN=>by rw[←Nat.add_assoc];exact k.ok _ (h.ok N hN),Jas h.vl k.vl,fun ha=>k.at_ (h.at_ ha),k.fn.1.trans h.fn.1,k.fn.2.1.trans h.fn.2.1,k.fn.2.2.trans h.fn.2.2⟩
theorem LStep.refl (s:LS):LStep s s 0:=⟨Jo _,fun N h=>h,Jo _,fun h=>h,rfl,rfl,rfl⟩
theorem LStep.mono {s s':LS}{d e:Nat}(h:LStep s s' d)(hd:d≤e):LStep s s' e:=⟨h.bl,fun N hN=>(h.ok N hN).mono (by omega),h.vl,h.at_,h.fn⟩
end Go.AE.Y
namespace Go.AE.Y
structure Lw where
 ae:Int
 bs:List BlkD
 at_:Nat
def blk0:BlkD:=⟨[],[],0,0,[]⟩
def Lw.put (s:Lw)(op to n:Int)(args:List Int):Lw:={ s with bs:=s.bs.modify s.at_ fun b=>{ b with ins:=b.ins++[⟨op,to,args,n⟩] } }
def Lw.fresh (s:Lw):Lw:={ s with ae:=s.ae+1 }
def Lw.add (s:Lw)(n:Nat):Lw:={ s with bs:=s.bs++List.replicate n blk0 }
def Lw.jump (s:Lw)(kind on:Int)(next:List Int)(at':Nat):Lw:={ s with bs:=s.bs.modify s.at_ fun b=>{ b with jump:=kind,on:=on,next:=next },at_:=at' }
def Lw.make (s:Lw)(op n:Int)(args:List Int):Lw:=s.fresh.put op s.ae n args
def Bg (op:Int):Int:=if op=11 then 10 else if op=12 then 11 else if op=13 then 14 else op
mutual
def Ex.low (rg fi:List UInt8→Int):Ex→Lw→Lw×Int
 |.mk op n name kids,s=>
  if op=1 then (s.make 1 n [],s.ae)
  else if op=2 then (s,rg name)
  else if op=10 then BG rg fi kids s
  else ((Am rg fi kids s).1.make (Bg op) (if op=13 then fi name else 0) (Am rg fi kids s).2,(Am rg fi kids s).1.ae)
def Am (rg fi:List UInt8→Int):List Ex→Lw→Lw×List Int
 |[],s=>(s,[])
 |x::r,s=>((Am rg fi r (x.low rg fi s).1).1,(x.low rg fi s).2::(Am rg fi r (x.low rg fi s).1).2)
def BG (rg fi:List UInt8→Int):List Ex→Lw→Lw×Int
 |[],s=>(s,0)
 |x::r,s=>
  let s1:=(x.low rg fi s).1;let s2:=s1.make 1 0 []
  (Fk rg fi s1.ae s1.bs.length r ((s2.add 2).jump 2 (x.low rg fi s).2 [(s1.bs.length:Int),(s1.bs.length:Int)+1] s1.bs.length),s1.ae)
def Fk (rg fi:List UInt8→Int)(t:Int)(right:Nat):List Ex→Lw→Lw
 |[],s=>s
 |x::_,s=>
  let s1:=(x.low rg fi s).1
  ((s1.make 10 0 [(x.low rg fi s).2]).put 10 t 0 [s1.ae]).jump 1 0 [(right:Int)+1] (right+1)
end
theorem Ps (rg fi:List UInt8→Int)(l:List Ex)(x:Ex)(s:Lw):Am rg fi (l++[x]) s=((x.low rg fi (Am rg fi l s).1).1,(Am rg fi l s).2++[(x.low rg fi (Am rg fi l s).1).2]):=by
 induction l generalizing s with
 |nil=>simp[Am]
 |cons y r ih=>simp only[Jk,Am,ih]
theorem OH (rg fi:List UInt8→Int)(l:List Ex)(s:Lw):(Am rg fi l s).2.length=l.length:=by
 induction l generalizing s with
 |nil=>simp[Am]
 |cons y r ih=>simp only[Am,Jj,ih]
def Aj (v:Vars)(dflt:Int)(s:List UInt8):Int:=match v.find s with
 |some n=>(n:Int)
 |none=>dflt
structure Lv where
 s:Lw
 v:Vars
 next:Nat
def Lv.one (w:Lv)(d:Int)(fi:List UInt8→Int)(op:Int)(name:List UInt8)(args:List Ex):Lv:=
 let s1:=(Am (Aj w.v d) fi args w.s).1;let rs:=(Am (Aj w.v d) fi args w.s).2
 if op=1 then ⟨s1.put 2 (w.next:Int) 0 rs,A9 w.v name w.next,w.next+1⟩
 else if op=2 then ⟨s1.put 2 (Aj w.v d name) 0 rs,w.v,w.next⟩
 else if op=3 then ⟨s1.put 13 (-1) 0 rs,w.v,w.next⟩
 else if op=4 then ⟨s1.put 12 (-1) 0 rs,w.v,w.next⟩
 else if op=7 then ⟨(s1.add 1).jump 3 (rs.getD 0 0) [] s1.bs.length,w.v,w.next⟩
 else ⟨s1,w.v,w.next⟩
mutual
def St.low (d:Int)(fi:List UInt8→Int):St→Lv→Lv
 |.mk op name args body els,w=>
  if op=6 then
   let b:=w.s.bs.length;let s1:=(w.s.add 3).jump 1 0 [(b:Int)] b;let s2:=(Am (Aj w.v d) fi (args.take 1) s1).1;let s3:=s2.jump 2 ((Am (Aj w.v d) fi (args.take 1) s1).2.getD 0 0) [(b:Int)+1,(b:Int)+2] (b+1);let w4:=Q9 d fi body ⟨s3,[]::w.v,w.next⟩
   ⟨w4.s.jump 1 0 [(b:Int)] (b+2),w.v,w4.next⟩
  else if op=5 then
   let s1:=(Am (Aj w.v d) fi args w.s).1;let b:=s1.bs.length;let s2:=(s1.add 3).jump 2 ((Am (Aj w.v d) fi args w.s).2.getD 0 0) [(b:Int),(b:Int)+1] b;let w3:=Q9 d fi body ⟨s2,[]::w.v,w.next⟩;let w4:=Q9 d fi els ⟨w3.s.jump 1 0 [(b:Int)+2] (b+1),[]::w.v,w3.next⟩
   ⟨w4.s.jump 1 0 [(b:Int)+2] (b+2),w.v,w4.next⟩
  else w.one d fi op name args
def Q9 (d:Int)(fi:List UInt8→Int):List St→Lv→Lv
 |[],w=>w
 |x::r,w=>Q9 d fi r (x.low d fi w)
end
theorem Gy (d:Int)(fi:List UInt8→Int)(a b:List St)(w:Lv):Q9 d fi (a++b) w=Q9 d fi b (Q9 d fi a w):=by
 induction a generalizing w with
 |nil=>simp[Q9]
 |cons x r ih=>simp only[Jk,Q9,ih]
mutual
def St.lets:St→Nat
 |.mk op _ _ body els=>(if op=1 then 1 else 0)+An body+An els
def An:List St→Nat
 |[]=>0
 |x::r=>x.lets+An r
end
def parV (ps:List (List UInt8)):Vars×Nat:=ps.foldl (fun s p=>(A9 s.1 p s.2,s.2+1)) ([[]],0)
def Ac (fns:List Fn)(s:List UInt8):Int:=match As fns s with
 |some n=>(n:Int)
 |none=>-1
def AW (d:Int)(fns:List Fn)(f:Fn):CodeD:=
 let w:=Q9 d (Ac fns) f.body ⟨⟨(f.params.length:Int)+An f.body,[blk0],0⟩,(parV f.params).1,f.params.length⟩;let s:=(w.s.make 1 0 []).jump 3 w.s.ae [] w.s.at_
 ⟨f.params.length,s.ae,s.bs⟩
def AA (d:Int)(fns:List Fn):List CodeD:=fns.map (AW d fns)
def Be (n:Nat):List UInt8:=[118,UInt8.ofNat (97+n)]
theorem KV {a b:Nat}(ha:a<26)(hb:b<26)(h:Be a=Be b):a=b:=by
 have:∀x y:Fin 26,Be x.val=Be y.val→x=y:=by decide
 have:=this ⟨a,ha⟩ ⟨b,hb⟩ h;exact congrArg Fin.val this
def renV (v:Vars):Vars:=v.map fun b=>b.map fun p=>(Be p.2,p.2)
def VOk (v:Vars)(n:Nat):Prop:=(v.flatten.map Prod.snd).Nodup∧∀p∈v.flatten,p.2<n
theorem L4 (v:Vars):(renV v).flatten=v.flatten.map fun p=>(Be p.2,p.2):=by
 induction v with
 |nil=>rfl
 |cons b r ih=>simp only[renV,J2,List.flatten_cons,Jp]at ih⊢;rw[ih]
theorem Yi {l:List (List UInt8×Nat)}{n:Nat}(hn:n≤26)(h1:(l.map Prod.snd).Nodup)(h2:∀p∈l,p.2<n){s:List UInt8}{m:Nat}(hf:(l.find? fun p=>decide (p.1=s)).map Prod.snd=some m) :
  ((l.map fun p=>(Be p.2,p.2)).find? fun p=>decide (p.1=Be m)).map Prod.snd=some m:=by
 obtain⟨p,hp,rfl⟩:=Option.map_eq_some_iff.1 hf;have pM:=List.mem_of_find?_eq_some hp;clear hf hp
 induction l with
 |nil=>simp at pM
 |cons a r ih=>
  have ha:=h2 a J8;have oE:=h2 p pM;rw[J2,List.find?_cons];by_cases he:Be a.2=Be p.2
  ·have:=KV (by omega) (by omega) he;simp[this]
  ·simp only[he,decide_false];have:p≠a:=fun e=>he (by rw[e]);exact ih (Jao.1 h1).2 (fun q hq=>h2 q (J5 _ hq)) (by simpa[this]using pM)
theorem VOk.find {v:Vars}{n:Nat}(h:VOk v n)(hn:n≤26){s:List UInt8}{m:Nat}(hf:v.find s=some m):(renV v).find (Be m)=some m:=by
 rw[Vars.find,L4];exact Yi hn h.1 h.2 hf
theorem VOk.put {v:Vars}{n:Nat}(h:VOk v n)(s:List UInt8):VOk (A9 v s n) (n+1):=by
 have e:(A9 v s n).flatten=(s,n)::v.flatten:=by
  cases v with
  |nil=>rfl
  |cons b r=>simp[A9]
 refine⟨?_,fun p hp=>?_⟩
 ·rw[e,J2,Jao];refine⟨fun hm=>?_,h.1⟩;obtain⟨p,hp,he⟩:=Jw.1 hm;have:=h.2 p hp;omega
 ·rw[e]at hp;rcases J3.1 hp with rfl|hp
  ·show n<n+1;omega
  ·have:=h.2 p hp;omega
theorem VOk.push {v:Vars}{n:Nat}(h:VOk v n):VOk ([]::v) n:=by
 have e:(([]:List (List UInt8×Nat))::v).flatten=v.flatten:=by simp
 exact⟨by rw[e];exact h.1,by rw[e];exact h.2⟩
theorem VOk.mono {v:Vars}{n m:Nat}(h:VOk v n)(hm:n≤m):VOk v m:=⟨h.1,fun p hp=>by have:=h.2 p hp;omega⟩
theorem VOk.top {v:Vars}{n:Nat}(h:VOk v n)(hn:n<26):AL (renV v) (Be n)=false:=by
 rw[AL,List.any_eq_false];intro p hp;have hm:p∈(renV v).flatten:=by
  cases hv:renV v with
  |nil=>rw[hv]at hp;simp at hp
  |cons b r=>rw[hv]at hp;simp at hp;simp[hp]
 rw[L4]at hm;obtain⟨q,hq,rfl⟩:=Jw.1 hm;have h2:=h.2 q hq;simp only[decide_eq_true_eq];intro he;have:=KV (by omega) hn he;omega
def AllV (v:Vars)(l:List Ex):Prop:=∀e∈l,e.op=2→(v.find e.name).isSome=true
theorem AllV.app {v:Vars}{a b:List Ex}(h:AllV v (a++b)):AllV v a∧AllV v b:=⟨fun e he=>h e (Jr _ he),fun e he=>h e (Jaf _ he)⟩
theorem Qb1y (fns:List Fn)(k:Nat)(op:Int)(name:List UInt8)(args:List Ex)(s:Ck):(stC fns k op name args s).n=s.n+if op=1 then 1 else 0:=by
 unfold stC;split
 ·rename_i h;simp[h]
 ·rename_i h
  split <;> simp[h]
mutual
theorem St.ck_nr (fns:List Fn)(k:Nat):∀(x:St) (s:Ck),(x.ck fns k s).n=s.n+x.lets
 |.mk op name args body els,s=>by
  simp only[St.ck,St.lets];rw[Ew fns k els,Ew fns k body,Qb1y];omega
theorem Ew (fns:List Fn)(k:Nat):∀(l:List St) (s:Ck),(Ai fns k l s).n=s.n+An l
 |[],s=>by simp[Ai,An]
 |x::r,s=>by
  simp only[Ai,An];rw[Ew fns k r,St.ck_nr fns k x];omega
end
end Go.AE.Y
