/- Part 5 of the proof: the engine, codes, walks and plain laws, each named where it stands. -/
import Derived.Test.YtdlbfkfpogdiiaaGreatDoorZD
import Derived.Shelf.Sort.Plain
import Derived.Shelf.Sort.So_math_bits_LenIn
open Nat (reduceEqDiff reduceAdd reduceLeDiff reduceLT)
set_option linter.unusedVariables false
set_option linter.unusedSimpArgs false
set_option maxRecDepth 4000
set_option maxHeartbeats 4000000
open Bool renaming and_eq_true->Jh,not_false->Jn,not_true->Jac
open List renaming mem_singleton->Ja,getElem_mem->Jb,getD_eq_getElem?_getD->Jc,take_of_length_le->Jd,take_succ_eq_append_getElem->Je,append_assoc->Jg,perm_append_comm->Ji,mem_append->Jj,length_cons->Jk,mem_cons_of_mem->Jl,getD_cons_zero->Jm,length_map->Jo,length_nil->Jp,nil_append->Jq,cons_append->Jr,take_append_drop->Jt,length_take->Ju,length_append->Jv,take_zero->Jw,mem_cons_self->Jx,contains_iff_mem->Jy,getElem?_eq_none->Jz,map_cons->J1,not_mem_nil->J4,getD_cons_succ->J5,getElem?_eq_getElem->J6,mem_map->J7,map_append->J8,getElem?_map->J9,mem_append_right->Jaa,any_eq_true->Jab,drop_eq_getElem_cons->Jad,getElem?_cons_zero->Jaf,mem_cons->Jag,take_length->Jai,map_nil->Jaj,mem_append_left->Jal,mem_iff_getElem->Jam,getElem?_drop->Jan,getElem?_take->Jao,set_cons_zero->Jap,flatMap_cons->Jar,nodup_append->Jas,map_set->Jat,mem_flatMap->Jau,append_nil->Jav,length_set->Jax,sum_append->Jay,take_take->Ja1,take_nil->Ja2,set_set->Ja3
open List.cons renaming injEq->Jaw
open Nat renaming le_refl->Jf,zero_add->Js,le_trans->J0,mul_le_mul_right->J3,le_succ->Jah,add_zero->Jak,eq_zero_or_pos->Jaq,min_eq_left->Jaz
open Option renaming isSome_iff_exists->Jae,map_some->Ja0
open Option.some renaming injEq->J2
namespace Go.AE
open Go.AE.Y
open Go.Proofs.Tryz
variable {H:Heap}{K:V→Heap→Prop}
theorem Gr.slc {H0 H:Heap}{E B Lg:List (Nat×Obj)}{sz:Nat}{rows:List (List C)}{c:C}(h:Gr Lg sz rows c)(kn:Kn H0 H E (B++Lg)):Slc H sz rows c:=by
 obtain⟨h1,h2⟩:=h.get kn;exact⟨h1,h.elemSz,h2,h.lenC⟩
theorem Gr.ne {H0 H:Heap}{E B Lg:List (Nat×Obj)}{sz:Nat}{rows:List (List C)}{c:C}{r:Nat}{o:Obj}(h:Gr Lg sz rows c)(kn:Kn H0 H E (B++Lg))(hr:(r,o)∈E):∀l a d n,c=.vsl l a d n→l≠r:=by
 intro l a d n hc hh;rcases h with ⟨h1,_⟩|⟨y,h1,h2⟩
 ·rw[h1]at hc;simp at hc
 ·rw[h1]at hc;have hy:y=l:=by injection hc
  have:=kn.loc (y,.vec sz rows) (by rw[h2];simp);exact kn.ext (r,o) hr (by rw[←hh,←hy];exact this)
theorem Gr.slcM {H0 H:Heap}{E L Lg:List (Nat×Obj)}{sz:Nat}{rows:List (List C)}{c:C}(h:Gr Lg sz rows c)(kn:Kn H0 H E L)(hm:∀p∈Lg,p∈L):Slc H sz rows c:=by
 rcases h with ⟨h1,h2,h3⟩|⟨y,h1,h2⟩
 ·rw[h1,h2];exact .mk' _ _ _ _
 ·have hy:H y=.vec sz rows:=(kn.get (y,.vec sz rows) (Jaa _ (hm _ (by rw[h2];simp)))).1;rw[h1];exact⟨by simp[Go.AE.okSl,hy],rfl,by simp[Go.AE.rowsOf,hy],rfl⟩
end Go.AE
namespace Go.AE.Y
open Go.Proofs.Tryz
variable {H:Heap}{K:V→Heap→Prop}
structure GRd (H:Heap)(c:C)(rows:List (List C))(nx:Nat→List Int):Prop where
 s:Slc H 5 rows c
 ow:c.isOw=false
 no:∀r∈rows,noOw r=true
 x:∀i,i<rows.length→∃a1 a2 a3 a4 fl,rows.getD i []=[a1,a2,a3,a4,.sl fl 1 (Qk (nx i))]
theorem GRd.keep {c:C}{rows:List (List C)}{nx:Nat→List Int}{H':Heap}{E L:List (Nat×Obj)}(h:GRd H c rows nx)(kn:Kn H H' E L)(hE:∀l a b d,c=.vsl l a b d→l∉E.map Prod.fst):GRd H' c rows nx:=⟨h.s.keep kn hE,h.ow,h.no,h.x⟩
theorem GRd.keep0 {c:C}{rows:List (List C)}{nx:Nat→List Int}{H':Heap}{L:List (Nat×Obj)}(h:GRd H c rows nx)(kn:Kn H H' [] L):GRd H' c rows nx:=h.keep kn (by simp)
def gnx (q:CodeD):Nat→List Int:=fun i=>(q.blocks.map BlkD.next).getD i []
theorem Qbig (H:Heap)(q:CodeD)(fl:Bool):GRd H (.sl fl 5 (Qaq q.blocks)) (Qaq q.blocks) (gnx q):=by
 refine⟨.mk' _ _ _ _,rfl,Qagu _,fun i h=>?_⟩;rw[Qam]at h;rw[Qdm _ _ h];have:gnx q i=q.blocks[i].next:=by simp[gnx,Jc,h]
 exact⟨.sl false 2 (Qgk q.blocks[i].phis),.sl false 4 (Qmq q.blocks[i].ins),.int .i64 q.blocks[i].jump,.int .i64 q.blocks[i].on,false,by rw[this];rfl⟩
end Go.AE.Y
namespace Go.AE.Y
open Go.Proofs.Tryz
def Qayh (l:List Nat):List (List C):=Qk (l.map Int.ofNat)
theorem Qa2y (l:List Nat):∀r∈Qayh l,noOw r=true:=Qal _
variable {H:Heap}{K:V→Heap→Prop}
theorem Qgh {n lo hi:Int}(hK:K (.c (.bool (decide (lo≤n)&&decide (n≤hi)))) H):Ql prog Qar [.c (.int .i64 n),.c (.int .i64 lo),.c (.int .i64 hi)] H K:=by
 refine Qb Qai Qahu ?_;refine Qa ?_;simp only[go_sem];refine Qa ?_;simp only[go_sem];refine Qi ?_;simp only[go_sem,Qs,Q6,Qblj,Ja,forall_eq,RS.op];have:(bif decide (lo≤n)then decide (n≤hi)else false)=(decide (lo≤n)&&decide (n≤hi)):=by cases decide (lo≤n) <;> rfl
 first|exact hK|(rw[this];exact hK)|(simpa[this]using hK)
def IsIx (ns:List Int)(v r:Int):Prop:=(r=-1∧v∉ns)∨∃i:Nat,r=i∧i<ns.length∧ns.getD i 0=v∧v∉ns.take i
theorem IsIx.nonneg {ns:List Int}{v r:Int}(h:IsIx ns v r):decide (0≤r)=ns.contains v:=by
 rcases h with ⟨rfl,hn⟩|⟨i,rfl,h1,h2,_⟩
 ·have:ns.contains v=false:=by
   cases hc:ns.contains v with
   |false=>rfl
   |true=>exact absurd (Jy.1 hc) hn
  rw[this];rfl
 ·have:v∈ns:=by
   rw[←h2,Jc,J6 h1];exact Jb h1
  rw[Jy.2 this];simp
theorem Qblp {c:C}{ns:List Int}{v:Int}(hs:Slc H 1 (Qk ns) c)(how:c.isOw=false)(hK:∀r,IsIx ns v r→K (.c (.int .i64 r)) H) :
  Ql prog Q4h [.c c,.c (.int .i64 v)] H K:=by
 refine Qb Qai Qa9a ?_;have hok:=eq_true hs.ok;have hlen:=hs.len;have hsz:=hs.sz;have hrw:=hs.rows;refine Qa ?_;simp only[go_sem];refine Q4 ?_;refine Qa ?_;simp only[go_sem,hok,hlen,Qj];intro hl;simp only[LIM]at hl;refine Qf (Qd (Qw (fun m e1 H1=>∃(i:Nat),m=ns.length-i∧i≤ns.length∧H1=H∧v∉ns.take i∧e1=[(0,.c c),(1,.c (.int .i64 v)),(7,.c (.int .i64 ns.length)),(8,.c (.int .i64 i))]) ns.length ?_ ?_))
 ·exact⟨0,by omega,by omega,rfl,by simp,rfl⟩
 ·rintro m e1 H1 ⟨i,hm,hi,rfl,hno,rfl⟩;refine Qa ?_;simp only[go_sem];refine Qf (Qc rfl ?_ ?_)
  ·intro hc;have hlt:i<ns.length:=by simpa using hc
   have hgd:ns.getD i 0=ns[i]:=by simp[Jc,hlt]
   refine Qe ?_;simp only[go_sem];refine Qf (Qd ?_);refine Qa ?_;simp only[go_sem];refine Qa ?_;simp only[go_sem,hok,hlen,hsz,hrw,hlt,Qj,Qak _ _ hlt];refine Qc rfl ?_ ?_
   ·intro hc2;have hv:v=ns.getD i 0:=(by simpa using hc2);refine Qa ?_;simp only[go_sem];refine Qi ?_;simp only[go_sem,X.next,Qs,Q6,Qm6,Ja,forall_eq,RS.op];exact hK _ (.inr ⟨i,rfl,hlt,hv.symm,hno⟩)
   ·intro hc2;have hv:¬v=ns.getD i 0:=(by simpa using hc2);refine Qe ?_;simp only[go_sem];refine Qq ?_;simp only[go_sem,X.next];refine⟨Qo (by omega) (by omega),ns.length-(i+1),by omega,i+1,rfl,by omega,?_,rfl⟩;rw[Je hlt];simp only[Jj,Ja,not_or];exact⟨hno,fun h=>hv (by rw[hgd];exact h)⟩
  ·intro hc;have hge:ns.length≤i:=by simpa using hc
   rw[Jd hge]at hno;refine Qv ?_;simp only[go_sem,X.next];refine Qa ?_;simp only[go_sem];refine Qi ?_;simp only[go_sem,Qs,Q6,Qm6,Ja,forall_eq,RS.op];exact hK _ (.inl ⟨rfl,hno⟩)
theorem Qa8c {c:C}{ns:List Int}{v:Int}(hs:Slc H 1 (Qk ns) c)(how:c.isOw=false)(hK:K (.c (.bool (ns.contains v))) H) :
  Ql prog Qnq [.c c,.c (.int .i64 v)] H K:=by
 refine Qb Qai Qauz ?_;refine Qa ?_;simp only[go_sem];refine Qa ?_;simp only[go_sem];refine Qblp hs how fun r hr=>?_;simp only[go_sem,Qst];refine Qi ?_;simp only[go_sem,Qs,Q6,Qm6,Ja,forall_eq,RS.op];rw[hr.nonneg];exact hK
theorem Qa1x {c:C}{ns:List Int}{f:Nat}{caps:List C}{p:Int→Bool}(hs:Slc H 1 (Qk ns) c)(how:c.isOw=false)
  (hf:∀(x:Int) (K':V→Heap→Prop),x∈ns→K' (.c (.bool (p x))) H→Ql prog f ([.c (.int .i64 x)]++caps.map .c) H K')
  (hK:∀r:Int,decide (0≤r)=ns.any p→K (.c (.int .i64 r)) H) :
  Ql prog Qlr [.c c,.c (.fn f caps)] H K:=by
 refine Qb Qai Qaoo ?_;have hok:=eq_true hs.ok;have hlen:=hs.len;have hsz:=hs.sz;have hrw:=hs.rows;refine Qa ?_;simp only[go_sem];refine Q4 ?_;refine Qa ?_;simp only[go_sem,hok,hlen,Qj];intro hl;simp only[LIM]at hl;refine Qf (Qd (Qw (fun m e1 H1=>∃(i:Nat),m=ns.length-i∧i≤ns.length∧H1=H∧(∀x∈ns.take i,p x=false)∧e1=[(0,.c c),(1,.c (.fn f caps)),(7,.c (.int .i64 ns.length)),(8,.c (.int .i64 i))]) ns.length ?_ ?_))
 ·exact⟨0,by omega,by omega,rfl,by simp,rfl⟩
 ·rintro m e1 H1 ⟨i,hm,hi,rfl,hno,rfl⟩;refine Qa ?_;simp only[go_sem];refine Qf (Qc rfl ?_ ?_)
  ·intro hc;have hlt:i<ns.length:=by simpa using hc
   have hgd:ns.getD i 0=ns[i]:=by simp[Jc,hlt]
   refine Qe ?_;simp only[go_sem];refine Qf (Qd ?_);refine Qa ?_;simp only[go_sem];refine Qa ?_;simp only[go_sem,hok,hlen,hsz,hrw,hlt,Qj,Qak _ _ hlt];refine hf _ _ (by rw[hgd];exact Jb hlt) ?_;refine Qc rfl ?_ ?_
   ·intro hc2;refine Qa ?_;simp only[go_sem];refine Qi ?_;simp only[go_sem,X.next,Qs,Q6,Qm6,Ja,forall_eq,RS.op];refine hK _ ?_;have:ns.any p=true:=Jab.2 ⟨ns[i],Jb hlt,by rw[←hgd];exact hc2⟩;rw[this];simp
   ·intro hc2;refine Qe ?_;simp only[go_sem];refine Qq ?_;simp only[go_sem,X.next];refine⟨Qo (by omega) (by omega),ns.length-(i+1),by omega,i+1,rfl,by omega,?_,rfl⟩;rw[Je hlt];intro x hx;rcases Jj.1 hx with hx|hx
    ·exact hno x hx
    ·simp only[Ja]at hx;subst hx;rw[←hgd];exact hc2
  ·intro hc;have hge:ns.length≤i:=by simpa using hc
   rw[Jd hge]at hno;refine Qv ?_;simp only[go_sem,X.next];refine Qa ?_;simp only[go_sem];refine Qi ?_;simp only[go_sem,Qs,Q6,Qm6,Ja,forall_eq,RS.op];refine hK _ ?_;have:ns.any p=false:=by
    cases hc:ns.any p with
    |false=>rfl
    |true=>obtain⟨x,hx,hp⟩:=Jab.1 hc;rw[hno x hx]at hp;exact absurd hp (by simp)
   rw[this];rfl
theorem Qni {c:C}{ns:List Int}{f:Nat}{caps:List C}{p:Int→Bool}(hs:Slc H 1 (Qk ns) c)(how:c.isOw=false)
  (hf:∀(x:Int) (K':V→Heap→Prop),x∈ns→K' (.c (.bool (p x))) H→Ql prog f ([.c (.int .i64 x)]++caps.map .c) H K')
  (hK:K (.c (.bool (ns.any p))) H):Ql prog Qcf [.c c,.c (.fn f caps)] H K:=by
 refine Qb Qai Q9o ?_;refine Qa ?_;simp only[go_sem];refine Qa ?_;simp only[go_sem];refine Qa1x hs how hf fun r hr=>?_;simp only[go_sem,Qkg];refine Qi ?_;simp only[go_sem,Qs,Q6,Qm6,Ja,forall_eq,RS.op];rw[hr];exact hK
theorem Qbjt {rows:List (List C)}(h:∀r∈rows,noOw r=true){i:Nat}(hi:i<rows.length){a1 a2 a3 a4 a5:C}(hr:rows.getD i []=[a1,a2,a3,a4,a5]) :
  a1.isOw=false∧a2.isOw=false∧a3.isOw=false∧a4.isOw=false∧a5.isOw=false:=by
 have:=h _ (Jb hi);have e:rows[i]=[a1,a2,a3,a4,a5]:=by rw[←hr];simp[Jc,hi]
 rw[e]at this;simpa[Go.AE.noOw]using this
def Qah1 (nx:Nat→List Int)(b:Int)(n:Nat):List Int:=if decide (0≤b)&&decide (b≤(n:Int)-1)then Qcm nx b n else []
theorem Qa8f {p rg:Int}{bc:C}{rows:List (List C)}{nx:Nat→List Int}{b:Int}(hs:Slc H 5 rows bc)(how:bc.isOw=false)(hno:∀r∈rows,noOw r=true)
  (hx:∀i,i<rows.length→∃a1 a2 a3 a4 a5,rows.getD i []=[a1,a2,a3,a4,a5]∧Slc H 1 (Qk (nx i)) a5)
  (hK:∀fl H',Upd H H' []→K (.c (.sl fl 1 (Qk (Qah1 nx b rows.length)))) H'):Ql prog Qku [.ag [.int .i64 p,.int .i64 rg,bc],.c (.int .i64 b)] H K:=by
 refine Q0 ?_;refine Qb Qai Qaxt ?_;have hok:=eq_true hs.ok;have hlen:=hs.len;have hsz:=hs.sz;refine Qa ?_;simp only[go_sem];refine Qa ?_;simp only[go_sem];refine Q4 ?_;refine Qa ?_;simp only[go_sem,how,hok,hlen];intro hl;simp only[LIM]at hl;refine⟨Qo (by omega) (by omega),?_⟩;refine Qgh ?_;simp only[go_sem,Qvu];refine Qf (Qc rfl ?_ ?_)
 ·intro hc;have hc':=Qi8 hc;refine Qa ?_;simp only[go_sem];refine Qi ?_;simp only[go_sem,Qs,Q6,Qm6,Ja,forall_eq,RS.op];have h:=hK false _ (Kn.start0 H).fin;simp only[Qah1,hc']at h;exact⟨_,.c _ _ FrzR.nil.sl,h⟩
 ·intro hc;have hc':=Qdx hc;refine Qe ?_;simp only[go_sem];refine Q4 ?_;refine Qa ?_;simp only[go_sem,how,hok,hlen];intro _;refine Qf (Qd (Qw (fun m e1 H1=>∃(i:Nat) (c:C) (Lg:List (Nat×Obj)),m=rows.length-i∧i≤rows.length∧Gr Lg 1 (Qk (Qcm nx b i)) c∧Kn H H1 [] ([]++Lg)∧
   e1=[(1,.c (.int .i64 b)),(5,.c c),(16,.c bc),(17,.c (.int .i64 rows.length)),(18,.c (.int .i64 i))]) rows.length ?_ ?_))
  ·exact⟨0,_,[],by omega,by omega,.nil 1,Kn.start0 H,rfl⟩
  ·rintro m e1 H1 ⟨i,c,Lg,hm,hi,hgr,kn,rfl⟩;have hs1:=hs.keep0 kn;have hok1:=eq_true hs1.ok;have hrw1:=hs1.rows;refine Qa ?_;simp only[go_sem];refine Qf (Qc rfl ?_ ?_)
   ·intro hc;have hlt:i<rows.length:=(by simpa using hc);obtain⟨a1,a2,a3,a4,a5,hrow,hs5⟩:=hx i hlt;obtain⟨o1,o2,o3,o4,o5⟩:=Qbjt hno hlt hrow;refine Qe ?_;simp only[go_sem];refine Qbl2 (fun e2 H2=>∃(c:C) (Lg:List (Nat×Obj)),Gr Lg 1 (Qk (Qcm nx b (i+1))) c∧Kn H H2 [] ([]++Lg)∧
     lk 1 e2=.c (.int .i64 b)∧lk 5 e2=.c c∧lk 16 e2=.c bc∧lk 17 e2=.c (.int .i64 rows.length)∧lk 18 e2=.c (.int .i64 i)) ?_ ?_
    ·intro Q hnr _ _;refine Qd ?_;refine Qa ?_;simp only[go_sem,hok1,hlen,hsz,hrw1,hlt,hrow,o1,o2,o3,o4,o5];intro x hx H2 h2;have kn:=(kn.al hx h2).perm Ji;have hx2:=kn.l 0 rfl;simp only[go_sem,Qvv,hx2];intro H3 h3;have kn:=kn.stL 0 rfl h3;have hx3:=kn.l 0 rfl;refine Qa ?_;simp only[go_sem,hx3,o5];refine Qa8c (hs5.keep0 kn) o5 ?_;refine Qc rfl ?_ ?_
     ·intro hcon;have hpl:=Qah2 nx b i;refine Qq ?_;simp only[go_sem];refine kn.grow (B:=[_]) (new:=Qk [(i:Int)]) hgr (.mk' _ _ _ _) (Qal _) (by simp only[Qj,LIM,Jk,Jp];omega) fun y' H4 kn=>?_;simp only[go_sem,Qvw];refine hnr _ _ ⟨_,_,?_,(kn.perm Ji).drop,rfl,rfl,rfl,rfl,rfl⟩;rw[Qm0,hcon,if_pos rfl,Qhd];exact .mk _ _ _ (by simp)
     ·intro hcon;refine Qe ?_;simp only[go_sem];refine hnr _ _ ⟨c,Lg,?_,?_,rfl,rfl,rfl,rfl,rfl⟩
      ·rw[Qm0,hcon];simpa using hgr
      ·have kn:Kn H H3 [] ([(x,.st [a1,a2,a3,a4,a5])]++([]++Lg)):=kn;exact (kn.perm Ji).drop
    ·rintro e2 H2 ⟨c2,Lg2,hgr,kn,l1,l5,l16,l17,l18⟩;refine Qq ?_;simp only[go_sem,X.next,l1,l5,l16,l17,l18];exact⟨Qo (by omega) (by omega),rows.length-(i+1),by omega,i+1,c2,Lg2,rfl,by omega,hgr,kn,rfl⟩
   ·intro hc;have hge:i=rows.length:=(by have:¬i<rows.length:=(by simpa using hc);omega);subst hge;refine Qv ?_;simp only[go_sem,X.next];refine Qa ?_;simp only[go_sem];refine Qi ?_;simp only[go_sem,Qs,Q6,Qm6,Ja,forall_eq,RS.op];refine⟨_,.c _ _ (hgr.frz kn (Qal _)),?_⟩;have:=hK false _ kn.fin;simp only[Qah1,hc']at this;exact this
theorem Qbcs {p rg:Int}{bc:C}{rows:List (List C)}{nx:Nat→List Int}{b:Int}(hg:GRd H bc rows nx)
  (hK:∀fl H',Upd H H' []→K (.c (.sl fl 1 (Qk (Qah1 nx b rows.length)))) H'):Ql prog Qku [.ag [.int .i64 p,.int .i64 rg,bc],.c (.int .i64 b)] H K:=
 Qa8f hg.s hg.ow hg.no (fun i hi=>by
  obtain⟨a1,a2,a3,a4,fl,h⟩:=hg.x i hi;exact⟨a1,a2,a3,a4,_,h,.mk' _ _ _ _⟩) hK
end Go.AE.Y
namespace Go.AE.Y
open Go.Proofs.Tryz
variable {H H0:Heap}{K:V→Heap→Prop}
theorem Qbhj {c:C}{ns:List Int}{v:Int}(hs:Slc H 1 (Qk ns) c)(how:c.isOw=false)(hK:K (.c (.bool (ns.contains v))) H) :
  Ql prog Qp6 [.c c,.c (.int .i64 v)] H K:=by
 refine Qb Qai Qa89 ?_;have hok:=eq_true hs.ok;have hlen:=hs.len;have hsz:=hs.sz;have hrw:=hs.rows;refine Qa ?_;simp only[go_sem,how];refine Q4 ?_;refine Qa ?_;simp only[go_sem,how,hok,hlen,Qj];intro hl;simp only[LIM]at hl;refine Qf (Qd (Qw (fun m e1 H1=>∃(i:Nat),m=ns.length-i∧i≤ns.length∧H1=H∧v∉ns.take i∧e1=[(1,.c (.int .i64 v)),(7,.c c),(8,.c (.int .i64 ns.length)),(9,.c (.int .i64 i))]) ns.length ?_ ?_))
 ·exact⟨0,by omega,by omega,rfl,by simp,rfl⟩
 ·rintro m e1 H1 ⟨i,hm,hi,rfl,hno,rfl⟩;refine Qa ?_;simp only[go_sem,how];refine Qf (Qc rfl ?_ ?_)
  ·intro hc;have hlt:i<ns.length:=by simpa using hc
   have hgd:ns.getD i 0=ns[i]:=by simp[Jc,hlt]
   refine Qe ?_;simp only[go_sem];refine Qf (Qd ?_);refine Qa ?_;simp only[go_sem,how,hok,hlen,hsz,hrw,hlt,Qj,Qak _ _ hlt];refine Qa ?_;simp only[go_sem,how];refine Qc rfl ?_ ?_
   ·intro hc2;have hv:ns.getD i 0=v:=(by simpa using hc2);refine Qa ?_;simp only[go_sem];refine Qi ?_;simp only[go_sem,X.next,Qs,Q6,Qm6,Ja,forall_eq,RS.op];have:ns.contains v=true:=Jy.2 (by rw[←hv,hgd];exact Jb hlt);rw[this]at hK;exact hK
   ·intro hc2;have hv:¬ns.getD i 0=v:=(by simpa using hc2);refine Qe ?_;simp only[go_sem];refine Qq ?_;simp only[go_sem,how,X.next];refine⟨Qo (by omega) (by omega),ns.length-(i+1),by omega,i+1,rfl,by omega,?_,rfl⟩;rw[Je hlt];simp only[Jj,Ja,not_or];exact⟨hno,fun h=>hv (by rw[hgd];exact h.symm)⟩
  ·intro hc;have hge:ns.length≤i:=by simpa using hc
   rw[Jd hge]at hno;refine Qv ?_;simp only[go_sem,X.next];refine Qa ?_;simp only[go_sem];refine Qi ?_;simp only[go_sem,Qs,Q6,Qm6,Ja,forall_eq,RS.op];have:ns.contains v=false:=by
    cases hcc:ns.contains v with
    |false=>rfl
    |true=>exact absurd (Jy.1 hcc) hno
   rw[this]at hK;exact hK
end Go.AE.Y
namespace Go.AE.Y
variable {P:Program}{H:Heap}{g:G}{w:World}
theorem Qbkz (hs:Sat H g w)(os:Array Go.Obj):∃g',Stp H g w H g' (Go.Sort.grow w os):=by
 obtain⟨l⟩:=os
 induction l generalizing g w with
 |nil=>exact⟨g,by rw[Go.Sort.grow_empty];exact .refl hs⟩
 |cons x l ih=>
  have h1:=Qaby hs x;obtain⟨g',h2⟩:=ih h1.sat;refine⟨g',?_⟩;have e:Go.Sort.grow w ⟨x::l⟩=Go.Sort.grow (w.alloc x) ⟨l⟩:=by
   rw[Go.Sort.alloc_eq_grow,Go.Sort.grow_grow];congr 1;simp
  rw[e];exact h1.trans h2
theorem Qbfa {b off:Nat}{cs:Array Value}{T:TypeId}{d:Array Int}(h:w.heap[b]? = some (.cells cs T (0,0))) :
  Go.Sort.putRow (Value.int .i64) w b off d=World.putCells w b (Go.Sort.putCells (Value.int .i64) off d cs) T:=by
 simp only[Go.Sort.putRow,Go.Sort.mapBlock,World.putCells];congr 1;apply Array.ext_getElem?;intro i;simp only[Array.getElem?_modify];by_cases hi:b=i
 ·subst hi;have hlt:b<w.heap.size:=Qkt h;rw[if_pos rfl,h];simp[hlt,Go.Sort.onCells]
 ·rw[if_neg hi,Array.getElem?_setIfInBounds_ne hi]
theorem Qa8h {f:Nat}(hf:fnOk P f=true)
  (hc:∀(blk off cap:Nat) (zs:List Int) (w:World),Go.Sort.Holds (Value.int .i64) w blk off zs.toArray→blk<w.heap.size→zs.length<4611686018427387904→
   Calls P f #[.slice (some ⟨blk,off,none⟩) zs.length cap] w fun e w'=>
    e=.returned (.tuple #[])∧∃n os,w'=Go.Sort.grow (Go.Sort.putRow (Value.int .i64) (Go.Sort.ahead w n) blk off (zs.mergeSort fun x y=>decide (x≤y)).toArray) os)
  {z n:Nat} {ns:List Int} {K:V→Heap→Prop} (hz:H z=.vec 1 (Qk ns)) (hn:n=ns.length) (h0:0<n)
  (hK:∀H',Upd H H' [(z,.vec 1 (Qk (ns.mergeSort fun x y=>decide (x≤y))))]→K (.tup []) H'):Ql P f [.c (.vsl z 1 0 n)] H K:=by
 refine⟨hf,fun g w vs hs hl hv=>?_⟩;obtain⟨v,rfl⟩:∃v,vs=[v]:=by
  match vs,hl with
  |[v],_=>exact⟨v,rfl⟩
 have hr:=hv 0 _ v rfl rfl;have ho:=hs.objs z;rw[hz]at ho
 cases hr with
 |c _ _ hr=>
  cases hr with
  |vslnil=>omega
  |vsl l sz st n cap b base T m hio hnc hsh hm=>
   obtain⟨b',base',T',cs,val,hio',hown,hblk,hsz,hlim,hrow,hcell,hrep⟩:=SatVec.of ho hio;rw[hio]at hio';simp only[J2,Prod.mk.injEq,true_and]at hio';obtain⟨rfl,rfl⟩:=hio';have hlt:=Qkt hblk;rw[Qj]at hsz hlim;have hel:∀j (hj:j<ns.length),cs[base+j]? = some (.int .i64 ns[j]):=by
    intro j hj;have h1:(Qk ns)[j]? = some [.int .i64 ns[j]]:=(by simp[Qk,hj]);have h2:=hcell j _ 0 _ h1 rfl;have h3:=hrep j _ 0 _ h1 rfl;have h4:val j 0=.int .i64 ns[j]:=by
     exact (fun vv (h:RepC w g (.int .i64 ns[j]) vv)=>by cases h;rfl:∀vv,RepC w g (.int .i64 ns[j]) vv→vv=.int .i64 ns[j]) _ (h3.toC rfl)
    simpa[h4]using h2
   have hH:Go.Sort.Holds (Value.int .i64) w b base ns.toArray:=by
    intro j hj;have hj':j<ns.length:=(by simpa using hj);refine⟨?_,?_⟩
    ·rw[Qc2 hblk,hel j hj'];simp[getElem!_pos,hj']
    ·simp[World.frozen?,hblk]
   subst hn;simp only[Nat.zero_mul,Jak];refine (hc b base cap ns w hH hlt (by simp only[LIM]at hlim;omega)).mono fun e w'=>?_;rintro⟨rfl,nn,os,rfl⟩;have s1:Stp H g w H g (Go.Sort.ahead w nn):=Qa1p hs (w.drawn+nn);have hblk1:(Go.Sort.ahead w nn).heap[b]? = some (.cells cs T' (0,0)):=hblk;have hel2:∀i (c:C),((Qk (ns.mergeSort fun x y=>decide (x≤y)))[i]? = some [c])→∃x:Int,c=.int .i64 x∧(Go.Sort.putCells (Value.int .i64) base (ns.mergeSort fun x y=>decide (x≤y)).toArray cs)[base+i]? = some (.int .i64 x):=by
    intro i c hi;have hlen:(ns.mergeSort fun x y=>decide (x≤y)).length=ns.length:=List.length_mergeSort _;have hil:i<(ns.mergeSort fun x y=>decide (x≤y)).length:=by
     rcases Nat.lt_or_ge i (ns.mergeSort fun x y=>decide (x≤y)).length with h|h
     ·exact h
     ·rw[Jz (by rw[Qj];exact h)]at hi;simp at hi
    refine⟨(ns.mergeSort fun x y=>decide (x≤y))[i],?_,?_⟩
    ·simp only[Qk,J9,J6 hil,Ja0,J2,Jaw,and_true]at hi;exact hi.symm
    ·simp only[Go.Sort.putCells,Array.getElem?_mapIdx];rw[Array.getElem?_eq_getElem (by omega)];simp only[Ja0,J2];rw[if_pos ⟨by omega,by simp only[List.size_toArray];omega⟩];congr 1;simp[getElem!_pos];rw[J6 hil];rfl
   have s2:=Qia s1.sat hown hblk1 (cs':=Go.Sort.putCells (Value.int .i64) base (ns.mergeSort fun x y=>decide (x≤y)).toArray cs) (by simp[Go.Sort.putCells])
    (.vec 1 (Qk (ns.mergeSort fun x y=>decide (x≤y)))) (by rw[hz];simp) (fun hle hb2=>.inr ⟨b,base,T',_,fun i _=>.int .i64 ((ns.mergeSort fun x y=>decide (x≤y)).getD i 0),hio,hown,hb2,by
      rw[Qj,List.length_mergeSort];simp[Go.Sort.putCells];omega,by rw[Qj,List.length_mergeSort];exact hlim,fun i row hi=>by
       simp only[Qk,J9,Option.map_eq_some_iff]at hi;obtain⟨x,_,rfl⟩:=hi;rfl,fun i row j c hi hj=>by
       have hi':=hi;simp only[Qk,J9,Option.map_eq_some_iff]at hi';obtain⟨y,hy,rfl⟩:=hi';have hj0:j=0:=by
        rcases Jaq j with h|h
        ·exact h
        ·rw[Jz (by simp;omega)]at hj;simp at hj
       subst hj0;obtain⟨x,hx,he⟩:=hel2 i _ hi;simp only[C.int.injEq,true_and]at hx;subst hx;simp only[Nat.mul_one,Jak];rw[he,Jc,hy];rfl,fun i row j c hi hj=>by
       have hi':=hi;simp only[Qk,J9,Option.map_eq_some_iff]at hi';obtain⟨y,hy,rfl⟩:=hi';have hj0:j=0:=by
        rcases Jaq j with h|h
        ·exact h
        ·rw[Jz (by simp;omega)]at hj;simp at hj
       subst hj0;simp at hj;subst hj;show RepO _ _ _ _ _ (Value.int .i64 ((ns.mergeSort fun x y=>decide (x≤y)).getD i 0));rw[Jc,hy];exact .plain _ _ _ _ (.int _ _)⟩) (by simp)
   rw[←Qbfa hblk1]at s2;obtain⟨g',s3⟩:=Qbkz s2.sat os;refine .inl ⟨.tuple #[],.tup [],_,g',rfl,hK _ ⟨by simp[Heap.set_same],fun m _ hm=>Heap.set_other _ _ (by simpa using hm)⟩,s1.trans (s2.trans s3),?_⟩;exact .tup [] [] rfl (by simp)
theorem Qbcw {f:Nat}(hf:fnOk P f=true){k:IntKind}{x r:Int}(hc:∀w,Calls P f #[.int k x] w fun e w'=>e=.returned (.int .i64 r)∧w'=w){K:V→Heap→Prop}(hK:K (.c (.int .i64 r)) H) :
  Ql P f [.c (.int k x)] H K:=by
 refine⟨hf,fun g w vs hs hl hv=>?_⟩;obtain⟨v,rfl⟩:∃v,vs=[v]:=by
  match vs,hl with
  |[v],_=>exact⟨v,rfl⟩
 have hr:=hv 0 _ v rfl rfl
 cases hr with
 |c _ _ hr=>
  cases hr;refine (hc w).mono fun e w'=>?_;rintro⟨rfl,rfl⟩;exact .inl ⟨_,_,H,g,rfl,hK,.refl hs,.c _ _ (.int _ _)⟩
end Go.AE.Y
namespace Go.Proofs
open Go.Shelf
def Tryz.lays189_ren:Go.Shelf.Ren:=⟨fun|189=>159|125=>239|257=>238|128=>314|129=>315|294=>305|295=>306|296=>307|297=>308|298=>309|299=>310|216=>311|300=>312|301=>313|328=>344|329=>345|330=>346|331=>347|332=>348|215=>349|343=>367|n=>n,fun|28=>31|3=>3|46=>273|0=>0|51=>333|53=>335|4=>4|183=>327|182=>326|131=>106|5=>5|9=>9|218=>344|222=>238|228=>356|229=>64|n=>n,fun|n=>n⟩
theorem Tryz.lays189:Go.Proofs.Lays.n189 Tryz.prog Tryz.lays189_ren:={
 mixed:=by kernel_rfl
 f125:=Tryz.func239.trans (congrArg some (by kernel_rfl))
 f128:=Tryz.func314.trans (congrArg some (by kernel_rfl))
 f129:=Tryz.func315.trans (congrArg some (by kernel_rfl))
 f189:=Tryz.func159.trans (congrArg some (by kernel_rfl))
 f215:=Tryz.func349.trans (congrArg some (by kernel_rfl))
 f216:=Tryz.func311.trans (congrArg some (by kernel_rfl))
 f257:=Tryz.func238.trans (congrArg some (by kernel_rfl))
 f294:=Tryz.func305.trans (congrArg some (by kernel_rfl))
 f295:=Tryz.func306.trans (congrArg some (by kernel_rfl))
 f296:=Tryz.func307.trans (congrArg some (by kernel_rfl))
 f297:=Tryz.func308.trans (congrArg some (by kernel_rfl))
 f298:=Tryz.func309.trans (congrArg some (by kernel_rfl))
 f299:=Tryz.func310.trans (congrArg some (by kernel_rfl))
 f300:=Tryz.func312.trans (congrArg some (by kernel_rfl))
 f301:=Tryz.func313.trans (congrArg some (by kernel_rfl))
 f328:=Tryz.func344.trans (congrArg some (by kernel_rfl))
 f329:=Tryz.func345.trans (congrArg some (by kernel_rfl))
 f330:=Tryz.func346.trans (congrArg some (by kernel_rfl))
 f331:=Tryz.func347.trans (congrArg some (by kernel_rfl))
 f332:=Tryz.func348.trans (congrArg some (by kernel_rfl))
 f343:=Tryz.func367.trans (congrArg some (by kernel_rfl))
 t0:=Tryz.underlying0
 a0:=Tryz.isAgg0
 z0:=Tryz.sizeOf0
 v0:=Tryz.zeroValue0
 t3:=Tryz.underlying3
 a3:=Tryz.isAgg3
 z3:=Tryz.sizeOf3
 v3:=Tryz.zeroValue3
 t4:=Tryz.underlying4
 a4:=Tryz.isAgg4
 z4:=Tryz.sizeOf4
 v4:=Tryz.zeroValue4
 t5:=Tryz.underlying5
 a5:=Tryz.isAgg5
 z5:=Tryz.sizeOf5
 v5:=Tryz.zeroValue5
 t9:=Tryz.underlying9
 a9:=Tryz.isAgg9
 z9:=Tryz.sizeOf9
 v9:=Tryz.zeroValue9
 t28:=Tryz.underlying31
 a28:=Tryz.isAgg31
 z28:=Tryz.sizeOf31
 v28:=Tryz.zeroValue31
 t46:=Tryz.underlying273
 a46:=Tryz.isAgg273
 z46:=Tryz.sizeOf273
 v46:=Tryz.zeroValue273
 t51:=Tryz.underlying333
 a51:=Tryz.isAgg333
 z51:=Tryz.sizeOf333
 v51:=Tryz.zeroValue333
 t53:=Tryz.underlying335
 a53:=Tryz.isAgg335
 z53:=Tryz.sizeOf335
 v53:=Tryz.zeroValue335
 t131:=Tryz.underlying106
 a131:=Tryz.isAgg106
 z131:=Tryz.sizeOf106
 v131:=Tryz.zeroValue106
 t182:=Tryz.underlying326
 a182:=Tryz.isAgg326
 z182:=Tryz.sizeOf326
 v182:=Tryz.zeroValue326
 t183:=Tryz.underlying327
 a183:=Tryz.isAgg327
 z183:=Tryz.sizeOf327
 v183:=Tryz.zeroValue327
 t218:=Tryz.underlying344
 a218:=Tryz.isAgg344
 z218:=Tryz.sizeOf344
 v218:=Tryz.zeroValue344
 t222:=Tryz.underlying238
 a222:=Tryz.isAgg238
 z222:=Tryz.sizeOf238
 v222:=Tryz.zeroValue238
 t228:=Tryz.underlying356
 a228:=Tryz.isAgg356
 z228:=Tryz.sizeOf356
 v228:=Tryz.zeroValue356
 t229:=Tryz.underlying64
 a229:=Tryz.isAgg64
 z229:=Tryz.sizeOf64
 v229:=Tryz.zeroValue64 }
end Go.Proofs
namespace Go.AE.Y
open Go.Proofs.Tryz
variable {H H0:Heap}{K:V→Heap→Prop}{E B Lg:List (Nat×Obj)}
theorem Qbcy {x:Int}(h0:0≤x)(h1:x≤18446744073709551615)(hK:∀n:Int,K (.c (.int .i64 n)) H):Ql prog Qag7 [.c (.int .u64 x)] H K:=
 Qbcw (by kernel_rfl) (fun w=>calls_of_every_depth fun D=>Go.Proofs.AnyS.bits_LenIn (ρ:=lays189_ren) { lays189 with } D x w h0 h1) (hK _)
theorem Qbo6 {c:C}(how:c.isOw=false)(hK:K (.tup []) H):Ql prog Qcb [.c c,.c (.int .i64 0),.c (.int .i64 0)] H K:=by
 refine Qb Qai Qnt ?_;refine Qa ?_;simp only[go_sem];refine⟨Qo (by omega) (by omega),?_⟩;refine Qd (Qw (fun m e1 H1=>H1=H∧e1=[(0,.c c),(1,.c (.int .i64 0)),(2,.c (.int .i64 0)),(6,.c (.int .i64 1))]) 0 ⟨rfl,rfl⟩ ?_);rintro m e1 H1 ⟨rfl,rfl⟩;refine Q4 ?_;refine Qa ?_;simp only[go_sem];refine Qf (Qc rfl (fun h=>by simp at h) fun _=>?_);refine Qv ?_;simp only[go_sem,X.next,Qs,Q6,Qqi,J4];exact⟨fun _=>trivial,hK⟩
theorem Qbpl {c:C}{l:Int}(how:c.isOw=false)(hK:K (.tup []) H):Ql prog Qbx [.c c,.c (.int .i64 0),.c (.int .i64 0),.c (.int .i64 l)] H K:=by
 refine Qb Qai Q4m ?_;refine Qa ?_;simp only[go_sem];refine Qa ?_;simp only[go_sem];refine Qd (Qw (fun m e1 H1=>H1=H∧e1=[(0,.c c),(1,.c (.int .i64 0)),(2,.c (.int .i64 0)),(3,.c (.int .i64 l)),(8,.c (.bool true)),(9,.c (.bool true))]) 0 ⟨rfl,rfl⟩ ?_);rintro m e1 H1 ⟨rfl,rfl⟩;refine Qd ?_;refine Qa ?_;simp only[go_sem];refine⟨Qo (by omega) (by omega),?_⟩;refine Q4 ?_;refine Qa ?_;simp only[go_sem];refine Qf (Qc rfl (fun _=>?_) (fun h=>by simp at h));refine Qa ?_;simp only[go_sem];refine Qbo6 how ?_;simp only[Qan2];refine Qi ?_;simp only[go_sem,X.next,Qs,Q6,Qqi,J4];exact⟨fun _=>trivial,hK⟩
theorem Qbls {c:C}(hok:okSl H c)(hl:lenC c=0)(how:c.isOw=false)(hK:K (.tup []) H):Ql prog Q0d [.c c] H K:=by
 have hok:=eq_true hok;refine Qb Qai Qbez ?_;refine Qa ?_;simp only[go_sem,hok,hl];have e0:((0:Nat):Int)=0:=rfl;refine Qq ?_;simp only[go_sem,e0];refine⟨⟨by decide,by decide⟩,?_⟩;refine Qbcy (by omega) (by omega) fun n=>?_;simp only[go_sem,Qadr];refine Qbpl how ?_;simp only[go_sem,Qs,Q6,Qqi,J4];exact⟨fun _=>trivial,hK⟩
theorem Qbok {c:C}{ns:List Int}(kn:Kn H0 H E (B++Lg))(hgr:Gr Lg 1 (Qk ns) c)
  (hK:∀Lg' H',Gr Lg' 1 (Qk (srt ns)) c→Kn H0 H' E (B++Lg')→K (.tup []) H'):Ql prog Q0d [.c c] H K:=by
 by_cases h0:ns=[]
 ·subst h0;refine Qbls (hgr.okSl kn) (by rw[hgr.lenC];rfl) hgr.isOw (hK Lg H ?_ kn);have:srt []=[]:=by simp[srt]
  rw[this];exact hgr
 ·rcases hgr with ⟨_,h,_⟩|⟨y,rfl,rfl⟩
  ·cases ns with
   |nil=>exact absurd rfl h0
   |cons a b=>simp[Qk]at h
  ·have hy:=kn.l B.length (l:=y) (o:=.vec 1 (Qk ns)) (by simp);have hpos:0<ns.length:=List.length_pos_iff.2 h0;refine Qa8h (by kernel_rfl) (fun blk off cap zs w h1 h2 h3=>Go.Proofs.Any.slices_Sort_int lays189 blk off cap zs w h1 h2 h3) hy (by rw[Qj]) (by rw[Qj];exact hpos) fun H' hu=>?_;refine hK [(y,.vec 1 (Qk (srt ns)))] H' (.inr ⟨y,by rw[Qj,Qj,Qbg6],rfl⟩) ?_;have:=kn.callL B.length (l:=y) (o:=.vec 1 (Qk ns)) (by simp) hu (by simp);simpa[srt]using this
def Gw (Lg:List (Nat×Obj))(sz:Nat)(rows:List (List C))(c:C):Prop:=
 (c=.sl true sz []∧rows=[]∧Lg=[])∨∃y R,c=.vsl y sz 0 rows.length∧Lg=[(y,.vec sz R)]∧R.take rows.length=rows
end Go.AE.Y
namespace Go.AE
open Go.AE.Y
open Go.Proofs.Tryz
variable {H H0:Heap}{K:V→Heap→Prop}{E B Lg:List (Nat×Obj)}
theorem Gr.gw {sz:Nat}{rows:List (List C)}{c:C}(h:Gr Lg sz rows c):Gw Lg sz rows c:=by
 rcases h with h|⟨y,h1,h2⟩
 ·exact .inl h
 ·exact .inr ⟨y,rows,h1,h2,Jai⟩
end Go.AE
namespace Go.AE.Y
open Go.Proofs.Tryz
variable {H H0:Heap}{K:V→Heap→Prop}{E B Lg:List (Nat×Obj)}
theorem Gw.isOw {sz:Nat}{rows:List (List C)}{c:C}(h:Gw Lg sz rows c):c.isOw=false:=by rcases h with ⟨rfl,_⟩|⟨y,R,rfl,_⟩ <;> rfl
theorem Gw.frz {ns:List Int}{c:C}(h:Gw Lg 1 (Qk ns) c)(kn:Kn H0 H E (B++Lg)):FrzC H (un H0) c (.sl false 1 (Qk ns)):=by
 rcases h with ⟨rfl,h2,_⟩|⟨y,R,rfl,rfl,hR⟩
 ·rw[h2];exact FrzR.nil.sl
 ·have hle:(Qk ns).length≤R.length:=by
   have:=congrArg List.length hR;rw[Ju]at this;omega
  have h:=FrzR.same (H:=H) (S:=un H0) (Qal ns);exact .vsl y 1 0 _ R (Qk ns) (Qk ns) (Qn7 (kn.loc (y,.vec 1 R) (by simp))) (kn.get (y,.vec 1 R) (by simp)).1 (by omega) (by simpa using hR.symm) h.spec.1 (fun i r r' h1 h2=>(h.spec.2 i r r' h1 h2).spec.1) fun i r r' j c c' h1 h2 h3 h4=>(h.spec.2 i r r' h1 h2).spec.2 j c c' h3 h4
theorem Qa80 (ns:List Int)(i:Nat)(x:Int):(Qk ns).set i [.int .i64 x]=Qk (ns.set i x):=by simp[Qk,Jat]
theorem Qa2j (ns:List Int)(k:Nat):(Qk ns).take k=Qk (ns.take k):=by simp[Qk,List.map_take]
theorem Qbco {c:C}{ns:List Int}(kn:Kn H0 H E (B++Lg))(hgr:Gr Lg 1 (Qk ns) c)(hs:ns.Pairwise (·≤·))(hL:ns.length≤2 ^ 38)
  (hK:∀t Lg' ns' H',Gw Lg' 1 (Qk ns') t→t.isOw=false→Kn H0 H' E (B++Lg')→ns'.Pairwise (· < ·)→(∀x,x∈ns'↔x∈ns)→ns'.length≤ns.length→K (.c t) H') :
  Ql prog Qp7 [.c c] H K:=by
 have how:=hgr.isOw;have hok:=eq_true (hgr.okSl kn);have hlen:=hgr.lenC;have hrw:=hgr.rowsOf kn;have hsz:=hgr.elemSz;refine Qb Qai Qayf ?_;refine Qa ?_;simp only[go_sem];refine Q4 ?_;refine Qa ?_;simp only[go_sem,hok,hlen,Qj];intro _;refine Qf (Qc rfl ?_ ?_)
 ·intro hc;have h2:ns.length<2:=by have:=of_decide_eq_true hc;omega
  refine Qa ?_;simp only[go_sem];refine Qi ?_;simp only[go_sem,Qs,Q6,Qer,Ja,forall_eq,RS.op];exact hK c Lg ns H hgr.gw how kn (Qaw7 hs fun i h0 hi=>by omega) (fun _=>Iff.rfl) (Jf _)
 ·intro hc;have h2:2≤ns.length:=by have:=of_decide_eq_false hc;omega
  obtain⟨z,rfl,rfl⟩:∃z,c=.vsl z 1 0 ns.length∧Lg=[(z,.vec 1 (Qk ns))]:=by
   rcases hgr with ⟨_,h,_⟩|⟨y,h1,h2⟩
   ·have:ns.length=0:=(by rw[←Qj,h];rfl);omega
   ·exact⟨y,by rw[h1,Qj],h2⟩
  have hz:=kn.l B.length (l:=z) (o:=.vec 1 (Qk ns)) (by simp);refine Qe ?_;simp only[go_sem];refine Q4 ?_;refine Qa ?_;simp only[go_sem];refine Qf (Qd (Qw (fun m e1 H1=>∃(k:Nat),m=ns.length-k∧0<k∧k≤ns.length∧H1=H∧(∀i,0<i→i<k→ns.getD i 0≠ns.getD (i-1) 0)∧e1=[(0,.c (.vsl z 1 0 ns.length)),(3,.c (.int .i64 k))]) (ns.length-1) ?_ ?_))
  ·exact⟨1,rfl,by omega,by omega,rfl,fun i h0 h1=>by omega,rfl⟩
  ·rintro m e1 H1 ⟨k,hm,hk0,hk,rfl,hne,rfl⟩;refine Q4 ?_;refine Qa ?_;simp only[go_sem,hz,Qj,Js,Jf];intro hlim;simp only[LIM]at hlim;refine Qf (Qc rfl ?_ ?_)
   ·intro hc2;have hlt:k<ns.length:=(by simpa using hc2);have hlt1:k-1<ns.length:=(by omega);have e1:((k:Int)-1)=((k-1:Nat):Int):=(by omega);have htk:(Qk ns).take ns.length=Qk ns:=Jd (by rw[Qj];exact Jf _);refine Qe ?_;simp only[go_sem];refine Qf (Qd ?_);refine Qag ?_;simp only[go_sem,hz,e1,hlt,hlt1,htk,Qj,Qak _ _ hlt,Qak _ _ hlt1,Js,Jf];refine⟨Qo (by omega) (by omega),?_⟩;refine Qc rfl ?_ ?_
    ·intro hc3;have heq:ns.getD k 0=ns.getD (k-1) 0:=(by simpa using hc3);refine Qa ?_;simp only[go_sem,hz,Qj,Js,Jf];refine⟨by omega,?_⟩;refine Q4 ?_;refine Qa ?_;simp only[go_sem];refine Qf (Qd (Qw (fun m e1 H2=>∃(j kk:Nat) (R:List Int),m=ns.length-j∧k<j∧j≤ns.length∧Cmp ns R kk j∧Kn H0 H2 E (B++[(z,.vec 1 (Qk R))])∧
      e1=[(0,.c (.vsl z 1 0 ns.length)),(3,.c (.int .i64 kk)),(4,.c (.vsl z 1 k (ns.length-k))),(5,.c (.int .i64 ((j-k:Nat):Int)))]) (ns.length-(k+1)) ?_ ?_))
     ·refine⟨k+1,k,ns,rfl,by omega,by omega,.start hs hk0 hlt hne heq,kn,?_⟩;have:k+1-k=1:=(by omega);rw[this];rfl
     ·rintro m2 e1 H2 ⟨j,kk,R,hm2,hkj,hj,hcm,kn,rfl⟩;have hz:=kn.l B.length (l:=z) (o:=.vec 1 (Qk R)) (by simp);have hRl:=hcm.len;have hkkj:=hcm.kj;refine Q4 ?_;refine Qa ?_;have e3:k+(ns.length-k)=ns.length:=(by omega);simp only[go_sem,hz,Qj,hRl,e3,Jf];intro _;refine Qf (Qc rfl ?_ ?_)
      ·intro hc4;have hjl:j<ns.length:=(by have:=of_decide_eq_true hc4;omega);have hjR:j<R.length:=(by omega);have hjR1:j-1<R.length:=(by omega);have hjk:j-k<ns.length-k:=(by omega);have hjk1:j-k-1<ns.length-k:=(by omega);have e4:(((j-k:Nat):Int)-1)=((j-k-1:Nat):Int):=(by omega);have hr1:(((Qk R).drop k).take (ns.length-k)).getD (j-k) []=[.int .i64 (ns.getD j 0)]:=by
        rw[←hcm.same j (by omega),←Qak _ _ hjR];simp only[Jc,Jao,Jan];rw[if_pos hjk];have:k+(j-k)=j:=(by omega);rw[this]
       have hr2:(((Qk R).drop k).take (ns.length-k)).getD (j-k-1) []=[.int .i64 (ns.getD (j-1) 0)]:=by
        rw[←hcm.same (j-1) (by omega),←Qak _ _ hjR1];simp only[Jc,Jao,Jan];rw[if_pos hjk1];have:k+(j-k-1)=j-1:=(by omega);rw[this]
       refine Qe ?_;simp only[go_sem];refine Qbl2 (fun e2 H3=>∃(kk:Nat) (R:List Int),Cmp ns R kk (j+1)∧Kn H0 H3 E (B++[(z,.vec 1 (Qk R))])∧
        lk 0 e2=.c (.vsl z 1 0 ns.length)∧lk 3 e2=.c (.int .i64 kk)∧lk 4 e2=.c (.vsl z 1 k (ns.length-k))∧lk 5 e2=.c (.int .i64 ((j-k:Nat):Int))) ?_ ?_
       ·intro Q hnr _ _;refine Qd ?_;refine Qag ?_;simp only[go_sem,hz,e3,e4,hr1,hr2,hjk,hjk1,Qj,hRl,Jf];refine⟨Qo (by omega) (by omega),?_⟩;refine Qc rfl ?_ ?_
        ·intro hc5;have hne5:ns.getD j 0≠ns.getD (j-1) 0:=(by simpa using hc5);have hkkl:kk<ns.length:=(by omega);have hkkR:kk<R.length:=(by omega);have htk:(Qk R).take ns.length=Qk R:=Jd (by rw[Qj];omega);refine Qa ?_;simp only[go_sem,hz,e3,hr1,hjk,hkkl,Qak _ _ hkkR,Qa80,Qj,hRl,Js,Jf];intro H3 h3;have kn3:=kn.stL B.length (x:=z) (o:=.vec 1 (Qk R)) (by simp) h3;have kn:Kn H0 H3 E (B++[(z,.vec 1 (Qk (R.set kk (ns.getD j 0))))]):=(by simpa using kn3);refine Qq ?_;simp only[go_sem];refine⟨Qo (by omega) (by omega),?_⟩;exact hnr _ _ ⟨kk+1,_,hcm.ne hs hjl hne5,kn,rfl,rfl,rfl,rfl⟩
        ·intro hc5;have heq5:ns.getD j 0=ns.getD (j-1) 0:=(by simpa using hc5);refine Qe ?_;simp only[go_sem];exact hnr _ _ ⟨kk,R,hcm.eq hjl heq5,kn,rfl,rfl,rfl,rfl⟩
       ·rintro e2 H3 ⟨kk,R,hcm,kn,l0,l3,l4,l5⟩;refine Qq ?_;simp only[go_sem,X.next,l0,l3,l4,l5];refine⟨Qo (by omega) (by omega),ns.length-(j+1),by omega,j+1,kk,R,rfl,by omega,by omega,hcm,kn,?_⟩;have:(((j-k:Nat):Int)+1)=((j+1-k:Nat):Int):=(by omega);rw[this]
      ·intro hc4;have hje:j=ns.length:=(by have:=of_decide_eq_false hc4;omega);subst hje;have hkkl:kk≤R.length:=(by omega);refine Qv ?_;simp only[go_sem,X.next];refine Qa ?_;have e5:kk+(ns.length-kk)=ns.length:=(by omega);simp only[go_sem,hz,e5,Qj,hRl,Js,Jf];refine⟨by omega,fun H3 h3=>?_⟩;have kn3:=kn.stL B.length (x:=z) (o:=.vec 1 (Qk R)) (by simp) h3;have htk2:((Qk R).take kk++List.replicate (ns.length-kk) [C.int .i64 0]++(Qk R).drop ns.length).take kk=Qk (R.take kk):=by
        rw[Jg,List.take_append_of_le_length (by rw[Ju,Qj];omega),Ja1,Nat.min_self,Qa2j]
       have hl2:ns.length≤((Qk R).take kk++List.replicate (ns.length-kk) [C.int .i64 0]++(Qk R).drop ns.length).length:=by
        simp only[Jv,Ju,List.length_replicate,List.length_drop,Qj];omega
       generalize (Qk R).take kk++List.replicate (ns.length-kk) [C.int .i64 0]++(Qk R).drop ns.length=R2 at *;have kn:Kn H0 H3 E (B++[(z,.vec 1 R2)]):=(by simpa using kn3);have hz3:=kn.l B.length (l:=z) (o:=.vec 1 R2) (by simp);refine Qa ?_;simp only[go_sem,hz3,hl2,Js,Nat.sub_zero];refine⟨by omega,?_⟩;refine Qi ?_;simp only[go_sem,X.next,Qs,Q6,Qer,Ja,forall_eq,RS.op];have hrl:(Qk (R.take kk)).length=kk:=(by rw[Qj,Ju];omega);refine hK (.vsl z 1 0 kk) _ (R.take kk) H3 (.inr ⟨z,R2,?_,rfl,?_⟩) rfl kn hcm.asc (fun x=>?_) (by rw[Ju];omega)
       ·rw[hrl]
       ·rw[hrl];exact htk2
       ·rw[hcm.mem,Jai]
    ·intro hc3;have hneq:¬ns.getD k 0=ns.getD (k-1) 0:=(by simpa using hc3);refine Qe ?_;simp only[go_sem];refine Qq ?_;simp only[go_sem,X.next];refine⟨Qo (by omega) (by omega),ns.length-(k+1),by omega,k+1,rfl,by omega,by omega,fun i h0 h1=>?_,rfl⟩;by_cases h:i<k
     ·exact hne i h0 h
     ·have:i=k:=(by omega);subst this;exact hneq
   ·intro hc2;have hge:ns.length≤k:=(by simpa using hc2);refine Qv ?_;simp only[go_sem,X.next];refine Qa ?_;simp only[go_sem];refine Qi ?_;simp only[go_sem,Qs,Q6,Qer,Ja,forall_eq,RS.op];exact hK _ _ ns H1 hgr.gw rfl kn (Qaw7 hs fun i h0 hi=>hne i h0 (by omega)) (fun _=>Iff.rfl) (Jf _)
end Go.AE.Y
namespace Go.AE.Y
attribute [local go_sem] cond_true cond_false Bool.not_true Bool.not_false
open Go.Proofs.Tryz
variable {H H0 F:Heap}{K:V→Heap→Prop}{E E' L:List (Nat×Obj)}
abbrev Qash (x5:Nat)(fl:Bool)(fns:List Fn):List C:=[.ptr x5 0,.pp [.sl fl 3 (Q1 fns)]]
theorem Qbop {x5:Nat}{fl:Bool}{fns:List Fn}{e:Ex}{ns:List Int}{t:C}{Lg:List (Nat×Obj)}(hgr:Gr Lg 1 (Qk ns) t)(kn:Kn F H [] ((x5,.st [t])::Lg))(hl:ns.length<2^38)
  (hK:∀H' t' Lg',Gr Lg' 1 (Qk (ns++clI fns e)) t'→Kn F H' [] ((x5,.st [t'])::Lg')→K (.tup []) H'):Ql prog Qb6 ([.ag e.cells]++(Qash x5 fl fns).map .c) H K:=by
 have hto:=hgr.isOw;have g5:=kn.l 0 rfl;refine Qb Qai Q7a ?_;refine Qa ?_;simp only[go_sem,e.cells_eq];refine Qa ?_;simp only[go_sem];refine Qc rfl ?_ ?_
 ·intro hc;have h13:e.op=13:=by simpa using hc
  rw[clI,if_pos h13]at hK;refine Qeb ?_;simp only[go_sem,g5,hto];refine Qagi ?_;simp only[go_sem,Qih,g5,hto];refine Kn.growR (B:=[(x5,.st [t])]) kn hgr (.mk' _ true 1 _) (by simp[noOw,C.isOw]) (by simp only[Qj,Jk,Jp,LIM];omega) fun t' Lg' H1 hgr' hto' kn=>?_;have g5:=kn.l 0 rfl;simp only[go_sem,Qig,g5,hto'];intro H2 h2;have kn:=kn.stL 0 rfl h2;simp only[go_sem,Qs,Q6,Qqi];rw[Qa2i]at hgr';exact hK _ _ _ hgr' kn
 ·intro hc;have h13:¬e.op=13:=by simpa using hc
  rw[clI,if_neg h13,Jav]at hK;refine Qe ?_;simp only[go_sem,Qs,Q6,Qqi];exact hK _ _ _ hgr kn
theorem Qbc6 {x5:Nat}{fl:Bool}{fns:List Fn}:∀(n:Nat) (x:Ex) (ns:List Int) (t:C) (Lg:List (Nat×Obj)) (F H:Heap) (K:V→Heap→Prop),x.size≤n→Gr Lg 1 (Qk ns) t→Kn F H [] ((x5,.st [t])::Lg)→ns.length+x.size≤2^38→
  (∀H' t' Lg',Gr Lg' 1 (Qk (ns++clL fns x.pre)) t'→Kn F H' [] ((x5,.st [t'])::Lg')→K (.tup []) H')→Ql prog Qg9 [.ag x.cells,.c (.fn Qb6 (Qash x5 fl fns))] H K:=by
 intro n
 induction n with
 |zero=>intro x ns t Lg F H K h;have:=x.size_pos;omega
 |succ n ih=>
 intro x ns t Lg F H K hn hgr kn hb hK;have hsz:=x.size_kids;have hone:(clI fns x).length≤1:=by rw[clI];split <;> simp
 refine Qb Qai Qasx ?_;refine Qa ?_;simp only[go_sem,x.cells_eq];refine Qa ?_;simp only[go_sem];have hvc:=fun K=>Qbop (K:=K) (fl:=fl) (fns:=fns) (e:=x) hgr kn (by omega);rw[x.cells_eq]at hvc;refine hvc _ fun H1 t1 Lg1 hgr1 kn=>?_;simp only[go_sem];refine Qa ?_;simp only[go_sem,Qn];intro hl;simp only[LIM]at hl;refine Qd (Qw (fun m e1 H1=>∃(i:Nat) (t2:C) (Lg2:List (Nat×Obj)),m=x.kids.length-i∧i≤x.kids.length∧Gr Lg2 1 (Qk (ns++clI fns x++clL fns (Q7 (x.kids.take i)))) t2∧Kn F H1 [] ((x5,.st [t2])::Lg2)∧
  e1=[(1,.c (.fn Qb6 (Qash x5 fl fns))),(10,.c (.sl false 4 (Qy x.kids))),(11,.c (.int .i64 x.kids.length)),(12,.c (.int .i64 i))]) x.kids.length ?_ ?_)
 ·exact⟨0,t1,Lg1,by omega,by omega,by simpa[Q7,clL]using hgr1,kn,rfl⟩
 ·clear kn hgr1;rintro m e1 H2 ⟨i,t2,Lg2,hm1,hi,hgr,kn,rfl⟩;refine Qa ?_;simp only[go_sem];refine Qf (Qc rfl ?_ ?_)
  ·intro hc;have hlt:i<x.kids.length:=by simpa using hc
   have hms:=Qan (Jb hlt);obtain⟨y,hy⟩:∃y,x.kids[i]=y:=⟨_,rfl⟩;have htk:=Qg8 hlt;have hlen:(clL fns (Q7 (x.kids.take i))).length+y.size≤Qp x.kids:=by
    have h1:=Q82 fns (Q7 (x.kids.take i));rw[Qk9]at h1;have h2:Qp x.kids=Qp (x.kids.take i)+Qp (x.kids.drop i):=(by rw[←Qey,Jt]);have h3:x.kids.drop i=y::x.kids.drop (i+1):=(by rw[←hy];exact (List.getElem_cons_drop hlt).symm);rw[h3]at h2;simp only[Qp]at h2;omega
   rw[hy]at hms htk;refine Qe ?_;try simp only[go_sem]
   refine Qf (Qd ?_);refine Qa ?_;simp only[go_sem,hlt,Qn,Qap _ _ hlt,hy,y.cells_eq];intro xk hxk H3 h3;have kn:Kn F H3 [] (((x5,.st [t2])::Lg2)++[(xk,.st [.int .i64 0,.int .i64 0,.str [],.sl true 4 []])]):=kn.al hxk h3;have g5:=kn.getM;simp only[go_sem,Qqu,g5];intro H4 h4;have kn:=kn.stM h4;have g5:=kn.getM;refine Qq ?_;simp only[go_sem,g5];obtain⟨F',kn',back⟩:=kn.side;have hih:=fun K=>ih y (ns++clI fns x++clL fns (Q7 (x.kids.take i))) t2 Lg2 F' H4 K;rw[y.cells_eq]at hih;refine hih _ (by omega) hgr kn' (by simp only[Jv];omega) fun H5 t3 Lg3 hgr3 kn=>?_;have kn:=Kn.drop (back _ _ kn);simp only[go_sem];refine Qq ?_;simp only[go_sem,AE.X.next];refine⟨Qo (by omega) (by omega),x.kids.length-(i+1),by omega,i+1,t3,Lg3,rfl,by omega,?_,kn,rfl⟩;rw[htk,Qagz,←Jg];exact hgr3
  ·intro hc;have hge:x.kids.length≤i:=by simpa using hc
   rw[Jd hge]at hgr;refine Qv ?_;simp only[go_sem,AE.X.next,Qs,Q6,Qqi];refine hK _ t2 Lg2 ?_ kn;rw[x.pre_eq,clL,Jar,←Jg];exact hgr
theorem Qbqj {x5:Nat}{fl:Bool}{fns:List Fn}{x:St}{nest:Int}{ns:List Int}{t:C}{Lg:List (Nat×Obj)}(hgr:Gr Lg 1 (Qk ns) t)(kn:Kn F H [] ((x5,.st [t])::Lg))(hb:ns.length+Qp x.args≤2^38)
  (hK:∀H' t' Lg',Gr Lg' 1 (Qk (ns++clL fns (Q7 x.args))) t'→Kn F H' [] ((x5,.st [t'])::Lg')→K (.tup []) H'):Ql prog Qc8 ([.ag x.cells,.c (.int .i64 nest)]++(Qash x5 fl fns).map .c) H K:=by
 refine Qb Qai Qahp ?_;refine Qa ?_;simp only[go_sem,x.cells_eq];refine Qa ?_;simp only[go_sem,Qn];intro hl;simp only[LIM]at hl;refine Qd (Qw (fun m e1 H1=>∃(i:Nat) (t2:C) (Lg2:List (Nat×Obj)),m=x.args.length-i∧i≤x.args.length∧Gr Lg2 1 (Qk (ns++clL fns (Q7 (x.args.take i)))) t2∧Kn F H1 [] ((x5,.st [t2])::Lg2)∧
  e1=[(2,.c (.ptr x5 0)),(3,.c (.pp [.sl fl 3 (Q1 fns)])),(9,.c (.sl false 4 (Qy x.args))),(10,.c (.int .i64 x.args.length)),(11,.c (.int .i64 i))]) x.args.length ?_ ?_)
 ·exact⟨0,t,Lg,by omega,by omega,by simpa[Q7,clL]using hgr,kn,rfl⟩
 ·clear kn hgr;rintro m e1 H2 ⟨i,t2,Lg2,hm1,hi,hgr,kn,rfl⟩;refine Qa ?_;simp only[go_sem];refine Qf (Qc rfl ?_ ?_)
  ·intro hc;have hlt:i<x.args.length:=by simpa using hc
   have hms:=Qan (Jb hlt);obtain⟨y,hy⟩:∃y,x.args[i]=y:=⟨_,rfl⟩;have htk:=Qg8 hlt;have hlen:(clL fns (Q7 (x.args.take i))).length+y.size≤Qp x.args:=by
    have h1:=Q82 fns (Q7 (x.args.take i));rw[Qk9]at h1;have h2:Qp x.args=Qp (x.args.take i)+Qp (x.args.drop i):=(by rw[←Qey,Jt]);have h3:x.args.drop i=y::x.args.drop (i+1):=(by rw[←hy];exact (List.getElem_cons_drop hlt).symm);rw[h3]at h2;simp only[Qp]at h2;omega
   rw[hy]at hms htk;refine Qe ?_;try simp only[go_sem]
   refine Qf (Qd ?_);refine Qa ?_;simp only[go_sem,hlt,Qn,Qap _ _ hlt,hy,y.cells_eq];intro xk hxk H3 h3;have kn:Kn F H3 [] (((x5,.st [t2])::Lg2)++[(xk,.st [.int .i64 0,.int .i64 0,.str [],.sl true 4 []])]):=kn.al hxk h3;have g5:=kn.getM;simp only[go_sem,Qna,g5];intro H4 h4;have kn:=kn.stM h4;have g5:=kn.getM;refine Qq ?_;simp only[go_sem,g5];obtain⟨F',kn',back⟩:=kn.side;have hih:=fun K=>Qbc6 (x5:=x5) (fl:=fl) (fns:=fns) y.size y (ns++clL fns (Q7 (x.args.take i))) t2 Lg2 F' H4 K;rw[y.cells_eq]at hih;refine hih _ (Jf _) hgr kn' (by simp only[Jv];omega) fun H5 t3 Lg3 hgr3 kn=>?_;have kn:=Kn.drop (back _ _ kn);simp only[go_sem];refine Qq ?_;simp only[go_sem,AE.X.next];refine⟨Qo (by omega) (by omega),x.args.length-(i+1),by omega,i+1,t3,Lg3,rfl,by omega,?_,kn,rfl⟩;rw[htk,Qagz,←Jg];exact hgr3
  ·intro hc;have hge:x.args.length≤i:=by simpa using hc
   rw[Jd hge]at hgr;refine Qv ?_;simp only[go_sem,AE.X.next,Qs,Q6,Qqi];exact hK _ t2 Lg2 hgr kn
theorem Qbc7 {x5:Nat}{fl:Bool}{fns:List Fn}:∀(n:Nat) (l:List St) (nest:Int) (f5:Bool) (ns:List Int) (t:C) (Lg:List (Nat×Obj)) (F H:Heap) (K:V→Heap→Prop),Qh l≤n→0≤nest→nest+n≤2^41→Gr Lg 1 (Qk ns) t→Kn F H [] ((x5,.st [t])::Lg)→ns.length+Qh l≤2^38→
  (∀H' t' Lg',Gr Lg' 1 (Qk (ns++clL fns (Qbn l))) t'→Kn F H' [] ((x5,.st [t'])::Lg')→K (.tup []) H')→Ql prog Qdr [.c (.sl f5 5 (Qm l)),.c (.int .i64 nest),.c (.fn Qc8 (Qash x5 fl fns))] H K:=by
 intro n
 induction n using Nat.strongRecOn with
 |_ n ih=>
 intro l nest f5 ns t Lg F H K hn h0 hm hgr kn hb hK;refine Qb Qai Qasy ?_;refine Qa ?_;simp only[go_sem,Qu];intro hl;simp only[LIM]at hl;refine Qd (Qw (fun m e1 H1=>∃(i:Nat) (t2:C) (Lg2:List (Nat×Obj)),m=l.length-i∧i≤l.length∧Gr Lg2 1 (Qk (ns++clL fns (Qbn (l.take i)))) t2∧Kn F H1 [] ((x5,.st [t2])::Lg2)∧
  e1=[(1,.c (.int .i64 nest)),(2,.c (.fn Qc8 (Qash x5 fl fns))),(8,.c (.sl f5 5 (Qm l))),(9,.c (.int .i64 l.length)),(10,.c (.int .i64 i))]) l.length ?_ ?_)
 ·exact⟨0,t,Lg,by omega,by omega,by simpa[Qbn,clL]using hgr,kn,rfl⟩
 ·clear kn hgr;rintro m e1 H1 ⟨i,t2,Lg2,hm1,hi,hgr,kn,rfl⟩;refine Qa ?_;simp only[go_sem];refine Qf (Qc rfl ?_ ?_)
  ·intro hc;have hlt:i<l.length:=by simpa using hc
   have hms:=Qbg (Jb hlt);have htk:=Qa6q hlt;have hst:=Qd4 hlt;have hsl2:=Qa6 l (i+1);have hcl:=Q82 fns (Qbn (l.take i));have hpl:=Qlg (l.take i);obtain⟨x,hx⟩:∃x,l[i]=x:=⟨_,rfl⟩;rw[hx]at hms hst htk;have hse:=x.size_eq;have hca:=Q82 fns (Q7 x.args);rw[Qk9]at hca;have hcb:=Q82 fns (Qbn x.body);have hpb:=Qlg x.body;refine Qe ?_;try simp only[go_sem]
   refine Qf (Qd ?_);refine Qa ?_;simp only[go_sem,hlt,Qu,Qbc _ _ hlt,hx,x.cells_eq];intro x7 hx7 H3 h3;have kn:Kn F H3 [] (((x5,.st [t2])::Lg2)++[(x7,.st [.int .i64 0,.str [],.sl true 4 [],.sl true 5 [],.sl true 5 []])]):=kn.al hx7 h3;have g7:=kn.getM;simp only[go_sem,Qqv,g7];intro H4 h4;have kn:=kn.stM h4;have g7:=kn.getM;refine Qa ?_;simp only[go_sem,g7];obtain⟨F',kn',back⟩:=kn.side;have hvc:=fun K=>Qbqj (K:=K) (fl:=fl) (fns:=fns) (x:=x) (nest:=nest) hgr kn' (by simp only[Jv];omega);rw[x.cells_eq]at hvc;refine hvc _ fun H5 t3 Lg3 hgr kn=>?_;have kn:=back _ _ kn;clear back kn' hvc;have g7:=kn.getM;simp only[go_sem];refine Qa ?_;simp only[go_sem,g7];refine⟨Qo (by omega) (by omega),?_⟩;obtain⟨F',kn',back⟩:=kn.side;refine ih (Qh x.body) (by omega) x.body (nest+1) false _ _ _ F' _ _ (Jf _) (by omega) (by omega) hgr kn' (by simp only[Jv];omega) fun H6 t4 Lg4 hgr kn=>?_;have kn:=back _ _ kn;clear back kn';have g7:=kn.getM;simp only[go_sem];refine Qq ?_;simp only[go_sem,g7];refine⟨Qo (by omega) (by omega),?_⟩;obtain⟨F',kn',back⟩:=kn.side;refine ih (Qh x.els) (by omega) x.els (nest+1) false _ _ _ F' _ _ (Jf _) (by omega) (by omega) hgr kn' (by simp only[Jv];omega) fun H7 t5 Lg5 hgr kn=>?_;have kn:=Kn.drop (back _ _ kn);simp only[go_sem];refine Qq ?_;simp only[go_sem,AE.X.next];refine⟨Qo (by omega) (by omega),l.length-(i+1),by omega,i+1,t5,Lg5,rfl,by omega,?_,kn,rfl⟩;rw[htk,x.pre_eq,Qagz,Qagz,Qagz];simpa only[Jg]using hgr
  ·intro hc;have hge:l.length≤i:=by simpa using hc
   rw[Jd hge]at hgr;refine Qv ?_;simp only[go_sem,AE.X.next,Qs,Q6,Qqi];exact hK _ t2 Lg2 hgr kn
theorem Qbc0 {fl:Bool}{fns:List Fn}{k:Nat}(h:FineP fns)(hk:k<fns.length)(hb:Qh fns[k].body≤2^36)(hK:∀H',Upd H H' []→K (.c (.sl false 1 (Qayh (Qagw fns k)))) H') :
  Ql prog Qpu [.ag [.sl fl 3 (Q1 fns)],.c (.int .i64 k)] H K:=by
 obtain⟨f,hfe⟩:∃f,fns[k]=f:=⟨_,rfl⟩;have hcalls:=fun ns h1 h2=>Qbc4 h hk (ns:=ns) h1 h2;rw[hfe]at hb hcalls;have hcl:=Q82 fns (Qbn f.body);have hpl:=Qlg f.body;refine Q0 ?_;refine Qb Qai Qaxv ?_;refine Qa ?_;simp only[go_sem];refine Qa ?_;simp only[go_sem];intro x5 hx5 H1 h1;have kn:=(Kn.start0 H).al hx5 h1;refine Qa ?_;simp only[go_sem,hk,Qz,Qat _ _ hk,hfe,Fn.cells];refine Qbc7 (x5:=x5) (fl:=fl) (fns:=fns) (Qh f.body) f.body 1 false [] (.sl true 1 []) [] H H1 _ (Jf _) (by omega) (by omega) (.nil 1) kn (by simp only[Jp];omega) fun H2 t Lg hgr kn=>?_;rw[Jq]at hgr;have hto:=hgr.isOw;have g5:=kn.l 0 rfl;simp only[go_sem];refine Qa ?_;simp only[go_sem,g5,hto];refine Qbok (B:=[(x5,.st [t])]) kn hgr fun Lg2 H3 hgr kn=>?_;have g5:=kn.l 0 rfl;simp only[go_sem];refine Qa ?_;simp only[go_sem,g5,hto];refine Qbco kn hgr (Qbce _) (by rw[Qbg6];omega) fun t2 Lg3 ns' H4 hgw how2 kn h1 h2 h3=>?_;simp only[go_sem,Qv1,how2];refine Qi ?_;simp only[go_sem,Qs,Q6,Qm6,Ja,forall_eq,RS.op,how2];have he:=hcalls ns' h1 (fun x=>by rw[h2,Qbnz]);refine⟨_,.c _ _ (hgw.frz kn),?_⟩;rw[he];exact hK _ kn.fin
end Go.AE.Y
namespace Go.AE.Y
open Go.Proofs.Tryz
def Qsa:List Item:=[gF 45 39 (.not (.t 44)),pT 46 39 45]
def Qamf:SC:=cT 46 (sR [fB 4 false] [4] .ret) .skip
def Qsb:List Item:=[gF 81 67 (.not (.t 80)),pT 82 67 81]
def Qamg:SC:=cT 82 (sR [fB 4 false] [4] .ret) .skip
def Qamh:SC:=.reg [mJ 52 5,cJ 53 .add 52 1,mJ 5 53] [2,3,5]
def Qami:SC:=.seq (.block 1 (.seq (.dreg 29 [0,1,2,3,4,5,6,7,8,9,10,11,12,13,14,15,16,17,18,19,20,21,22,23,24,25,26,27,28] ( fJ 54 0 2::lJ 55 54::mJ 56 5::iJ 57 2 55 56::fJ 58 0 57::lJ 59 58::fJ 60 0 3::lJ 61 60::mJ 62 5::iJ 63 2 61 62::fJ 64 0 63::lJ 65 64::bJ 66 .neq 59 65::mJ 67 66::gFf 68 67 0 2::gFl 69 67 68::gFm 70 67 5::gF 71 67 (.iad 2 (.t 69) (.t 70))::gFf 72 67 1 71::gFl 73 67 72::gFf 74 67 0 3::gFl 75 67 74::gFm 76 67 5::gF 77 67 (.iad 2 (.t 75) (.t 76))::gFf 78 67 1 77::gFl 79 67 78::.e (some 80) (some (67,false)) (.call Qu1 [.t 73,.t 79])::Qsb) [2,3,5,82]) Qamg)) Qamh
def Qafq:SC:=.seq (sR [mJ 47 5,fJ 48 0 2,lJ 49 48,nJ 50 49,bJ 51 .lss 47 50] [2,3,5,51] (cT 51 .skip (.exit 0))) Qami
def Qsc:List Item:=[sJ 4 7 94]
def Qsd:List Item:=[sJ 4 8 99]
def Qse:List Item:=[gF 125 119 (.not (.t 124)),pT 126 119 125]
def Qafh:SC:=cT 126 (sR [fB 4 false] [4] .ret) .skip
def Qafi:SC:=sR (fJ 100 0 7::lJ 101 100::fJ 102 0 8::lJ 103 102::bJ 104 .neq 101 103::mJ 105 104::gFf 106 105 1 7::gFl 107 105 106::gFf 108 105 1 8::gFl 109 105 108::gF 110 105 (.bin 0 .neq (.t 107) (.t 109))::pT 111 105 110::mJ 112 111::gFf 113 112 3 7::gFl 114 112 113::gFf 115 112 3 8::gFl 116 112 115::gF 117 112 (.bin 0 .neq (.t 114) (.t 116))::pT 118 112 117::mJ 119 118::gFf 120 119 2 7::gFl 121 119 120::gFf 122 119 2 8::gFl 123 119 122::.e (some 124) (some (119,false)) (.call Qu1 [.t 121,.t 123])::Qse) [2,3,6,126] Qafh
def Qafj:SC:=sR (fJ 95 1 3::lJ 96 95::mJ 97 6::iJ 98 4 96 97::tJ 99 4 98::eI 8 (.alloc [.int .i64 0,.int .i64 0,.sl true 1 [],.int .i64 0])::Qsd) [2,3,6,7,8] Qafi
def Qafk:SC:=.reg [mJ 88 6,cJ 89 .add 88 1,mJ 6 89] [2,3,6]
def Qafl:SC:=.seq (.block 3 (sR (fJ 90 1 2::lJ 91 90::mJ 92 6::iJ 93 4 91 92::tJ 94 4 93::eI 7 (.alloc [.int .i64 0,.int .i64 0,.sl true 1 [],.int .i64 0])::Qsc) [2,3,6,7] Qafj)) Qafk
def Qabi:SC:=.seq (sR [mJ 83 6,fJ 84 1 2,lJ 85 84,nJ 86 85,bJ 87 .lss 83 86] [2,3,6,87] (cT 87 .skip (.exit 2))) Qafl
def Qafm:SC:=sR [fB 4 true] [4] .ret
def Qafn:SC:=.seq (sR [zJ 6 0] [2,3,6] (bL 2 Qabi)) Qafm
def Qafo:SC:=.seq (sR [zJ 5 0] [2,3,5] (bL 0 Qafq)) Qafn
def Qafp:SC:=.seq (sR (fJ 9 0 2::lJ 10 9::nJ 11 10::fJ 12 0 3::lJ 13 12::nJ 14 13::bJ 15 .neq 11 14::mJ 16 15::gFf 17 16 1 2::gFl 18 16 17::gF 19 16 (.len (.t 18))::gFf 20 16 1 3::gFl 21 16 20::gF 22 16 (.len (.t 21))::gF 23 16 (.bin 0 .neq (.t 19) (.t 22))::pT 24 16 23::mJ 25 24::gFf 26 25 2 2::gFl 27 25 26::gFf 28 25 2 3::gFl 29 25 28::gF 30 25 (.bin 0 .neq (.t 27) (.t 29))::pT 31 25 30::mJ 32 31::gFf 33 32 3 2::gFl 34 32 33::gFf 35 32 3 3::gFl 36 32 35::gF 37 32 (.bin 0 .neq (.t 34) (.t 36))::pT 38 32 37::mJ 39 38::gFf 40 39 4 2::gFl 41 39 40::gFf 42 39 4 3::gFl 43 39 42::.e (some 44) (some (39,false)) (.call Qu1 [.t 41,.t 43])::Qsa) [2,3,46] Qamf) Qafo
def Qawe:SC:=sR [vJ 2 0,vJ 3 1,fB 4 false] [2,3] Qafp
theorem Qauv:mFn prog Qnp 2 127 Qawe Qm6=true:=by kernel_rfl
def Qaq1:SC:=cT 26 (sR [fB 4 false] [4] .ret) .skip
def Qyo:List Item:=[oJ 45 44]
def Qaq2:SC:=cT 45 (sR [fB 4 false] [4] .ret) .skip
def Qaq3:SC:=.reg [mJ 32 5,cJ 33 .add 32 1,mJ 5 33] [2,3,5]
def Qaq4:SC:=.seq (.block 1 (.seq (.dreg 12 [0,1,2,3,4,5,6,7,8,9,10,11] ( fJ 34 2 2::lJ 35 34::mJ 36 5::iJ 37 5 35 36::tJ 38 5 37::fJ 39 2 3::lJ 40 39::mJ 41 5::iJ 42 5 40 41::tJ 43 5 42::aJ 44 Qnp [.t 38,.t 43]::Qyo) [2,3,5,45]) Qaq2)) Qaq3
def Qamj:SC:=.seq (sR [mJ 27 5,fJ 28 2 2,lJ 29 28,nJ 30 29,bJ 31 .lss 27 30] [2,3,5,31] (cT 31 .skip (.exit 0))) Qaq4
def Qaq5:SC:=sR [fB 4 true] [4] .ret
def Qaq6:SC:=.seq (sR [zJ 5 0] [2,3,5] (bL 0 Qamj)) Qaq5
def Qaq7:SC:=.seq (sR [fJ 6 0 2,lJ 7 6,fJ 8 0 3,lJ 9 8,bJ 10 .neq 7 9,mJ 11 10,gFf 12 11 1 2,gFl 13 11 12,gFf 14 11 1 3,gFl 15 11 14,gF 16 11 (.bin 0 .neq (.t 13) (.t 15)),pT 17 11 16,mJ 18 17,gFf 19 18 2 2,gFl 20 18 19,gF 21 18 (.len (.t 20)),gFf 22 18 2 3,gFl 23 18 22,gF 24 18 (.len (.t 23)),gF 25 18 (.bin 0 .neq (.t 21) (.t 24)),pT 26 18 25] [2,3,26] Qaq1) Qaq6
def Qa0v:SC:=sR [vJ 2 0,vJ 3 1,fB 4 false] [2,3] Qaq7
theorem Qaya:mFn prog Qp3 2 46 Qa0v Qm6=true:=by kernel_rfl
def Qbbh:SC:=cT 10 (sR [fB 4 false] [4] .ret) .skip
def Qbbi:SC:=cT 25 (sR [fB 4 false] [4] .ret) .skip
def Qbbj:SC:=.reg [mJ 15 5,cJ 16 .add 15 1,mJ 5 16] [0,1,5]
def Qbbk:SC:=.seq (.block 1 (.seq (.dreg 9 [0,1,2,3,4,5,6,7,8] ( mJ 17 0::mJ 18 5::iJ 19 1 17 18::lJ 20 19::mJ 21 1::mJ 22 5::iJ 23 1 21 22::lJ 24 23::bJ 25 .neq 20 24::[]) [0,1,5,25]) Qbbi)) Qbbj
def Qa5w:SC:=.seq (sR [mJ 11 5,mJ 12 0,nJ 13 12,bJ 14 .lss 11 13] [0,1,5,14] (cT 14 .skip (.exit 0))) Qbbk
def Qbbl:SC:=sR [fB 4 true] [4] .ret
def Qbbm:SC:=.seq (sR [zJ 5 0] [0,1,5] (bL 0 Qa5w)) Qbbl
def Qbbn:SC:=.seq (sR [mJ 6 0,nJ 7 6,mJ 8 1,nJ 9 8,bJ 10 .neq 7 9] [0,1,10] Qbbh) Qbbm
def Qbkg:SC:=sR [fB 4 false] [0,1] Qbbn
theorem Qbji:mFn prog Qu1 2 26 Qbkg Qm6=true:=by kernel_rfl
def Qaf1:SC:=cT 12 (sR [fB 4 false] [4] .ret) .skip
def Qpg:List Item:=[oJ 31 30]
def Qaf2:SC:=cT 31 (sR [fB 4 false] [4] .ret) .skip
def Qaf3:SC:=.reg [mJ 18 5,cJ 19 .add 18 1,mJ 5 19] [2,3,5]
def Qaf4:SC:=.seq (.block 1 (.seq (.dreg 12 [0,1,2,3,4,5,6,7,8,9,10,11] ( fJ 20 0 2::lJ 21 20::mJ 22 5::iJ 23 3 21 22::tJ 24 3 23::fJ 25 0 3::lJ 26 25::mJ 27 5::iJ 28 3 26 27::tJ 29 3 28::aJ 30 Qp3 [.t 24,.t 29]::Qpg) [2,3,5,31]) Qaf2)) Qaf3
def Qabr:SC:=.seq (sR [mJ 13 5,fJ 14 0 2,lJ 15 14,nJ 16 15,bJ 17 .lss 13 16] [2,3,5,17] (cT 17 .skip (.exit 0))) Qaf4
def Qaf5:SC:=sR [fB 4 true] [4] .ret
def Qaf6:SC:=.seq (sR [zJ 5 0] [2,3,5] (bL 0 Qabr)) Qaf5
def Qaf7:SC:=.seq (sR [fJ 6 0 2,lJ 7 6,nJ 8 7,fJ 9 0 3,lJ 10 9,nJ 11 10,bJ 12 .neq 8 11] [2,3,12] Qaf1) Qaf6
def Qasb:SC:=sR [vJ 2 0,vJ 3 1,fB 4 false] [2,3] Qaf7
theorem Qaop:mFn prog Qfs 2 32 Qasb Qm6=true:=by kernel_rfl
end Go.AE.Y
namespace Go.AE.Y
attribute [local go_sem] cond_true cond_false Bool.not_true Bool.not_false
open Go.Proofs.Tryz
variable {H H0 F:Heap}{K:V→Heap→Prop}{E B Lg:List (Nat×Obj)}{fns:List Fn}
theorem Qagn {S:Nat→Bool}{rows:List (List C)}{fl:Bool}(hr:∀r∈rows,noOw r=true)(b:Bool):FrzV H S (.tup [.ag [.sl fl 3 rows],.c (.bool b)]) (.tup [.ag [.sl false 3 rows],.c (.bool b)]):=by
 refine .tup _ _ rfl fun j x x' h1 h2=>?_;rcases j with _|_|j
 ·simp only[Jaf,J2]at h1 h2;subst h1 h2;exact (FrzL.cons (FrzR.same hr).sl .nil).ag
 ·simp only[List.getElem?_cons_succ,Jaf,J2]at h1 h2;subst h1 h2;exact .c _ _ (Qg rfl)
 ·simp at h1
end Go.AE.Y
namespace Go.AE.Y
open Go.Proofs.Tryz
def Qrf:List Item:=[gF 15 8 (.not (.t 14)),pT 16 8 15]
def Qrg:List Item:=oJ 7 6::mJ 8 7::gFm 9 8 1::gFf 10 8 0 2::gFl 11 8 10::gF 12 8 (.len (.t 11))::gF 13 8 (.bin 0 .sub (.t 12) (kI 1))::.e (some 14) (some (8,false)) (.call Qar [.t 9,kI 0,.t 13])::Qrf
def Qail:SC:=cT 16 (sR [fI 4 (.mv (.k (.c (.sl true 1 []))))] [4] .ret) .skip
def Qrh:List Item:=[mJ 4 19]
def Qaim:SC:=sR (tJ 17 1 2::mJ 18 1::aJ 19 Qpu [.t 17,.t 18]::Qrh) [4] .ret
def Qain:SC:=.seq (sR (tJ 5 1 2::aJ 6 Qz6 [.t 5]::Qrg) [1,2,16] Qail) Qaim
def Qau9:SC:=sR [vJ 2 0,fI 4 (.mv (.k (.c (.sl true 1 []))))] [1,2] Qain
theorem Qauk:mFn prog Qnk 2 20 Qau9 Qm6=true:=by kernel_rfl
def Qjt:List Item:=[fB 3 false]
def Qju:List Item:=[oJ 7 6]
def Qjv:List Item:=[fB 3 false]
def Q40:SC:=cT 7 (sR (fI 8 (.bld [.sl true 3 []] [])::sJ 1 2 8::Qjv) [2,3] .ret) .skip
def Qjw:List Item:=[sJ 1 4 13]
def Qjx:List Item:=fI 13 (.bld [.sl true 3 []] [(0,1,.t 12)])::eI 4 (.alloc [.sl true 3 []])::Qjw
def Qjy:List Item:=[oJ 16 15]
def Qjz:List Item:=[fB 3 false]
def Q41:SC:=cT 16 (sR (fI 17 (.bld [.sl true 3 []] [])::sJ 1 2 17::Qjz) [2,3] .ret) .skip
def Qj0:List Item:=[fB 3 true]
def Q01:SC:=sR (tJ 18 1 4::sJ 1 2 18::Qj0) [2,3] .ret
def Q02:SC:=.seq (sR (tJ 14 1 4::aJ 15 Qll [.t 14]::Qjy) [2,4,16] Q41) Q01
def Q03:SC:=sR (fJ 9 0 1::lJ 10 9::fI 11 (.mkf Qdp [.t 1])::aJ 12 Qee [.t 10,.t 11]::Qjx) [2,4] Q02
def Q04:SC:=.seq (sR (tJ 5 1 1::aJ 6 Qz6 [.t 5]::Qju) [1,2,7] Q40) Q03
def Q95:SC:=sR (vJ 1 0::eI 2 (.alloc [.sl true 3 []])::Qjt) [1,2] Q04
def Qd6:List RS:=[.cell 2 1 true,.tmp 3]
theorem Q9g:mFn prog Qfh 1 19 Q95 Qd6=true:=by kernel_rfl
def Qf3:List Item:=[sJ 3 3 6]
def Qs1:SC:=sR (tJ 4 1 1::tJ 5 3 2::aJ 6 Qpy [.t 4,.t 5]::Qf3) [3] .ret
def Q05:SC:=sR [vJ 2 0,eI 3 (.alloc [.int .i64 0,.int .i64 0,.sl true 5 []])] [1,2,3] Qs1
def Qjg:List RS:=[.cell 3 3 true]
theorem Q0m:mFn prog Qdp 2 7 Q05 Qjg=true:=by kernel_rfl
def Qwd:List Item:=[mJ 5 11]
def Qwe:List Item:=[kJ 22 13,fJ 23 1 22,fJ 24 1 23,sJ 1 24 18]
def Qwf:List Item:=hJ 15 14::.chk 16 none (.len (.t 15))::kJ 19 12::fJ 20 1 19::fJ 21 0 20::sJ 1 21 16::Qwe
def Qwg:List Item:=[mJ 6 25]
def Qapv:SC:=.reg [mJ 34 6,kJ 35 34,fJ 36 0 35,lJ 37 36,mJ 38 8,mJ 39 7,.e none none (.upd 1 (.t 37) (.t 38) (.t 39))] [3,4,5,6,27,28,29]
def Qapw:SC:=.reg [cJ 40 .add 29 1,mJ 29 40] [3,4,5,6,27,28,29]
def Qapx:SC:=.seq (.block 1 (sR [mJ 31 29,iJ 32 1 27 29,lJ 33 32,mJ 7 31,mJ 8 33] [3,4,5,6,7,8,27,28,29] Qapv)) Qapw
def Qajk:SC:=sR [bJ 30 .lss 29 28] [3,4,5,6,27,28,29,30] (cX 30 0 Qapx)
def Qwh:List Item:=[aJ 52 Qa3 [.t 43,.t 45,.t 46,.t 51]]
def Qwi:List Item:=[hJ 59 58,eI 60 (.call Qae [.t 53,kI 3,.t 55,.t 59,.k (.c (.sl true 1 []))])]
def Qajc:SC:=sR [mJ 61 5,kJ 62 61,fJ 63 1 62,tJ 64 3 63,sJ 3 4 64] [4] .ret
def Qajd:SC:=.seq (.dreg 8 [0,1,3,4,5,6,2,6,7] ( mJ 53 5::mJ 54 5::mJ 56 5::kJ 57 56::fJ 58 4 57::lJ 59 58::eI 55 (.call Qao [.t 54,kI 1,kI 0,.k (.c (.sl true 1 []))])::Qwi) [4,5]) Qajc
def Qaje:SC:=sR (mJ 43 5::fJ 44 2 3::lJ 45 44::mJ 46 6::fJ 47 1 3::lJ 48 47::nJ 49 48::fI 50 (.bld [.int .i64 0] [(0,1,.t 49)])::eI 51 (.boxm (.t 50))::Qwh) [4,5] Qajd
def Qajf:SC:=sR [mJ 41 5,aJ 42 Qa9 [.t 41,kI 1]] [3,4,5,6] Qaje
def Qajg:SC:=.seq (sR [fJ 26 1 3,lJ 27 26,nJ 28 27,zJ 29 0] [3,4,5,6,27,28,29] (bL 0 Qajk)) Qajf
def Qajh:SC:=sR (aJ 25 Qa0 [.k (.c .pnil)]::Qwg) [3,4,5,6] Qajg
def Qaji:SC:=.seq (.dreg 15 [0,1,2,3,4,5,6,3,4,7,8,9,10,11,12,13,14] ( mJ 12 5::mJ 13 5::fJ 14 1 3::lJ 15 14::nJ 16 15::tJ 17 3 3::aJ 18 Qnn [.t 17]::Qwf) [3,4,5]) Qajh
def Qajj:SC:=sR (tJ 9 1 2::fI 10 (.bld [.sl true 3 [],.int .i64 0,.int .i64 0,.sl true 5 [],.int .i64 0] [(0,1,.t 9)])::eI 11 (.boxm (.t 10))::Qwd) [3,4,5] Qaji
def Qay5:SC:=sR [vJ 2 0,vJ 3 1,eI 4 (.alloc [.int .i64 0,.int .i64 0,.sl true 5 []])] [2,3,4] Qajj
theorem Qaxy:mFn prog Qpy 2 65 Qay5 Qblk=true:=by kernel_rfl
def Qgs:List Item:=[sJ 5 9 21]
def Qgt:List Item:=[mJ 10 26]
def Qgu:List Item:=[mJ 11 38]
def Qgv:List Item:=[hJ 49 4,hJ 51 50,aJ 55 Qa3 [.t 49,.t 51,.t 53,.t 54]]
def Qwj:SC:=sR [lJ 56 4,mJ 57 10,cJ 58 .add 57 2,mJ 59 10,fI 60 (.bsl 1 [.t 59]),aJ 61 Qae [.t 56,kI 1,kI 0,.t 58,.t 60]] [3,4,6,16,17,18] (.exit 1)
def Qwk:SC:=.seq (.dreg 7 [0,1,2,3,5,4,0,2,6] ( lJ 49 4::fJ 50 3 9::lJ 51 50::lJ 52 6::mJ 54 3::aJ 53 Qa0 [.t 52]::Qgv) [3,4,6,10,16,17,18]) Qwj
def Qwl:SC:=sR [lJ 39 4,mJ 40 11,mJ 41 10,cJ 42 .add 41 1,mJ 43 10,cJ 44 .add 43 1,mJ 45 10,cJ 46 .add 45 2,fI 47 (.bsl 1 [.t 44,.t 46]),aJ 48 Qae [.t 39,kI 2,.t 40,.t 42,.t 47]] [3,4,6,9,10,16,17,18] Qwk
def Qwm:SC:=.seq (.dreg 8 [0,1,2,3,4,5,6,7] ( lJ 32 4::fJ 33 2 9::lJ 34 33::fI 35 (.iad 4 (.t 34) (kI 0))::tJ 36 4 35::lJ 37 6::aJ 38 Qa8 [.t 32,.t 36,.t 37]::Qgu) [3,4,6,9,10,11,16,17,18]) Qwl
def Qwn:SC:=sR [lJ 27 4,mJ 28 10,mJ 29 10,fI 30 (.bsl 1 [.t 29]),aJ 31 Qae [.t 27,kI 1,kI 0,.t 28,.t 30]] [3,4,6,9,10,16,17,18] Qwm
def Qwo:SC:=cT 24 (sR (lJ 25 4::aJ 26 Qa9 [.t 25,kI 3]::Qgt) [3,4,6,9,10,16,17,18] Qwn) .skip
def Qf7:List Item:=[mJ 12 65]
def Qtc:SC:=.dreg 11 [0,1,2,3,4,5,6,7,8,9,10] ( lJ 87 4::lJ 88 6::kJ 89 88::fJ 90 0 89::lJ 91 90::fJ 92 1 9::lJ 93 92::fI 94 (.lup 1 (.c (.int .i64 0)) (.t 91) (.t 93))::mJ 95 12::fI 96 (.bld [.int .i64 0,.int .i64 0,.sl true 1 [],.int .i64 0] [(0,1,kI 2),(1,1,.t 94),(2,1,.t 95),(3,1,kI 0)])::aJ 97 Qa4 [.t 87,.t 96]::[]) [3,4,6,16,17,18]
def Qtd:SC:=sR [mJ 80 3,kJ 81 80,fJ 82 0 81,lJ 83 82,cJ 84 .add 83 1,kJ 85 80,fJ 86 0 85,sJ 1 86 84] [3,4,6,9,12,16,17,18] Qtc
def Qf8:List Item:=[mJ 100 104,fI 105 (.ext (.t 100) 0),fI 106 (.ext (.t 100) 1),mJ 13 105,mJ 14 106]
def Qte:SC:=.reg [lJ 107 4,mJ 108 13,mJ 109 12,fI 110 (.bld [.int .i64 0,.int .i64 0,.sl true 1 [],.int .i64 0] [(0,1,kI 2),(1,1,.t 108),(2,1,.t 109),(3,1,kI 0)]),aJ 111 Qa4 [.t 107,.t 110]] [3,4,6,16,17,18]
def Qf9:List Item:=[mJ 15 127]
def Qga:List Item:=[hJ 138 4,hJ 140 139,aJ 144 Qa3 [.t 138,.t 140,.t 142,.t 143]]
def Qgb:List Item:=[hJ 152 4,hJ 154 153,aJ 158 Qa3 [.t 152,.t 154,.t 156,.t 157]]
def Qtf:SC:=.reg [lJ 159 4,mJ 160 15,cJ 161 .add 160 2,mJ 162 15,cJ 163 .add 162 2,fI 164 (.bsl 1 [.t 163]),aJ 165 Qae [.t 159,kI 1,kI 0,.t 161,.t 164]] [3,4,6,16,17,18]
def Qtg:SC:=.seq (.dreg 7 [0,1,2,3,5,4,0,2,6] ( lJ 152 4::fJ 153 4 9::lJ 154 153::lJ 155 6::mJ 157 3::aJ 156 Qa0 [.t 155]::Qgb) [3,4,6,15,16,17,18]) Qtf
def Qth:SC:=sR [lJ 145 4,mJ 146 15,cJ 147 .add 146 1,mJ 148 15,cJ 149 .add 148 2,fI 150 (.bsl 1 [.t 149]),aJ 151 Qae [.t 145,kI 1,kI 0,.t 147,.t 150]] [3,4,6,9,15,16,17,18] Qtg
def Qti:SC:=.seq (.dreg 7 [0,1,2,3,5,4,0,2,6] ( lJ 138 4::fJ 139 3 9::lJ 140 139::lJ 141 6::mJ 143 3::aJ 142 Qa0 [.t 141]::Qga) [3,4,6,9,15,16,17,18]) Qth
def Qtj:SC:=.seq (.dreg 10 [0,1,2,3,4,5,6,7,8,9] ( lJ 128 4::mJ 129 12::fI 130 (.iad 1 (.t 129) (kI 0))::lJ 131 130::mJ 132 15::mJ 133 15::mJ 134 15::cJ 135 .add 134 1::fI 136 (.bsl 1 [.t 133,.t 135])::aJ 137 Qae [.t 128,kI 2,.t 131,.t 132,.t 136]::[]) [3,4,6,9,15,16,17,18]) Qti
def Qgc:List Item:=[hJ 168 4,.chk 170 none (.iad 1 (.t 169) (kI 0)),hJ 171 170,eI 174 (.call Qae [.t 168,kI 3,.t 171,.t 173,.k (.c (.sl true 1 []))])]
def Qtk:SC:=cT 166 (.dreg 7 [0,1,2,3,4,5,0,2,3,6] ( lJ 168 4::mJ 169 12::fI 170 (.iad 1 (.t 169) (kI 0))::lJ 171 170::lJ 172 4::aJ 173 Qa9 [.t 172,kI 1]::Qgc) [3,4,6,16,17,18]) .skip
def Qtl:SC:=cT 124 (sR (lJ 126 4::aJ 127 Qa9 [.t 126,kI 3]::Qf9) [3,4,6,9,12,15,16,17,18] Qtj) (sR [cJ 167 .eql 67 7,mJ 166 167] [3,4,6,12,16,17,18,166] Qtk)
def Qtm:SC:=cT 118 (.reg [lJ 120 4,mJ 121 12,fI 122 (.bld [.int .i64 0,.int .i64 0,.sl true 1 [],.int .i64 0] [(0,1,kI 12),(1,1,kI (-1)),(2,1,.t 121),(3,1,kI 0)]),aJ 123 Qa4 [.t 120,.t 122]] [3,4,6,16,17,18]) (sR [cJ 125 .eql 67 5,mJ 124 125] [3,4,6,9,12,16,17,18,67,124] Qtl)
def Qtn:SC:=cT 112 (.reg [lJ 114 4,mJ 115 12,fI 116 (.bld [.int .i64 0,.int .i64 0,.sl true 1 [],.int .i64 0] [(0,1,kI 13),(1,1,kI (-1)),(2,1,.t 115),(3,1,kI 0)]),aJ 117 Qa4 [.t 114,.t 116]] [3,4,6,16,17,18]) (sR [cJ 119 .eql 67 4,mJ 118 119] [3,4,6,9,12,16,17,18,67,118] Qtm)
def Qto:SC:=cT 98 (sR (lJ 101 6::fJ 102 1 9::lJ 103 102::aJ 104 Qcc [.t 101,.t 103]::Qf8) [3,4,6,12,13,16,17,18] Qte) (sR [cJ 113 .eql 67 3,mJ 112 113] [3,4,6,9,12,16,17,18,67,112] Qtn)
def Qtp:SC:=cT 68 (.seq (.dreg 11 [0,1,2,3,4,5,6,7,8,9,10] ( lJ 70 6::kJ 71 70::fJ 72 0 71::lJ 73 72::fJ 74 1 9::lJ 75 74::mJ 76 3::kJ 77 76::fJ 78 0 77::lJ 79 78::.e none none (.upd 1 (.t 73) (.t 75) (.t 79))::[]) [3,4,6,9,12,16,17,18]) Qtd) (sR [cJ 99 .eql 67 2,mJ 98 99] [3,4,6,9,12,16,17,18,67,98] Qto)
def Qtq:SC:=.block 2 (sR [cJ 69 .eql 67 1,mJ 68 69] [3,4,6,9,12,16,17,18,67,68] Qtp)
def Qtr:SC:=sR [fJ 66 0 9,lJ 67 66] [3,4,6,9,12,16,17,18,67] Qtq
def Qts:SC:=sR (fJ 62 2 9::lJ 63 62::fI 64 (.mkf Qc3 [.t 4,.t 6])::aJ 65 Qce [.t 63,.t 64]::Qf7) [3,4,6,9,12,16,17,18] Qtr
def Qtt:SC:=.seq (sR [fJ 22 0 9,lJ 23 22,cJ 24 .eql 23 6] [3,4,6,9,16,17,18,24] Qwo) Qts
def Qgq:SC:=.reg [cJ 175 .add 18 1,mJ 18 175] [3,4,6,16,17,18]
def Qgr:SC:=.seq (.block 1 (sR (iJ 20 5 16 18::tJ 21 5 20::eI 9 (.alloc [.int .i64 0,.str [],.sl true 4 [],.sl true 5 [],.sl true 5 []])::Qgs) [3,4,6,9,16,17,18] Qtt)) Qgq
def Qqr:SC:=sR [bJ 19 .lss 18 17] [3,4,6,16,17,18,19] (cX 19 0 Qgr)
def Qtu:SC:=sR [mJ 16 1,nJ 17 16,zJ 18 0] [3,4,6,16,17,18] (bL 0 Qqr)
def Q47:SC:=sR [vJ 4 0,vJ 6 2] [1,3,4,6] Qtu
theorem Q4j:mFn prog Qa3 4 176 Q47 Qqi=true:=by kernel_rfl
def Qeu:List Item:=[mJ 4 8]
def Qo4:SC:=sR (lJ 5 1::tJ 6 4 3::lJ 7 2::aJ 8 Qa8 [.t 5,.t 6,.t 7]::Qeu) [4] .ret
def Qtv:SC:=sR [vJ 3 0,zJ 4 0] [1,2,3] Qo4
theorem Qsy:mFn prog Qc3 3 9 Qtv Qm6=true:=by kernel_rfl
def Qj5:List Item:=[kJ 31 23,fJ 32 4 31,sJ 1 32 26]
def Qj6:List Item:=kJ 29 22::fJ 30 3 29::sJ 1 30 25::Qj5
def Q48:SC:=.reg [mJ 33 0,mJ 34 3,kJ 35 33,fJ 36 4 35,sJ 1 36 34] []
def Q49:SC:=sR (mJ 21 10::mJ 22 10::mJ 23 10::mJ 24 1::mJ 25 2::mJ 26 4::kJ 27 21::fJ 28 2 27::sJ 1 28 24::Qj6) [0,3] Q48
def Qaak:SC:=.seq (.dreg 11 [0,1,2,3,4,5,6,7,8,9,10] ( mJ 11 0::kJ 12 11::fJ 13 1 12::fJ 14 2 13::lJ 15 14::mJ 16 0::kJ 17 16::fJ 18 4 17::lJ 19 18::iJ 20 5 15 19::mJ 10 20::[]) [0,1,2,3,4,10]) Q49
theorem Q9k:mFn prog Qae 5 37 Qaak Qqi=true:=by kernel_rfl
def Qin:List Item:=[mJ 6 22]
def Qio:List Item:=[mJ 25 29,fI 30 (.ext (.t 25) 0),fI 31 (.ext (.t 25) 1),mJ 7 30,mJ 8 31]
def Q1i:SC:=sR [mJ 32 7,mJ 6 32] [6] .ret
def Qip:List Item:=[mJ 9 41]
def Qiq:List Item:=[mJ 10 43]
def Qir:List Item:=[mJ 11 45]
def Qis:List Item:=[mJ 12 60]
def Qit:List Item:=[mJ 13 64]
def Q1j:SC:=sR [mJ 78 10,mJ 6 78] [6] .ret
def Q1k:SC:=sR [lJ 71 3,mJ 72 11,cJ 73 .add 72 1,mJ 74 11,cJ 75 .add 74 1,fI 76 (.bsl 1 [.t 75]),aJ 77 Qae [.t 71,kI 1,kI 0,.t 73,.t 76]] [10] Q1j
def Qwp:SC:=sR [lJ 65 3,mJ 66 10,mJ 67 13,fI 68 (.bsl 1 [.t 67]),fI 69 (.bld [.int .i64 0,.int .i64 0,.sl true 1 [],.int .i64 0] [(0,1,kI 10),(1,1,.t 66),(2,1,.t 68),(3,1,kI 0)]),aJ 70 Qa4 [.t 65,.t 69]] [3,10,11] Q1k
def Qwq:SC:=sR (lJ 61 3::mJ 62 12::fI 63 (.bsl 1 [.t 62])::aJ 64 Qao [.t 61,kI 10,kI 0,.t 63]::Qit) [3,10,11,13] Qwp
def Qwr:SC:=.seq (.dreg 8 [0,1,2,3,4,5,6,7] ( lJ 54 3::fJ 55 3 4::lJ 56 55::fI 57 (.iad 4 (.t 56) (kI 1))::tJ 58 4 57::lJ 59 5::aJ 60 Qa8 [.t 54,.t 58,.t 59]::Qis) [3,10,11,12]) Qwq
def Qws:SC:=sR [lJ 46 3,mJ 47 9,mJ 48 11,mJ 49 11,mJ 50 11,cJ 51 .add 50 1,fI 52 (.bsl 1 [.t 49,.t 51]),aJ 53 Qae [.t 46,kI 2,.t 47,.t 48,.t 52]] [3,4,5,10,11] Qwr
def Qwt:SC:=sR (lJ 44 3::aJ 45 Qa9 [.t 44,kI 2]::Qir) [3,4,5,9,10,11] Qws
def Qwu:SC:=sR (lJ 42 3::eI 43 (.call Qao [.t 42,kI 1,kI 0,.k (.c (.sl true 1 []))])::Qiq) [3,4,5,9,10] Qwt
def Qwv:SC:=cT 33 (.seq (.dreg 8 [0,1,2,3,4,5,6,7] ( lJ 35 3::fJ 36 3 4::lJ 37 36::fI 38 (.iad 4 (.t 37) (kI 0))::tJ 39 4 38::lJ 40 5::aJ 41 Qa8 [.t 35,.t 39,.t 40]::Qip) [3,4,5,9]) Qwu) .skip
def Qww:SC:=cT 23 (sR (lJ 26 5::fJ 27 2 4::lJ 28 27::aJ 29 Qcc [.t 26,.t 28]::Qio) [7] Q1i) (sR [cJ 34 .eql 16 10,mJ 33 34] [3,4,5,33] Qwv)
def Qwx:SC:=cT 17 (sR (lJ 19 3::fJ 20 1 4::lJ 21 20::eI 22 (.call Qao [.t 19,kI 1,.t 21,.k (.c (.sl true 1 []))])::Qin) [6] .ret) (sR [cJ 24 .eql 16 2,mJ 23 24] [3,4,5,16,23] Qww)
def Qwy:SC:=.block 0 (sR [cJ 18 .eql 16 1,mJ 17 18] [3,4,5,16,17] Qwx)
def Qgw:List Item:=[mJ 14 82]
def Qgx:List Item:=[mJ 6 89]
def Qgy:List Item:=[mJ 6 94]
def Qgz:List Item:=[mJ 6 106]
def Qg0:List Item:=hJ 97 3::aJ 106 Qao [.t 97,kI 14,.t 104,.t 105]::Qgz
def Qwz:SC:=cT 95 (.seq (.dreg 11 [0,1,2,3,4,5,6,8,7,0,9,10] ( lJ 97 3::lJ 98 3::kJ 99 98::fJ 100 0 99::tJ 101 1 100::fJ 102 2 4::lJ 103 102::mJ 105 14::aJ 104 Qla [.t 101,.t 103]::Qg0) [6]) .ret) .skip
def Qw0:SC:=cT 90 (sR (lJ 92 3::mJ 93 14::aJ 94 Qao [.t 92,kI 11,kI 0,.t 93]::Qgy) [6] .ret) (sR [cJ 96 .eql 84 13,mJ 95 96] [3,4,14,95] Qwz)
def Qw1:SC:=cT 85 (sR (lJ 87 3::mJ 88 14::aJ 89 Qao [.t 87,kI 10,kI 0,.t 88]::Qgx) [6] .ret) (sR [cJ 91 .eql 84 12,mJ 90 91] [3,4,14,84,90] Qw0)
def Qw2:SC:=.block 1 (sR [cJ 86 .eql 84 11,mJ 85 86] [3,4,14,84,85] Qw1)
def Qg1:List Item:=[mJ 6 111]
def Qw3:SC:=sR (lJ 107 3::fJ 108 0 4::lJ 109 108::mJ 110 14::aJ 111 Qao [.t 107,.t 109,kI 0,.t 110]::Qg1) [6] .ret
def Qw4:SC:=.seq (sR [fJ 83 0 4,lJ 84 83] [3,4,14,84] Qw2) Qw3
def Qw5:SC:=sR (fJ 79 3 4::lJ 80 79::fI 81 (.mkf Qde [.t 3,.t 5])::aJ 82 Qce [.t 80,.t 81]::Qgw) [3,4,14] Qw4
def Qw6:SC:=.seq (sR [fJ 15 0 4,lJ 16 15] [3,4,5,16] Qwy) Qw5
def Q75:SC:=sR [vJ 3 0,vJ 4 1,vJ 5 2,zJ 6 0] [3,4,5] Qw6
theorem Q7c:mFn prog Qa8 3 112 Q75 Qblj=true:=by kernel_rfl
def Qe7:List Item:=[mJ 4 8]
def Qqs:SC:=sR (lJ 5 1::tJ 6 4 3::lJ 7 2::aJ 8 Qa8 [.t 5,.t 6,.t 7]::Qe7) [4] .ret
def Qw7:SC:=sR [vJ 3 0,zJ 4 0] [1,2,3] Qqs
theorem Qu8:mFn prog Qde 3 9 Qw7 Qm6=true:=by kernel_rfl
def Qiu:List Item:=[mJ 9 11]
def Q1l:SC:=sR [mJ 19 9,mJ 8 19] [8] .ret
def Q1m:SC:=sR [mJ 12 0,mJ 13 1,mJ 14 9,mJ 15 3,mJ 16 2,fI 17 (.bld [.int .i64 0,.int .i64 0,.sl true 1 [],.int .i64 0] [(0,1,.t 13),(1,1,.t 14),(2,1,.t 15),(3,1,.t 16)]),aJ 18 Qa4 [.t 12,.t 17]] [9] Q1l
def Q1n:SC:=sR (mJ 10 0::aJ 11 Qfl [.t 10]::Qiu) [0,1,2,3,9] Q1m
def Q76:SC:=sR [zJ 8 0] [0,1,2,3] Q1n
def Qm4:List RS:=[.tmp 8]
theorem Q7d:mFn prog Qao 4 20 Q76 Qm4=true:=by kernel_rfl
def Qj7:List Item:=[kJ 23 15,fJ 24 1 23,sJ 1 24 22]
def Q5a:SC:=.dreg 11 [0,1,2,3,4,5,6,7,8,9,10] ( mJ 15 4::mJ 16 4::kJ 17 16::fJ 18 1 17::lJ 19 18::tJ 20 4 3::fI 21 (.bsl 4 [.t 20])::xJ 22 4 19 21::Qj7) []
def Q5b:SC:=.seq (.dreg 11 [0,1,2,3,4,5,6,7,8,9,10] ( mJ 5 0::kJ 6 5::fJ 7 1 6::fJ 8 2 7::lJ 9 8::mJ 10 0::kJ 11 10::fJ 12 4 11::lJ 13 12::iJ 14 5 9 13::mJ 4 14::[]) [3,4]) Q5a
def Qaal:SC:=sR [vJ 3 1] [0,3] Q5b
theorem Q9l:mFn prog Qa4 2 25 Qaal Qqi=true:=by kernel_rfl
def Q5c:SC:=sR [mJ 12 0,kJ 13 12,fJ 14 1 13,fJ 15 1 14,lJ 16 15,cJ 17 .sub 16 1,mJ 2 17] [2] .ret
def Q5d:SC:=sR [mJ 3 0,kJ 4 3,fJ 5 1 4,fJ 6 1 5,lJ 7 6,cJ 8 .add 7 1,kJ 9 3,fJ 10 1 9,fJ 11 1 10,sJ 1 11 8] [0] Q5c
def Qaam:SC:=sR [zJ 2 0] [0] Q5d
theorem Q9m:mFn prog Qfl 1 18 Qaam Qer=true:=by kernel_rfl
def Qg2:List Item:=[sJ 3 7 13]
def Qg3:List Item:=[mJ 5 19]
def Qg4:List Item:=fI 18 (.bsl 3 [.t 17])::xJ 19 3 14 18::Qg3
def Qw8:SC:=.reg (mJ 14 5::mJ 15 1::tJ 16 3 7::eI 17 (.callv (.t 15) [.t 16])::Qg4) [1,5,8,9,10]
def Qw9:SC:=.reg [cJ 20 .add 10 1,mJ 10 20] [1,5,8,9,10]
def Qxa:SC:=.seq (.block 1 (sR (iJ 12 3 8 10::tJ 13 3 12::eI 7 (.alloc [.str [],.sl true 1 [],.sl true 5 []])::Qg2) [1,5,7,8,9,10] Qw8)) Qw9
def Qt2:SC:=sR [bJ 11 .lss 10 9] [1,5,8,9,10,11] (cX 11 0 Qxa)
def Qxb:SC:=sR [mJ 21 5,mJ 4 21] [4] .ret
def Qxc:SC:=.seq (sR [mJ 8 0,nJ 9 8,zJ 10 0] [1,5,8,9,10] (bL 0 Qt2)) Qxb
def Qxd:SC:=sR [fI 5 (.mv (.k (.c (.sl true 3 []))))] [0,1,5] Qxc
def Q5e:SC:=sR [fI 4 (.mv (.k (.c (.sl true 3 []))))] [0,1] Qxd
theorem Q4k:mFn prog Qee 2 22 Q5e Qm6=true:=by kernel_rfl
def Qrp:List Item:=[sJ 1 3 6]
def Qajq:SC:=sR [lJ 11 3,mJ 2 11] [2] .ret
def Qajr:SC:=sR [fJ 7 2 1,lJ 8 7,fI 9 (.mkf Qha [.t 3]),aJ 10 Qdr [.t 8,kI 1,.t 9]] [3] Qajq
def Qajs:SC:=sR (fJ 4 1 1::lJ 5 4::nJ 6 5::eI 3 (.alloc [.int .i64 0])::Qrp) [1,3] Qajr
def Qavv:SC:=sR [vJ 1 0,zJ 2 0] [1] Qajs
theorem Qaup:mFn prog Qnn 1 12 Qavv Qer=true:=by kernel_rfl
def Q8b:SC:=cT 7 (.reg [lJ 8 2,cJ 9 .add 8 1,sJ 1 2 9] []) .skip
def Q8c:SC:=sR [fJ 5 0 3,lJ 6 5,cJ 7 .eql 6 1] [2,7] Q8b
def Qae2:SC:=sR [vJ 3 0] [2,3] Q8c
theorem Qadw:mFn prog Qha 3 10 Qae2 Qqi=true:=by kernel_rfl
def Q5y:SC:=cT 24 (sR [fB 2 true] [2] .ret) .skip
def Qj8:List Item:=[sJ 1 3 26]
def Qj9:List Item:=eI 3 (.alloc [.sl true 3 []])::Qj8
def Qka:List Item:=[mJ 5 31]
def Qkb:List Item:=sJ 1 4 30::Qka
def Qkc:List Item:=mJ 27 29::fI 30 (.ext (.t 27) 0)::fI 31 (.ext (.t 27) 1)::eI 4 (.alloc [.sl true 3 []])::Qkb
def Qkd:List Item:=[mJ 7 36]
def Qke:List Item:=sJ 1 6 35::Qkd
def Qkf:List Item:=mJ 32 34::fI 35 (.ext (.t 32) 0)::fI 36 (.ext (.t 32) 1)::eI 6 (.alloc [.sl true 3 []])::Qke
def Qej:List Item:=[gF 44 40 (.not (.t 43)),pT 45 40 44,mJ 46 45,gFm 47 46 5,gF 48 46 (.not (.t 47)),pT 49 46 48]
def Qix:List Item:=[pF 57 53 56,mJ 2 57]
def Q1s:SC:=cT 49 (sR (mJ 50 5::mJ 51 7::fI 52 (.bin 1 .eql (.t 50) (.t 51))::mJ 53 52::gT 54 53 (.ld 1 true (.t 4))::gT 55 53 (.ld 1 true (.t 6))::.e (some 56) (some (53,true)) (.call Qfs [.t 54,.t 55])::Qix) [2] .ret) .skip
def Qiy:List Item:=[mJ 8 63,sJ 3 9 65]
def Qiz:List Item:=[nJ 70 69,zJ 71 0]
def Qi0:List Item:=[mJ 10 78]
def Q1t:SC:=.reg (mJ 75 10::mJ 76 12::fI 77 (.bsl 1 [.t 76])::xJ 78 1 75 77::Qi0) [3,9,10,59,60,61,69,70,71]
def Q1u:SC:=.reg [cJ 79 .add 71 1,mJ 71 79] [3,9,10,59,60,61,69,70,71]
def Q1v:SC:=.seq (.block 3 (sR [iJ 73 1 69 71,lJ 74 73,mJ 12 74] [3,9,10,12,59,60,61,69,70,71] Q1t)) Q1u
def Qy3:SC:=sR [bJ 72 .lss 71 70] [3,9,10,59,60,61,69,70,71,72] (cX 72 2 Q1v)
def Qi1:List Item:=[sJ 5 15 87]
def Qi2:List Item:=[sJ 4 17 94]
def Qi3:List Item:=[mJ 13 102]
def Q1w:SC:=cT 97 (.reg (mJ 98 13::fJ 99 3 17::lJ 100 99::fI 101 (.bsl 1 [.t 100])::xJ 102 1 98 101::Qi3) [3,10,13,59,60,61,82,83,84,89,90,91]) .skip
def Q1x:SC:=sR [fJ 95 0 17,lJ 96 95,cJ 97 .eql 96 14] [3,10,13,17,59,60,61,82,83,84,89,90,91,97] Q1w
def Q1y:SC:=.reg [cJ 103 .add 91 1,mJ 91 103] [3,10,13,59,60,61,82,83,84,89,90,91]
def Q1z:SC:=.seq (.block 7 (sR (iJ 93 4 89 91::tJ 94 4 93::eI 17 (.alloc [.int .i64 0,.int .i64 0,.sl true 1 [],.int .i64 0])::Qi2) [3,10,13,17,59,60,61,82,83,84,89,90,91] Q1x)) Q1y
def Qy4:SC:=sR [bJ 92 .lss 91 90] [3,10,13,59,60,61,82,83,84,89,90,91,92] (cX 92 6 Q1z)
def Q10:SC:=sR [fJ 88 1 15,lJ 89 88,nJ 90 89,zJ 91 0] [3,10,13,59,60,61,82,83,84,89,90,91] (bL 6 Qy4)
def Q11:SC:=.reg [cJ 104 .add 84 1,mJ 84 104] [3,10,13,59,60,61,82,83,84]
def Q12:SC:=.seq (.block 5 (sR (iJ 86 5 82 84::tJ 87 5 86::eI 15 (.alloc [.sl true 2 [],.sl true 4 [],.int .i64 0,.int .i64 0,.sl true 1 []])::Qi1) [3,10,13,15,59,60,61,82,83,84] Q10)) Q11
def Qy5:SC:=sR [bJ 85 .lss 84 83] [3,10,13,59,60,61,82,83,84,85] (cX 85 4 Q12)
def Qi4:List Item:=[oJ 114 113]
def Q13:SC:=cT 114 (sR [fB 2 false] [2] .ret) .skip
def Q14:SC:=sR (mJ 111 13::mJ 112 19::aJ 113 Qp6 [.t 111,.t 112]::Qi4) [3,10,13,59,60,61,105,106,107,114] Q13
def Q15:SC:=.reg [cJ 115 .add 107 1,mJ 107 115] [3,10,13,59,60,61,105,106,107]
def Q16:SC:=.seq (.block 9 (sR [iJ 109 1 105 107,lJ 110 109,mJ 19 110] [3,10,13,19,59,60,61,105,106,107] Q14)) Q15
def Qy6:SC:=sR [bJ 108 .lss 107 106] [3,10,13,59,60,61,105,106,107,108] (cX 108 8 Q16)
def Qi5:List Item:=[oJ 125 124]
def Q17:SC:=cT 125 (sR [fB 2 false] [2] .ret) .skip
def Q18:SC:=sR (mJ 122 10::mJ 123 21::aJ 124 Qp6 [.t 122,.t 123]::Qi5) [3,10,59,60,61,116,117,118,125] Q17
def Q19:SC:=.reg [cJ 126 .add 118 1,mJ 118 126] [3,10,59,60,61,116,117,118]
def Q2a:SC:=.seq (.block 11 (sR [iJ 120 1 116 118,lJ 121 120,mJ 21 121] [3,10,21,59,60,61,116,117,118] Q18)) Q19
def Qy7:SC:=sR [bJ 119 .lss 118 117] [3,10,59,60,61,116,117,118,119] (cX 119 10 Q2a)
def Q2b:SC:=sR [mJ 116 13,nJ 117 116,zJ 118 0] [3,10,59,60,61,116,117,118] (bL 10 Qy7)
def Q2c:SC:=.seq (sR [mJ 105 10,nJ 106 105,zJ 107 0] [3,10,13,59,60,61,105,106,107] (bL 8 Qy6)) Q2b
def Q2d:SC:=.seq (sR [fJ 81 2 9,lJ 82 81,nJ 83 82,zJ 84 0] [3,10,13,59,60,61,82,83,84] (bL 4 Qy5)) Q2c
def Q2e:SC:=sR [fI 80 (.bsl 1 []),mJ 13 80] [3,9,10,13,59,60,61] Q2d
def Q2f:SC:=.seq (sR (tJ 67 1 3::mJ 68 8::aJ 69 Qnk [.t 67,.t 68]::Qiz) [3,9,10,59,60,61,69,70,71] (bL 2 Qy3)) Q2e
def Q2g:SC:=sR [fI 66 (.bsl 1 []),mJ 10 66] [3,8,9,10,59,60,61] Q2f
def Q2h:SC:=.reg [cJ 127 .add 61 1,mJ 61 127] [3,59,60,61]
def Q2i:SC:=.seq (.block 1 (sR (mJ 63 61::iJ 64 3 59 61::tJ 65 3 64::eI 9 (.alloc [.int .i64 0,.int .i64 0,.sl true 5 []])::Qiy) [3,8,9,59,60,61] Q2g)) Q2h
def Qy8:SC:=sR [bJ 62 .lss 61 60] [3,59,60,61,62] (cX 62 0 Q2i)
def Q2j:SC:=sR [fB 2 true] [2] .ret
def Q2k:SC:=.seq (sR [fJ 58 0 4,lJ 59 58,nJ 60 59,zJ 61 0] [3,59,60,61] (bL 0 Qy8)) Q2j
def Q2l:SC:=.seq (sR (mJ 37 5::mJ 38 7::fI 39 (.bin 1 .neq (.t 37) (.t 38))::mJ 40 39::gF 41 40 (.ld 1 true (.t 4))::gF 42 40 (.ld 1 true (.t 6))::.e (some 43) (some (40,false)) (.call Qfs [.t 41,.t 42])::Qej) [3,4,5,6,7,49] Q1s) Q2k
def Q2m:SC:=sR (tJ 33 1 3::aJ 34 Qfr [.t 33]::Qkf) [3,4,5,6,7] Q2l
def Q2n:SC:=sR (tJ 28 1 3::aJ 29 Qfh [.t 28]::Qkc) [3,4,5] Q2m
def Q2o:SC:=sR (mJ 25 0::aJ 26 Qdh [.t 25]::Qj9) [3] Q2n
def Q2p:SC:=.seq (sR [mJ 22 0,nJ 23 22,cJ 24 .gtr 23 1048576] [0,24] Q5y) Q2o
def Qabj:SC:=sR [fB 2 false] [0] Q2p
theorem Q9n:mFn prog Qmx 1 128 Qabj Qer=true:=by kernel_rfl
def Qe9:List Item:=[sJ 1 2 5]
def Qfa:List Item:=aJ 5 Qahe [.t 4]::Qe9
def Qq8:SC:=sR (mJ 3 0::aJ 4 Q86 [.t 3]::Qfa) [2] .ret
def Qzq:SC:=sR [eI 2 (.alloc [.sl true 3 []])] [0,2] Qq8
theorem Qvb:mFn prog Qdh 1 6 Qzq Qa74=true:=by kernel_rfl
def Qkl:List Item:=[fB 3 false]
def Qkm:List Item:=[oJ 7 6]
def Qkn:List Item:=[fB 3 false]
def Q6j:SC:=cT 7 (sR (fI 8 (.bld [.sl true 3 []] [])::sJ 1 2 8::Qkn) [2,3] .ret) .skip
def Qko:List Item:=[sJ 1 4 10]
def Qkp:List Item:=eI 4 (.alloc [.sl true 3 []])::Qko
def Qkq:List Item:=[oJ 13 12]
def Qkr:List Item:=[fB 3 false]
def Q6k:SC:=cT 13 (sR (fI 14 (.bld [.sl true 3 []] [])::sJ 1 2 14::Qkr) [2,3] .ret) .skip
def Qks:List Item:=[fB 3 true]
def Q23:SC:=sR (tJ 15 1 4::sJ 1 2 15::Qks) [2,3] .ret
def Q24:SC:=.seq (sR (tJ 11 1 4::aJ 12 Qlt [.t 11]::Qkq) [2,4,13] Q6k) Q23
def Q25:SC:=sR (tJ 9 1 1::aJ 10 Qahg [.t 9]::Qkp) [2,4] Q24
def Q26:SC:=.seq (sR (tJ 5 1 1::aJ 6 Qahd [.t 5]::Qkm) [1,2,7] Q6j) Q25
def Qabp:SC:=sR (vJ 1 0::eI 2 (.alloc [.sl true 3 []])::Qkl) [1,2] Q26
theorem Q9s:mFn prog Qfr 1 16 Qabp Qd6=true:=by kernel_rfl
def Qiv:List Item:=[kJ 20 12,fJ 21 1 20,fJ 22 2 21,sJ 1 22 19]
def Q1o:SC:=sR [mJ 23 5,mJ 4 23] [4] .ret
def Q1p:SC:=sR (mJ 12 0::mJ 13 0::kJ 14 13::fJ 15 1 14::fJ 16 2 15::lJ 17 16::mJ 18 1::eI 19 (.apz 5 [.sl true 2 [],.sl true 4 [],.int .i64 0,.int .i64 0,.sl true 1 []] (.t 17) (.t 18))::Qiv) [5] Q1o
def Q1q:SC:=sR [mJ 6 0,kJ 7 6,fJ 8 1 7,fJ 9 2 8,lJ 10 9,nJ 11 10,mJ 5 11] [0,1,5] Q1p
def Q77:SC:=sR [zJ 4 0] [0,1] Q1q
theorem Q7e:mFn prog Qa9 2 24 Q77 Qm6=true:=by kernel_rfl
def Qgd:List Item:=[sJ 4 7 13]
def Qge:List Item:=[mJ 5 19]
def Qgf:List Item:=fI 18 (.bsl 1 [.t 17])::xJ 19 1 14 18::Qge
def Qtw:SC:=.reg (mJ 14 5::mJ 15 1::tJ 16 4 7::eI 17 (.callv (.t 15) [.t 16])::Qgf) [1,5,8,9,10]
def Qtx:SC:=.reg [cJ 20 .add 10 1,mJ 10 20] [1,5,8,9,10]
def Qty:SC:=.seq (.block 1 (sR (iJ 12 4 8 10::tJ 13 4 12::eI 7 (.alloc [.int .i64 0,.int .i64 0,.str [],.sl true 4 []])::Qgd) [1,5,7,8,9,10] Qtw)) Qtx
def Qqt:SC:=sR [bJ 11 .lss 10 9] [1,5,8,9,10,11] (cX 11 0 Qty)
def Qtz:SC:=.seq (.seq .gh (.reg [mJ 21 5,mJ 4 21] [4])) .ret
def Qt0:SC:=.seq (sR [mJ 8 0,nJ 9 8,zJ 10 0] [1,5,8,9,10] (bL 0 Qqt)) Qtz
def Qt1:SC:=sR [fI 5 (.mv (.k (.c (.sl true 1 []))))] [0,1,5] Qt0
def Q1r:SC:=sR [fI 4 (.mv (.k (.c (.sl true 1 []))))] [0,1] Qt1
theorem Q0p:mFn prog Qce 2 22 Q1r Qm6=true:=by kernel_rfl
structure IS where
 fns:List Fn
 pfl:Bool
 params:Int
 regs:Int
 bc:C
 lb:List (Nat×Obj)
 blocks:List Blk
 at_:Nat
def IS.o (s:IS):Obj:=.st [.sl s.pfl 3 (Q1 s.fns),.int .i64 s.params,.int .i64 s.regs,s.bc,.int .i64 s.at_]
def IS.L (s:IS)(w:Nat):List (Nat×Obj):=[(w,s.o)]++(s.lb++s.blocks.flatMap Blk.lg)
structure IInv (F H:Heap)(w:Nat)(s:IS):Prop where
 kn:Kn F H [] (s.L w)
 gb:Gr s.lb 5 (s.blocks.map Blk.row) s.bc
 gi:∀b∈s.blocks,Gr b.lg 4 b.irows b.ic
 ri:∀b∈s.blocks,∀r∈b.irows,InsRow r
structure IS.ok (s:IS)(N:Nat):Prop where
 r0:0≤s.regs
 r1:s.regs≤N
 b1:s.blocks.length≤N
 i1:∀b∈s.blocks,b.irows.length≤N
theorem IS.ok.mono {s:IS}{N M:Nat}(h:s.ok N)(hm:N≤M):s.ok M:=
 ⟨h.r0,by have:=h.r1;omega,by have:=h.b1;omega,fun b hb=>by have:=h.i1 b hb;omega⟩
def IS.d (s:IS):Lw:=⟨s.regs,s.blocks.map Blk.d,s.at_⟩
theorem IS.dlen (s:IS):s.blocks.length=s.d.bs.length:=by simp[IS.d]
theorem IS.dregs (s:IS):s.regs=s.d.regs:=rfl
variable {F H H':Heap}{w:Nat}{s:IS}{K:V→Heap→Prop}
theorem IInv.hw (h:IInv F H w s):H w=s.o:=h.kn.l 0 rfl
theorem IInv.bvec (h:IInv F H w s)(hb:0<s.blocks.length):∃y,s.bc=.vsl y 5 0 s.blocks.length∧s.lb=[(y,.vec 5 (s.blocks.map Blk.row))]∧H y=.vec 5 (s.blocks.map Blk.row):=by
 rcases h.gb with ⟨_,h2,_⟩|⟨y,h1,h2⟩
 ·simp at h2;rw[h2]at hb;simp at hb
 ·refine⟨y,by rw[h1];simp,h2,?_⟩;exact (h.kn.get (y,.vec 5 (s.blocks.map Blk.row)) (by simp[IS.L,h2])).1
theorem IInv.setw {s':IS}(h:IInv F H w s)(h1:H'=H.set w s'.o)(a1:s'.lb=s.lb)(a3:s'.blocks=s.blocks)(a4:s'.bc=s.bc):IInv F H' w s':=by
 refine⟨?_,by rw[a1,a3,a4];exact h.gb,by rw[a3];exact h.gi,by rw[a3];exact h.ri⟩;have:=h.kn.stL 0 (x:=w) (o:=s.o) rfl h1 (by simp[IS.o]);simp only[IS.L,a1,a3];exact this
theorem IInv.re {H2:Heap}(h:IInv F H w s)(kn:Kn F H2 [] (s.L w)):IInv F H2 w s:=⟨kn,h.gb,h.gi,h.ri⟩
def blkZ:Blk:=⟨.sl true 4 [],[],[],0,0,true,[]⟩
theorem Qbqv (n:Nat):(List.replicate n blkZ).flatMap Blk.lg=[]:=by
 induction n with
 |zero=>rfl
 |succ n ih=>rw[List.replicate_succ,Jar,ih];rfl
theorem IInv.addBlks {n:Nat}(h:IInv F H w s)(hl:s.blocks.length+n≤LIM)
  (hK:∀(y:Nat) (H1:Heap),H1 w=s.o→(∀H2,H2=H1.set w (IS.o { s with bc:=.vsl y 5 0 (s.blocks.length+n) })→
   IInv F H2 w { s with bc:=.vsl y 5 0 (s.blocks.length+n),lb:=[(y,.vec 5 ((s.blocks++List.replicate n blkZ).map Blk.row))],blocks:=s.blocks++List.replicate n blkZ })→K (.c (.vsl y 5 0 (s.blocks.length+n))) H1) :
  appQ H 5 s.bc (.sl false 5 (List.replicate n blkZ.row)) K:=by
 have kn:=h.kn;have kn:Kn F H [] (([(w,s.o)]++s.blocks.flatMap Blk.lg)++s.lb):=kn.perm (by
  simp only[IS.L,Jg];exact .append_left _ Ji)
 refine kn.grow h.gb (.mk' _ _ _ _) (by
  intro r hr;obtain⟨_,rfl⟩:=List.mem_replicate.1 hr;rfl) (by simpa using hl) fun y H1 kn=>?_
 have e1:(s.blocks.map Blk.row).length+(List.replicate n blkZ.row).length=s.blocks.length+n:=by simp
 rw[e1];refine hK y H1 (kn.l 0 rfl) fun H2 h2=>⟨?_,?_,?_,?_⟩
 ·have:=kn.stL 0 (x:=w) (o:=s.o) rfl h2 (by simp[IS.o]);simp only[IS.L,List.flatMap_append,Qbqv,Jav,J8,List.map_replicate];simp only[Jr,Jq,Jap]at this⊢;refine this.perm (.cons _ ?_);exact Ji
 ·exact .mk _ _ _ (by simp)
 ·intro b' hb';rcases Jj.1 hb' with hb'|hb'
  ·exact h.gi b' hb'
  ·obtain⟨_,rfl⟩:=List.mem_replicate.1 hb';exact .nil 4
 ·intro b' hb';rcases Jj.1 hb' with hb'|hb'
  ·exact h.ri b' hb'
  ·obtain⟨_,rfl⟩:=List.mem_replicate.1 hb';simp[blkZ]
theorem IInv.setBlk {b':Blk}{y i:Nat}(h:IInv F H w s)(hi:i<s.blocks.length)(hbc:s.bc=.vsl y 5 0 s.blocks.length)(hlb:s.lb=[(y,.vec 5 (s.blocks.map Blk.row))])
  (h1:H'=H.set y (.vec 5 ((s.blocks.set i b').map Blk.row))) (a1:b'.lg=s.blocks[i].lg) (a2:b'.ic=s.blocks[i].ic) (a3:b'.irows=s.blocks[i].irows) :
  IInv F H' w { s with lb:=[(y,.vec 5 ((s.blocks.set i b').map Blk.row))],blocks:=s.blocks.set i b' }:=by
 have hm:=Jb hi;refine⟨?_,?_,fun b hb=>?_,fun b hb=>?_⟩
 ·have kn:=h.kn;simp only[IS.L,hlb]at kn;have kn:=kn.stL 1 (x:=y) rfl h1;refine kn.perm ?_;simp only[IS.L,Jr,Jq,Jap,List.set_cons_succ];refine .cons _ (.cons _ ?_);refine (Qag6 Blk.lg s.blocks i hi).trans ?_;rw[←a1];exact (Qagd Blk.lg s.blocks i b' hi).symm
 ·simp only[hbc];exact .mk _ _ _ (by simp)
 ·rcases Qbu hb with rfl|hb
  ·rw[a1,a2,a3];exact h.gi _ hm
  ·exact h.gi b hb
 ·rcases Qbu hb with rfl|hb
  ·rw[a3];exact h.ri _ hm
  ·exact h.ri b hb
theorem IInv.addInsX {K:V→Heap→Prop}{y i:Nat}{fl:Bool}{r:List C}(h:IInv F H w s)(hi:i<s.blocks.length)(hbc:s.bc=.vsl y 5 0 s.blocks.length)(hlb:s.lb=[(y,.vec 5 (s.blocks.map Blk.row))])
  (hr:InsRow r) (hl:s.blocks[i].irows.length+1≤LIM)
  (hK:∀(z:Nat) (H1:Heap),H1 w=s.o→H1 y=.vec 5 (s.blocks.map Blk.row)→
   (∀H2,H2=H1.set y (.vec 5 ((s.blocks.map Blk.row).set i (Blk.row { s.blocks[i]with ic:=.vsl z 4 0 (s.blocks[i].irows.length+1) })))→
    ∃b':Blk,b'.irows.length=s.blocks[i].irows.length+1∧b'.d={ s.blocks[i].d with ins:=s.blocks[i].d.ins++[rowI r] }∧IInv F H2 w { s with lb:=[(y,.vec 5 ((s.blocks.set i b').map Blk.row))],blocks:=s.blocks.set i b' })→K (.c (.vsl z 4 0 (s.blocks[i].irows.length+1))) H1) :
  appQ H 4 s.blocks[i].ic (.sl fl 4 [r]) K:=by
 have hm:=Jb hi;have kn:=h.kn;simp only[IS.L]at kn;have kn:Kn F H [] (([(w,s.o)]++(s.lb++((s.blocks.eraseIdx i).flatMap Blk.lg)))++s.blocks[i].lg):=kn.perm (by
  have h1:(s.blocks.flatMap Blk.lg).Perm ((s.blocks.eraseIdx i).flatMap Blk.lg++s.blocks[i].lg):=(Qag6 Blk.lg s.blocks i hi).trans Ji;refine ((h1.append_left _).append_left _).trans ?_;simp only[Jg];exact .refl _)
 refine kn.grow (h.gi _ hm) (.mk' _ _ _ _) (by intro r' hr';simp only[Ja]at hr';subst hr';exact hr.noOw) (by simpa using hl) fun z H1 kn=>?_;have e1:s.blocks[i].irows.length+[r].length=s.blocks[i].irows.length+1:=by simp
 rw[e1];simp only[hlb]at kn;refine hK z H1 (kn.l 0 rfl) (kn.l 1 rfl) fun H2 h2=>?_;refine⟨{ s.blocks[i]with ic:=.vsl z 4 0 (s.blocks[i].irows.length+1),irows:=s.blocks[i].irows++[r],lg:=[(z,.vec 4 (s.blocks[i].irows++[r]))] },by simp,by simp[Blk.d],?_⟩;have hrow:Blk.row { s.blocks[i]with ic:=.vsl z 4 0 (s.blocks[i].irows.length+1) }=Blk.row { s.blocks[i]with ic:=.vsl z 4 0 (s.blocks[i].irows.length+1),irows:=s.blocks[i].irows++[r],lg:=[(z,.vec 4 (s.blocks[i].irows++[r]))] }:=rfl;rw[hrow,Qp9]at h2;refine⟨?_,?_,fun b hb=>?_,fun b hb=>?_⟩
 ·have kn:=kn.stL 1 (x:=y) rfl h2;refine kn.perm ?_;simp only[IS.L];have h1:=(Qagd Blk.lg s.blocks i { s.blocks[i]with ic:=.vsl z 4 0 (s.blocks[i].irows.length+1),irows:=s.blocks[i].irows++[r],lg:=[(z,.vec 4 (s.blocks[i].irows++[r]))] } hi).symm;have h3:=(Ji.trans h1).append_left ([(w,s.o)]++([(y,Obj.vec 5 ((s.blocks.set i { s.blocks[i]with ic:=.vsl z 4 0 (s.blocks[i].irows.length+1),irows:=s.blocks[i].irows++[r],lg:=[(z,.vec 4 (s.blocks[i].irows++[r]))] }).map Blk.row))]));refine List.Perm.trans ?_ (h3.trans ?_)
  ·simp only[List.set,Jr,Jq,Jg];exact .refl _
  ·simp only[Jr,Jq];exact .refl _
 ·simp only[hbc];exact .mk _ _ _ (by simp)
 ·rcases Qbu hb with rfl|hb
  ·exact .mk _ _ _ (by simp)
  ·exact h.gi b hb
 ·rcases Qbu hb with rfl|hb
  ·intro r' hr';rcases Jj.1 hr' with hr'|hr'
   ·exact h.ri _ hm r' hr'
   ·simp at hr';subst hr';exact hr
  ·exact h.ri b hb
structure IStep (s s':IS)(d:Nat):Prop where
 bl:s.blocks.length≤s'.blocks.length
 ok:∀N,s.ok N→s'.ok (N+d)
 at_:s.at_<s.blocks.length→s'.at_<s'.blocks.length
 fn:s'.fns=s.fns∧s'.pfl=s.pfl∧s'.params=s.params
theorem IStep.trans {s s' s'':IS}{d e:Nat}(h:IStep s s' d)(k:IStep s' s'' e):IStep s s'' (d+e):=
 ⟨J0 h.bl k.bl,fun N hN=>by rw[←Nat.add_assoc];exact k.ok _ (h.ok N hN),fun ha=>k.at_ (h.at_ ha),k.fn.1.trans h.fn.1,k.fn.2.1.trans h.fn.2.1,k.fn.2.2.trans h.fn.2.2⟩
theorem IStep.refl (s:IS):IStep s s 0:=⟨Jf _,fun N h=>h,fun h=>h,rfl,rfl,rfl⟩
theorem IStep.mono {s s':IS}{d e:Nat}(h:IStep s s' d)(hd:d≤e):IStep s s' e:=⟨h.bl,fun N hN=>(h.ok N hN).mono (by omega),h.at_,h.fn⟩
theorem Qbo7 {N:Nat}(h:IInv F H w s)(hok:s.ok N)(hN:N+1≤2^38)(hK:∀(s':IS) (H':Heap),IInv F H' w s'→IStep s s' 1→s'.d=s.d.fresh→K (.c (.int .i64 s.regs)) H') :
  Ql prog Qfl [.c (.ptr w 0)] H K:=by
 have hw:=h.hw;have h0:=hok.r0;have h1:=hok.r1;refine Qb Qai Q9m ?_;refine Qa ?_;simp only[go_sem];refine Qa ?_;simp only[go_sem,hw,IS.o];refine⟨Qo (by omega) (by omega),fun H1 h1'=>?_⟩;have h':IInv F H1 w { s with regs:=s.regs+1 }:=h.setw h1' rfl rfl rfl;have hw1:=h'.hw;refine Qa ?_;simp only[go_sem,hw1,IS.o];refine⟨Qo (by omega) (by omega),?_⟩;refine Qi ?_;simp only[go_sem,Qs,Q6,Qer,Ja,forall_eq,RS.op];refine hK _ H1 h' ⟨Jf _,fun M hM=>⟨?_,?_,?_,?_⟩,fun h=>h,rfl,rfl,rfl⟩ rfl
 ·have:=hM.r0;show 0≤s.regs+1;omega
 ·have:=hM.r1;show s.regs+1≤_;omega
 ·have:=hM.b1;show s.blocks.length≤_;omega
 ·intro b hb;have:=hM.i1 b hb;omega
theorem IInv.bget (h:IInv F H w s):okSl H s.bc=True∧lenC s.bc=s.blocks.length:=by
 rcases h.gb with ⟨h1,h2,_⟩|⟨y,h1,h2⟩
 ·rw[h1];refine⟨rfl,?_⟩;have:=congrArg List.length h2;simp only[Jo,Jp]at this;rw[this];rfl
 ·have hy:H y=.vec 5 (s.blocks.map Blk.row):=(h.kn.get (y,.vec 5 (s.blocks.map Blk.row)) (by simp[IS.L,h2])).1;rw[h1];refine⟨eq_true ?_,by simp[lenC]⟩;simp only[Go.AE.okSl,hy];exact⟨trivial,by omega⟩
theorem Qahh {n N:Nat}(h:IInv F H w s)(hok:s.ok N)(hN:N+n≤2^38)(hK:∀(s':IS) (H':Heap),IInv F H' w s'→IStep s s' n→s.blocks.length+n≤s'.blocks.length→s'.d=s.d.add n→K (.c (.int .i64 s.blocks.length)) H') :
  Ql prog Qa9 [.c (.ptr w 0),.c (.int .i64 n)] H K:=by
 have hw:=h.hw;have hb1:=hok.b1;have hbow:=h.gb.isOw;obtain⟨hg1,hg2⟩:=h.bget;refine Qb Qai Q7e ?_;refine Qa ?_;simp only[go_sem];refine Qa ?_;simp only[go_sem,hw,IS.o,hbow,hg1,hg2];intro _;refine Qa ?_;simp only[go_sem,hw,IS.o,hbow];refine⟨by have:=Qgj;omega,?_⟩;refine h.addBlks (n:=n) (by simp only[LIM];omega) fun y H1 hw1 cont=>?_;simp only[go_sem,Qiv,hw1,IS.o];intro H2 h2;have h':=cont H2 h2;refine Qa ?_;simp only[go_sem];refine Qi ?_;simp only[go_sem,Qs,Q6,Qm6,Ja,forall_eq,RS.op];refine hK _ H2 h' ⟨by simp,fun M hM=>⟨hM.r0,?_,?_,?_⟩,fun ha=>by simp;show s.at_<_;omega,rfl,rfl,rfl⟩ (by simp) ?_
 ·have:=hM.r1;show s.regs≤_;omega
 ·have:=hM.b1;simp;omega
 ·intro b hb;rcases Jj.1 hb with hb|hb
  ·have:=hM.i1 b hb;omega
  ·obtain⟨_,rfl⟩:=List.mem_replicate.1 hb;simp[blkZ]
 ·simp[IS.d,Lw.add,Blk.d,blkZ,blk0]
theorem Qast {N:Nat}{op to n:Int}{fl:Bool}{args:List Int}(h:IInv F H w s)(hat:s.at_<s.blocks.length)(hok:s.ok N)(hN:N+1≤2^38)
  (hK:∀(s':IS) (H':Heap),IInv F H' w s'→IStep s s' 1→s'.d=s.d.put op to n args→K (.tup []) H') :
  Ql prog Qa4 [.c (.ptr w 0),.ag [.int .i64 op,.int .i64 to,.sl fl 1 (Qk args),.int .i64 n]] H K:=by
 have hw:=h.hw;obtain⟨y,hbc,hlb,hy⟩:=h.bvec (by omega);have hm:=Jb hat;have hi1:=hok.i1 _ hm;have hiow:=(h.gi _ hm).isOw;have hg1:List.getD (List.map Blk.row s.blocks) s.at_ []=s.blocks[s.at_].row:=by simp[Jc,hat]
 have hg2:List.getD (List.take s.blocks.length (List.map Blk.row s.blocks)) s.at_ []=s.blocks[s.at_].row:=by
  rw[Jd (by simp)];exact hg1
 refine Qb Qai Q9l ?_;refine Qa ?_;simp only[go_sem];refine Qag ?_;simp only[go_sem,hw,IS.o,hbc,hy,hat,Js,Jo];refine Qeb ?_;simp only[go_sem,hy,hat,hg2,Blk.row,hiow,Js,Jo];refine h.addInsX hat hbc hlb ⟨op,to,n,fl,args,rfl⟩ (by simp only[LIM];omega) fun z H1 hw1 hy1 cont=>?_;simp only[go_sem,Qj7,hy1,hg1,hat,Blk.row,Js,Jo];intro H2 h2;obtain⟨b',hb',hbd,h'⟩:=cont H2 h2;simp only[Qs,Q6,Qqi];refine⟨by simp,hK _ H2 h' ⟨by simp,fun M hM=>⟨hM.r0,?_,?_,?_⟩,fun ha=>by simp;show s.at_<_;omega,rfl,rfl,rfl⟩ ?_⟩
 ·have:=hM.r1;show s.regs≤_;omega
 ·have:=hM.b1;simp;omega
 ·intro b hb;rcases Qbu hb with rfl|hb
  ·have:=hM.i1 _ hm;omega
  ·have:=hM.i1 b hb;omega
 ·simp only[IS.d,Lw.put];rw[Q0j Blk.d (fun b=>{ b with ins:=b.ins++[⟨op,to,args,n⟩] }) _ _ _ fun _=>by rw[hbd,Qa26]]
theorem Qu7 {N:Nat}{op n:Int}{fl:Bool}{args:List Int}(h:IInv F H w s)(hat:s.at_<s.blocks.length)(hok:s.ok N)(hN:N+2≤2^38)
  (hK:∀(s':IS) (H':Heap),IInv F H' w s'→IStep s s' 2→s'.d=s.d.make op n args→K (.c (.int .i64 s.regs)) H') :
  Ql prog Qao [.c (.ptr w 0),.c (.int .i64 op),.c (.int .i64 n),.c (.sl fl 1 (Qk args))] H K:=by
 refine Qb Qai Q7d ?_;refine Qa ?_;simp only[go_sem];refine Qa ?_;simp only[go_sem];refine Qbo7 h hok (by omega) fun s1 H1 h1 st1 ex1=>?_;simp only[go_sem,Qiu];refine Qa ?_;simp only[go_sem];refine Qast h1 (st1.at_ hat) (st1.ok _ hok) (by omega) fun s2 H2 h2 st2 ex2=>?_;simp only[go_sem];refine Qa ?_;simp only[go_sem];refine Qi ?_;simp only[go_sem,Qs,Q6,Qm4,Ja,forall_eq,RS.op];exact hK s2 H2 h2 (st1.trans st2) (by rw[ex2,ex1];rfl)
theorem Q3a {N:Nat}{kind on:Int}{at':Nat}{fl:Bool}{next:List Int}(h:IInv F H w s)(hat:s.at_<s.blocks.length)(hat':at'<s.blocks.length)
  (hK:∀(s':IS) (H':Heap),IInv F H' w s'→IStep s s' 0→s'.d=s.d.jump kind on next at'→K (.tup []) H') :
  Ql prog Qae [.c (.ptr w 0),.c (.int .i64 kind),.c (.int .i64 on),.c (.int .i64 at'),.c (.sl fl 1 (Qk next))] H K:=by
 have hw:=h.hw;obtain⟨y,hbc,hlb,hy⟩:=h.bvec (by omega);have hm:=Jb hat;have hg1:List.getD (List.map Blk.row s.blocks) s.at_ []=s.blocks[s.at_].row:=by simp[Jc,hat]
 refine Qb Qai Q9k ?_;refine Qag ?_;simp only[go_sem,hw,IS.o,hbc,hy,hat,Js,Jo];refine Qa ?_;simp only[go_sem,hy,hg1,hat,Blk.row,Js,Jo];intro H1 h1;have h1:H1=H.set y (.vec 5 ((s.blocks.set s.at_ { s.blocks[s.at_]with jump:=kind }).map Blk.row)):=by rw[h1,←Qp9];rfl
 have hv:=h.setBlk hat hbc hlb h1 rfl rfl rfl;obtain⟨b1,hb1,hb1l,hb1i⟩:∃b1:Blk,b1={ s.blocks[s.at_]with jump:=kind }∧b1.irows=s.blocks[s.at_].irows∧b1.ic=s.blocks[s.at_].ic:=⟨_,rfl,rfl,rfl⟩;rw[←hb1]at hv h1;have hy1:H1 y=.vec 5 ((s.blocks.set s.at_ b1).map Blk.row):=by rw[h1];exact Heap.set_same _ _ _
 have hg2:List.getD ((s.blocks.set s.at_ b1).map Blk.row) s.at_ []=b1.row:=by simp[Jc,hat]
 simp only[go_sem,Qj6,hy1,hg2,hat,Blk.row,Js,Jo,Jax];intro H2 h2;have h2:H2=H1.set y (.vec 5 (((s.blocks.set s.at_ b1).set s.at_ { b1 with on:=on }).map Blk.row)):=by rw[h2];simp only[Jat];rfl
 have hv:=hv.setBlk (i:=s.at_) (b':={ b1 with on:=on }) (by simpa using hat) (by simpa using hbc) (by rfl) h2 (by simp) (by simp) (by simp);simp only[Ja3]at hv h2;obtain⟨b2,hb2,hb2i⟩:∃b2:Blk,b2={ b1 with on:=on }∧b2.irows=b1.irows:=⟨_,rfl,rfl⟩;rw[←hb2]at hv h2;have hy2:H2 y=.vec 5 ((s.blocks.set s.at_ b2).map Blk.row):=by rw[h2];exact Heap.set_same _ _ _
 have hg3:List.getD ((s.blocks.set s.at_ b2).map Blk.row) s.at_ []=b2.row:=by simp[Jc,hat]
 simp only[go_sem,Qj5,hy2,hg3,hat,Blk.row,Js,Jo,Jax];intro H3 h3;have h3:H3=H2.set y (.vec 5 (((s.blocks.set s.at_ b2).set s.at_ { b2 with next:=next,nfl:=fl }).map Blk.row)):=by rw[h3];simp only[Jat];rfl
 have hv:=hv.setBlk (i:=s.at_) (b':={ b2 with next:=next,nfl:=fl }) (by simpa using hat) (by simpa using hbc) (by rfl) h3 (by simp) (by simp) (by simp);simp only[Ja3]at hv;have hw3:=hv.hw;refine Qq ?_;simp only[go_sem,hw3,IS.o];intro H4 h4;have h':=hv.setw (s':={ s with lb:=[(y,.vec 5 ((s.blocks.set s.at_ { b2 with next:=next,nfl:=fl }).map Blk.row))],blocks:=s.blocks.set s.at_ { b2 with next:=next,nfl:=fl },at_:=at' }) h4 rfl rfl rfl;simp only[Qs,Q6,Qqi];refine⟨by simp,hK _ H4 h' ⟨by simp,fun M hM=>⟨hM.r0,hM.r1,?_,?_⟩,fun ha=>by simpa using hat',rfl,rfl,rfl⟩ ?_⟩
 ·have:=hM.b1;simpa using this
 ·intro b hb;rcases Qbu hb with rfl|hb
  ·show b2.irows.length≤_;rw[hb2i,hb1l];exact hM.i1 _ hm
  ·exact hM.i1 b hb
 ·simp only[IS.d,Lw.jump];rw[Q0j Blk.d (fun b=>{ b with jump:=kind,on:=on,next:=next }) _ _ _ fun _=>by rw[hb2,hb1];rfl]
end Go.AE.Y
namespace Go.AE
variable {F H H':Heap}{A M:List (Nat×Obj)}
theorem Kn.sideX (kn:Kn F H [] (A++M)):∃F',Kn F' H [] A∧(∀m,F m≠.none→F' m=F m)∧(∀p∈M,F' p.1=p.2)∧
  ∀(A':List (Nat×Obj)) (H':Heap),Kn F' H' [] A'→Kn F H' [] (A'++M):=by
 have hnd:=kn.dL;rw[J8]at hnd;obtain⟨d1,d2,d3⟩:=Jas.1 hnd;obtain⟨F',hF'⟩:∃F':Heap,F'=fun m=>if m∈M.map Prod.fst then H m else F m:=⟨_,rfl⟩;have hin:∀m,m∈M.map Prod.fst→F' m=H m:=fun m hm=>by rw[hF'];exact if_pos hm
 have hout:∀m,m∉M.map Prod.fst→F' m=F m:=fun m hm=>by rw[hF'];exact if_neg hm
 have hM:∀p∈M,F' p.1=p.2∧p.2≠.none:=fun p hp=>by
  have:=kn.get p (by simp[hp]);rw[hin p.1 (Qb1 hp)];exact this
 have hfree:∀m,m∈M.map Prod.fst→F m=.none:=fun m hm=>by
  obtain⟨p,hp,rfl⟩:=J7.1 hm;exact kn.loc p (Jaa _ hp)
 refine⟨F',⟨fun p hp=>kn.get p (by simp only[Jq]at hp⊢;exact Jal _ hp),by simp,fun p hp=>?_,by simp,d1,fun m hm _=>?_⟩,fun m hm=>hout m fun h=>hm (hfree m h),fun p hp=>(hM p hp).1,fun A' H' k=>?_⟩
 ·rw[hout p.1 fun h=>d3 _ (Qb1 hp) _ h rfl];exact kn.loc p (Jal _ hp)
 ·by_cases h:m∈M.map Prod.fst
  ·rw[hin m h]
  ·rw[hout m h]at hm⊢;exact kn.chg m hm (by simp)
 ·have hA:∀p∈A',p.1∉M.map Prod.fst:=fun p hp h=>by
   obtain⟨q,hq,e⟩:=J7.1 h;have h1:=k.loc p hp;rw[←e,(hM q hq).1]at h1;exact (hM q hq).2 h1
  have hMH:∀p∈M,H' p.1=p.2:=fun p hp=>by
   have h1:=hM p hp;rw[k.chg p.1 (by rw[h1.1];exact h1.2) (by simp),h1.1]
  refine⟨fun p hp=>?_,by simp,fun p hp=>?_,by simp,?_,fun m hm _=>?_⟩
  ·simp only[Jq]at hp;rcases Jj.1 hp with hp|hp
   ·exact k.get p (by simpa using hp)
   ·exact⟨hMH p hp,(hM p hp).2⟩
  ·rcases Jj.1 hp with hp|hp
   ·have:=k.loc p hp;rw[hout _ (hA p hp)]at this;exact this
   ·exact kn.loc p (Jaa _ hp)
  ·rw[J8];refine Jas.2 ⟨k.dL,d2,fun a ha b hb e=>?_⟩;obtain⟨p,hp,rfl⟩:=J7.1 ha;exact hA p hp (e▸hb)
  ·have hm2:m∉M.map Prod.fst:=fun h=>hm (hfree m h);have:=k.chg m (by rw[hout m hm2];exact hm) (by simp);rw[this,hout m hm2]
end Go.AE
namespace Go.AE.Y
attribute [local go_sem] cond_true cond_false Bool.not_true Bool.not_false
open Go.Proofs.Tryz
variable {F H H':Heap}{w:Nat}{s:IS}{K:V→Heap→Prop}{M Lg:List (Nat×Obj)}
theorem IInv.sideX (h:IInv F H w s)(kn:Kn F H [] (s.L w++M)) :
  ∃F',IInv F' H w s∧(∀m,F m≠.none→F' m=F m)∧(∀p∈M,F' p.1=p.2)∧∀(s':IS) (H':Heap),IInv F' H' w s'→IInv F H' w s'∧Kn F H' [] (s'.L w++M):=by
 obtain⟨F',k1,k2,k3,k4⟩:=kn.sideX;exact⟨F',⟨k1,h.gb,h.gi,h.ri⟩,k2,k3,fun s' H' h'=>⟨⟨(k4 _ _ h'.kn).drop,h'.gb,h'.gi,h'.ri⟩,k4 _ _ h'.kn⟩⟩
abbrev vI (n:Nat):Int:=n
def ScIn (F:Heap)(sc:ScD)(v:Vars):Prop:=(∀p∈sc.ob,F p.1=p.2)∧ScD.ok vI sc v
theorem ScIn.mono {F':Heap}{sc:ScD}{v:Vars}(h:ScIn F sc v)(hf:∀m,F m≠.none→F' m=F m):ScIn F' sc v:=
 ⟨fun p hp=>by
  have h1:=h.1 p hp;rw[hf p.1 (by rw[h1];obtain⟨x,_,rfl⟩:=J7.1 hp;nofun),h1],h.2⟩
theorem ScIn.find {sc:ScD}{v:Vars}(h:ScIn F sc v)(kn:Kn F H [] M):ScOk vI H sc.ls v:=ScD.scOk h.2 fun p hp=>by
 have h1:=h.1 p hp;rw[kn.chg p.1 (by rw[h1];obtain⟨x,_,rfl⟩:=J7.1 hp;nofun) (by simp),h1]
theorem Qa78 (v:Vars)(t:List UInt8):valO vI (v.find t)=Qbf v 0 t:=by
 rw[Qbf];cases v.find t <;> rfl
def IExX (n:Nat):Prop:=∀(x:Ex) (F H:Heap) (w:Nat) (s:IS) (N:Nat) (sc:ScD) (v:Vars) (K:V→Heap→Prop),x.size≤n→x.ok→IInv F H w s→ScIn F sc v→s.at_<s.blocks.length→s.ok N→N+10 * x.size≤2^38→
  (∀(s':IS) (H':Heap),IInv F H' w s'→IStep s s' (10 * x.size)→s'.d=(x.low (Qbf v 0) (Qb9 s.fns) s.d).1→K (.c (.int .i64 (x.low (Qbf v 0) (Qb9 s.fns) s.d).2)) H')→
  Ql prog Qa8 [.c (.ptr w 0),.ag x.cells,.c (scC sc.ls)] H K
theorem Qads (l:List Nat):(scC l).isOw=false:=by cases l <;> rfl
theorem Qbdq {f n N:Nat}{caps:List C}{l:List Ex}{fl:Bool}{sc:ScD}{v:Vars}(hl0:Qp l≤n)(hok:Qcx l)(h:IInv F H w s)(hsc:ScIn F sc v)(hat:s.at_<s.blocks.length)(hsok:s.ok N)(hN:N+10 * Qp l≤2^38)
  (hf:∀x∈l,∀(F H:Heap) (s:IS) (N:Nat) (K':V→Heap→Prop),IInv F H w s→ScIn F sc v→s.at_<s.blocks.length→s.ok N→N+10 * x.size≤2^38→
   (∀(s':IS) (H':Heap),IInv F H' w s'→IStep s s' (10 * x.size)→s'.d=(x.low (Qbf v 0) (Qb9 s.fns) s.d).1→K' (.c (.int .i64 (x.low (Qbf v 0) (Qb9 s.fns) s.d).2)) H')→
   Ql prog f ([.ag x.cells]++caps.map .c) H K')
  (hK:∀(s':IS) (H':Heap),IInv F H' w s'→IStep s s' (10 * Qp l)→s'.d=(Qah (Qbf v 0) (Qb9 s.fns) l s.d).1→K (.c (.sl false 1 (Qk (Qah (Qbf v 0) (Qb9 s.fns) l s.d).2))) H') :
  Ql prog Qce [.c (.sl fl 4 (Qy l)),.c (.fn f caps)] H K:=by
 refine Qb Qai Q0p ?_;refine Qa ?_;simp only[go_sem];refine Qa ?_;simp only[go_sem];refine Q4 ?_;refine Qa ?_;simp only[go_sem,Qn];intro hl;simp only[LIM]at hl;refine Qf (Qd (Qw (fun m e1 H1=>∃(i:Nat) (ars:List Int) (c:C) (Lg:List (Nat×Obj)) (s':IS),m=l.length-i∧i≤l.length∧ars.length=i∧Gr Lg 1 (Qk ars) c∧IInv F H1 w s'∧Kn F H1 [] (s'.L w++Lg)∧
  IStep s s' (10 * Qp (l.take i))∧s'.d=(Qah (Qbf v 0) (Qb9 s.fns) (l.take i) s.d).1∧ars=(Qah (Qbf v 0) (Qb9 s.fns) (l.take i) s.d).2∧
  e1=[(1,.c (.fn f caps)),(5,.c c),(8,.c (.sl fl 4 (Qy l))),(9,.c (.int .i64 l.length)),(10,.c (.int .i64 i))]) l.length ?_ ?_))
 ·exact⟨0,[],_,[],s,by omega,by omega,rfl,.nil 1,h,by simpa using h.kn,(IStep.refl s).mono (by omega),by rw[Jw,Qah],by rw[Jw,Qah],rfl⟩
 ·rintro m e1 H1 ⟨i,ars,c,Lg,s1,hm,hi,hasl,hgr,h1,kn,st1,ex1,hars,rfl⟩;have hco:=hgr.isOw;refine Qa ?_;simp only[go_sem,hco];refine Qf (Qc rfl ?_ ?_)
  ·intro hc;have hlt:i<l.length:=by simpa using hc
   have hms:=Qan (Jb hlt);have htk:=Qh7 hlt;have htl:=Qcr l (i+1);obtain⟨x,hx⟩:∃x,l[i]=x:=⟨_,rfl⟩;have hxm:x∈l:=by rw[←hx];exact Jb hlt
   rw[hx]at hms htk;refine Qe ?_;try simp only[go_sem]
   refine Qf (Qd ?_);refine Qa ?_;simp only[go_sem,hco,hlt,Qn,Qap _ _ hlt,hx,x.cells_eq];intro x7 hx7 H3 h3;have kn:Kn F H3 [] (s1.L w++([(x7,.st [.int .i64 0,.int .i64 0,.str [],.sl true 4 []])]++Lg)):=(kn.al hx7 h3).perm (by
    rw[Jg];exact .append_left _ Ji)
   have g7:H3 x7=_:=(kn.get (x7,.st [.int .i64 0,.int .i64 0,.str [],.sl true 4 []]) (by simp)).1;simp only[go_sem,Qgd,g7,hco];intro H4 h4;have kn:Kn F H4 [] (s1.L w++([(x7,.st [.int .i64 x.op,.int .i64 x.n,.str x.name,.sl false 4 (Qy x.kids)])]++Lg)):=kn.stM (by simpa using h4);have g7:H4 x7=.st [.int .i64 x.op,.int .i64 x.n,.str x.name,.sl false 4 (Qy x.kids)]:=(kn.get (x7,_) (by simp)).1;have h1:IInv F H4 w s1:=h1.re kn.drop;refine Qq ?_;simp only[go_sem,g7,hco];obtain⟨F',hf',hfm,_,back⟩:=h1.sideX kn;have hfx:=hf x hxm F' H4 s1 (N+10 * Qp (l.take i));rw[x.cells_eq]at hfx;refine hfx _ hf' (hsc.mono hfm) (st1.at_ hat) (st1.ok _ hsok) (by omega) fun s2 H5 h2 st2 ex2=>?_;obtain⟨h2,kn⟩:=back s2 H5 h2;have etk:Qah (Qbf v 0) (Qb9 s.fns) (l.take (i+1)) s.d=((x.low (Qbf v 0) (Qb9 s1.fns) s1.d).1,ars++[(x.low (Qbf v 0) (Qb9 s1.fns) s1.d).2]):=by
    rw[Je hlt,Q4e,hx,ex1,st1.fn.1,hars]
   obtain⟨r,hr⟩:∃r,(x.low (Qbf v 0) (Qb9 s1.fns) s1.d).2=r:=⟨_,rfl⟩;rw[hr]at etk;rw[hr];have kn:Kn F H5 [] (s2.L w++Lg):=kn.sub (.append_left (List.sublist_append_right _ _) _);simp only[go_sem,Qgf,hco];refine kn.growR hgr (new:=Qk [r]) (.mk' _ true 1 _) (Qal _) (by simp only[Qj,hasl,Jk,Jp,LIM];omega) fun t2 Lg2 H6 hgr2 hto2 kn=>?_;rw[←Qhd]at hgr2;simp only[go_sem,Qge,hto2];refine Qq ?_;simp only[go_sem,AE.X.next,hto2];exact⟨Qo (by omega) (by omega),l.length-(i+1),by omega,i+1,ars++[r],t2,Lg2,s2,rfl,by omega,by simp[hasl],hgr2,h2.re kn.drop,kn,(st1.trans st2).mono (by rw[htk];omega),by rw[etk];exact ex2,by rw[etk],rfl⟩
  ·intro hc;have hge:l.length≤i:=by simpa using hc
   rw[Jd hge]at st1 ex1 hars;refine Qv ?_;simp only[go_sem,AE.X.next];refine Q4 ?_;obtain⟨S,H2,f1,f2,kn2⟩:=hgr.freeze kn (Qal _);have h2:=h1.re kn2;refine c_gh (Qhc S (fun t=>?_) f2) (e':=[(1,.c (.fn f caps)),(5,.c (.sl false 1 (Qk ars))),(8,.c (.sl fl 4 (Qy l))),(9,.c (.int .i64 l.length)),(10,.c (.int .i64 i))]) ?_
   ·simp only[lk];split
    ·exact .c _ _ (.same _ rfl)
    ·split
     ·exact .c _ _ f1
     ·split
      ·exact .c _ _ (.same _ rfl)
      ·split
       ·exact .c _ _ (.same _ rfl)
       ·split
        ·exact .c _ _ (.same _ rfl)
        ·exact .unk _
   refine Qa ?_;simp only[go_sem];refine Qi ?_;simp only[go_sem,Qs,Q6,Qm6,Ja,forall_eq,RS.op];rw[hars];exact hK s1 H2 h2 st1 ex1
end Go.AE.Y
namespace Go.AE.Y
open Go.Proofs.Tryz
variable {F H:Heap}{w:Nat}{s:LS}{K:V→Heap→Prop}
def hasN (name:List UInt8)(r:List C):Bool:=match r with
 |.str s::_=>decide (s=name)
 |_=>false
def rowN (r:List C):Int:=match r with
 |[_,.int _ n,_]=>n
 |_=>0
def rgR (rows:List (List C))(name:List UInt8):Int:=match rows.reverse.find? (hasN name)with
 |some r=>rowN r
 |none=>-1
theorem Qbpo {rows:List (List C)}{name:List UInt8}{i:Nat}(h:i<rows.length)(hn:(rows.drop (i+1)).reverse.find? (hasN name)=none)(hp:hasN name rows[i]=true):rgR rows name=rowN rows[i]:=by
 have e:rows.reverse=(rows.drop (i+1)).reverse++(rows[i]::(rows.take i).reverse):=by
  conv=>lhs;rw[←Jt i rows,Jad h]
  simp
 rw[rgR,e,List.find?_append,hn,Option.none_or,List.find?_cons,hp]
theorem Qbjs {rows:List (List C)}{name:List UInt8}{i:Nat}(h:i<rows.length)(hn:(rows.drop (i+1)).reverse.find? (hasN name)=none)(hp:hasN name rows[i]=false):(rows.drop i).reverse.find? (hasN name)=none:=by
 rw[Jad h,List.reverse_cons,List.find?_append,hn,Option.none_or,List.find?_cons,hp];rfl
theorem Lw.fresh_len (s:Lw):s.fresh.bs.length=s.bs.length:=rfl
theorem Lw.add_add (s:Lw)(a b:Nat):(s.add a).add b=s.add (a+b):=by simp only[Lw.add,Jg,List.replicate_append_replicate]
theorem LS.dregs (s:LS):s.regs=s.d.regs:=rfl
theorem Qbdi (fns:List Fn)(name:List UInt8):ixI (Qli fns name)=Qb9 fns name:=by
 simp only[ixI,Qb9];cases Qli fns name <;> rfl
theorem Qbpn {name:List UInt8}(h:LInv F H w s)(hK:K (.c (.int .i64 (rgR s.vars name))) H):Ql prog Qmw [.c (.ptr w 0),.c (.str name)] H K:=by
 have hw:=h.hw;obtain⟨hv1,hv2⟩:=h.vget;have hvl:=h.gv.lenC;have hve:=h.gv.elemSz;have hvo:=h.gv.isOw;refine Qb Qai Qa2w ?_;have retf:∀(n:Int) (e:Env),n=rgR s.vars name→lk 4 e=.c (.int .i64 n)→Qs Qm6 K .ret e H:=by
  intro b e hb h1;simp only[go_sem,Qs,Q6,Qm6,Ja,forall_eq,RS.op,h1];rw[hb];exact hK
 refine Qa ?_;simp only[go_sem];refine Q4 ?_;refine Qa ?_;simp only[go_sem,hw,LS.o,hv1,hvl,hvo];intro hl;simp only[LIM]at hl;refine⟨Qo (by omega) (by omega),?_⟩;refine Qf (Qd (Qw (fun n e1 H1=>∃(j:Nat),n=j∧j≤s.vars.length∧(s.vars.drop j).reverse.find? (hasN name)=none∧H1=H∧e1=[(0,.c (.ptr w 0)),(1,.c (.str name)),(5,.c (.int .i64 ((j:Int)-1)))]) s.vars.length ?_ ?_))
 ·exact⟨s.vars.length,rfl,by omega,by simp,rfl,rfl⟩
 ·rintro n e1 H1 ⟨j,hnj,hj,hnn,rfl,rfl⟩;refine Q4 ?_;refine Qa ?_;simp only[go_sem];refine Qf (Qc rfl ?_ ?_)
  ·intro hc;have hj1:1≤j:=by simp at hc;omega
   obtain⟨i,rfl⟩:∃i,j=i+1:=⟨j-1,by omega⟩;have e1:(((i+1:Nat):Int)-1)=(i:Int):=by omega
   have hlt:i<s.vars.length:=by omega
   obtain⟨nm,a,b,hr⟩:=h.rv _ (Jb hlt);have hr':List.getD s.vars i []=[.str nm,.int .i64 a,.int .i64 b]:=by rw[←hr];simp[Jc,hlt]
   rw[e1]at hc⊢;refine Qe ?_;simp only[go_sem];refine Qf (Qd ?_);refine Qa ?_;simp only[go_sem,hw,LS.o,hv1,hv2,hvl,hvo,hve,hlt,hr'];refine Qc rfl ?_ ?_
   ·intro hc2;refine Qa ?_;simp only[go_sem,hw,LS.o,hv1,hv2,hvl,hvo,hve,hlt,hr'];refine Qi ?_;simp only[go_sem,X.next];refine retf _ _ ?_ (by simp[lk];rfl);rw[Qbpo hlt hnn (by rw[hr];simpa[hasN]using hc2),hr];rfl
   ·intro hc2;refine Qe ?_;simp only[go_sem];refine Qq ?_;simp only[go_sem,X.next];exact⟨Qo (by omega) (by omega),i,by omega,i,rfl,by omega,Qbjs hlt hnn (by rw[hr];simpa[hasN]using hc2),rfl⟩
  ·intro hc;refine Qv ?_;simp only[go_sem,X.next];refine Qa ?_;simp only[go_sem];refine Qi ?_;obtain rfl:j=0:=by simp at hc;omega
   refine retf _ _ ?_ (by simp[lk];rfl);rw[List.drop_zero]at hnn;rw[rgR,hnn]
def Qbhl (n:Nat):Prop:=∀(x:Ex) (F H:Heap) (w:Nat) (s:LS) (N:Nat) (K:V→Heap→Prop),x.size≤n→x.ok→LInv F H w s→s.at_<s.blocks.length→s.ok N→N+10 * x.size≤2^38→
  (∀(s':LS) (H':Heap),LInv F H' w s'→LStep s s' (10 * x.size)→LTo s' (x.low (rgR s.vars) (Qb9 s.fns) s.d).1 s.vars s.next→K (.c (.int .i64 (x.low (rgR s.vars) (Qb9 s.fns) s.d).2)) H')→Ql prog Qc4 [.c (.ptr w 0),.ag x.cells] H K
def AndX (n:Nat):Prop:=∀(x:Ex) (F H:Heap) (w:Nat) (s:LS) (N:Nat) (K:V→Heap→Prop),x.size≤n→x.ok→x.op=10→LInv F H w s→s.at_<s.blocks.length→s.ok N→N+10 * x.size≤2^38→
  (∀(s':LS) (H':Heap),LInv F H' w s'→LStep s s' (10 * x.size)→LTo s' (x.low (rgR s.vars) (Qb9 s.fns) s.d).1 s.vars s.next→K (.c (.int .i64 (x.low (rgR s.vars) (Qb9 s.fns) s.d).2)) H')→Ql prog Qu3 [.c (.ptr w 0),.ag x.cells] H K
theorem Qbqh {n:Nat}(hE:∀m,m<n→Qbhl m):AndX n:=by
 intro x F H w s N K hn hok hop h hat hsok hN hK;have hsz:=x.size_kids;have hk2:=Ex.ok_and hok hop;have hkok:=Ex.ok_kids hok;obtain⟨a,b,hab⟩:∃a b,x.kids=[a,b]:=by
  match hx:x.kids,hk2 with
  |[a,b],_=>exact⟨a,b,rfl⟩
 rw[hab]at hsz hkok;simp only[Qp,Qcx]at hsz hkok;refine Qb Qai Qa2u ?_;refine Qa ?_;simp only[go_sem,x.cells_eq];refine Qa ?_;simp only[go_sem,hab,Qy,Ex.take4,Ex.allOw,Ex.cells_len,Jm];refine⟨by omega,?_⟩;refine hE a.size (by omega) a F H w s N _ (Jf _) hkok.1 h hat hsok (by omega) fun s1 H1 h1 st1 ex1=>?_;simp only[go_sem,Q31];refine Qa ?_;simp only[go_sem];refine Qu5 h1 (st1.ok _ hsok) (by omega) fun s2 H2 h2 st2 ex2=>?_;have st2:=st1.trans st2;simp only[go_sem,Q33];refine Q9w (args:=[]) h2 (st2.at_ hat) (st2.ok _ hsok) (by omega) fun s3 H3 h3 st3 ex3=>?_;have st3:=st2.trans st3;simp only[go_sem,Q32];refine Qa ?_;simp only[go_sem];refine Qhv h3 (st3.ok _ hsok) (by omega) fun s4 H4 h4 st4 hb4 ex4=>?_;have st4':=st4;have st4:=st3.trans st4;simp only[go_sem,Q34];refine Qa ?_;simp only[go_sem];refine Qhv h4 (st4.ok _ hsok) (by omega) fun s5 H5 h5 st5 hb5 ex5=>?_;have st5:=st4.trans st5;simp only[go_sem,Q35];refine Qa ?_;simp only[go_sem];refine Q3b (next:=[(s3.blocks.length:Int),(s4.blocks.length:Int)]) (N:=0) h5 (st5.at_ hat) (by omega) fun s6 H6 h6 st6 ex6=>?_;have hb6:=st6.bl;have st6:=st5.trans st6;refine Qa ?_;simp only[go_sem,Ex.take4,Ex.allOw,Ex.cells_len,Jm,J5];refine⟨by omega,?_⟩;refine hE b.size (by omega) b F H6 w s6 _ _ (Jf _) hkok.2.1 h6 (st6.at_ hat) (st6.ok _ hsok) (by omega) fun s7 H7 h7 st7 ex7=>?_;have hb7:=st7.bl;have st7:=st6.trans st7;simp only[go_sem,Q36];refine Qa ?_;simp only[go_sem];refine Qu5 h7 (st7.ok _ hsok) (by omega) fun s8 H8 h8 st8 ex8=>?_;have hb8:=st8.bl;have st8:=st7.trans st8;simp only[go_sem,Q38];refine Q9w (args:=[(b.low (rgR s6.vars) (Qb9 s6.fns) s6.d).2]) h8 (st8.at_ hat) (st8.ok _ hsok) (by omega) fun s9 H9 h9 st9 ex9=>?_;have hb9:=st9.bl;have st9:=st8.trans st9;simp only[go_sem,Q37];refine Qa ?_;simp only[go_sem];refine Q9w (args:=[s7.regs]) h9 (st9.at_ hat) (st9.ok _ hsok) (by omega) fun s10 H10 h10 st10 ex10=>?_;have hb10:=st10.bl;have st10:=st9.trans st10;refine Qa ?_;simp only[go_sem];refine Q3b (next:=[(s4.blocks.length:Int)]) (N:=0) h10 (st10.at_ hat) (by omega) fun s11 H11 h11 st11 ex11=>?_;have st11:=st10.trans st11;refine Qa ?_;simp only[go_sem];refine Qi ?_;simp only[go_sem,Qs,Q6,Qm6,Ja,forall_eq,RS.op];have v6:s6.vars=s.vars:=by rw[ex6.vars,ex5.vars,ex4.vars,ex3.vars,ex2.vars,ex1.vars]
 have n6:s6.next=s.next:=by rw[ex6.next,ex5.next,ex4.next,ex3.next,ex2.next,ex1.next]
 have f6:s6.fns=s.fns:=st6.fn.1;have e:x.low (rgR s.vars) (Qb9 s.fns) s.d=(s11.d,s1.regs):=by
  obtain⟨op,q,nm,kids⟩:=x;simp only[Ex.op]at hop;simp only[Ex.kids]at hab;subst hop;subst hab;simp only[Ex.low,Q29,Qps,ex11.d,ex10.d,ex9.d,ex8.d,ex7.d,ex6.d,ex5.d,ex4.d,ex3.d,ex2.d,ex1.d,v6,f6,LS.dlen,LS.dregs,Lw.add_add,Lw.add_len,Lw.put_len,Lw.fresh_len,Lw.make];simp
 have:=hK s11 H11 h11 (st11.mono (by omega)) (by rw[e];exact⟨rfl,by rw[ex11.vars,ex10.vars,ex9.vars,ex8.vars,ex7.vars,v6],by rw[ex11.next,ex10.next,ex9.next,ex8.next,ex7.next,n6]⟩);rw[e]at this;exact this
theorem Ex.low_eq (rg fi:List UInt8→Int)(x:Ex)(s:Lw):x.low rg fi s=if x.op=1 then (s.make 1 x.n [],s.regs)else if x.op=2 then (s,rg x.name)else if x.op=10 then Q29 rg fi x.kids s else
  ((Qah rg fi x.kids s).1.make (Q9t x.op) (if x.op=13 then fi x.name else 0) (Qah rg fi x.kids s).2,(Qah rg fi x.kids s).1.regs):=by cases x;simp only[Ex.low,Ex.op,Ex.n,Ex.name,Ex.kids];rfl
theorem Qbo0 {n:Nat}(hA:AndX n)(hE:∀m,m<n→Qbhl m):Qbhl n:=by
 intro x F H w s N K hn hok h hat hsok hN hK;have hsz:=x.size_kids;have hkok:=Ex.ok_kids hok;refine Qb Qai Qayb ?_;have retf:∀(v:Int) (e:Env) (s':LS) (H':Heap),LInv F H' w s'→LStep s s' (10 * x.size)→x.low (rgR s.vars) (Qb9 s.fns) s.d=(s'.d,v)→s'.vars=s.vars→s'.next=s.next→lk 4 e=.c (.int .i64 v)→Qs Qm6 K .ret e H':=by
  intro v e s' H' a1 a2 a3 a4 a5 h1;simp only[go_sem,Qs,Q6,Qm6,Ja,forall_eq,RS.op,h1];have:=hK _ _ a1 a2 (by rw[a3];exact⟨rfl,a4,a5⟩);rw[a3]at this;exact this
 refine Qa ?_;simp only[go_sem,x.cells_eq];refine Q4 ?_;refine Qa ?_;simp only[go_sem];refine Qf (Qd ?_);refine Qa ?_;simp only[go_sem];refine Qc rfl ?_ ?_
 ·intro hc;refine Qag ?_;simp only[go_sem];refine Qu5 h hsok (by omega) fun s1 H1 h1 st1 ex1=>?_;simp only[go_sem,Qyq];refine Q9w (args:=[]) h1 (st1.at_ hat) (st1.ok _ hsok) (by omega) fun s2 H2 h2 st2 ex2=>?_;simp only[go_sem,Qyp];refine Qi ?_;simp only[go_sem];exact retf _ _ s2 H2 h2 ((st1.trans st2).mono (by omega)) (by rw[Ex.low_eq,if_pos (by simpa using hc),ex2.d,ex1.d];rfl) (by rw[ex2.vars,ex1.vars]) (by rw[ex2.next,ex1.next]) (by simp[lk];try rfl)
 intro hc1;refine Qa ?_;simp only[go_sem];refine Qc rfl ?_ ?_
 ·intro hc;refine Qa ?_;simp only[go_sem];refine Qbpn h ?_;simp only[go_sem,Qyr];refine Qi ?_;simp only[go_sem];exact retf _ _ s H h ((LStep.refl s).mono (by omega)) (by rw[Ex.low_eq,if_neg (by simpa using hc1),if_pos (by simpa using hc)]) rfl rfl (by simp[lk];try rfl)
 intro hc2;refine Qa ?_;simp only[go_sem];refine Qc rfl ?_ ?_
 ·intro hc;have hop:x.op=10:=by simpa using hc
  refine Qa ?_;simp only[go_sem];rw[←x.cells_eq];refine hA x F H w s N _ hn hok hop h hat hsok hN fun s1 H1 h1 st1 ex1=>?_;simp only[go_sem,Qys];refine Qi ?_;simp only[go_sem];exact retf _ _ s1 H1 h1 st1 (by rw[ex1.d]) ex1.vars ex1.next (by simp[lk];try rfl)
 intro hc3;refine Qe ?_;simp only[go_sem];refine Qa ?_;simp only[go_sem];refine Q4 ?_;refine Qa ?_;simp only[go_sem];refine Qf (Qd (Qw (fun n e1 H1=>∃(i:Nat) (ars:List Int) (c:C) (Lg:List (Nat×Obj)) (s':LS),n=x.kids.length-i∧i≤x.kids.length∧ars.length=i∧Gr Lg 1 (Qk ars) c∧LInv F H1 w s'∧Kn F H1 [] (s'.L w++Lg)∧
  LStep s s' (10 * Qp (x.kids.take i))∧LTo s' (Qah (rgR s.vars) (Qb9 s.fns) (x.kids.take i) s.d).1 s.vars s.next∧ars=(Qah (rgR s.vars) (Qb9 s.fns) (x.kids.take i) s.d).2∧e1=[(0,.c (.ptr w 0)),(3,.c (.pp [.int .i64 x.op,.int .i64 x.n,.str x.name,.sl false 4 (Qy x.kids)])),(5,.c c),(6,.c (.int .i64 i))]) x.kids.length ?_ ?_))
 ·exact⟨0,[],_,[],s,by omega,by omega,rfl,.nil 1,h,by simpa using h.kn,(LStep.refl s).mono (by omega),by rw[Jw,Qah];exact .refl s,by rw[Jw,Qah],rfl⟩
 ·rintro n e1 H1 ⟨i,ars,c,Lg,s1,hn1,hi,hasl,hgr,h1,kn,st1,ex1,hars,rfl⟩;refine Q4 ?_;refine Qa ?_;simp only[go_sem,Qn];intro hl;simp only[LIM]at hl;refine Qf (Qc rfl ?_ ?_)
  ·intro hc;have hlt:i<x.kids.length:=by simpa using hc
   have hm:=Qan (Jb hlt);have htk:=Qh7 hlt;have htl:=Qcr x.kids (i+1);refine Qe ?_;simp only[go_sem];refine Qf (Qd (Qq ?_));simp only[go_sem,hlt,Qn,Qap _ _ hlt,Ex.take4,Ex.allOw,Ex.cells_len];obtain⟨F',hf,back⟩:=h1.beside kn hgr;refine hE x.kids[i].size (by omega) _ F' H1 w s1 _ _ (Jf _) (Qn8 hkok _ (Jb hlt)) hf (st1.at_ hat) (st1.ok _ hsok) (by omega) fun s2 H2 h2 st2 ex2=>?_;obtain⟨h2,kn⟩:=back s2 H2 h2;have etk:Qah (rgR s.vars) (Qb9 s.fns) (x.kids.take (i+1)) s.d=((x.kids[i].low (rgR s1.vars) (Qb9 s1.fns) s1.d).1,ars++[(x.kids[i].low (rgR s1.vars) (Qb9 s1.fns) s1.d).2]):=by
    rw[Je hlt,Q4e,ex1.vars,ex1.d,st1.fn.1,hars]
   generalize hvv:(x.kids[i].low (rgR s1.vars) (Qb9 s1.fns) s1.d).2=v at *;simp only[go_sem,Qyu];refine kn.grow (new:=Qk [v]) hgr (.mk' _ _ _ _) (Qal _) (by simp only[Qj,hasl,Jk,Jp,LIM];omega) fun y' H3 kn=>?_;simp only[go_sem,Qyt];refine Qq ?_;simp only[go_sem,X.next];refine⟨Qo (by omega) (by omega),x.kids.length-(i+1),by omega,i+1,ars++[v],_,_,s2,rfl,by omega,by simp[hasl],.mk y' 1 (Qk (ars++[v])) (n:=(Qk ars).length+(Qk [v]).length) (by simp[Qk]),h2.re kn.drop,by rw[Qhd];exact kn,(st1.trans st2).mono (by rw[htk];omega),by rw[etk];exact⟨ex2.d,ex2.vars.trans ex1.vars,ex2.next.trans ex1.next⟩,by rw[etk],by simp[Qk]⟩
  ·intro hc;have hge:x.kids.length≤i:=by simpa using hc
   rw[Jd hge]at st1 ex1 hars;have fin:∀(op n:Int) (s4:LS),Q9t x.op=op→(if x.op=13 then Qb9 s.fns x.name else 0)=n→LTo s4 (s1.d.fresh.put op s1.regs n ars) s1.vars s1.next→x.low (rgR s.vars) (Qb9 s.fns) s.d=(s4.d,s1.regs)∧s4.vars=s.vars∧s4.next=s.next:=by
    intro op n s4 e1 e2 ex4;refine⟨?_,ex4.vars.trans ex1.vars,ex4.next.trans ex1.next⟩;rw[Ex.low_eq,if_neg (by simpa using hc1),if_neg (by simpa using hc2),if_neg (by simpa using hc3),e1,e2,ex4.d,←hars,←ex1.d];rfl
   refine Qv ?_;simp only[go_sem,X.next];refine Q4 ?_;refine Q4 ?_;obtain⟨S,H2,f1,f2,kn2⟩:=hgr.freeze kn (Qal _);have h2:=h1.re kn2;refine c_gh (Qhc S (fun t=>?_) f2) (e':=[(0,.c (.ptr w 0)),(3,.c (.pp [.int .i64 x.op,.int .i64 x.n,.str x.name,.sl false 4 (Qy x.kids)])),(5,.c (.sl false 1 (Qk ars)))]) ?_
   ·simp only[lk];split
    ·exact .c _ _ (.same _ rfl)
    ·split
     ·exact .c _ _ (.same _ rfl)
     ·split
      ·exact .c _ _ f1
      ·exact .unk _
   refine Qa ?_;simp only[go_sem];refine Qf (Qd ?_);refine Qa ?_;simp only[go_sem];refine Qc rfl ?_ ?_
   ·intro hc;refine Qa ?_;simp only[go_sem];refine Qu5 h2 (st1.ok _ hsok) (by omega) fun s3 H3 h3 st3 ex3=>?_;have st3:=st1.trans st3;simp only[go_sem,Qsh];refine Q9w h3 (st3.at_ hat) (st3.ok _ hsok) (by omega) fun s4 H4 h4 st4 ex4=>?_;simp only[go_sem,Qsg];refine Qi ?_;simp only[go_sem];obtain⟨g1,g2,g3⟩:=fin _ _ s4 (by rw[show x.op=11 by simpa using hc];try rfl) (by rw[show x.op=11 by simpa using hc];try rfl) (by have:=ex4;rw[ex3.d,ex3.vars,ex3.next]at this;simpa[st1.fn.1,Q9t]using this);exact retf _ _ s4 H4 h4 ((st3.trans st4).mono (by omega)) g1 g2 g3 (by simp[lk];try rfl)
   intro hc4;refine Qa ?_;simp only[go_sem];refine Qc rfl ?_ ?_
   ·intro hc;refine Qa ?_;simp only[go_sem];refine Qu5 h2 (st1.ok _ hsok) (by omega) fun s3 H3 h3 st3 ex3=>?_;have st3:=st1.trans st3;simp only[go_sem,Qsj];refine Q9w h3 (st3.at_ hat) (st3.ok _ hsok) (by omega) fun s4 H4 h4 st4 ex4=>?_;simp only[go_sem,Qsi];refine Qi ?_;simp only[go_sem];obtain⟨g1,g2,g3⟩:=fin _ _ s4 (by rw[show x.op=12 by simpa using hc];try rfl) (by rw[show x.op=12 by simpa using hc];try rfl) (by have:=ex4;rw[ex3.d,ex3.vars,ex3.next]at this;simpa[st1.fn.1,Q9t]using this);exact retf _ _ s4 H4 h4 ((st3.trans st4).mono (by omega)) g1 g2 g3 (by simp[lk];try rfl)
   intro hc5;refine Qa ?_;simp only[go_sem];refine Qc rfl ?_ ?_
   ·intro hc;have hw2:=h2.hw;refine Qag ?_;simp only[go_sem,hw2,LS.o];refine Qu5 h2 (st1.ok _ hsok) (by omega) fun s3 H3 h3 st3 ex3=>?_;have hw3:=h3.hw;have hfn:=st3.fn;have st3:=st1.trans st3;simp only[go_sem,Qsm,hw3,LS.o,hfn.1,hfn.2.1];refine Qawz ?_;rw[Qbdi];simp only[go_sem,Qsl];refine Q9w h3 (st3.at_ hat) (st3.ok _ hsok) (by omega) fun s4 H4 h4 st4 ex4=>?_;simp only[go_sem,Qsk];refine Qi ?_;simp only[go_sem];obtain⟨g1,g2,g3⟩:=fin _ _ s4 (by rw[show x.op=13 by simpa using hc];try rfl) (by rw[if_pos (by simpa using hc)]) (by have:=ex4;rw[ex3.d,ex3.vars,ex3.next]at this;simpa[st1.fn.1,Q9t]using this);exact retf _ _ s4 H4 h4 ((st3.trans st4).mono (by omega)) g1 g2 g3 (by simp[lk];try rfl)
   intro hc6;refine Qe ?_;simp only[go_sem];refine Qag ?_;simp only[go_sem];refine Qu5 h2 (st1.ok _ hsok) (by omega) fun s3 H3 h3 st3 ex3=>?_;have st3:=st1.trans st3;simp only[go_sem,Qso];refine Q9w h3 (st3.at_ hat) (st3.ok _ hsok) (by omega) fun s4 H4 h4 st4 ex4=>?_;simp only[go_sem,Qsn];refine Qi ?_;obtain⟨g1,g2,g3⟩:=fin _ _ s4 (by rw[Q9t,if_neg (by simpa using hc4),if_neg (by simpa using hc5),if_neg (by simpa using hc6)]) (by rw[if_neg (by simpa using hc6)]) (by have:=ex4;rw[ex3.d,ex3.vars,ex3.next]at this;simpa[st1.fn.1,Q9t]using this);exact retf _ _ s4 H4 h4 ((st3.trans st4).mono (by omega)) g1 g2 g3 (by simp[lk];try rfl)
theorem Qboz (n:Nat):Qbhl n:=by
 induction n using Nat.strongRecOn with
 |ind n ih=>exact Qbo0 (Qbqh ih) ih
end Go.AE.Y
namespace Go.AE.Y
attribute [local go_sem] cond_true cond_false Bool.not_true Bool.not_false
open Go.Proofs.Tryz
variable {F H H':Heap}{w:Nat}{s:IS}{K:V→Heap→Prop}{M Lg:List (Nat×Obj)}{sc:ScD}{v:Vars}
theorem Qbds {n N:Nat}{x:Ex}(hE:IExX n)(hn:x.size≤n)(hok:x.ok)(h:IInv F H w s)(hsc:ScIn F sc v)(hat:s.at_<s.blocks.length)(hsok:s.ok N)(hN:N+10 * x.size≤2^38)
  (hK:∀(s':IS) (H':Heap),IInv F H' w s'→IStep s s' (10 * x.size)→s'.d=(x.low (Qbf v 0) (Qb9 s.fns) s.d).1→K (.c (.int .i64 (x.low (Qbf v 0) (Qb9 s.fns) s.d).2)) H') :
  Ql prog Qde [.ag x.cells,.c (.pp [.ptr w 0]),.c (.pp [scC sc.ls])] H K:=by
 have how:=Qads sc.ls;refine Qb Qai Qu8 ?_;refine Qa ?_;simp only[go_sem,x.cells_eq,how];refine Qa ?_;simp only[go_sem,how];have hx:=hE x F H w s N sc v;rw[x.cells_eq]at hx;refine hx _ hn hok h hsc hat hsok hN fun s1 H1 h1 st1 ex1=>?_;simp only[go_sem,Qe7];refine Qi ?_;simp only[go_sem,Qs,Q6,Qm6,Ja,forall_eq,RS.op];exact hK s1 H1 h1 st1 ex1
theorem Qbii {n:Nat}(hE:∀m,m<n→IExX m):IExX n:=by
 intro x F H w s N sc v K hn hok h hsc hat hsok hN hK;have how:=Qads sc.ls;have hsz:=x.size_kids;have hkok:=Ex.ok_kids hok;refine Qb Qai Q7c ?_;have retf:∀(r:Int) (e:Env) (s':IS) (H':Heap),IInv F H' w s'→IStep s s' (10 * x.size)→x.low (Qbf v 0) (Qb9 s.fns) s.d=(s'.d,r)→lk 6 e=.c (.int .i64 r)→Qs Qblj K .ret e H':=by
  intro r e s' H' a1 a2 a3 h1;simp only[go_sem,Qs,Q6,Qblj,Ja,forall_eq,RS.op,h1];have:=hK _ _ a1 a2 (by rw[a3]);rw[a3]at this;exact this
 refine Qa ?_;simp only[go_sem,x.cells_eq,how];refine Q4 ?_;refine Qa ?_;simp only[go_sem,how];refine Qf (Qd ?_);refine Qa ?_;simp only[go_sem,how];refine Qc rfl ?_ ?_
 ·intro hc;refine Qa ?_;simp only[go_sem];refine Qu7 (args:=[]) h hat hsok (by omega) fun s1 H1 h1 st1 ex1=>?_;simp only[go_sem,Qin];refine Qi ?_;exact retf _ _ s1 H1 h1 (st1.mono (by omega)) (by rw[Ex.low_eq,if_pos (by simpa using hc),ex1];try rfl) (by simp[lk];try rfl)
 intro hc1;refine Qa ?_;simp only[go_sem,how];refine Qc rfl ?_ ?_
 ·intro hc;refine Qa ?_;simp only[go_sem,how];refine Qagk (hsc.find h.kn) ?_;simp only[go_sem,Qio,Jm,J5];refine Qa ?_;simp only[go_sem];refine Qi ?_;exact retf _ _ s H h ((IStep.refl s).mono (by omega)) (by rw[Ex.low_eq,if_neg (by simpa using hc1),if_pos (by simpa using hc),←Qa78]) (by simp[lk];try rfl)
 intro hc2;refine Qa ?_;simp only[go_sem,how];refine Qc rfl ?_ ?_
 ·intro hc;have hop:x.op=10:=by simpa using hc
  have hk2:=Ex.ok_and hok hop;obtain⟨a,b,hab⟩:∃a b,x.kids=[a,b]:=by
   match hx:x.kids,hk2 with
   |[a,b],_=>exact⟨a,b,rfl⟩
  rw[hab]at hsz hkok;simp only[Qp,Qcx]at hsz hkok;refine Qag ?_;simp only[go_sem,how,hab,Qy,Ex.take4,Ex.allOw,Ex.cells_len,Jm,Jk,Jp];try refine⟨by omega,?_⟩
  refine hE a.size (by omega) a F H w s N sc v _ (Jf _) hkok.1 h hsc hat hsok (by omega) fun s1 H1 h1 st1 ex1=>?_;simp only[go_sem,Qip];refine Qa ?_;simp only[go_sem,how];refine Qu7 (args:=[]) h1 (st1.at_ hat) (st1.ok _ hsok) (by omega) fun s2 H2 h2 st2 ex2=>?_;have st2:=st1.trans st2;simp only[go_sem,Qiq];refine Qa ?_;simp only[go_sem,how];refine Qahh (n:=2) h2 (st2.ok _ hsok) (by omega) fun s3 H3 h3 st3 hb3 ex3=>?_;have hbb:=(st2.ok _ hsok).b1;have st3:=st2.trans st3;simp only[go_sem,Qir];refine Qa ?_;simp only[go_sem,how];refine⟨Qo (by omega) (by omega),?_⟩;refine Q3a (next:=[(s2.blocks.length:Int),(s2.blocks.length:Int)+1]) (at':=s2.blocks.length) (N:=0) h3 (st3.at_ hat) (by omega) fun s4 H4 h4 st4 ex4=>?_;have hb4:=st4.bl;have st4:=st3.trans st4;simp only[go_sem];refine Qag ?_;simp only[go_sem,how,hab,Qy,Ex.take4,Ex.allOw,Ex.cells_len,Jm,J5,Jk,Jp];try refine⟨by omega,?_⟩
  refine hE b.size (by omega) b F H4 w s4 _ sc v _ (Jf _) hkok.2.1 h4 hsc (st4.at_ hat) (st4.ok _ hsok) (by omega) fun s5 H5 h5 st5 ex5=>?_;have hb5:=st5.bl;have st5:=st4.trans st5;simp only[go_sem,Qis];refine Qa ?_;simp only[go_sem];refine Qu7 (args:=[(b.low (Qbf v 0) (Qb9 s4.fns) s4.d).2]) h5 (st5.at_ hat) (st5.ok _ hsok) (by omega) fun s6 H6 h6 st6 ex6=>?_;have hb6:=st6.bl;have st6:=st5.trans st6;simp only[go_sem,Qit];refine Qa ?_;simp only[go_sem];refine Qast (args:=[s5.regs]) h6 (st6.at_ hat) (st6.ok _ hsok) (by omega) fun s7 H7 h7 st7 ex7=>?_;have hb7:=st7.bl;have st7:=st6.trans st7;simp only[go_sem];refine Qa ?_;simp only[go_sem];refine⟨Qo (by omega) (by omega),?_⟩;refine⟨Qo (by omega) (by omega),?_⟩;rw[show ((s2.blocks.length:Int)+1)=((s2.blocks.length+1:Nat):Int)by omega];refine Q3a (next:=[((s2.blocks.length+1:Nat):Int)]) (at':=s2.blocks.length+1) (N:=0) h7 (st7.at_ hat) (by omega) fun s8 H8 h8 st8 ex8=>?_;have st8:=st7.trans st8;simp only[go_sem];refine Qa ?_;simp only[go_sem];refine Qi ?_;have f4:s4.fns=s.fns:=st4.fn.1;refine retf _ _ s8 H8 h8 (st8.mono (by omega)) ?_ (by simp[lk];try rfl);rw[Ex.low_eq,if_neg (by omega),if_neg (by omega),if_pos hop,hab];simp only[Q29,Qps,ex8,ex7,ex6,ex5,ex4,ex3,ex2,ex1,f4,IS.dlen,IS.dregs,Lw.add_len,Lw.put_len,Lw.fresh_len,Lw.make];try simp
 intro hc3;refine Qe ?_;try simp only[go_sem]
 refine Qa ?_;simp only[go_sem,how];refine Qbdq (n:=Qp x.kids) (Jf _) hkok h hsc hat hsok (by omega) (fun y hy F2 H2 s2 N2 K2 h2 hsc2 hat2 hok2 hN2 hK2=>?_) fun s1 H1 h1 st1 ex1=>?_
 ·have hys:=Qan hy;exact Qbds (hE y.size (by omega)) (Jf _) (Qn8 hkok _ hy) h2 hsc2 hat2 hok2 hN2 hK2
 obtain⟨ars,hars⟩:∃ars,(Qah (Qbf v 0) (Qb9 s.fns) x.kids s.d).2=ars:=⟨_,rfl⟩;rw[hars];have fin:∀(op m:Int) (s4:IS),Q9t x.op=op→(if x.op=13 then Qb9 s.fns x.name else 0)=m→s4.d=s1.d.make op m ars→x.low (Qbf v 0) (Qb9 s.fns) s.d=(s4.d,s1.regs):=by
  intro op m s4 e1 e2 ex4;rw[Ex.low_eq,if_neg (by simpa using hc1),if_neg (by simpa using hc2),if_neg (by simpa using hc3),e1,e2,ex4,hars,←ex1];rfl
 have fn1:=st1.fn.1;simp only[go_sem,Qgw];refine Q4 ?_;refine Qa ?_;simp only[go_sem];refine Qf (Qd ?_);refine Qa ?_;simp only[go_sem];refine Qc rfl ?_ ?_
 ·intro hc;refine Qa ?_;simp only[go_sem];refine Qu7 h1 (st1.at_ hat) (st1.ok _ hsok) (by omega) fun s2 H2 h2 st2 ex2=>?_;simp only[go_sem,Qgx];refine Qi ?_;exact retf _ _ s2 H2 h2 ((st1.trans st2).mono (by omega)) (fin _ _ s2 (by rw[show x.op=11 by simpa using hc];rfl) (by rw[show x.op=11 by simpa using hc];try rfl) ex2) (by simp[lk];try rfl)
 intro hc4;refine Qa ?_;simp only[go_sem];refine Qc rfl ?_ ?_
 ·intro hc;refine Qa ?_;simp only[go_sem];refine Qu7 h1 (st1.at_ hat) (st1.ok _ hsok) (by omega) fun s2 H2 h2 st2 ex2=>?_;simp only[go_sem,Qgy];refine Qi ?_;exact retf _ _ s2 H2 h2 ((st1.trans st2).mono (by omega)) (fin _ _ s2 (by rw[show x.op=12 by simpa using hc];rfl) (by rw[show x.op=12 by simpa using hc];try rfl) ex2) (by simp[lk];try rfl)
 intro hc5;refine Qa ?_;simp only[go_sem];refine Qc rfl ?_ ?_
 ·intro hc;have hw1:=h1.hw;refine Qag ?_;simp only[go_sem,hw1,IS.o];refine Qagi ?_;simp only[go_sem,Qg0];refine Qu7 h1 (st1.at_ hat) (st1.ok _ hsok) (by omega) fun s2 H2 h2 st2 ex2=>?_;simp only[go_sem,Qgz];refine Qi ?_;rw[Qbdi,fn1]at ex2;exact retf _ _ s2 H2 h2 ((st1.trans st2).mono (by omega)) (fin _ _ s2 (by rw[show x.op=13 by simpa using hc];rfl) (by rw[if_pos (by simpa using hc)]) ex2) (by simp[lk];try rfl)
 intro hc6;refine Qe ?_;try simp only[go_sem]
 refine Qa ?_;simp only[go_sem];refine Qu7 h1 (st1.at_ hat) (st1.ok _ hsok) (by omega) fun s2 H2 h2 st2 ex2=>?_;simp only[go_sem,Qg1];refine Qi ?_;exact retf _ _ s2 H2 h2 ((st1.trans st2).mono (by omega)) (fin _ _ s2 (by rw[Q9t,if_neg (by simpa using hc4),if_neg (by simpa using hc5),if_neg (by simpa using hc6)]) (by rw[if_neg (by simpa using hc6)]) ex2) (by simp[lk];try rfl)
theorem Qble (n:Nat):IExX n:=by
 induction n using Nat.strongRecOn with
 |ind n ih=>exact Qbii ih
end Go.AE.Y
namespace Go.AE.Y
open Go.Proofs.Tryz
variable {F H:Heap}{w:Nat}{s:LS}{K:V→Heap→Prop}
def row9 (p:List UInt8×Nat):List C:=[.str p.1,.int .i64 p.2,.int .i64 0]
def Qop (v:Vars):List (List C):=(v.flatten.map row9).reverse
theorem Qoq (v:Vars):Qop ([]::v)=Qop v:=by simp[Qop]
theorem Qbfe (m b:List (List UInt8×Nat))(r:Vars):Qop ((m++b)::r)=Qop (b::r)++(m.map row9).reverse:=by simp[Qop]
theorem Qa9i (m b:List (List UInt8×Nat))(r:Vars):(Qop ((m++b)::r)).take (Qop (b::r)).length=Qop (b::r):=by rw[Qbfe,List.take_left]
theorem Qayw (b:List (List UInt8×Nat))(r:Vars)(s:List UInt8)(n:Nat):Qop (Qbq (b::r) s n)=Qop (b::r)++[row9 (s,n)]:=by simp[Qop,Qbq]
theorem Qagj (v:Vars):rgR (Qop v)=Qbf v (-1):=by
 funext name
 have h:(hasN name ∘ row9)=fun p:List UInt8×Nat=>decide (p.1=name):=rfl;rw[rgR,Qop,List.reverse_reverse,List.find?_map,h,Qbf,Vars.find];cases v.flatten.find? fun p=>decide (p.1=name) <;> rfl
theorem Q84 (rg fi:List UInt8→Int)(l:List Ex)(s:Lw)(h:0<l.length):Qah rg fi (l.take 1) s=((l[0].low rg fi s).1,[(l[0].low rg fi s).2]):=by
 match l,h with
 |x::r,_=>simp[Qah]
theorem St.low_eq (d:Int)(fi:List UInt8→Int)(x:St)(w:Lv):x.low d fi w =
  if x.op=6 then
   let b:=w.s.bs.length;let s1:=(w.s.add 3).jump 1 0 [(b:Int)] b;let s2:=(Qah (Qbf w.v d) fi (x.args.take 1) s1).1;let s3:=s2.jump 2 ((Qah (Qbf w.v d) fi (x.args.take 1) s1).2.getD 0 0) [(b:Int)+1,(b:Int)+2] (b+1);let w4:=Qaa d fi x.body ⟨s3,[]::w.v,w.next⟩
   ⟨w4.s.jump 1 0 [(b:Int)] (b+2),w.v,w4.next⟩
  else if x.op=5 then
   let s1:=(Qah (Qbf w.v d) fi x.args w.s).1;let b:=s1.bs.length;let s2:=(s1.add 3).jump 2 ((Qah (Qbf w.v d) fi x.args w.s).2.getD 0 0) [(b:Int),(b:Int)+1] b;let w3:=Qaa d fi x.body ⟨s2,[]::w.v,w.next⟩;let w4:=Qaa d fi x.els ⟨w3.s.jump 1 0 [(b:Int)+2] (b+1),[]::w.v,w3.next⟩
   ⟨w4.s.jump 1 0 [(b:Int)+2] (b+2),w.v,w4.next⟩
  else w.one d fi x.op x.name x.args:=by cases x;simp only[St.low,St.op,St.name,St.args,St.body,St.els];rfl
theorem St.low_top {d:Int}{fi:List UInt8→Int}{x:St}{w:Lv}{b:List (List UInt8×Nat)}{r:Vars}(h:w.v=b::r):∃m,(x.low d fi w).v=(m++b)::r:=by
 rw[St.low_v,h];split
 ·exact⟨[(x.name,w.next)],rfl⟩
 ·exact⟨[],rfl⟩
theorem Qpm {d:Int}{fi:List UInt8→Int}:∀{l:List St} {w:Lv} {b:List (List UInt8×Nat)} {r:Vars},w.v=b::r→∃m,(Qaa d fi l w).v=(m++b)::r
 |[],w,b,r,h=>⟨[],by rw[Qaa];exact h⟩
 |x::l,w,b,r,h=>by
  obtain⟨m,hm⟩:=St.low_top (d:=d) (fi:=fi) (x:=x) h;obtain⟨m2,hm2⟩:=Qpm (d:=d) (fi:=fi) (l:=l) hm;exact⟨m2++m,by rw[Qaa,hm2,Jg]⟩
def LTv (s:LS)(l:Lv):Prop:=LTo s l.s (Qop l.v) l.next
def LwSt (n:Nat):Prop:=∀(x:St) (F H:Heap) (w:Nat) (s:LS) (N:Nat) (K:V→Heap→Prop) (l:Lv),l.v≠[]→LTv s l→x.size≤n→x.ok→LInv F H w s→s.at_<s.blocks.length→s.ok N→N+10 * x.size≤2^38→
  (∀(s':LS) (H':Heap),LInv F H' w s'→LStep s s' (10 * x.size)→LTv s' (x.low (-1) (Qb9 s.fns) l)→K (.tup []) H')→Ql prog Qp5 [.c (.ptr w 0),.ag x.cells] H K
def Qboj (n:Nat):Prop:=∀(x:St) (F H:Heap) (w:Nat) (s:LS) (N:Nat) (K:V→Heap→Prop) (l:Lv),l.v≠[]→LTv s l→x.op=6→x.size≤n→x.ok→LInv F H w s→s.at_<s.blocks.length→s.ok N→N+10 * x.size≤2^38→
  (∀(s':LS) (H':Heap),LInv F H' w s'→LStep s s' (10 * x.size)→LTv s' (x.low (-1) (Qb9 s.fns) l)→K (.tup []) H')→Ql prog Qp4 [.c (.ptr w 0),.ag x.cells] H K
def Qbhm (n:Nat):Prop:=∀(l:List St) (fl:Bool) (F H:Heap) (w:Nat) (s:LS) (N:Nat) (K:V→Heap→Prop) (lv:Lv),lv.v≠[]→LTv s lv→Qh l≤n→Qcn l→LInv F H w s→s.at_<s.blocks.length→s.ok N→N+10 * Qh l≤2^38→
  (∀(s':LS) (H':Heap),LInv F H' w s'→LStep s s' (10 * Qh l)→LTo s' (Qaa (-1) (Qb9 s.fns) l lv).s (Qop lv.v) (Qaa (-1) (Qb9 s.fns) l lv).next→K (.tup []) H')→Ql prog Qdd [.c (.ptr w 0),.c (.sl fl 5 (Qm l))] H K
theorem Qbn3 {n:Nat}(hS:LwSt n):Qbhm n:=by
 intro l fl F H w s N K lv hne hto hn hok h hat hsok hN hK;obtain⟨tb,tr,htb⟩:∃tb tr,lv.v=tb::tr:=by
  cases hv:lv.v with
  |nil=>exact absurd hv hne
  |cons b r=>exact⟨b,r,rfl⟩
 have hw:=h.hw;obtain⟨hv1,hv2⟩:=h.vget;have hvl:=h.gv.lenC;have hvo:=h.gv.isOw;refine Qb Qai Qauy ?_;refine Qa ?_;simp only[go_sem,hw,LS.o,hv1,hvl,hvo];intro hvlim;refine Q4 ?_;refine Qa ?_;simp only[go_sem];refine Qf (Qd (Qw (fun n e1 H1=>∃(i:Nat) (s':LS),n=l.length-i∧i≤l.length∧LInv F H1 w s'∧LStep s s' (10 * Qh (l.take i))∧LTv s' (Qaa (-1) (Qb9 s.fns) (l.take i) lv)∧e1=[(0,.c (.ptr w 0)),(1,.c (.sl fl 5 (Qm l))),(4,.c (.int .i64 s.vars.length)),(5,.c (.int .i64 i))]) l.length ?_ ?_))
 ·exact⟨0,s,by omega,by omega,h,(LStep.refl s).mono (by omega),by rw[Jw,Qaa];exact hto,rfl⟩
 ·rintro n e1 H1 ⟨i,s1,hn1,hi,h1,st1,ex1,rfl⟩;refine Q4 ?_;refine Qa ?_;simp only[go_sem,Qu];intro hl;simp only[LIM]at hl;refine Qf (Qc rfl ?_ ?_)
  ·intro hc;have hlt:i<l.length:=by simpa using hc
   have hm:=Qbg (Jb hlt);have htk:=Qd4 hlt;have htl:=Qa6 l (i+1);refine Qe ?_;simp only[go_sem];refine Qf (Qd (Qq ?_));simp only[go_sem,hlt,Qu,Qbc _ _ hlt,St.take5,St.allOw,St.cells_len];refine hS l[i] F H1 w s1 _ _ (Qaa (-1) (Qb9 s.fns) (l.take i) lv) (by obtain⟨m,hm⟩:=Qpm (d:=-1) (fi:=Qb9 s.fns) (l:=l.take i) htb;rw[hm];simp) ex1 (by omega) (Qan5 hok _ (Jb hlt)) h1 (st1.at_ hat) (st1.ok _ hsok) (by omega) fun s2 H2 h2 st2 ex2=>?_;refine Qq ?_;simp only[go_sem,X.next];exact⟨Qo (by omega) (by omega),l.length-(i+1),by omega,i+1,s2,rfl,by omega,h2,(st1.trans st2).mono (by rw[htk];omega),by rw[Je hlt,Qatv,Qaa,Qaa,←st1.fn.1];rw[←st1.fn.1]at ex2;exact ex2,rfl⟩
  ·intro hc;have hge:l.length≤i:=by simpa using hc
   rw[Jd hge]at st1 ex1;have hw1:=h1.hw;obtain⟨hv1',hv2'⟩:=h1.vget;have hvl':=h1.gv.lenC;have hvo':=h1.gv.isOw;have hve':=h1.gv.elemSz;have hvle:=st1.vl;have hrv:∀r∈s1.vars.take s.vars.length,VarRow r:=fun r hr=>h1.rv r (List.mem_of_mem_take hr);have fin:∀(H2:Heap) (c:C),H2=H1.set w (LS.o { s1 with vc:=c })→VGr s1.lv (s1.vars.take s.vars.length) c→Qs Qqi K .nrm [] H2:=by
    intro H2 c h2 hg;simp only[Qs,Q6,Qqi];refine⟨by simp,hK { s1 with vc:=c,vars:=s1.vars.take s.vars.length } H2 (h1.setw h2 rfl rfl rfl rfl hg hrv) ⟨st1.bl,fun M hM=>?_,by simp;omega,st1.at_,st1.fn⟩ ⟨ex1.d,by
     obtain⟨m,hm⟩:=Qpm (d:=-1) (fi:=Qb9 s.fns) (l:=l) htb;show s1.vars.take s.vars.length=_;rw[ex1.vars,hto.vars,hm,htb,Qa9i],ex1.next⟩⟩
    have:=st1.ok M hM;exact⟨this.r0,this.r1,this.n0,this.n1,this.b1,this.i1,by have:=this.v1;simp;omega⟩
   refine Qv ?_;simp only[go_sem,X.next];refine Qq ?_;rcases h1.gv with ⟨g1,g2,g3⟩|⟨y,all,k,g1,g2,g3,g4⟩
   ·have hz:s.vars.length=0:=(by rw[g2]at hvle;simpa using hvle);simp only[go_sem,hw1,LS.o,g1,hz,Ja2,List.drop_nil];refine⟨⟨by omega,by omega⟩,fun H2 h2=>?_⟩;refine fin H2 (.sl true 3 []) h2 (.inl ⟨rfl,by rw[g2];simp,g3⟩)
   ·rw[g1]at hv1' hvl';have hk:k=s1.vars.length:=(by simpa[lenC]using hvl');simp only[go_sem]at hv1';simp only[go_sem,hw1,LS.o,g1,hv1'];refine⟨⟨by omega,by omega⟩,fun H2 h2=>?_⟩;refine fin H2 (.vsl y 3 0 (s.vars.length-0)) h2 (.inr ⟨y,all,s.vars.length-0,rfl,by omega,?_,g4⟩);rw[g3,Ja1];congr 1;omega
end Go.AE.Y
namespace Go.AE.Y
mutual
theorem Ex.form_ok:∀(x:Ex) (d:Int),x.form d=true→x.ok
 |.mk op n name kids,d,h=>by
  rw[Ex.form,Jh,Jh]at h;obtain⟨⟨_,hh⟩,hk⟩:=h;simp only[Qag1,Jh,decide_eq_true_eq]at hh;have h2:=hh.1.1.1.1.2;rw[Ex.ok];refine⟨fun h10=>?_,Qask kids _ hk⟩;subst h10;simp only[Qec,Qdw]at h2;omega
theorem Qask:∀(l:List Ex) (d:Int),Qdn l d=true→Qcx l
 |[],_,_=>by simp[Qcx]
 |x::r,d,h=>by
  rw[Qdn,Jh]at h;rw[Qcx];exact⟨Ex.form_ok x d h.1,Qask r d h.2⟩
end
theorem Qa18 {l:List Ex}(h:∀a∈l,a.valid=true):Qcx l:=by
 induction l with
 |nil=>simp[Qcx]
 |cons x r ih=>
  have h1:=h x (by simp);rw[Ex.valid,Jh]at h1;rw[Qcx];exact⟨Ex.form_ok x _ h1.1,ih fun a ha=>h a (by simp[ha])⟩
theorem Qat5 {l:List Ex}(h:∀a∈l,a.valid=true):Qp l≤l.length * 30:=by
 induction l with
 |nil=>simp[Qp]
 |cons x r ih=>
  have h1:=h x (by simp);rw[Ex.valid,Jh,decide_eq_true_eq]at h1;have h2:=ih fun a ha=>h a (by simp[ha]);simp only[Qp,Jk];omega
theorem Qblw (op:Int):argN op≤2:=by rw[argN];split <;> omega
mutual
theorem St.form_size:∀(x:St) (d:Int),x.form d=true→x.size≤100 * x.cnt∧x.ok
 |.mk op name args body els,d,h=>by
  rw[St.form_eq]at h;simp only[St.op,St.name,St.args,St.body,St.els,Jh]at h;obtain⟨⟨⟨_,hh⟩,hb⟩,he⟩:=h;simp only[Qadt,Jh,decide_eq_true_eq,List.all_eq_true]at hh;have hv:∀a∈args,a.valid=true:=hh.1.1.1.2;have hl:args.length=argN op:=hh.1.1.1.1.1.1.2;have h0:0<argN op:=by rw[argN];split <;> omega
  have h2:=Qblw op;have h3:=Qat5 hv;obtain⟨b1,b2⟩:=Qnh body _ hb;obtain⟨e1,e2⟩:=Qnh els _ he;have hs:=(St.mk op name args body els).size_eq;simp only[St.args,St.body,St.els]at hs;refine⟨?_,?_⟩
  ·rw[hs,St.cnt];omega
  ·rw[St.ok_eq];simp only[St.args,St.body,St.els];refine⟨by omega,?_,b2,e2⟩;exact Qa18 hv
theorem Qnh:∀(l:List St) (d:Int),Qay l d=true→Qh l≤100 * Qcp l∧Qcn l
 |[],_,_=>by simp[Qh,Qcp,Qcn]
 |x::r,d,h=>by
  rw[Qay,Jh]at h;obtain⟨a1,a2⟩:=St.form_size x d h.1;obtain⟨r1,r2⟩:=Qnh r d h.2;rw[Qh,Qcp,Qcn];exact⟨by omega,a2,r2⟩
end
mutual
theorem Ex.low_dd {v:Vars}{d d':Int}{fi:List UInt8→Int}:∀(x:Ex) (s:Lw),AllV v x.pre→x.low (Qbf v d) fi s=x.low (Qbf v d') fi s
 |.mk op m name kids,s,h=>by
  simp only[Ex.pre]at h;have hk:AllV v (Q7 kids):=fun e he=>h e (Jl _ he);simp only[Ex.low];by_cases h1:op=1
  ·simp only[h1,if_true]
  ·simp only[h1,if_false];by_cases h2:op=2
   ·simp only[h2,if_true];have:=h (.mk op m name kids) Jx (by simpa[Ex.op]using h2);obtain⟨r,hr⟩:=Jae.1 this;have hr:v.find name=some r:=hr;simp only[Qbf,hr]
   ·simp only[h2,if_false];by_cases h3:op=10
    ·simp only[h3,if_true];exact Qbdf kids s hk
    ·simp only[h3,if_false];rw[Quv kids s hk]
theorem Quv {v:Vars}{d d':Int}{fi:List UInt8→Int}:∀(l:List Ex) (s:Lw),AllV v (Q7 l)→Qah (Qbf v d) fi l s=Qah (Qbf v d') fi l s
 |[],s,_=>by simp[Qah]
 |x::r,s,h=>by
  simp only[Q7]at h;simp only[Qah];rw[Ex.low_dd (d':=d') x s h.app.1,Quv (d':=d') r _ h.app.2]
theorem Qbdf {v:Vars}{d d':Int}{fi:List UInt8→Int}:∀(l:List Ex) (s:Lw),AllV v (Q7 l)→Q29 (Qbf v d) fi l s=Q29 (Qbf v d') fi l s
 |[],s,_=>by simp[Q29]
 |x::r,s,h=>by
  simp only[Q7]at h;simp only[Q29];rw[Ex.low_dd (d':=d') x s h.app.1,Qa8s (d':=d') r _ _ _ h.app.2]
theorem Qa8s {v:Vars}{d d':Int}{fi:List UInt8→Int}:∀(l:List Ex) (t:Int) (r:Nat) (s:Lw),AllV v (Q7 l)→Qps (Qbf v d) fi t r l s=Qps (Qbf v d') fi t r l s
 |[],t,r,s,_=>by simp[Qps]
 |x::l,t,r,s,h=>by
  simp only[Q7]at h;simp only[Qps];rw[Ex.low_dd (d':=d') x s h.app.1]
end
mutual
theorem St.low_dd {fns:List Fn}{k:Nat}{d d':Int}{fi:List UInt8→Int}:∀(x:St) (dp:Int) (v:Vars) (n:Nat) (s:Lw),x.form dp=true→(x.ck fns k ⟨v,0,n⟩).c=0→x.low d fi ⟨s,v,n⟩=x.low d' fi ⟨s,v,n⟩
 |.mk op name args body els,dp,v,n,s,hf,hc=>by
  obtain⟨f1,f2,f3,f4,f5,_⟩:=Q9a hf;obtain⟨c1,c2,c3,c4,c5⟩:=Qa60 hc;simp only[St.low];by_cases h6:op=6
  ·subst h6;simp only[if_true,show ¬(6:Int)=1 by decide,if_false,Jak]at *;have hall:AllV v (Q7 (args.take 1)):=by
    have:Q7 args=Q7 (args.take 1)++Q7 (args.drop 1):=(by rw[←Qasl,Jt]);rw[this]at c1;exact c1.app.1
   rw[Quv (d':=d') _ _ hall,Qz0 (d':=d') body (dp-1) ([]::v) n _ f1 c3]
  ·simp only[h6,if_false];by_cases h5:op=5
   ·subst h5;simp only[if_true,show ¬(5:Int)=1 by decide,if_false,Jak]at *;rw[Quv (d':=d') _ _ c1,Qz0 (d':=d') body (dp-1) ([]::v) n _ f1 c3];have hbn:=fun s'=>Q8r (d:=d') (fi:=fi) body (dp-1) ⟨s',[]::v,n⟩ f1;simp only at hbn;rw[hbn,Qz0 (d':=d') els (dp-1) ([]::v) (n+Qac body) _ f2 c4]
   ·simp only[h5,if_false];unfold Lv.one;simp only[];rw[Quv (d':=d') _ _ c1];by_cases h1:op=1
    ·simp only[h1,if_true]
    ·simp only[h1,if_false];by_cases h2:op=2
     ·obtain⟨r,hr⟩:=Jae.1 (c2 h2);simp only[h2,if_true,Qbf,hr]
     ·simp only[h2,if_false]
theorem Qz0 {fns:List Fn}{k:Nat}{d d':Int}{fi:List UInt8→Int}:∀(l:List St) (dp:Int) (v:Vars) (n:Nat) (s:Lw),Qay l dp=true→(Qau fns k l ⟨v,0,n⟩).c=0→Qaa d fi l ⟨s,v,n⟩=Qaa d' fi l ⟨s,v,n⟩
 |[],dp,v,n,s,_,_=>by simp[Qaa]
 |x::r,dp,v,n,s,hf,hc=>by
  simp only[Qay,Jh]at hf;obtain⟨c1,c2⟩:=Qbk0 hc;simp only[Qaa];rw[St.low_dd (d':=d') x dp v n s hf.1 c1];have e1:=St.low_v d' fi x ⟨s,v,n⟩;have e2:=St.low_n (d:=d') (fi:=fi) x dp ⟨s,v,n⟩ hf.1;simp only at e1 e2;have e3:x.low d' fi ⟨s,v,n⟩=⟨(x.low d' fi ⟨s,v,n⟩).s,if x.op=1 then Qbq v x.name n else v,n+x.lets⟩:=by
   generalize x.low d' fi ⟨s,v,n⟩=R at e1 e2⊢;obtain⟨r1,r2,r3⟩:=R;simp only at e1 e2;rw[e1,e2]
  rw[e3];exact Qz0 (d':=d') r dp _ _ _ hf.2 c2
end
theorem FineP.low_dd {fns:List Fn}(h:FineP fns)(d d':Int):Qba d fns=Qba d' fns:=by
 rw[Qba,Qba];refine List.map_congr_left fun f hf=>?_;obtain⟨k,hk,rfl⟩:=Jam.1 hf;obtain⟨_,_,h3,_,_,_,h7⟩:=h.fn hk;rw[Qlj,Qlj,Qz0 (d':=d') _ _ _ _ _ h7 h3]
theorem FineP.sizes {fns:List Fn}(h:FineP fns):∀k (hk:k<fns.length),Qh fns[k].body≤4000∧Qcn fns[k].body∧fns[k].params.length≤3:=by
 intro k hk;obtain⟨_,_,_,_,_,h6,h7⟩:=h.fn hk;obtain⟨a1,a2⟩:=Qnh _ _ h7;have hv:=h.v;simp only[Qqa,Jh,decide_eq_true_eq]at hv;have hc:Qcp fns[k].body≤Qex fns:=by
  have h1:=Q83 hk;have h2:Qex (fns.take (k+1))≤Qex fns:=by
   conv=>rhs;rw[←Jt (k+1) fns,Qaxa]
   omega
  omega
 exact⟨by omega,a2,h6⟩
attribute [local go_sem] cond_true cond_false Bool.not_true Bool.not_false
open Go.Proofs.Tryz
variable {F H H':Heap}{w q:Nat}{s:IS}{K:V→Heap→Prop}{M Lg:List (Nat×Obj)}{sc:ScD}{v:Vars}{ls:List Nat}{lv:Lv}
def lobs (q:Nat)(nx:Int)(sc:ScD):List (Nat×Obj):=(q,.st [.int .i64 nx])::sc.ob
structure BSt (F H:Heap)(w:Nat)(s:IS)(q:Nat)(sc:ScD)(lv:Lv)(ls:List Nat):Prop where
 inv:IInv F H w s
 kn:Kn F H [] (s.L w++lobs q lv.next sc)
 ok:ScD.ok vI sc lv.v
 ls:sc.ls=ls
 len:∀x∈sc,x.2.2.length≤lv.next
 d:s.d=lv.s
theorem BSt.top {b:List (List UInt8×Nat)}{r:Vars}(h:BSt F H w s q sc lv ls)(hv:lv.v=b::r):∃l0 a0 es0 sr,sc=(l0,a0,es0)::sr∧MapOk vI es0 b∧ScD.ok vI sr r:=by
 have:=h.ok;rw[hv]at this
 match sc,this with
 |(l0,a0,es0)::sr,h=>exact⟨l0,a0,es0,sr,rfl,h.1,h.2⟩
theorem Qbjp (w:Lv)(d:Int)(fi:List UInt8→Int)(op:Int)(name:List UInt8)(args:List Ex):(w.one d fi op name args).next≤w.next+1∧w.next≤(w.one d fi op name args).next:=by
 unfold Lv.one;simp only[];split
 ·exact⟨Jf _,Jah _⟩
 ·split
  ·exact⟨Jah _,Jf _⟩
  ·split
   ·exact⟨Jah _,Jf _⟩
   ·split
    ·exact⟨Jah _,Jf _⟩
    ·split <;> exact⟨Jah _,Jf _⟩
mutual
theorem St.low_next {d:Int}{fi:List UInt8→Int}:∀(x:St) (w:Lv),(x.low d fi w).next≤w.next+x.size∧w.next≤(x.low d fi w).next
 |.mk op name args body els,w=>by
  have hs:=(St.mk op name args body els).size_eq;simp only[St.args,St.body,St.els]at hs;simp only[St.low];split
  ·have h1:∀s' v' n',(Qaa d fi body ⟨s',v',n'⟩).next≤n'+Qh body∧n'≤(Qaa d fi body ⟨s',v',n'⟩).next:=fun s' v' n'=>Qhu body ⟨s',v',n'⟩;dsimp only;exact⟨J0 (h1 _ _ _).1 (by omega),(h1 _ _ _).2⟩
  ·split
   ·have h1:∀s' v' n',(Qaa d fi body ⟨s',v',n'⟩).next≤n'+Qh body∧n'≤(Qaa d fi body ⟨s',v',n'⟩).next:=fun s' v' n'=>Qhu body ⟨s',v',n'⟩;have h2:∀s' v' n',(Qaa d fi els ⟨s',v',n'⟩).next≤n'+Qh els∧n'≤(Qaa d fi els ⟨s',v',n'⟩).next:=fun s' v' n'=>Qhu els ⟨s',v',n'⟩;dsimp only;exact⟨J0 (h2 _ _ _).1 (J0 (Nat.add_le_add_right (h1 _ _ _).1 _) (by omega)),J0 (h1 _ _ _).2 (h2 _ _ _).2⟩
   ·have h1:=Qbjp w d fi op name args;exact⟨by omega,h1.2⟩
theorem Qhu {d:Int}{fi:List UInt8→Int}:∀(l:List St) (w:Lv),(Qaa d fi l w).next≤w.next+Qh l∧w.next≤(Qaa d fi l w).next
 |[],w=>by simp[Qaa]
 |x::r,w=>by
  have h1:=St.low_next (d:=d) (fi:=fi) x w;have h2:=Qhu (d:=d) (fi:=fi) r (x.low d fi w);rw[Qaa,Qh];omega
end
def IBlX (n:Nat):Prop:=∀(l:List St) (fl:Bool) (F H:Heap) (w q:Nat) (s:IS) (N:Nat) (sc:ScD) (lv:Lv) (ls:List Nat) (K:V→Heap→Prop),Qh l≤n→Qcn l→BSt F H w s q sc lv ls→lv.v≠[]→s.at_<s.blocks.length→s.ok N→lv.next≤N→N+10 * Qh l≤2^38→
  (∀(s':IS) (H':Heap) (sc':ScD),BSt F H' w s' q sc' (Qaa 0 (Qb9 s.fns) l lv) ls→IStep s s' (10 * Qh l)→K (.tup []) H')→
  Ql prog Qa3 [.c (.ptr w 0),.c (.sl fl 5 (Qm l)),.c (scC ls),.c (.ptr q 0)] H K
theorem Qa2h {n N:Nat}{body:List St}{fl:Bool}{x9:Nat}{o9:Obj}(hB:IBlX n)(hn:Qh body≤n)(hok:Qcn body)(h:IInv F H w s)(kn:Kn F H [] (s.L w++((x9,o9)::lobs q lv.next sc)))(hsc:ScD.ok vI sc lv.v)(hls:sc.ls=ls)
  (hlen:∀x∈sc,x.2.2.length≤lv.next) (hd:s.d=lv.s) (hat:s.at_<s.blocks.length) (hsok:s.ok N) (hnx:lv.next≤N) (hN:N+10 * Qh body≤2^38)
  {K2:V→Heap→Prop} (hK:∀(lm:Nat) (H1:Heap),H1 x9=o9→(∀K3:V→Heap→Prop,(∀(s':IS) (H':Heap) (sc':ScD),IInv F H' w s'→Kn F H' [] (s'.L w++((x9,o9)::lobs q ((Qaa 0 (Qb9 s.fns) body ⟨lv.s,[]::lv.v,lv.next⟩).next:Int) sc'))→ScD.ok vI sc' lv.v→sc'.ls=ls→
   (∀x∈sc',x.2.2.length≤(Qaa 0 (Qb9 s.fns) body ⟨lv.s,[]::lv.v,lv.next⟩).next)→s'.d=(Qaa 0 (Qb9 s.fns) body ⟨lv.s,[]::lv.v,lv.next⟩).s→IStep s s' (10 * Qh body)→K3 (.tup []) H')→
   Ql prog Qa3 [.c (.ptr w 0),.c (.sl fl 5 (Qm body)),.c (.pp [.mp lm,scC ls]),.c (.ptr q 0)] H1 K3)→K2 (.c (.pp [.mp lm,scC ls])) H1) :
  Ql prog Qa0 [.c (scC ls)] H K2:=by
 refine Q8q (Qads ls) fun lm nn H1 hlm h1=>hK lm H1 ((kn.al hlm h1).get (x9,o9) (by simp)).1 fun K3 hK3=>?_;have kn1:=kn.al hlm h1;have kn2:Kn F H1 [] ((s.L w++lobs q lv.next ((lm,nn,[])::sc))++[(x9,o9)]):=kn1.perm (by
  simp only[lobs,ScD.ob,J1,Jg,Jr];refine .append_left _ ?_;refine (List.Perm.swap _ _ _).trans (.cons _ ?_);refine List.Perm.trans (l₂:=(lm,Obj.map nn [])::(x9,o9)::List.map (fun x=>(x.1,Obj.map x.2.1 x.2.2)) sc) ?_ (.cons _ ?_)
  ·exact (Ji (l₁:=(x9,o9)::List.map (fun x=>(x.1,Obj.map x.2.1 x.2.2)) sc) (l₂:=[(lm,Obj.map nn [])]))
  ·exact (Ji (l₁:=[(x9,o9)])))
 obtain⟨F',k1,k2,k3,k4⟩:=kn2.sideX;have b0:BSt F' H1 w s q ((lm,nn,[])::sc) ⟨lv.s,[]::lv.v,lv.next⟩ (lm::ls):=
  ⟨⟨k1.drop,h.gb,h.gi,h.ri⟩,k1,⟨MapOk.nil vI,hsc⟩,by rw[←hls];rfl,fun x hx=>by
   rcases Jag.1 hx with rfl|hx
   ·exact Nat.zero_le _
   ·exact hlen x hx,hd⟩
 refine hB body fl F' H1 w q s N _ ⟨lv.s,[]::lv.v,lv.next⟩ (lm::ls) K3 hn hok b0 (by simp) hat hsok hnx hN fun s' H' sc' b' st'=>?_;have kn3:=k4 _ _ b'.kn;obtain⟨m,hm⟩:=Qpm (d:=0) (fi:=Qb9 s.fns) (l:=body) (w:=⟨lv.s,[]::lv.v,lv.next⟩) (b:=[]) (r:=lv.v) rfl;obtain⟨l0,a0,es0,sr,rfl,_,hsr⟩:=b'.top hm;have hls':=b'.ls;simp only[ScD.ls,J1,Jaw]at hls';have kn4:Kn F H' [] ((s'.L w++lobs q ((Qaa 0 (Qb9 s.fns) body ⟨lv.s,[]::lv.v,lv.next⟩).next:Int) sr)++[(x9,o9)]):=
  kn3.sub (.append (.append (List.Sublist.refl _) (.cons_cons _ (.cons _ (List.Sublist.refl _)))) (List.Sublist.refl _))
 have kn5:Kn F H' [] (s'.L w++((x9,o9)::lobs q ((Qaa 0 (Qb9 s.fns) body ⟨lv.s,[]::lv.v,lv.next⟩).next:Int) sr)):=kn4.perm (by
  rw[Jg];exact .append_left _ Ji)
 exact hK3 s' H' sr ⟨kn5.drop,b'.inv.gb,b'.inv.gi,b'.inv.ri⟩ kn5 hsr hls'.2 (fun x hx=>b'.len x (Jl _ hx)) b'.d st'
theorem BSt.of {x9:Nat}{o9:Obj}{nx:Nat}(h:IInv F H w s)(kn:Kn F H [] (s.L w++((x9,o9)::lobs q nx sc)))(ok:ScD.ok vI sc v)(hls:sc.ls=ls)(len:∀x∈sc,x.2.2.length≤nx)(e:lv=⟨s.d,v,nx⟩):BSt F H w s q sc lv ls:=by
 subst e;exact⟨h,kn.sub (.append (List.Sublist.refl _) (.cons _ (List.Sublist.refl _))),ok,hls,len,rfl⟩
theorem Qa8w {n N:Nat}{x:Ex}(hE:IExX n)(hn:x.size≤n)(hok:x.ok)(h:IInv F H w s)(hsc:ScIn F sc v)(hat:s.at_<s.blocks.length)(hsok:s.ok N)(hN:N+10 * x.size≤2^38)
  (hK:∀(s':IS) (H':Heap),IInv F H' w s'→IStep s s' (10 * x.size)→s'.d=(x.low (Qbf v 0) (Qb9 s.fns) s.d).1→K (.c (.int .i64 (x.low (Qbf v 0) (Qb9 s.fns) s.d).2)) H') :
  Ql prog Qc3 [.ag x.cells,.c (.pp [.ptr w 0]),.c (.pp [scC sc.ls])] H K:=by
 have how:=Qads sc.ls;refine Qb Qai Qsy ?_;refine Qa ?_;simp only[go_sem,x.cells_eq,how];refine Qa ?_;simp only[go_sem,how];have hx:=hE x F H w s N sc v;rw[x.cells_eq]at hx;refine hx _ hn hok h hsc hat hsok hN fun s1 H1 h1 st1 ex1=>?_;simp only[go_sem,Qeu];refine Qi ?_;simp only[go_sem,Qs,Q6,Qm6,Ja,forall_eq,RS.op];exact hK s1 H1 h1 st1 ex1
structure BEnv (e:Env)(w q:Nat)(ls:List Nat)(fl:Bool)(l:List St)(i:Nat):Prop where
 l3:lk 3 e=.c (.ptr q 0)
 l4:lk 4 e=.c (.pp [.ptr w 0])
 l6:lk 6 e=.c (.pp [scC ls])
 l16:lk 16 e=.c (.sl fl 5 (Qm l))
 l17:lk 17 e=.c (.int .i64 l.length)
 l18:lk 18 e=.c (.int .i64 i)
theorem Qbqy {n N:Nat}{x:St}{l:List St}{fl:Bool}{i:Nat}{e:Env}{Q:X→Env→Heap→Prop}(hB:∀m,m<n→IBlX m)(hn:x.size≤n)(hok:x.ok)(b:BSt F H w s q sc lv ls)(hne:lv.v≠[])(hat:s.at_<s.blocks.length)
  (hsok:s.ok N) (hnx:lv.next≤N) (hN:N+10 * x.size≤2^38) (he:BEnv e w q ls fl l i) (hi:i<l.length) (hx:l[i]=x)
  (hQ:∀(e':Env) (H':Heap) (s':IS) (sc':ScD),BEnv e' w q ls fl l i→BSt F H' w s' q sc' (x.low 0 (Qb9 s.fns) lv) ls→IStep s s' (10 * x.size)→Q8 prog Qgq Q e' H') :
  Q8 prog Qgr Q e H:=by
 obtain⟨l3,l4,l6,l16,l17,l18⟩:=he;obtain rfl:=b.ls;have how:=Qads sc.ls;have hsz:=x.size_eq;have hok0:=hok;rw[St.ok_eq]at hok;obtain⟨hap,hao,hbo,heo⟩:=hok;have ham:=Qan (Jb hap);refine Qf (Qd ?_);refine Qa ?_;simp only[go_sem,l3,l4,l6,l16,l17,l18,how,hi,Qu,Qbc _ _ hi,hx,x.cells_eq];intro x9 hx9 H1 h1;have kn:Kn F H1 [] (s.L w++((x9,.st [.int .i64 0,.str [],.sl true 4 [],.sl true 5 [],.sl true 5 []])::lobs q lv.next sc)):=(b.kn.al hx9 h1).perm (by
  rw[Jg];exact .append_left _ Ji)
 have g9:H1 x9=_:=(kn.get (x9,.st [.int .i64 0,.str [],.sl true 4 [],.sl true 5 [],.sl true 5 []]) (by simp)).1;simp only[go_sem,Qgs,g9,how];intro H2 h2;have kn:Kn F H2 [] (s.L w++((x9,.st [.int .i64 x.op,.str x.name,.sl false 4 (Qy x.args),.sl false 5 (Qm x.body),.sl false 5 (Qm x.els)])::lobs q lv.next sc)):=kn.stM h2;obtain⟨o9,ho9⟩:∃o9,Obj.st [.int .i64 x.op,.str x.name,.sl false 4 (Qy x.args),.sl false 5 (Qm x.body),.sl false 5 (Qm x.els)]=o9:=⟨_,rfl⟩;rw[ho9]at kn;obtain⟨F',hf,_,hM,back⟩:=(b.inv.re kn.drop).sideX kn;have hsc:ScIn F' sc lv.v:=⟨fun p hp=>hM p (Jl _ (Jl _ hp)),b.ok⟩;have g9f:F' x9=o9:=hM (x9,o9) (by simp);have g9:∀(H':Heap) (s':IS),IInv F' H' w s'→H' x9=.st [.int .i64 x.op,.str x.name,.sl false 4 (Qy x.args),.sl false 5 (Qm x.body),.sl false 5 (Qm x.els)]:=fun H' s' h'=>by
  rw[h'.kn.chg x9 (by rw[g9f,←ho9];nofun) (by simp),g9f,ho9]
 have g92:=g9 _ _ hf;simp only[l3,l4,l6,l16,l17,l18];refine Q4 ?_;refine Qa ?_;simp only[go_sem,g92,how];refine Qf (Qc rfl ?_ ?_)
 ·intro hc;have hop:x.op=6:=by simpa using hc
  have hb1:=hsok.b1;refine Qa ?_;simp only[go_sem,how];refine Qahh (n:=3) hf hsok (by omega) fun s1 H3 h1 st1 hbb1 ex1=>?_;simp only[go_sem,Qgt];refine Qa ?_;simp only[go_sem,how];refine Q3a (next:=[(s.blocks.length:Int)]) (at':=s.blocks.length) (N:=0) h1 (st1.at_ hat) (by omega) fun s2 H4 h2 st2 ex2=>?_;have hb2:=st2.bl;have st2:=st1.trans st2;have g94:=g9 _ _ h2;simp only[go_sem];refine Qag ?_;simp only[go_sem,g94,how,hap,Qn,Qap _ _ hap,Ex.take4,Ex.allOw,Ex.cells_len];refine⟨by omega,?_⟩;refine Qble _ x.args[0] F' H4 w s2 _ sc lv.v _ (Jf _) (Qn8 hao _ (Jb hap)) h2 hsc (st2.at_ hat) (st2.ok _ hsok) (by omega) fun s3 H5 h3 st3 ex3=>?_;have hb3:=st3.bl;have st3:=st2.trans st3;simp only[go_sem,Qgu];refine Qa ?_;simp only[go_sem,how];refine⟨Qo (by omega) (by omega),Qo (by omega) (by omega),Qo (by omega) (by omega),?_⟩;rw[show ((s.blocks.length:Int)+1)=((s.blocks.length+1:Nat):Int)by omega,show ((s.blocks.length:Int)+2)=((s.blocks.length+2:Nat):Int)by omega];refine Q3a (next:=[((s.blocks.length+1:Nat):Int),((s.blocks.length+2:Nat):Int)]) (at':=s.blocks.length+1) (N:=0) h3 (st3.at_ hat) (by omega) fun s4 H6 h4 st4 ex4=>?_;have hb4:=st4.bl;have st4:=st3.trans st4;obtain⟨h4',kn4⟩:=back s4 H6 h4;have g96:=g9 _ _ h4;simp only[go_sem];refine Qag ?_;simp only[go_sem,g96,how];refine Qa2h (fl:=false) (lv:=⟨s4.d,lv.v,lv.next⟩) (hB (Qh x.body) (by omega)) (Jf _) hbo h4' kn4 b.ok rfl b.len rfl (st4.at_ hat) (st4.ok _ hsok) (J0 hnx (by omega)) (by omega) fun lm H7 g97 call=>?_;rw[←ho9]at g97;simp only[go_sem,Qgv,g97,how];refine call _ fun s5 H8 sc' h5 kn5 ok5 ls5 len5 d5 st5=>?_;have hb5:=st5.bl;have st5:=st4.trans st5;obtain⟨F2,hf2,_,_,back2⟩:=h5.sideX kn5;simp only[go_sem];refine Qa ?_;simp only[go_sem,how];refine⟨Qo (by omega) (by omega),?_⟩;rw[show ((s.blocks.length:Int)+2)=((s.blocks.length+2:Nat):Int)by omega];refine Q3a (next:=[(s.blocks.length:Int)]) (at':=s.blocks.length+2) (N:=0) hf2 (st5.at_ hat) (by omega) fun s6 H9 h6 st6 ex6=>?_;have st6:=st5.trans st6;obtain⟨h6,kn6⟩:=back2 s6 H9 h6;simp only[go_sem];refine Qv ?_;simp only[go_sem,AE.X.next];have f2:s2.fns=s.fns:=st2.fn.1;have f4:s4.fns=s.fns:=st4.fn.1;rw[f4]at d5 len5 kn6;rw[f2,ex2,ex1,b.d]at ex3;have hs4:s4.d=_:=ex4;have elow:x.low 0 (Qb9 s.fns) lv=⟨s6.d,lv.v,(Qaa 0 (Qb9 s.fns) x.body ⟨s4.d,[]::lv.v,lv.next⟩).next⟩:=by
   rw[ex6,d5,St.low_eq,if_pos hop,hs4,ex3];simp only[Q84 _ _ _ _ hap,f2,ex2,ex1,b.d,IS.dlen,Jm,Int.natCast_add];rfl
  exact hQ _ H9 s6 sc' ⟨rfl,rfl,rfl,rfl,rfl,rfl⟩ (.of h6 kn6 ok5 ls5 len5 elow) (st6.mono (by omega))
 ·intro hc0;refine Qe ?_;try simp only[go_sem]
  refine Qa ?_;simp only[go_sem,g92,how];refine Qbdq (n:=Qp x.args) (Jf _) hao hf hsc hat hsok (by omega) (fun y hy F2 H2 s2 N2 K2 h2 hsc2 hat2 hok2 hN2 hK2=>Qa8w (Qble _) (Jf _) (Qn8 hao _ hy) h2 hsc2 hat2 hok2 hN2 hK2) fun s1 H3 h1 st1 ex1=>?_;obtain⟨ars,hars⟩:∃ars,(Qah (Qbf lv.v 0) (Qb9 s.fns) x.args s.d).2=ars:=⟨_,rfl⟩;rw[hars];have harl:ars.length=x.args.length:=by rw[←hars,Qa8t]
  have har0:0<ars.length:=by omega
  have e1:Qah (Qbf lv.v 0) (Qb9 s.fns) x.args lv.s=(s1.d,ars):=by rw[←b.d];exact Prod.ext ex1.symm hars
  have one:¬x.op=5→x.low 0 (Qb9 s.fns) lv=lv.one 0 (Qb9 s.fns) x.op x.name x.args:=fun h5=>by rw[St.low_eq,if_neg (by simpa using hc0),if_neg h5]
  have hsok1:=st1.ok _ hsok;have hat1:=st1.at_ hat;have g93:=g9 _ _ h1;obtain⟨h1',kn1⟩:=back s1 H3 h1;have hb1:=hsok1.b1;simp only[go_sem,Qf7];refine Qa ?_;simp only[go_sem,g93,how];refine Qd ?_;refine Qa ?_;simp only[go_sem,how];refine Qc rfl ?_ ?_
  ·intro hc;have hop:x.op=1:=by simpa using hc
   obtain⟨tb,tr,htb⟩:∃tb tr,lv.v=tb::tr:=by
    cases hv:lv.v with
    |nil=>exact absurd hv hne
    |cons c r=>exact⟨c,r,rfl⟩
   obtain⟨l0,a0,es0,sr,hsce,hm0,hsr⟩:=b.top htb;subst hsce;have hsc0:scC (ScD.ls ((l0,a0,es0)::sr))=.pp [.mp l0,scC (ScD.ls sr)]:=rfl;have hows:=Qads (ScD.ls sr);have kn1':Kn F H3 [] ((s1.L w++[(x9,o9),(q,.st [.int .i64 lv.next])])++(l0,.map a0 es0)::ScD.ob sr):=by
    rw[Jg];exact kn1
   have gq:H3 q=.st [.int .i64 lv.next]:=(kn1'.get (q,.st [.int .i64 lv.next]) (by simp)).1;have gl:H3 l0=.map a0 es0:=kn1'.getM;have hlen0:es0.length≤lv.next:=b.len (l0,a0,es0) Jx;have hlim:=Qgj;refine Qag ?_;simp only[go_sem,hsc0,hows,g93,gq,gl];refine⟨hm0.ky,by omega,fun H4 h4=>?_⟩;have kn2:Kn F H4 [] ((s1.L w++[(x9,o9),(q,.st [.int .i64 lv.next])])++(l0,.map (a0+1) (Q8u (.str x.name) (.c (.int .i64 lv.next)) es0))::ScD.ob sr):=kn1'.stM h4;have hfe:Qfc (.str x.name) (Q8u (.str x.name) (.c (.int .i64 lv.next)) es0)=some (.c (.int .i64 lv.next)):=by
    rw[Qag5 _ _ _ _ hm0.ky,if_pos rfl]
   have hky:=Qan7 x.name (.c (.int .i64 lv.next)) es0 hm0.ky;have hul:=Qago x.name (.c (.int .i64 lv.next)) es0;have hmo:MapOk vI (Q8u (.str x.name) (.c (.int .i64 lv.next)) es0) ((x.name,lv.next)::tb):=hm0.put x.name lv.next;obtain⟨es1,hes1⟩:∃es1,Q8u (.str x.name) (.c (.int .i64 lv.next)) es0=es1:=⟨_,rfl⟩;rw[hes1]at kn2 hfe hky hul hmo;have gq4:H4 q=.st [.int .i64 lv.next]:=(kn2.get (q,.st [.int .i64 lv.next]) (by simp)).1;refine Qa ?_;simp only[go_sem,hsc0,hows,gq4];refine⟨Qo (by omega) (by omega),fun H5 h5=>?_⟩;have kn3:Kn F H5 [] (s1.L w++((x9,o9)::lobs q ((lv.next+1:Nat):Int) ((l0,a0+1,es1)::sr))):=by
    have k0:Kn F H4 [] ((s1.L w++[(x9,o9)])++(q,.st [.int .i64 lv.next])::((l0,.map (a0+1) es1)::ScD.ob sr)):=by
     rw[Jg]at kn2⊢;exact kn2
    have k1:=k0.stM (o':=.st [.int .i64 ((lv.next:Int)+1)]) h5;rw[Jg]at k1;exact k1
   have h5':=h1'.re kn3.drop;obtain⟨F2,hf2,_,hM2,back2⟩:=h5'.sideX kn3;have g59:H5 x9=.st [.int .i64 x.op,.str x.name,.sl false 4 (Qy x.args),.sl false 5 (Qm x.body),.sl false 5 (Qm x.els)]:=by
    rw[(kn3.get (x9,o9) (by simp)).1,ho9]
   have gl5:H5 l0=.map (a0+1) es1:=(kn3.get (l0,.map (a0+1) es1) (by simp[lobs,ScD.ob])).1;have hent:Q9 H5 (.mp l0)=es1:=by simp only[Q9,gl5]
   have hokm:Qs0 H5 (.mp l0)=True:=by simp only[Qs0,gl5]
   refine Qeb ?_;simp only[go_sem,hsc0,hows,g59,hent,hokm,hfe,Option.getD_some];refine⟨hky,?_⟩;refine Qast hf2 hat1 hsok1 (by omega) fun s2 H6 h6 st2 ex2=>?_;obtain⟨h6,kn6⟩:=back2 s2 H6 h6;simp only[go_sem,AE.X.next];have elow:x.low 0 (Qb9 s.fns) lv=⟨s2.d,Qbq lv.v x.name lv.next,lv.next+1⟩:=by
    rw[one (by omega),Lv.one,if_pos hop];simp only[e1];rw[ex2]
   refine hQ _ H6 s2 ((l0,a0+1,es1)::sr) ⟨rfl,rfl,rfl,rfl,rfl,rfl⟩ (.of h6 kn6 ?_ rfl (fun y hy=>?_) elow) ((st1.trans st2).mono (by omega))
   ·rw[htb];exact⟨hmo,hsr⟩
   ·rcases Jag.1 hy with rfl|hy
    ·show es1.length≤_;omega
    ·have:=b.len y (Jl _ hy);omega
  intro hc1;refine Qa ?_;simp only[go_sem,how];refine Qc rfl ?_ ?_
  ·intro hc;have hop:x.op=2:=by simpa using hc
   refine Qa ?_;simp only[go_sem,g93,how];refine Qagk (hsc.find h1.kn) ?_;simp only[go_sem,Qf8,Jm,J5];refine Qq ?_;simp only[go_sem,how];refine Qast h1 hat1 hsok1 (by omega) fun s2 H4 h2 st2 ex2=>?_;obtain⟨h2,kn2⟩:=back s2 H4 h2;simp only[go_sem,AE.X.next];have elow:x.low 0 (Qb9 s.fns) lv=⟨s2.d,lv.v,lv.next⟩:=by
    rw[one (by omega),Lv.one,if_neg (by omega),if_pos hop];simp only[e1];rw[ex2,Qa78]
   exact hQ _ H4 s2 sc ⟨rfl,rfl,rfl,rfl,rfl,rfl⟩ (.of h2 kn2 b.ok rfl b.len elow) ((st1.trans st2).mono (by omega))
  intro hc2;refine Qa ?_;simp only[go_sem,how];refine Qc rfl ?_ ?_
  ·intro hc;have hop:x.op=3:=by simpa using hc
   refine Qq ?_;simp only[go_sem,how];refine Qast h1 hat1 hsok1 (by omega) fun s2 H4 h2 st2 ex2=>?_;obtain⟨h2,kn2⟩:=back s2 H4 h2;simp only[go_sem,AE.X.next];have elow:x.low 0 (Qb9 s.fns) lv=⟨s2.d,lv.v,lv.next⟩:=by
    rw[one (by omega),Lv.one,if_neg (by omega),if_neg (by omega),if_pos hop];simp only[e1];rw[ex2]
   exact hQ _ H4 s2 sc ⟨rfl,rfl,rfl,rfl,rfl,rfl⟩ (.of h2 kn2 b.ok rfl b.len elow) ((st1.trans st2).mono (by omega))
  intro hc3;refine Qa ?_;simp only[go_sem,how];refine Qc rfl ?_ ?_
  ·intro hc;have hop:x.op=4:=by simpa using hc
   refine Qq ?_;simp only[go_sem,how];refine Qast h1 hat1 hsok1 (by omega) fun s2 H4 h2 st2 ex2=>?_;obtain⟨h2,kn2⟩:=back s2 H4 h2;simp only[go_sem,AE.X.next];have elow:x.low 0 (Qb9 s.fns) lv=⟨s2.d,lv.v,lv.next⟩:=by
    rw[one (by omega),Lv.one,if_neg (by omega),if_neg (by omega),if_neg (by omega),if_pos hop];simp only[e1];rw[ex2]
   exact hQ _ H4 s2 sc ⟨rfl,rfl,rfl,rfl,rfl,rfl⟩ (.of h2 kn2 b.ok rfl b.len elow) ((st1.trans st2).mono (by omega))
  intro hc4;refine Qa ?_;simp only[go_sem,how];refine Qc rfl ?_ ?_
  ·intro hc;have hop:x.op=5:=by simpa using hc
   refine Qa ?_;simp only[go_sem,how];refine Qahh (n:=3) h1 hsok1 (by omega) fun s2 H4 h2 st2 hbb2 ex2=>?_;have st2:=st1.trans st2;have g94:=g9 _ _ h2;simp only[go_sem,Qf9];refine Qag ?_;simp only[go_sem,how,har0,Qj,Qak _ _ har0];try refine⟨by omega,?_⟩
   refine⟨Qo (by omega) (by omega),?_⟩;refine Q3a (next:=[(s1.blocks.length:Int),(s1.blocks.length:Int)+1]) (at':=s1.blocks.length) (N:=0) h2 (st2.at_ hat) (by omega) fun s3 H5 h3 st3 ex3=>?_;have hb3:=st3.bl;have st3:=st2.trans st3;have g95:=g9 _ _ h3;obtain⟨h3',kn3⟩:=back s3 H5 h3;simp only[go_sem];refine Qag ?_;simp only[go_sem,g95,how];refine Qa2h (fl:=false) (lv:=⟨s3.d,lv.v,lv.next⟩) (hB (Qh x.body) (by omega)) (Jf _) hbo h3' kn3 b.ok rfl b.len rfl (st3.at_ hat) (st3.ok _ hsok) (J0 hnx (by omega)) (by omega) fun lm H7 g97 call=>?_;rw[←ho9]at g97;simp only[go_sem,Qga,g97,how];refine call _ fun s5 H8 sc' h5 kn5 ok5 ls5 len5 d5 st5=>?_;have hb5:=st5.bl;have st5:=st3.trans st5;obtain⟨F2,hf2,_,hM2,back2⟩:=h5.sideX kn5;have how5:=Qads sc'.ls;simp only[go_sem];refine Qa ?_;simp only[go_sem,how];refine⟨Qo (by omega) (by omega),Qo (by omega) (by omega),?_⟩;rw[show ((s1.blocks.length:Int)+1)=((s1.blocks.length+1:Nat):Int)by omega,show ((s1.blocks.length:Int)+2)=((s1.blocks.length+2:Nat):Int)by omega];refine Q3a (next:=[((s1.blocks.length+2:Nat):Int)]) (at':=s1.blocks.length+1) (N:=0) hf2 (st5.at_ hat) (by omega) fun s6 H9 h6 st6 ex6=>?_;have hb6:=st6.bl;have st6:=st5.trans st6;have g99:H9 x9=.st [.int .i64 x.op,.str x.name,.sl false 4 (Qy x.args),.sl false 5 (Qm x.body),.sl false 5 (Qm x.els)]:=by
    have:=hM2 (x9,o9) (by simp);rw[h6.kn.chg x9 (by rw[this,←ho9];nofun) (by simp),this,ho9]
   obtain⟨h6,kn6⟩:=back2 s6 H9 h6;simp only[go_sem];refine Qag ?_;simp only[go_sem,g99,how];have f3:s3.fns=s.fns:=st3.fn.1;have f6:s6.fns=s.fns:=st6.fn.1;have hnb:(Qaa 0 (Qb9 s3.fns) x.body ⟨s3.d,[]::lv.v,lv.next⟩).next≤lv.next+Qh x.body∧lv.next≤(Qaa 0 (Qb9 s3.fns) x.body ⟨s3.d,[]::lv.v,lv.next⟩).next:=Qhu x.body ⟨s3.d,[]::lv.v,lv.next⟩;refine Qa2h (fl:=false) (lv:=⟨s6.d,lv.v,(Qaa 0 (Qb9 s3.fns) x.body ⟨s3.d,[]::lv.v,lv.next⟩).next⟩) (hB (Qh x.els) (by omega)) (Jf _) heo h6 kn6 ok5 ls5 len5 rfl (st6.at_ hat) (st6.ok _ hsok) (by show (Qaa 0 (Qb9 s3.fns) x.body ⟨s3.d,[]::lv.v,lv.next⟩).next≤_;omega) (by omega) fun lm2 H10 g910 call2=>?_;rw[←ho9]at g910;simp only[go_sem,Qgb,g910,how];refine call2 _ fun s7 H11 sc2 h7 kn7 ok7 ls7 len7 d7 st7=>?_;have hb7:=st7.bl;have st7:=st6.trans st7;obtain⟨F3,hf3,_,_,back3⟩:=h7.sideX kn7;simp only[go_sem];refine Qq ?_;simp only[go_sem,how];refine⟨Qo (by omega) (by omega),Qo (by omega) (by omega),?_⟩;rw[show ((s1.blocks.length:Int)+2)=((s1.blocks.length+2:Nat):Int)by omega];refine Q3a (next:=[((s1.blocks.length+2:Nat):Int)]) (at':=s1.blocks.length+2) (N:=0) hf3 (st7.at_ hat) (by omega) fun s8 H12 h8 st8 ex8=>?_;have st8:=st7.trans st8;obtain⟨h8,kn8⟩:=back3 s8 H12 h8;simp only[go_sem,AE.X.next];rw[f6]at d7 len7 kn8;have elow:x.low 0 (Qb9 s.fns) lv=⟨s8.d,lv.v,(Qaa 0 (Qb9 s.fns) x.els ⟨s6.d,[]::lv.v,(Qaa 0 (Qb9 s3.fns) x.body ⟨s3.d,[]::lv.v,lv.next⟩).next⟩).next⟩:=by
    rw[ex8,d7,ex6,d5,f3,ex3,ex2,St.low_eq,if_neg (by omega),if_pos hop];simp only[e1,IS.dlen,Int.natCast_add];rfl
   exact hQ _ H12 s8 sc2 ⟨rfl,rfl,rfl,rfl,rfl,rfl⟩ (.of h8 kn8 ok7 ls7 len7 elow) (st8.mono (by omega))
  intro hc5;refine Qa ?_;simp only[go_sem,how];refine Qc rfl ?_ ?_
  ·intro hc;have hop:x.op=7:=by simpa using hc
   refine Qeb ?_;simp only[go_sem,how,har0,Qj,Qak _ _ har0];try refine⟨by omega,?_⟩
   refine Qahh (n:=1) h1 hsok1 (by omega) fun s2 H4 h2 st2 hb2 ex2=>?_;simp only[go_sem,Qgc,how,har0,Qj,Qak _ _ har0];try refine⟨by omega,?_⟩
   refine Q3a (next:=[]) (at':=s1.blocks.length) (N:=0) h2 (st2.at_ hat1) (by omega) fun s3 H5 h3 st3 ex3=>?_;obtain⟨h3,kn3⟩:=back s3 H5 h3;simp only[go_sem,AE.X.next];have elow:x.low 0 (Qb9 s.fns) lv=⟨s3.d,lv.v,lv.next⟩:=by
    rw[one (by omega),Lv.one,if_neg (by omega),if_neg (by omega),if_neg (by omega),if_neg (by omega),if_pos hop];simp only[e1];rw[ex3,ex2,IS.dlen];try simp[Jc,har0]
   exact hQ _ H5 s3 sc ⟨rfl,rfl,rfl,rfl,rfl,rfl⟩ (.of h3 kn3 b.ok rfl b.len elow) (((st1.trans st2).trans st3).mono (by omega))
  intro hc7;refine Qe ?_;simp only[go_sem,AE.X.next];have elow:x.low 0 (Qb9 s.fns) lv=⟨s1.d,lv.v,lv.next⟩:=by
   rw[one (by simpa using hc5),Lv.one,if_neg (by simpa using hc1),if_neg (by simpa using hc2),if_neg (by simpa using hc3),if_neg (by simpa using hc4),if_neg (by simpa using hc7)];simp only[e1]
  exact hQ _ H3 s1 sc ⟨rfl,rfl,rfl,rfl,rfl,rfl⟩ (.of h1' kn1 b.ok rfl b.len elow) (st1.mono (by omega))
end Go.AE.Y
namespace Go.AE.Y
attribute [local go_sem] cond_true cond_false Bool.not_true Bool.not_false
open Go.Proofs.Tryz
theorem Qbdr {n:Nat}(hB:∀m,m<n→IBlX m):IBlX n:=by
 intro l fl F H w q s N sc lv ls K hn hok b hne hat hsok hnx hN hK;have how:=Qads ls;obtain⟨tb,tr,htb⟩:∃tb tr,lv.v=tb::tr:=by
  cases hv:lv.v with
  |nil=>exact absurd hv hne
  |cons c r=>exact⟨c,r,rfl⟩
 refine Qb Qai Q4j ?_;refine Qa ?_;simp only[go_sem,how];refine Qa ?_;simp only[go_sem,how,Qu];intro hl;simp only[LIM]at hl;refine Qd (Qw (fun m e1 H1=>∃(i:Nat) (s1:IS) (sc1:ScD),m=l.length-i∧i≤l.length∧BSt F H1 w s1 q sc1 (Qaa 0 (Qb9 s.fns) (l.take i) lv) ls∧IStep s s1 (10 * Qh (l.take i))∧
  e1=[(3,.c (.ptr q 0)),(4,.c (.pp [.ptr w 0])),(6,.c (.pp [scC ls])),(16,.c (.sl fl 5 (Qm l))),(17,.c (.int .i64 l.length)),(18,.c (.int .i64 i))]) l.length ?_ ?_)
 ·exact⟨0,s,sc,by omega,by omega,by rw[Jw,Qaa];exact b,(IStep.refl s).mono (by omega),rfl⟩
 ·rintro m e1 H1 ⟨i,s1,sc1,hm,hi,b1,st1,rfl⟩;refine Qa ?_;simp only[go_sem,how];refine Qf (Qc rfl ?_ ?_)
  ·intro hc;have hlt:i<l.length:=by simpa using hc
   have hms:=Qbg (Jb hlt);have htk:=Qd4 hlt;have htl:=Qa6 l (i+1);have hnt:=Qhu (d:=0) (fi:=Qb9 s.fns) (l.take i) lv;refine Qe ?_;try simp only[go_sem]
   refine Qbqy hB (by omega) (Qan5 hok _ (Jb hlt)) b1 (by obtain⟨m,hm⟩:=Qpm (d:=0) (fi:=Qb9 s.fns) (l:=l.take i) htb;rw[hm];simp) (st1.at_ hat) (st1.ok _ hsok) (by omega) (by omega) ⟨rfl,rfl,rfl,rfl,rfl,rfl⟩ hlt rfl fun e' H' s' sc' he' b' st'=>?_;obtain⟨l3,l4,l6,l16,l17,l18⟩:=he';refine Qq ?_;simp only[go_sem,AE.X.next,l3,l4,l6,l16,l17,l18,how];exact⟨Qo (by omega) (by omega),l.length-(i+1),by omega,i+1,s',sc',rfl,by omega,by rw[Je hlt,Qatv,Qaa,Qaa,←st1.fn.1];rw[←st1.fn.1]at b';exact b',(st1.trans st').mono (by rw[htk];omega),rfl⟩
  ·intro hc;have hge:l.length≤i:=by simpa using hc
   rw[Jd hge]at b1 st1;refine Qv ?_;simp only[go_sem,AE.X.next];simp only[Qs,Q6,Qqi];exact⟨by simp,hK s1 H1 sc1 b1 st1⟩
theorem Qbmv (n:Nat):IBlX n:=by
 induction n using Nat.strongRecOn with
 |ind n ih=>exact Qbdr ih
end Go.AE.Y
namespace Go.AE.Y
open Go.Proofs.Tryz
variable {F H:Heap}{w:Nat}{s:LS}{K:V→Heap→Prop}
theorem Qbej {n:Nat}(hS:∀m,m<n→Qbhm m):Qboj n:=by
 intro x F H w s N K l hne hto hop hn hok h hat hsok hN hK;have hsz:=x.size_eq;rw[St.ok_eq]at hok;obtain⟨hap,hao,hbo,heo⟩:=hok;have ham:=Qan (Jb hap);refine Qb Qai Qayd ?_;refine Qa ?_;simp only[go_sem,x.cells_eq];refine Qa ?_;simp only[go_sem];refine Qhv h hsok (by omega) fun s1 H1 h1 st1 hb1 ex1=>?_;simp only[go_sem,Qyv];refine Qa ?_;simp only[go_sem];refine Qhv h1 (st1.ok _ hsok) (by omega) fun s2 H2 h2 st2 hb2 ex2=>?_;have st2:=st1.trans st2;simp only[go_sem,Qyw];refine Qa ?_;simp only[go_sem];refine Qhv h2 (st2.ok _ hsok) (by omega) fun s3 H3 h3 st3 hb3 ex3=>?_;have st3:=st2.trans st3;simp only[go_sem,Qyx];refine Qa ?_;simp only[go_sem];refine Q3b (next:=[(s.blocks.length:Int)]) (N:=0) h3 (st3.at_ hat) (by omega) fun s4 H4 h4 st4 ex4=>?_;have hb4:=st4.bl;have st4:=st3.trans st4;refine Qa ?_;simp only[go_sem,hap,Qn,Qap _ _ hap,Ex.take4,Ex.allOw,Ex.cells_len];refine⟨by omega,?_⟩;refine Qboz _ x.args[0] F H4 w s4 _ _ (Jf _) (Qn8 hao _ (Jb hap)) h4 (st4.at_ hat) (st4.ok _ hsok) (by omega) fun s5 H5 h5 st5 ex5=>?_;have hb5:=st5.bl;have st5:=st4.trans st5;simp only[go_sem,Qyy];refine Qa ?_;simp only[go_sem];refine Q3b (next:=[(s1.blocks.length:Int),(s2.blocks.length:Int)]) (N:=0) h5 (st5.at_ hat) (by omega) fun s6 H6 h6 st6 ex6=>?_;have hb6:=st6.bl;have st6:=st5.trans st6;refine Qa ?_;simp only[go_sem];refine hS (Qh x.body) (by omega) x.body _ F H6 w s6 _ _ ⟨s6.d,[]::l.v,l.next⟩ (by simp) ⟨rfl,by rw[ex6.vars,ex5.vars,ex4.vars,ex3.vars,ex2.vars,ex1.vars,hto.vars,Qoq],by rw[ex6.next,ex5.next,ex4.next,ex3.next,ex2.next,ex1.next,hto.next]⟩ (Jf _) hbo h6 (st6.at_ hat) (st6.ok _ hsok) (by omega) fun s7 H7 h7 st7 ex7=>?_;have hb7:=st7.bl;have st7:=st6.trans st7;refine Qq ?_;simp only[go_sem];refine Q3b (next:=[(s.blocks.length:Int)]) (N:=0) h7 (st7.at_ hat) (by omega) fun s8 H8 h8 st8 ex8=>?_;have st8:=st7.trans st8;simp only[Qs,Q6,Qqi];have v4:s4.vars=Qop l.v:=by rw[ex4.vars,ex3.vars,ex2.vars,ex1.vars,hto.vars]
 have f4:s4.fns=s.fns:=st4.fn.1;have f6:s6.fns=s.fns:=st6.fn.1;have e6:s6.d=_:=ex6.d;refine⟨by simp,hK s8 H8 h8 (st8.mono (by omega)) ?_⟩;have e7:=ex7.d;have n7:=ex7.next;have v7:=ex7.vars;rw[f6]at e7 n7;rw[v4,Qagj,f4]at ex5;have w7:LTv s8 (x.low (-1) (Qb9 s.fns) l):=by
  simp only[e6,v4,Qagj,f4,ex5.d,LS.dlen,ex4.d,ex3.d,ex2.d,ex1.d,hto.d,Lw.add_add,Lw.add_len,Int.natCast_add]at e7 n7;refine⟨?_,?_,?_⟩
  ·rw[ex8.d,e7,St.low_eq,if_pos hop];simp only[Q84 _ _ _ _ hap,LS.dlen,ex4.d,ex3.d,ex2.d,ex1.d,hto.d,Lw.add_add,Lw.add_len,Jm,Int.natCast_add];try rfl
  ·rw[ex8.vars,v7,Qoq,St.low_eq,if_pos hop]
  ·rw[ex8.next,n7,St.low_eq,if_pos hop];simp only[Q84 _ _ _ _ hap,LS.dlen,ex4.d,ex3.d,ex2.d,ex1.d,hto.d,Lw.add_add,Lw.add_len,Jm,Int.natCast_add];try rfl
 exact w7
theorem Qbne {n:Nat}(hS:∀m,m<n→Qbhm m):LwSt n:=by
 intro x F H w s N K l hne hto hn hok h hat hsok hN hK;have hok':=hok;have hsz:=x.size_eq;rw[St.ok_eq]at hok;obtain⟨hap,hao,hbo,heo⟩:=hok;refine Qb Qai Qaye ?_;have retn:∀(e:Env) (s':LS) (H':Heap) (q:X),(q=.nrm∨q=.ret)→LInv F H' w s'→LStep s s' (10 * x.size)→LTv s' (x.low (-1) (Qb9 s.fns) l)→Qs Qqi K q e H':=by
  intro e s' H' q hq a1 a2 a3;rcases hq with rfl|rfl <;> exact⟨by simp[Qqi],hK s' H' a1 a2 a3⟩
 refine Qa ?_;simp only[go_sem,x.cells_eq];refine Q4 ?_;refine Qa ?_;simp only[go_sem];refine Qf (Qc rfl ?_ ?_)
 ·intro hc;refine Qa ?_;simp only[go_sem];rw[←x.cells_eq];refine Qbej hS x F H w s N _ l hne hto (by simpa using hc) hn hok' h hat hsok hN fun s1 H1 h1 st1 ex1=>?_;simp only[Qan2];refine Qi ?_;simp only[go_sem];exact retn _ s1 H1 _ (.inr rfl) h1 st1 ex1
 intro hc0;refine Qe ?_;simp only[go_sem];refine Qa ?_;simp only[go_sem];refine Q4 ?_;refine Qa ?_;simp only[go_sem];refine Qf (Qd (Qw (fun n e1 H1=>∃(i:Nat) (ars:List Int) (c:C) (Lg:List (Nat×Obj)) (s':LS),n=x.args.length-i∧i≤x.args.length∧ars.length=i∧Gr Lg 1 (Qk ars) c∧LInv F H1 w s'∧Kn F H1 [] (s'.L w++Lg)∧
  LStep s s' (10 * Qp (x.args.take i))∧LTo s' (Qah (Qbf l.v (-1)) (Qb9 s.fns) (x.args.take i) l.s).1 (Qop l.v) l.next∧ars=(Qah (Qbf l.v (-1)) (Qb9 s.fns) (x.args.take i) l.s).2∧e1=[(0,.c (.ptr w 0)),(3,.c (.pp [.int .i64 x.op,.str x.name,.sl false 4 (Qy x.args),.sl false 5 (Qm x.body),.sl false 5 (Qm x.els)])),(4,.c c),(5,.c (.int .i64 i))]) x.args.length ?_ ?_))
 ·exact⟨0,[],_,[],s,by omega,by omega,rfl,.nil 1,h,by simpa using h.kn,(LStep.refl s).mono (by omega),by rw[Jw,Qah];exact hto,by rw[Jw,Qah],rfl⟩
 ·rintro n e1 H1 ⟨i,ars,c,Lg,s1,hn1,hi,harl,hgr,h1,kn,st1,ex1,hars,rfl⟩;refine Q4 ?_;refine Qa ?_;simp only[go_sem,Qn];intro hl;simp only[LIM]at hl;refine Qf (Qc rfl ?_ ?_)
  ·intro hc;have hlt:i<x.args.length:=by simpa using hc
   have hm:=Qan (Jb hlt);have htk:=Qh7 hlt;have htl:=Qcr x.args (i+1);refine Qe ?_;simp only[go_sem];refine Qf (Qd (Qq ?_));simp only[go_sem,hlt,Qn,Qap _ _ hlt,Ex.take4,Ex.allOw,Ex.cells_len];obtain⟨F',hf,back⟩:=h1.beside kn hgr;refine Qboz _ _ F' H1 w s1 _ _ (Jf _) (Qn8 hao _ (Jb hlt)) hf (st1.at_ hat) (st1.ok _ hsok) (by omega) fun s2 H2 h2 st2 ex2=>?_;obtain⟨h2,kn⟩:=back s2 H2 h2;have etk:Qah (Qbf l.v (-1)) (Qb9 s.fns) (x.args.take (i+1)) l.s=((x.args[i].low (rgR s1.vars) (Qb9 s1.fns) s1.d).1,ars++[(x.args[i].low (rgR s1.vars) (Qb9 s1.fns) s1.d).2]):=by
    rw[Je hlt,Q4e,ex1.vars,ex1.d,st1.fn.1,hars,Qagj]
   generalize hvv:(x.args[i].low (rgR s1.vars) (Qb9 s1.fns) s1.d).2=v at *;simp only[go_sem,Qy0];refine kn.grow (new:=Qk [v]) hgr (.mk' _ _ _ _) (Qal _) (by simp only[Qj,harl,Jk,Jp,LIM];omega) fun y' H3 kn=>?_;simp only[go_sem,Qyz];refine Qq ?_;simp only[go_sem,X.next];refine⟨Qo (by omega) (by omega),x.args.length-(i+1),by omega,i+1,ars++[v],_,_,s2,rfl,by omega,by simp[harl],.mk y' 1 (Qk (ars++[v])) (n:=(Qk ars).length+(Qk [v]).length) (by simp[Qk]),h2.re kn.drop,by rw[Qhd];exact kn,(st1.trans st2).mono (by rw[htk];omega),by rw[etk];exact⟨ex2.d,ex2.vars.trans ex1.vars,ex2.next.trans ex1.next⟩,by rw[etk],by simp[Qk]⟩
  ·intro hc;have hge:x.args.length≤i:=by simpa using hc
   have hil:i=x.args.length:=by omega
   rw[Jd hge]at st1 ex1 hars;have e1:Qah (Qbf l.v (-1)) (Qb9 s.fns) x.args l.s=(s1.d,ars):=Prod.ext ex1.d.symm hars.symm;have one:¬x.op=5→x.low (-1) (Qb9 s.fns) l=l.one (-1) (Qb9 s.fns) x.op x.name x.args:=fun h5=>by rw[St.low_eq,if_neg (by simpa using hc0),if_neg h5]
   have har0:0<ars.length:=by omega
   refine Qv ?_;simp only[go_sem,X.next];refine Q4 ?_;obtain⟨S,H2,f1,f2,kn2⟩:=hgr.freeze kn (Qal _);have h2:=h1.re kn2;refine c_gh (Qhc S (fun t=>?_) f2) (e':=[(0,.c (.ptr w 0)),(3,.c (.pp [.int .i64 x.op,.str x.name,.sl false 4 (Qy x.args),.sl false 5 (Qm x.body),.sl false 5 (Qm x.els)])),(4,.c (.sl false 1 (Qk ars)))]) ?_
   ·simp only[lk];split
    ·exact .c _ _ (.same _ rfl)
    ·split
     ·exact .c _ _ (.same _ rfl)
     ·split
      ·exact .c _ _ f1
      ·exact .unk _
   have hsok1:=st1.ok _ hsok;have hat1:=st1.at_ hat;have hw2:=h2.hw;refine Qa ?_;simp only[go_sem];refine Qd ?_;refine Qa ?_;simp only[go_sem];refine Qc rfl ?_ ?_
   ·
    intro hc;refine Qa ?_;simp only[go_sem,hw2,LS.o];refine Q9w h2 hat1 hsok1 (by omega) fun s3 H3 h3 st3 ex3=>?_;have hw3:=h3.hw;have hvo:=h3.gv.isOw;have hsok3:=st3.ok _ hsok1;have st3:=st1.trans st3;simp only[go_sem];refine Qag ?_;simp only[go_sem,hw3,LS.o,hvo];refine h3.addVar ⟨x.name,s3.next,0,rfl⟩ (by have:=hsok3.v1;simp only[LIM];omega) fun y H4 hw4 cont=>?_;simp only[go_sem,Qy1,hw4,LS.o];intro H5 h5;have h5':=cont H5 h5;have hw5:=h5'.hw;refine Qq ?_;have hn0:=hsok3.n0;have hn1:=hsok3.n1;simp only[go_sem,hw5,LS.o];refine⟨Qo (by omega) (by omega),fun H6 h6=>?_⟩;have h6':=h5'.setw (s':={ s3 with vc:=.vsl y 3 0 (s3.vars.length+1),lv:=[(y,.vec 3 (s3.vars++[[C.str x.name,C.int IntKind.i64 s3.next,C.int IntKind.i64 0]]))],vars:=s3.vars++[[C.str x.name,C.int IntKind.i64 s3.next,C.int IntKind.i64 0]],next:=s3.next+1 }) h6 rfl rfl rfl rfl h5'.gv h5'.rv;refine retn _ _ H6 _ (.inl rfl) h6' ⟨st3.bl,fun M hM=>?_,?_,st3.at_,st3.fn⟩ (by
     have hop:x.op=1:=(by simpa using hc);rw[one (by omega),Lv.one,if_pos hop];simp only[e1];obtain⟨tb,tr,htb⟩:∃tb tr,l.v=tb::tr:=by
      cases hv:l.v with
      |nil=>exact absurd hv hne
      |cons b r=>exact⟨b,r,rfl⟩
     refine⟨?_,?_,?_⟩
     ·show s3.d=_;rw[ex3.d,ex1.next]
     ·show s3.vars++[[C.str x.name,C.int IntKind.i64 s3.next,C.int IntKind.i64 0]]=_;rw[htb,Qayw,ex3.vars,ex3.next,ex1.vars,ex1.next,htb];rfl
     ·show s3.next+1=_;rw[ex3.next,ex1.next];try simp)
    ·have q:=st3.ok M hM;refine⟨q.r0,?_,?_,?_,?_,fun b hb=>?_,?_⟩
     ·have:=q.r1;show s3.regs≤_;omega
     ·have:=q.n0;show 0≤s3.next+1;omega
     ·have:=q.n1;show s3.next+1≤_;omega
     ·have:=q.b1;show s3.blocks.length≤_;omega
     ·have:=q.i1 b hb;omega
     ·have:=q.v1;simp;omega
    ·have:=st3.vl;simp;omega
   intro hc1;refine Qa ?_;simp only[go_sem];refine Qc rfl ?_ ?_
   ·
    intro hc;refine Qq ?_;simp only[go_sem];refine Qbpn h2 ?_;simp only[go_sem,Qy2];refine Q9w h2 hat1 hsok1 (by omega) fun s3 H3 h3 st3 ex3=>?_;exact retn _ _ H3 _ (.inl rfl) h3 ((st1.trans st3).mono (by omega)) (by
     have hop:x.op=2:=(by simpa using hc);rw[one (by omega),Lv.one,if_neg (by omega),if_pos hop];simp only[e1];exact⟨by rw[ex3.d,ex1.vars,Qagj],ex3.vars.trans ex1.vars,ex3.next.trans ex1.next⟩)
   intro hc2;refine Qa ?_;simp only[go_sem];refine Qc rfl ?_ ?_
   ·intro hc;refine Qq ?_;simp only[go_sem];refine Q9w h2 hat1 hsok1 (by omega) fun s3 H3 h3 st3 ex3=>?_;exact retn _ _ H3 _ (.inl rfl) h3 ((st1.trans st3).mono (by omega)) (by
     have hop:x.op=3:=(by simpa using hc);rw[one (by omega),Lv.one,if_neg (by omega),if_neg (by omega),if_pos hop];simp only[e1];exact⟨ex3.d,ex3.vars.trans ex1.vars,ex3.next.trans ex1.next⟩)
   intro hc3;refine Qa ?_;simp only[go_sem];refine Qc rfl ?_ ?_
   ·intro hc;refine Qq ?_;simp only[go_sem];refine Q9w h2 hat1 hsok1 (by omega) fun s3 H3 h3 st3 ex3=>?_;exact retn _ _ H3 _ (.inl rfl) h3 ((st1.trans st3).mono (by omega)) (by
     have hop:x.op=4:=(by simpa using hc);rw[one (by omega),Lv.one,if_neg (by omega),if_neg (by omega),if_neg (by omega),if_pos hop];simp only[e1];exact⟨ex3.d,ex3.vars.trans ex1.vars,ex3.next.trans ex1.next⟩)
   intro hc4;refine Qa ?_;simp only[go_sem];refine Qc rfl ?_ ?_
   ·
    intro hc;refine Qeb ?_;simp only[go_sem,har0,Qj,Qak _ _ har0];refine⟨by omega,?_⟩;refine Qhv h2 hsok1 (by omega) fun s3 H3 h3 st3 hb3 ex3=>?_;have st3:=st1.trans st3;simp only[go_sem,Qsp,har0,Qj,Qak _ _ har0];refine⟨by omega,?_⟩;refine Q3b (next:=[]) (N:=0) h3 (st3.at_ hat) (by omega) fun s4 H4 h4 st4 ex4=>?_;exact retn _ _ H4 _ (.inl rfl) h4 ((st3.trans st4).mono (by omega)) (by
     have hop:x.op=7:=(by simpa using hc);rw[one (by omega),Lv.one,if_neg (by omega),if_neg (by omega),if_neg (by omega),if_neg (by omega),if_pos hop];simp only[e1];exact⟨by rw[ex4.d,ex3.d,LS.dlen];try simp[Jc,har0],by rw[ex4.vars,ex3.vars,ex1.vars],by rw[ex4.next,ex3.next,ex1.next]⟩)
   intro hc5;refine Qa ?_;simp only[go_sem];refine Qc rfl ?_ ?_
   ·
    intro hc;refine Qa ?_;simp only[go_sem];refine Qhv h2 hsok1 (by omega) fun s3 H3 h3 st3 hb3 ex3=>?_;have st3:=st1.trans st3;simp only[go_sem,Qsq];refine Qa ?_;simp only[go_sem];refine Qhv h3 (st3.ok _ hsok) (by omega) fun s4 H4 h4 st4 hb4 ex4=>?_;have st4:=st3.trans st4;simp only[go_sem,Qsr];refine Qa ?_;simp only[go_sem];refine Qhv h4 (st4.ok _ hsok) (by omega) fun s5 H5 h5 st5 hb5 ex5=>?_;have st5:=st4.trans st5;simp only[go_sem,Qss];refine Qa ?_;simp only[go_sem,har0,Qj,Qak _ _ har0];refine⟨by omega,?_⟩;refine Q3b (next:=[(s1.blocks.length:Int),(s3.blocks.length:Int)]) (N:=0) h5 (st5.at_ hat) (by omega) fun s6 H6 h6 st6 ex6=>?_;have hb6:=st6.bl;have st6:=st5.trans st6;refine Qa ?_;simp only[go_sem];refine hS (Qh x.body) (by omega) x.body _ F H6 w s6 _ _ ⟨s6.d,[]::l.v,l.next⟩ (by simp) ⟨rfl,by rw[ex6.vars,ex5.vars,ex4.vars,ex3.vars,ex1.vars,Qoq],by rw[ex6.next,ex5.next,ex4.next,ex3.next,ex1.next]⟩ (Jf _) hbo h6 (st6.at_ hat) (st6.ok _ hsok) (by omega) fun s7 H7 h7 st7 ex7=>?_;have hb7:=st7.bl;have st7:=st6.trans st7;refine Qa ?_;simp only[go_sem];refine Q3b (next:=[(s4.blocks.length:Int)]) (N:=0) h7 (st7.at_ hat) (by omega) fun s8 H8 h8 st8 ex8=>?_;have hb8:=st8.bl;have st8:=st7.trans st8;refine Qa ?_;simp only[go_sem];refine hS (Qh x.els) (by omega) x.els _ F H8 w s8 _ _ ⟨s8.d,[]::l.v,(Qaa (-1) (Qb9 s6.fns) x.body ⟨s6.d,[]::l.v,l.next⟩).next⟩ (by simp) ⟨rfl,by rw[ex8.vars,ex7.vars,Qoq];try rfl,by rw[ex8.next,ex7.next]⟩ (Jf _) heo h8 (st8.at_ hat) (st8.ok _ hsok) (by omega) fun s9 H9 h9 st9 ex9=>?_;have hb9:=st9.bl;have st9:=st8.trans st9;refine Qq ?_;simp only[go_sem];refine Q3b (next:=[(s4.blocks.length:Int)]) (N:=0) h9 (st9.at_ hat) (by omega) fun s10 H10 h10 st10 ex10=>?_;exact retn _ _ H10 _ (.inl rfl) h10 ((st9.trans st10).mono (by omega)) (by
     have hop:x.op=5:=(by simpa using hc);have f6:s6.fns=s.fns:=st6.fn.1;have f8:s8.fns=s.fns:=st8.fn.1;have e6:=ex6.d;have e7:=ex7.d;have e8:=ex8.d;have e9:=ex9.d;have n9:=ex9.next;simp only[LS.dlen,ex5.d,ex4.d,ex3.d,Lw.add_add,Lw.add_len,Int.natCast_add]at e6;simp only[f6,e6]at e7;simp only[LS.dlen,e7,ex4.d,ex3.d,Lw.add_len,Int.natCast_add]at e8;simp only[f8,f6,e8,e6]at e9 n9;rw[St.low_eq,if_neg (by omega),if_pos hop];simp only[e1];refine⟨?_,?_,?_⟩
     ·rw[ex10.d,e9];simp only[LS.dlen,ex4.d,ex3.d,Lw.add_len,Int.natCast_add,Int.add_assoc];rfl
     ·rw[ex10.vars,ex9.vars,Qoq]
     ·rw[ex10.next,n9];simp only[Int.add_assoc];rfl)
   ·intro hc6;refine Qe ?_;simp only[go_sem];exact retn _ _ H2 _ (.inl rfl) h2 (st1.mono (by omega)) (by
     have h1:¬x.op=1:=(by simpa using hc1);have h2:¬x.op=2:=(by simpa using hc2);have h3:¬x.op=3:=(by simpa using hc3);have h4:¬x.op=4:=(by simpa using hc4);have h7:¬x.op=7:=(by simpa using hc5);rw[one (by simpa using hc6),Lv.one,if_neg h1,if_neg h2,if_neg h3,if_neg h4,if_neg h7];simp only[e1];exact⟨rfl,ex1.vars,ex1.next⟩)
theorem Qbqz (n:Nat):Qbhm n:=by
 induction n using Nat.strongRecOn with
 |ind n ih=>exact Qbn3 (Qbne ih)
end Go.AE.Y
namespace Go.AE.Y
open Go.Proofs.Tryz
variable {H:Heap}{K:V→Heap→Prop}
theorem St.lets_eq (x:St):x.lets=(if x.op=1 then 1 else 0)+Qac x.body+Qac x.els:=by cases x;simp only[St.lets,St.op,St.body,St.els];rfl
theorem Qa6p (a b:List St):Qac (a++b)=Qac a+Qac b:=by
 induction a with
 |nil=>simp[Qac]
 |cons x r ih=>simp only[Jr,Qac,ih];omega
theorem Qa1q {l:List St}{i:Nat}(h:i<l.length):Qac (l.take (i+1))=Qac (l.take i)+l[i].lets:=by
 rw[Je h,Qa6p];simp[Qac]
mutual
theorem St.lets_le:∀(x:St),x.lets≤x.size
 |.mk op name args body els=>by
  have h1:=Qfb body;have h2:=Qfb els;have h3:=(St.mk op name args body els).size_eq;simp only[St.body,St.els]at h3;rw[St.lets];split <;> omega
theorem Qfb:∀(l:List St),Qac l≤Qh l
 |[]=>by simp[Qac]
 |x::r=>by
  have h1:=St.lets_le x;have h2:=Qfb r;rw[Qac,Qh];omega
end
theorem InsRow.frzx {H:Heap}{S:Nat→Bool}{r:List C}(h:InsRow r):FrzL H S r (rowI r).cells:=by
 obtain⟨op,to,n,fl,args,rfl⟩:=h;rw[Qa26];exact .cons (Qg rfl) (.cons (Qg rfl) (.cons (FrzR.same (Qal _)).sl (.cons (Qg rfl) .nil)))
theorem Qab5 {H:Heap}{S:Nat→Bool}:∀(l:List (List C)),(∀r∈l,InsRow r)→FrzR H S l (Qmq (l.map rowI))
 |[],_=>.nil
 |r::l,h=>.cons (h r Jx).frzx (Qab5 l fun r' hr'=>h r' (Jl _ hr'))
theorem Qagv {H:Heap}{S:Nat→Bool}:∀(l:List Blk),(∀b∈l,Gr b.lg 4 b.irows b.ic∧(∀r∈b.irows,InsRow r)∧(∀p∈b.lg,H p.1=p.2∧S p.1=true))→
  FrzR H S (l.map Blk.row) (Qaq (l.map Blk.d))
 |[],_=>.nil
 |b::l,h=>by
  obtain⟨g1,g2,g3⟩:=h b Jx;refine .cons ?_ (Qagv l fun r' hr'=>h r' (Jl _ hr'));exact .cons FrzR.nil.sl (.cons (Gr.frzM g1 g3 (Qab5 b.irows g2)) (.cons (Qg rfl) (.cons (Qg rfl) (.cons (FrzR.same (Qal _)).sl .nil))))
theorem Qayl (l:List (List UInt8))(p:List UInt8):parV (l++[p])=(Qbq (parV l).1 p (parV l).2,(parV l).2+1):=by simp[parV,List.foldl_append]
theorem Qa7u:∀(l:List (List UInt8)) (b:List (List UInt8×Nat)) (n:Nat),∃b',l.foldl (fun s p=>(Qbq s.1 p s.2,s.2+1)) (([b]:Vars),n)=([b'],n+l.length)
 |[],b,n=>⟨b,rfl⟩
 |p::r,b,n=>by
  obtain⟨b',h⟩:=Qa7u r ((p,n)::b) (n+1);exact⟨b',by rw[List.foldl_cons];refine h.trans ?_;rw[Jk];congr 1;omega⟩
theorem Qau0 (l:List (List UInt8)):∃b,(parV l).1=[b]∧(parV l).2=l.length:=by
 obtain⟨b,h⟩:=Qa7u l [] 0;rw[parV,h];exact⟨b,rfl,by simp⟩
theorem Qbi7:∀(n:Nat) (l:List St) {fl:Bool} {H:Heap} {K:V→Heap→Prop},Qh l≤n→Qh l≤2^40→K (.c (.int .i64 (Qac l:Nat))) H→Ql prog Qu2 [.c (.sl fl 5 (Qm l))] H K:=by
 intro n
 induction n using Nat.strongRecOn with
 |ind n ih=>
 intro l fl H K hn hb hK;have hlen:=Qb8 l;refine Qb Qai Qbjl ?_;refine Qa ?_;simp only[go_sem];refine Qa ?_;simp only[go_sem];refine Q4 ?_;refine Qa ?_;simp only[go_sem];refine Qf (Qd (Qw (fun n e1 H1=>∃(i v:Nat),n=l.length-i∧i≤l.length∧v=Qac (l.take i)∧H1=H∧e1=[(0,.c (.sl fl 5 (Qm l))),(3,.c (.int .i64 v)),(4,.c (.int .i64 i))]) l.length ?_ ?_))
 ·exact⟨0,0,by omega,by omega,by simp[Qac],rfl,rfl⟩
 ·rintro n e1 H1 ⟨i,v,hn1,hi,hv,rfl,rfl⟩;refine Q4 ?_;refine Qa ?_;simp only[go_sem,Qu];intro hl;simp only[LIM]at hl;refine Qf (Qc rfl ?_ ?_)
  ·intro hc;have hlt:i<l.length:=by simpa using hc
   have hm:=Qbg (Jb hlt);have htk:=Qd4 hlt;have htl:=Qa6 l (i+1);have hse:=(l[i]'hlt).size_eq;have hl1:=Qfb (l.take i);have hl2:=Qa1q hlt;have hl3:=(l[i]'hlt).lets_eq;have hl4:=Qfb l[i].body;have hl5:=Qfb l[i].els;refine Qe ?_;simp only[go_sem];refine Qf (Qd (Qeb ?_));simp only[go_sem,hlt,Qu,Qbc _ _ hlt,St.cells_eq];refine Qbed ?_;obtain⟨t,ht,ht1⟩:∃t:Nat,(if decide (l[i].op=1)=true then (1:Int)else 0)=t∧t=if l[i].op=1 then 1 else 0:=by
    by_cases h:l[i].op=1
    ·exact⟨1,by simp[h],by simp[h]⟩
    ·exact⟨0,by simp[h],by simp[h]⟩
   rw[←ht1]at hl3;have ht2:t≤1:=by rw[ht1];split <;> omega
   simp only[go_sem,Qamm,hlt,Qu,Qbc _ _ hlt,St.cells_eq,ht];refine⟨Qo (by omega) (by omega),?_⟩;refine ih (Qh l[i].body) (by omega) l[i].body (Jf _) (by omega) ?_;simp only[go_sem,Qaml,hlt,Qu,Qbc _ _ hlt,St.cells_eq];refine⟨Qo (by omega) (by omega),?_⟩;refine ih (Qh l[i].els) (by omega) l[i].els (Jf _) (by omega) ?_;simp only[go_sem,Qamk];refine⟨Qo (by omega) (by omega),?_⟩;refine Qq ?_;simp only[go_sem,X.next];refine⟨Qo (by omega) (by omega),l.length-(i+1),by omega,i+1,v+t+Qac l[i].body+Qac l[i].els,rfl,by omega,by omega,by simp⟩
  ·intro hc;have hge:l.length≤i:=by simpa using hc
   refine Qv ?_;simp only[go_sem,X.next];refine Qa ?_;simp only[go_sem];refine Qi ?_;simp only[go_sem,Qs,Q6,Qer,Ja,forall_eq,RS.op];rw[Jd hge]at hv;rw[hv];exact hK
end Go.AE.Y
namespace Go.AE.Y
attribute [local go_sem] cond_true cond_false Bool.not_true Bool.not_false
open Go.Proofs.Tryz
variable {H:Heap}{K:V→Heap→Prop}
def Qasd (a:Int)(s:St) (_:Int):Int:=a+if s.op=1 then 1 else 0
mutual
theorem St.vis_lets:∀(x:St) (n a:Int),x.vis Qasd n a=a+x.lets
 |.mk op name args body els,n,a=>by
  simp only[St.vis,St.lets];rw[Qrb els,Qrb body,Qasd];simp only[St.op];split <;> simp <;> omega
theorem Qrb:∀(l:List St) (n a:Int),Qb0 Qasd l n a=a+Qac l
 |[],n,a=>by simp[Qb0,Qac]
 |x::r,n,a=>by
  simp only[Qb0,Qac];rw[Qrb r,St.vis_lets x];simp;omega
end
theorem Qbrr (x3:Nat):VisOk (fun a=>[(x3,Obj.st [.int .i64 a])]) Qasd (fun a=>0≤a) Int.toNat Qha [.ptr x3 0]:=by
 refine⟨fun _ _=>rfl,fun _=>by simp,fun a p hp=>by simp only[Ja]at hp;subst hp;nofun,fun a s n h=>?_,fun a s n=>?_,fun a s n H K ha hmu h0 hn hsz hh hK=>?_⟩
 ·show 0≤Qasd a s n;rw[Qasd];split <;> omega
 ·have:=s.size_eq;rw[Qasd];split <;> omega
 ·have g:H x3=.st [.int .i64 a]:=hh (x3,_) (by simp);refine Qb Qai Qadw ?_;refine Qa ?_;simp only[go_sem,s.cells_eq];refine Qa ?_;simp only[go_sem];have done:∀(H':Heap) (e:Env),H'=H.set x3 (.st [.int .i64 (Qasd a s n)])→Qs Qqi K .nrm e H':=by
   intro H' e h';simp only[Qs,Q6,Qqi];refine⟨by simp,hK _ ⟨fun p hp=>?_,fun m _ hm=>?_⟩⟩
   ·simp only[Ja]at hp;subst hp;rw[h'];exact Heap.set_same _ _ _
   ·rw[h'];exact Heap.set_other _ _ (by simpa using hm)
  refine Qc rfl (fun hc=>?_) (fun hc=>?_)
  ·have h1:s.op=1:=by simpa using hc
   refine Qq ?_;simp only[go_sem,g];refine⟨Qo (by omega) (by omega),fun H1 h1'=>?_⟩;exact done _ _ (by rw[h1',Qasd,if_pos h1])
  ·have h1:¬s.op=1:=by simpa using hc
   refine Qe ?_;try simp only[go_sem,AE.X.next]
   exact done _ _ (by rw[Qasd,if_neg h1,Int.add_zero];exact (Heap.set_self _ _ _ g).symm)
theorem Qa2l {f:Fn}(hb:Qh f.body≤2^34)(hp:f.params.length≤3)(hK:∀H',Upd H H' []→K (.c (.int .i64 ((f.params.length:Int)+Qac f.body))) H') :
  Ql prog Qnn [.ag f.cells] H K:=by
 refine Q0 ?_;refine Qb Qai Qaup ?_;refine Qa ?_;simp only[go_sem,Fn.cells];refine Qa ?_;simp only[go_sem,Qr];intro hpl x3 hx3 H1 h1;have kn:=(Kn.start0 H).al hx3 h1;have g3:=kn.l 0 rfl;simp only[go_sem,Qrp,g3];intro H2 h2;have kn:Kn H H2 [] [(x3,.st [.int .i64 f.params.length])]:=kn.stL 0 rfl h2;have g3:=kn.l 0 rfl;refine Qa ?_;simp only[go_sem];refine Qaxk (Qbrr x3) (Qh f.body) f.body 1 _ (f.params.length:Int) _ _ (Jf _) (by omega) (by omega) (by omega) (by show (0:Int)≤_;omega) (by show (f.params.length:Int).toNat+_≤_;omega) (fun p hp=>by simp only[Ja]at hp;subst hp;exact g3) fun H3 hu=>?_;rw[Qrb]at hu;have kn:=kn.callL 0 rfl hu (by nofun);have g3:=kn.l 0 rfl;refine Qa ?_;simp only[go_sem,g3];refine Qi ?_;simp only[go_sem,Qs,Q6,Qer,Ja,forall_eq,RS.op];exact⟨_,.c _ _ (Qg rfl),hK _ kn.fin⟩
theorem Qa8x {fns:List Fn}{f:Fn}{fl:Bool}(hpl:f.params.length≤3)(hbo:Qcn f.body)(hbs:Qh f.body≤2^34)
  (hK:∀(H':Heap),Upd H H' []→(Qlj 0 fns f).fits→K (.ag (Qlj 0 fns f).cells) H'):Ql prog Qpy [.ag [.sl fl 3 (Q1 fns)],.ag f.cells] H K:=by
 refine Q0 ?_;refine Qb Qai Qaxy ?_;refine Qa ?_;simp only[go_sem,Fn.cells];intro x4 hx4 H1 h1;have kn:=(Kn.start0 H).al hx4 h1;have hx41:=kn.l 0 rfl;refine Qa ?_;simp only[go_sem];intro w hw H2 h2;have h:IInv H1 H2 w ⟨fns,fl,0,0,.sl true 5 [],[],[],0⟩:=⟨(Kn.start0 H1).al hw h2,.nil 5,by simp,by simp⟩;simp only[go_sem,Qwd];refine Qag ?_;simp only[go_sem];have hvc:=fun K=>Qa2l (f:=f) (H:=H2) (K:=K) hbs hpl;simp only[Fn.cells]at hvc;refine hvc _ fun H3 hu=>?_;have h:=h.re (h.kn.call0 hu);have hv:=Qfb f.body;have hw3:=h.hw;simp only[go_sem,Qwf,hw3,IS.o,Qr];intro H4 h4;have h:=h.setw (s':=⟨fns,fl,f.params.length,0,.sl true 5 [],[],[],0⟩) h4 rfl rfl rfl;have hw4:=h.hw;simp only[go_sem,Qwe,hw4,IS.o];intro H5 h5;have h:=h.setw (s':=⟨fns,fl,f.params.length,(f.params.length:Int)+Qac f.body,.sl true 5 [],[],[],0⟩) h5 rfl rfl rfl;obtain⟨s,hs⟩:∃s:IS,s=⟨fns,fl,f.params.length,(f.params.length:Int)+Qac f.body,.sl true 5 [],[],[],0⟩:=⟨_,rfl⟩;rw[←hs]at h;refine Qa ?_;simp only[go_sem];refine Q8q (sc:=.pnil) rfl fun lm nn H6 hlm h6=>?_;have knm:=h.kn.al hlm h6;simp only[go_sem,Qwg];refine Q4 ?_;refine Qa ?_;simp only[go_sem,Qr];intro _;refine Qf (Qd (Qw (fun m e1 H7=>∃(i a:Nat) (es:List (C×V)) (b:List (List UInt8×Nat)),m=f.params.length-i∧i≤f.params.length∧Kn H1 H7 [] (s.L w++[(lm,.map a es)])∧(parV (f.params.take i)).1=[b]∧MapOk vI es b∧es.length≤i∧
  e1=[(3,.c (.pp [.str f.name,.sl false 1 (Qab f.params),.sl false 5 (Qm f.body)])),(4,.c (.ptr x4 0)),(5,.c (.ptr w 0)),(6,.c (.pp [.mp lm,.pnil])),(27,.c (.sl false 1 (Qab f.params))),(28,.c (.int .i64 f.params.length)),(29,.c (.int .i64 i))]) f.params.length ?_ ?_))
 ·exact⟨0,nn,[],[],by omega,by omega,knm,rfl,.nil vI,Jf _,rfl⟩
 ·rintro m e1 H7 ⟨i,a,es,b,hm,hi,kn7,hpv,hmo,hel,rfl⟩;refine Qa ?_;simp only[go_sem];refine Qf (Qc rfl ?_ ?_)
  ·intro hc;have hlt:i<f.params.length:=by simpa using hc
   have gl:H7 lm=.map a es:=(kn7.get (lm,.map a es) (by simp)).1;have hlim:=Qgj;refine Qe ?_;try simp only[go_sem]
   refine Qf (Qd ?_);refine Qa ?_;simp only[go_sem,hlt,Qr,Qbv _ _ hlt];refine Qq ?_;simp only[go_sem,gl];refine⟨hmo.ky,by omega,fun H8 h8=>?_⟩;have kn8:=Kn.stM (B:=[]) kn7 h8;have hp2:=(Qau0 (f.params.take i));obtain⟨b',e1',e2'⟩:=hp2;have hbb:b'=b:=by rw[hpv]at e1';exact (List.cons.inj e1').1.symm
   have hul:=Qago (f.params.getD i []) (.c (.int .i64 i)) es;refine Qq ?_;simp only[go_sem,AE.X.next];refine⟨Qo (by omega) (by omega),f.params.length-(i+1),by omega,i+1,a+1,_,(f.params.getD i [],i)::b,rfl,by omega,kn8,?_,hmo.put _ i,by omega,rfl⟩;rw[Je hlt,Qayl,hpv,e2',Ju,Jaz (by omega),show f.params.getD i []=f.params[i]by simp[Jc,hlt]];rfl
  ·intro hc;have hge:f.params.length≤i:=by simpa using hc
   have hie:i=f.params.length:=by omega
   rw[Jd hge]at hpv;refine Qv ?_;simp only[go_sem,AE.X.next];obtain⟨F2,hf2,hF2,hM2,back2⟩:=(h.re kn7.drop).sideX kn7;have hsok:s.ok (3+Qac f.body):=by rw[hs];exact⟨by show (0:Int)≤(f.params.length:Int)+Qac f.body;omega,by show (f.params.length:Int)+Qac f.body≤((3+Qac f.body:Nat):Int);omega,by simp,by simp⟩
   refine Qa ?_;simp only[go_sem];refine Qahh (n:=1) hf2 hsok (by omega) fun s1 H8 hh1 st1 hb1 ex1=>?_;obtain⟨hh1,kn8⟩:=back2 s1 H8 hh1;simp only[go_sem];refine Qa ?_;simp only[go_sem,Qr];intro _ q hq H9 h9;simp only[go_sem,Qwh];have hsok1:=st1.ok _ hsok;have hsd:s.d=⟨(f.params.length:Int)+Qac f.body,[],0⟩:=by rw[hs];rfl
   have hat1:s1.at_=0:=by
    have:=congrArg Lw.at_ ex1;rw[hsd]at this;exact this
   have hat:s1.at_<s1.blocks.length:=by omega
   have kn9:Kn H1 H9 [] (s1.L w++lobs q (f.params.length:Nat) [(lm,a,es)]):=(kn8.al hq h9).perm (by
    rw[Jg];exact .append_left _ (List.Perm.swap _ _ _))
   have b0:BSt H1 H9 w s1 q [(lm,a,es)] ⟨s1.d,[b],f.params.length⟩ [lm]:=
    ⟨hh1.re kn9.drop,kn9,⟨hmo,trivial⟩,rfl,fun y hy=>by simp only[Ja]at hy;subst hy;show es.length≤f.params.length;omega,rfl⟩
   refine Qbmv _ f.body false H1 H9 w q s1 _ [(lm,a,es)] ⟨s1.d,[b],f.params.length⟩ [lm] _ (Jf _) hbo b0 (by simp) hat hsok1 (by show f.params.length≤_;omega) (by omega) fun s2 H10 sc' b2 st2=>?_;have hsok2:=st2.ok _ hsok1;have hat2:=st2.at_ hat;have hw10:=b2.inv.hw;simp only[go_sem];refine Qag ?_;simp only[go_sem,hw10,IS.o];refine Qu7 (args:=[]) b2.inv hat2 hsok2 (by omega) fun s3 H11 h3 st3 ex3=>?_;have hw11:=h3.hw;have hat3:s3.at_=s2.at_:=by
    have:=congrArg Lw.at_ ex3;exact this
   simp only[go_sem,Qwi,hw11,IS.o,hat3];refine Q3a (next:=[]) (at':=s2.at_) (N:=0) h3 (st3.at_ hat2) (by rw[←hat3];exact st3.at_ hat2) fun s5 H12 h5 st5 ex5=>?_;have hw12:=h5.hw;have hx412:H12 x4=.st [.int .i64 0,.int .i64 0,.sl true 5 []]:=by rw[h5.kn.chg x4 (by rw[hx41];nofun) (by simp),hx41]
   have hbow:=h5.gb.isOw;simp only[go_sem];refine Qa ?_;simp only[go_sem,hw12,hx412,IS.o,hbow];intro H13 h13;have hx413:H13 x4=.st [.int .i64 s5.params,.int .i64 s5.regs,s5.bc]:=by rw[h13];exact Heap.set_same _ _ _
   have ho13:∀m,m≠x4→H13 m=H12 m:=fun m hm=>by rw[h13];exact Heap.set_other _ _ hm
   have huse:∀m,H m≠.none→H13 m=H m:=fun m hm=>by
    have e1:=kn.chg m hm (by simp);have e2:=h5.kn.chg m (by rw[e1];exact hm) (by simp);rw[ho13 m (fun hh=>by subst hh;exact hm (kn.free 0 rfl)),e2,e1]
   have hun:∀p∈s5.L w,H13 p.1=p.2∧un H p.1=true:=fun p hp=>by
    have e1:=(h5.kn.get p (by simpa using hp)).1;have e2:=h5.kn.loc p hp;have hne:p.1≠x4:=fun hh=>(by rw[hh,hx41]at e2;simp at e2);refine⟨by rw[ho13 _ hne,e1],Qn7 ?_⟩
    cases hh:H p.1 with
    |none=>rfl
    |_=>have:=kn.chg p.1 (by rw[hh];simp) (by simp);rw[e2,hh]at this;simp at this
   refine Qi ?_;simp only[go_sem,Qs,Q6,Qblk,Ja,forall_eq,RS.op,hx413,hbow];have hok5:=(st3.trans st5).ok _ hsok2;have hbs1:=Qagv (H:=H13) (S:=un H) s5.blocks fun b hb=>⟨h5.gi b hb,h5.ri b hb,fun p hp=>hun p (by
    simp only[IS.L,Jj,Jau];exact .inr (.inr ⟨b,hb,hp⟩))⟩
   have hd1:s1.d=⟨(f.params.length:Int)+Qac f.body,[blk0],0⟩:=by
    rw[ex1,hsd];rfl
   have hfn:s1.fns=fns:=by rw[st1.fn.1,hs]
   have hd2:=b2.d;rw[hd1,hfn,←hpv]at hd2;rw[ex3,IS.dregs,hd2]at ex5;have hp5:s5.params=f.params.length:=by rw[(st3.trans st5).fn.2.2,st2.fn.2.2,st1.fn.2.2,hs]
   have hcode:Qlj 0 fns f=⟨s5.params,s5.regs,s5.blocks.map Blk.d⟩:=by
    rw[hp5];have e1:s5.regs=s5.d.regs:=rfl;have e2:s5.blocks.map Blk.d=s5.d.bs:=rfl;rw[e1,e2,ex5];rfl
   have hfit:(Qlj 0 fns f).fits:=by
    rw[hcode];intro b hb;obtain⟨b0,hb0,rfl⟩:=J7.1 hb;have:=hok5.i1 b0 hb0;exact⟨by simp only[Blk.d,Jo];omega,by simp[Blk.d]⟩
   refine⟨.ag (Qlj 0 fns f).cells,?_,hK _ ⟨by simp,fun m hm _=>?_⟩ hfit⟩
   ·rw[hcode];exact FrzL.ag (.cons (Qg rfl) (.cons (Qg rfl) (.cons (Gr.frzM h5.gb (fun p hp=>hun p (by
     simp only[IS.L,Jj];exact .inr (.inl hp))) hbs1) .nil)))
   ·rw[Qa68 hm];exact huse m hm
end Go.AE.Y
namespace Go.AE.Y
open Go.Proofs.Tryz
variable {H:Heap}{K:V→Heap→Prop}
theorem Qbpc {fns:List Fn}{fl:Bool}{k:Nat}(hk:k<fns.length)(hpl:fns[k].params.length≤3)(hbo:Qcn fns[k].body)(hbs:Qh fns[k].body≤2^34)
  (hK:∀(H':Heap),Upd H H' []→(Qlj (-1) fns fns[k]).fits→K (.ag (Qlj (-1) fns fns[k]).cells) H'):Ql prog Qa2b [.ag [.sl fl 3 (Q1 fns)],.c (.int .i64 k)] H K:=by
 refine Q0 ?_;refine Qb Qai Qbpi ?_;refine Qa ?_;simp only[go_sem];intro x4 hx4 H1 h1;have kn:=(Kn.start0 H).al hx4 h1;refine Qa ?_;simp only[go_sem,hk,Qz,Qat _ _ hk,Fn.take3,Fn.allOw,Fn.cells_len];generalize fns[k]=f at *;intro x5 hx5 H2 h2;have kn:=kn.al hx5 h2;have hx52:=kn.l 1 rfl;simp only[go_sem,Qa0w,hx52,Fn.cells];intro H3 h3;have kn:Kn H H3 [] [(x4,.st [.int .i64 0,.int .i64 0,.sl true 5 []]),(x5,.st [.str f.name,.sl false 1 (Qab f.params),.sl false 5 (Qm f.body)])]:=kn.stL 1 rfl h3;have hx43:=kn.l 0 rfl;have hx53:=kn.l 1 rfl;have h45:=kn.neL 0 1 rfl rfl (by decide);refine Qa ?_;simp only[go_sem,hx53,Qr];intro hpl2 w hw H4 h4;have h:LInv H3 H4 w ⟨fns,fl,0,0,.sl true 5 [],[],[],0,.sl true 3 [],[],[],f.params.length⟩:=
  ⟨(Kn.start0 H3).al hw h4,.nil 5,.inl ⟨rfl,rfl,rfl⟩,by simp,by simp,by simp⟩
 have hfr:∀(s:LS) (H':Heap),LInv H3 H' w s→H' x4=.st [.int .i64 0,.int .i64 0,.sl true 5 []]∧H' x5=.st [.str f.name,.sl false 1 (Qab f.params),.sl false 5 (Qm f.body)]:=fun s H' h'=>
  ⟨by rw[h'.kn.chg x4 (by rw[hx43];simp) (by simp),hx43],by rw[h'.kn.chg x5 (by rw[hx53];simp) (by simp),hx53]⟩
 have hx54:=(hfr _ _ h).2;have hw4:=h.hw;simp only[go_sem,Qa0x];refine Qa ?_;simp only[go_sem,hx54,hw4,LS.o,Qr];intro _ H5 h5;have h:=h.setw (s':=⟨fns,fl,f.params.length,0,.sl true 5 [],[],[],0,.sl true 3 [],[],[],f.params.length⟩) h5 rfl rfl rfl rfl h.gv h.rv;have hx55:=(hfr _ _ h).2;refine Qag ?_;simp only[go_sem,hx55,Qr];refine Qbi7 _ f.body (Jf _) (by omega) ?_;have hv:=Qfb f.body;obtain⟨v,hvd⟩:∃v,Qac f.body=v:=⟨_,rfl⟩;rw[hvd]at hv;rw[hvd];have hw5:=h.hw;simp only[go_sem,Qa0y,hx55,hw5,LS.o,Qr];refine⟨Qo (by omega) (by omega),fun H6 h6=>?_⟩;have h:=h.setw (s':=⟨fns,fl,f.params.length,(f.params.length:Int)+v,.sl true 5 [],[],[],0,.sl true 3 [],[],[],f.params.length⟩) h6 rfl rfl rfl rfl h.gv h.rv;refine Q4 ?_;refine Qa ?_;simp only[go_sem];refine Qf (Qd (Qw (fun n e1 H1=>∃(i:Nat) (s':LS),n=f.params.length-i∧i≤f.params.length∧LInv H3 H1 w s'∧s'.blocks=[]∧s'.at_=0∧s'.regs=(f.params.length:Int)+v∧s'.next=f.params.length∧s'.vars.length=i∧s'.vars=Qop (parV (f.params.take i)).1∧s'.params=f.params.length∧s'.fns=fns∧
  e1=[(4,.c (.ptr x4 0)),(5,.c (.ptr x5 0)),(6,.c (.ptr w 0)),(7,.c (.int .i64 i))]) f.params.length ?_ ?_))
 ·exact⟨0,_,by omega,by omega,h,rfl,rfl,rfl,rfl,rfl,rfl,rfl,rfl,rfl⟩
 ·rintro n e1 H1 ⟨i,s,hn1,hi,h,hb0,ha0,hr0,hn0,hvl,hvs,hpa,hfs,rfl⟩;have hx51:=(hfr _ _ h).2;have hw1:=h.hw;have hvo:=h.gv.isOw;refine Q4 ?_;refine Qa ?_;simp only[go_sem,hx51,Qr];intro _;refine Qf (Qc rfl ?_ ?_)
  ·intro hc;have hlt:i<f.params.length:=by simpa using hc
   refine Qe ?_;simp only[go_sem];refine Qf (Qd (Qeb ?_));simp only[go_sem,hx51,hw1,LS.o,hvo,hlt,Qr,Qbv _ _ hlt];refine h.addVar ⟨_,_,_,rfl⟩ (by simp only[LIM];omega) fun y H4 hw4 cont=>?_;simp only[go_sem,Qa0z,hw4,LS.o];intro H5 h5;have h':=cont H5 h5;have hvs':s.vars++[[C.str (f.params.getD i []),C.int .i64 (i:Int),C.int .i64 0]]=Qop (parV (f.params.take (i+1))).1:=by
    obtain⟨b,e1,e2⟩:=Qau0 (f.params.take i);rw[hvs,Je hlt,Qayl,e1,e2,Qayw,Ju,Jaz (by omega),show f.params.getD i []=f.params[i]by simp[Jc,hlt]];rfl
   refine Qq ?_;simp only[go_sem,X.next];exact⟨Qo (by omega) (by omega),f.params.length-(i+1),by omega,i+1,_,rfl,by omega,h',hb0,ha0,hr0,hn0,by simp[hvl],hvs',hpa,hfs,rfl⟩
  ·intro hc;refine Qv ?_;simp only[go_sem,X.next];have hge:f.params.length≤i:=by simpa using hc
   rw[Jd hge]at hvs;have hsok:s.ok (3+v):=⟨by rw[hr0];omega,by rw[hr0];omega,by rw[hn0];omega,by rw[hn0];omega,by simp[hb0],by simp[hb0],by omega⟩;refine Qa ?_;simp only[go_sem];refine Qhv h hsok (by omega) fun s1 H4 h1 st1 hb1 ex1=>?_;have hat1:s1.at_=s.at_:=congrArg Lw.at_ ex1.d;have hat:s1.at_<s1.blocks.length:=by rw[hat1,ha0];omega
   have hsok1:=st1.ok _ hsok;refine Qa ?_;have hx54:=(hfr _ _ h1).2;simp only[go_sem,hx54];refine Qbqz _ f.body _ H3 H4 w s1 _ _ ⟨s1.d,(parV f.params).1,f.params.length⟩ (by obtain⟨b,e1,_⟩:=Qau0 f.params;rw[e1];simp) ⟨rfl,by rw[ex1.vars,hvs],by rw[ex1.next,hn0]⟩ (Jf _) hbo h1 hat hsok1 (by omega) fun s2 H5 h2 st2 ex2=>?_;refine Qa ?_;simp only[go_sem];refine Qu5 h2 (st2.ok _ hsok1) (by omega) fun s3 H6 h3 st3 ex3=>?_;have st3:=st2.trans st3;simp only[go_sem,Qa01];refine Q9w (args:=[]) h3 (st3.at_ hat) (st3.ok _ hsok1) (by omega) fun s4 H7 h4 st4 ex4=>?_;have st4:=st3.trans st4;simp only[go_sem,Qa00];have hbl4:=st4.bl;refine Qa ?_;simp only[go_sem];refine Q3b (at':=0) (next:=[]) (N:=0) h4 (st4.at_ hat) (by omega) fun s5 H8 h5 st5 ex5=>?_;have hw8:=h5.hw;obtain⟨hx48,hx58⟩:=hfr _ _ h5;have hbow:=h5.gb.isOw;refine Qa ?_;simp only[go_sem,hw8,hx48,LS.o,hbow];intro H9 h9;have hx49:H9 x4=.st [.int .i64 s5.params,.int .i64 s5.regs,s5.bc]:=by rw[h9];exact Heap.set_same _ _ _
   have ho9:∀m,m≠x4→H9 m=H8 m:=fun m hm=>by rw[h9];exact Heap.set_other _ _ hm
   have huse:∀m,H m≠.none→H9 m=H m:=fun m hm=>by
    have e1:=kn.chg m hm (by simp);have e2:=h5.kn.chg m (by rw[e1];exact hm) (by simp);rw[ho9 m (fun hh=>by subst hh;exact hm (kn.free 0 rfl)),e2,e1]
   have hun:∀p∈s5.L w,H9 p.1=p.2∧un H p.1=true:=fun p hp=>by
    have e1:=(h5.kn.get p (by simpa using hp)).1;have e2:=h5.kn.loc p hp;have hne:p.1≠x4:=fun hh=>(by rw[hh,hx43]at e2;simp at e2);refine⟨by rw[ho9 _ hne,e1],Qn7 ?_⟩
    cases hh:H p.1 with
    |none=>rfl
    |_=>have:=kn.chg p.1 (by rw[hh];simp) (by simp);rw[e2,hh]at this;simp at this
   refine Qi ?_;simp only[go_sem,Qs,Q6,Qblk,Ja,forall_eq,RS.op,hx49,hbow];have hok5:=(st4.trans st5).ok _ hsok1;have hbs1:=Qagv (H:=H9) (S:=un H) s5.blocks fun b hb=>⟨h5.gi b hb,h5.ri b hb,fun p hp=>hun p (by
    simp only[LS.L,Jj,Jau];exact .inr (.inr (.inr ⟨b,hb,hp⟩)))⟩
   have hd1:s1.d=⟨(f.params.length:Int)+Qac f.body,[blk0],0⟩:=by
    rw[ex1.d,LS.d,hr0,hb0,ha0,hvd];rfl
   have hd2:=ex2.d;have hd5:=ex5.d;rw[hd1,st1.fn.1,hfs]at hd2;rw[ex4.d,ex3.d,LS.dregs,hd2]at hd5;have hp5:s5.params=f.params.length:=by rw[(st4.trans st5).fn.2.2,st1.fn.2.2,hpa]
   have hcode:Qlj (-1) fns f=⟨s5.params,s5.regs,s5.blocks.map Blk.d⟩:=by
    rw[hp5];have e1:s5.regs=s5.d.regs:=rfl;have e2:s5.blocks.map Blk.d=s5.d.bs:=rfl;rw[e1,e2,hd5];rfl
   have hfit:(Qlj (-1) fns f).fits:=by
    rw[hcode];intro b hb;obtain⟨b0,hb0,rfl⟩:=J7.1 hb;have:=hok5.i1 b0 hb0;exact⟨by simp only[Blk.d,Jo];omega,by simp[Blk.d]⟩
   refine⟨.ag (Qlj (-1) fns f).cells,?_,hK _ ⟨by simp,fun m hm _=>?_⟩ hfit⟩
   ·rw[hcode];exact FrzL.ag (.cons (Qg rfl) (.cons (Qg rfl) (.cons (Gr.frzM h5.gb (fun p hp=>hun p (by
     simp only[LS.L,Jj];exact .inr (.inl hp))) hbs1) .nil)))
   ·rw[Qa68 hm];exact huse m hm
theorem Qbi8 {fns:List Fn}{fl:Bool}(hp:PrOk fns)(hK:∀(H':Heap),Upd H H' []→(∀c∈Qba (-1) fns,c.fits)→K (.ag [.sl false 3 (Q2 (Qba (-1) fns))]) H') :
  Ql prog Qahg [.ag [.sl fl 3 (Q1 fns)]] H K:=by
 refine Q0 ?_;refine Qb Qai Qbjm ?_;refine Qa ?_;simp only[go_sem];intro x2 hx2 H1 h1;have kn:=(Kn.start0 H).al hx2 h1;refine Qa ?_;simp only[go_sem];intro x3 hx3 H2 h2;have kn:=kn.al hx3 h2;have hx32:=kn.l 1 rfl;simp only[go_sem,Qanr,hx32];intro H3 h3;have kn:Kn H H3 [] [(x2,.st [.sl true 3 []]),(x3,.st [.sl true 3 []])]:=kn.stL 1 rfl h3;refine Q4 ?_;refine Qa ?_;simp only[go_sem];refine Qf (Qd (Qw (fun n e1 H1=>∃(i:Nat) (cs:List CodeD) (c:C) (Lg:List (Nat×Obj)),n=fns.length-i∧i≤fns.length∧cs=(Qba (-1) fns).take i∧cs.length=i∧(∀c∈cs,c.fits)∧Gr Lg 3 (Q2 cs) c∧Kn H H1 [] ([(x2,.st [.sl true 3 []]),(x3,.st [c])]++Lg)∧
  e1=[(1,.c (.pp [.sl fl 3 (Q1 fns)])),(2,.c (.ptr x2 0)),(3,.c (.ptr x3 0)),(4,.c (.int .i64 i))]) fns.length ?_ ?_))
 ·exact⟨0,[],_,[],by omega,by omega,rfl,rfl,by simp,.nil 3,kn,rfl⟩
 ·rintro n e1 H1 ⟨i,cs,c,Lg,hn1,hi,hcs,hcl,hfit,hgr,kn,rfl⟩;refine Q4 ?_;refine Qa ?_;simp only[go_sem,Qz];intro hl;simp only[LIM]at hl;have hcow:=hgr.isOw;have hx31:=kn.l 1 rfl;refine Qf (Qc rfl ?_ ?_)
  ·intro hc;have hlt:i<fns.length:=by simpa using hc
   have hm:=Jb hlt;refine Qe ?_;simp only[go_sem];refine Qf (Qd (Qeb ?_));simp only[go_sem,hx31,hcow];refine Qbpc hlt (hp.par _ hm) (hp.ok _ hm) (by have:=Qbb hm;have:=hp.size;omega) fun H4 hu hxf=>?_;obtain⟨x,hx⟩:∃x,Qlj (-1) fns fns[i]=x:=⟨_,rfl⟩;rw[hx]at hxf;rw[hx];have hcs':cs++[x]=(Qba (-1) fns).take (i+1):=by
    have hlu:i<(Qba (-1) fns).length:=(by simpa[Qba]using hlt);rw[Je hlu,hcs,←hx];simp[Qba]
   have kn:=kn.call0 hu;have hx34:=kn.l 1 rfl;simp only[go_sem,Qant,hx34,hcow,CodeD.cells];refine kn.grow (B:=[_,_]) (new:=[x.cells]) hgr (.mk' _ _ _ _) (by intro r hr;simp only[Ja]at hr;subst hr;rfl) (by simp only[Qaj,LIM,Jk,Jp];omega) fun y' H5 kn=>?_;have hx35:=kn.l 1 rfl;simp only[go_sem,Qans,hx35];intro H6 h6;have kn:=kn.stL 1 rfl h6;refine Qq ?_;simp only[go_sem,X.next];refine⟨Qo (by omega) (by omega),fns.length-(i+1),by omega,i+1,cs++[x],_,_,rfl,by omega,hcs',by simp[hcl],fun c' hc'=>by
    rcases Jj.1 hc' with h|h
    ·exact hfit c' h
    ·simp at h;subst h;exact hxf,?_,kn,rfl⟩
   rw[Qab4];exact .mk _ _ _ (by simp[Qaj])
  ·intro hc;have hge:fns.length≤i:=by simpa using hc
   have hx21:=kn.l 0 rfl;refine Qv ?_;simp only[go_sem,X.next];refine Qa ?_;simp only[go_sem,hx31,hx21,hcow];intro H2 h2;have kn:=kn.stL 0 rfl h2;have hx22:=kn.l 0 rfl;refine Qi ?_;simp only[go_sem,Qs,Q6,Qa74,Ja,forall_eq,RS.op,hx22,hcow];exact⟨.ag [.sl false 3 (Q2 cs)],FrzL.ag (.cons (hgr.frz (B:=[_,_]) kn (Qmt _)) .nil),by rw[Jd (by simpa[Qba]using hge)]at hcs;subst hcs;exact hK _ kn.fin hfit⟩
attribute [local instance] Classical.propDecidable
def Q9b (q:CodeD):Bool:=decide (0≤q.params∧q.params≤3)&&decide (q.params≤q.regs∧q.regs≤300)&&decide (1≤(q.blocks.length:Int)∧(q.blocks.length:Int)≤160)
def cntY (y:BlkD):Nat:=y.ins.length+y.phis.length
def Q0l {α:Type}(f:α→Nat)(l:List α):Nat:=(l.map f).sum
theorem Qpo {α:Type}{f:α→Nat}{l:List α}{i:Nat}(h:i<l.length):Q0l f (l.take (i+1))=Q0l f (l.take i)+f l[i]:=by
 rw[Q0l,Q0l,Je h,J8,Jay];simp
theorem Qa6s {α:Type}{f:α→Nat}{l:List α}(i:Nat):Q0l f (l.take i)≤Q0l f l:=by
 have:Q0l f l=Q0l f (l.take i)+Q0l f (l.drop i):=by rw[Q0l,Q0l,Q0l,←Jay,←J8,Jt]
 omega
def cntQ (q:CodeD):Nat:=Q0l cntY q.blocks
def Qaob (cs:List CodeD)(k:Nat)(hk:k<cs.length):Prop:=Q9b cs[k]=true∧∀(b:Nat) (h:b<cs[k].blocks.length),blkG cs k b cs[k] cs[k].blocks[b]=true
def Qbn9 (cs:List CodeD):Prop:=(1≤(cs.length:Int)∧(cs.length:Int)≤4)∧(∀(k:Nat) (h:k<cs.length),Qaob cs k h)∧Q0l cntQ cs≤800
noncomputable def Qabz (cs:List CodeD):Bool:=decide (Qbn9 cs)
theorem Q0g {cs:List CodeD}(h:¬Qbn9 cs):Qabz cs=false:=decide_eq_false h
theorem Qbk1 {cs:List CodeD}{k j:Nat}(hk:k<cs.length)(hj:j<cs[k].blocks.length)(h:800<Q0l cntQ (cs.take k)+Q0l cntY (cs[k].blocks.take j)+cntY cs[k].blocks[j]):¬Qbn9 cs:=by
 rintro⟨_,_,h3⟩;have a1:=Qa6s (f:=cntQ) (l:=cs) (k+1);rw[Qpo hk]at a1;have a2:=Qa6s (f:=cntY) (l:=cs[k].blocks) (j+1);rw[Qpo hj]at a2;simp only[cntQ]at *;omega
theorem Qaw5 {cs:List CodeD}{fl:Bool}(hfit:∀c∈cs,c.fits)(hK:∀(H':Heap),Upd H H' []→K (.c (.bool (Qabz cs))) H') :
  Ql prog Qlt [.ag [.sl fl 3 (Q2 cs)]] H K:=by
 refine Q0 ?_;refine Qb Qai Qaoq ?_;have retf:∀(b:Bool) (e:Env) (H':Heap) (L:List (Nat×Obj)),Qabz cs=b→Kn H H' [] L→lk 2 e=.c (.bool b)→Qs Qer (unK H K) .ret e H':=by
  intro b e H' L hb kn h3;simp only[go_sem,Qs,Q6,Qer,Ja,forall_eq,RS.op,h3];rw[←hb];exact⟨_,.c _ _ (Qg rfl),hK _ kn.fin⟩
 have kn:=Kn.start0 H;refine Qa ?_;simp only[go_sem];refine Q4 ?_;refine Qa ?_;simp only[go_sem,Qaj];intro hcl;refine Qdk ?_;simp only[go_sem,Qpj];refine Qf (Qc rfl ?_ ?_)
 ·intro hc;refine Qa ?_;simp only[go_sem];refine Qi ?_;simp only[go_sem];exact retf false _ _ _ (Q0g fun hu=>by have:=of_decide_eq_false (Qi8 hc);exact this hu.1) kn (by simp[lk])
 intro hc;have hc4:cs.length≤4∧0<cs.length:=by
  have:1≤(cs.length:Int)∧(cs.length:Int)≤4:=by simpa using hc
  omega
 refine Qe ?_;simp only[go_sem];refine Qa ?_;simp only[go_sem];refine Q4 ?_;refine Qa ?_;simp only[go_sem];refine Qf (Qd (Qw (fun m e1 H1=>∃(k n:Nat),m=cs.length-k∧k≤cs.length∧n=Q0l cntQ (cs.take k)∧n≤800∧(∀(i:Nat) (hi:i<cs.length),i<k→Qaob cs i hi)∧Kn H H1 [] []∧e1=[(1,.c (.pp [.sl fl 3 (Q2 cs)])),(3,.c (.int .i64 n)),(4,.c (.int .i64 k))]) cs.length ?_ ?_))
 ·exact⟨0,0,by omega,by omega,rfl,by omega,fun _ _ h=>by omega,kn,rfl⟩
 ·rintro m e1 H1 ⟨k,n,hm,hk,hns,hn,hgd,kn,rfl⟩;refine Q4 ?_;refine Qa ?_;simp only[go_sem,Qaj];intro hcl;refine Qf (Qc rfl ?_ ?_)
  ·intro hc;have hlt:k<cs.length:=by simpa using hc
   refine Qe ?_;simp only[go_sem];refine Qf (Qd ?_);refine Qa ?_;simp only[go_sem,hlt,Qaj,Qbh _ _ hlt,CodeD.cells];obtain⟨q,hq⟩:∃q,cs[k]=q:=⟨_,rfl⟩;rw[hq];intro x5 hx5 H2 h2;have kn:=kn.al hx5 h2;have hx52:=kn.l 0 rfl;simp only[go_sem,Qpk,hx52];intro H3 h3;have kn:Kn H H3 [] [(x5,.st [.int .i64 q.params,.int .i64 q.regs,.sl false 5 (Qaq q.blocks)])]:=kn.stL 0 rfl h3;have hx53:=kn.l 0 rfl;refine Q4 ?_;refine Qa ?_;simp only[go_sem,hx53];refine Qdk ?_;simp only[go_sem,Qpl,hx53];have rest:∀(b:Bool) (E1:Env),lk 1 E1=.c (.pp [.sl fl 3 (Q2 cs)])→lk 3 E1=.c (.int .i64 n)→lk 4 E1=.c (.int .i64 k)→lk 5 E1=.c (.ptr x5 0)→lk 42 E1=.c (.bool b)→Q9b q=(!b)→
     Q8 prog (s_sp_UnitValid_6.seq Qpi) (X.inBlock 1 (X.sq prog Qhp (X.next (fun e2 H2=>∃m_1,m_1<m∧∃(k n:Nat),m_1=cs.length-k∧k≤cs.length∧n=Q0l cntQ (cs.take k)∧n≤800∧(∀(i:Nat) (hi:i<cs.length),i<k→Qaob cs i hi)∧Kn H H2 [] []∧e2=[(1,.c (.pp [.sl fl 3 (Q2 cs)])),(3,.c (.int .i64 n)),(4,.c (.int .i64 k))])
      (X.inBlock 0 (X.sq prog Qhq (Qs Qer (unK H K))))))) E1 H3:=by
    intro b E1 l1 l3 l4 l5 l42 hb;refine Qf (Qc l42 ?_ ?_)
    ·intro hc2;refine Qa ?_;simp only[go_sem];refine Qi ?_;simp only[go_sem,X.next];exact retf false _ _ _ (Q0g fun hu=>by have:=(hu.2.1 k hlt).1;rw[hq,hb,hc2]at this;simp at this) kn (by simp[lk])
    intro hc2;rw[hc2]at hb;have hb':=hb;simp only[Q9b,Jn,Jh,decide_eq_true_eq]at hb';obtain⟨hr0,hr1,hb0,hbl⟩:0≤q.regs∧q.regs≤300∧0<q.blocks.length∧q.blocks.length≤160:=(by omega);refine Qe ?_;simp only[go_sem];refine Qa ?_;simp only[go_sem,l1,l3,l4,l5];refine Qd (Qw (fun m e1 H1=>∃(j n2:Nat),m=q.blocks.length-j∧j≤q.blocks.length∧n2=n+Q0l cntY (q.blocks.take j)∧n2≤800∧(∀(i:Nat) (hi:i<q.blocks.length),i<j→blkG cs k i q q.blocks[i]=true)∧Kn H H1 [] [(x5,.st [.int .i64 q.params,.int .i64 q.regs,.sl false 5 (Qaq q.blocks)])]∧
     e1=[(1,.c (.pp [.sl fl 3 (Q2 cs)])),(3,.c (.int .i64 n2)),(4,.c (.int .i64 k)),(5,.c (.ptr x5 0)),(6,.c (.int .i64 j))]) q.blocks.length ?_ ?_)
    ·exact⟨0,n,by omega,by omega,rfl,hn,fun _ _ h=>by omega,kn,rfl⟩
    ·rintro m2 e1 H4 ⟨j,n2,hm2,hj,hn2s,hn2,hnx,kn,rfl⟩;have hx54:=kn.l 0 rfl;refine Q4 ?_;refine Qa ?_;simp only[go_sem,hx54,Qam];intro hbl2;refine Qf (Qc rfl ?_ ?_)
     ·intro hc3;have hjl:j<q.blocks.length:=(by simpa using hc3);refine Qe ?_;simp only[go_sem];refine Qf (Qd ?_);have hqf:=hfit _ (Jb hlt);rw[hq]at hqf;have hbf:=hqf _ (Jb hjl);have hss:=Qpo (f:=cntY) hjl;have hcy:cntY q.blocks[j]=q.blocks[j].ins.length+q.blocks[j].phis.length:=rfl;refine Qag ?_;simp only[go_sem,hx54,hjl,Qam,Qdm _ _ hjl,BlkD.cells,Qc9,Qct];refine⟨Qo (by omega) (by omega),Qo (by omega) (by omega),?_⟩;refine Qa ?_;simp only[go_sem];have fin:∀(b3:Bool) (E1:Env) (H5:Heap),(decide (n2+cntY q.blocks[j]≤800)&&blkG cs k j q q.blocks[j])=(!b3)→Kn H H5 [] [(x5,.st [.int .i64 q.params,.int .i64 q.regs,.sl false 5 (Qaq q.blocks)])]→lk 1 E1=.c (.pp [.sl fl 3 (Q2 cs)])→
        lk 3 E1=.c (.int .i64 ((n2+q.blocks[j].ins.length+q.blocks[j].phis.length:Nat):Int))→lk 4 E1=.c (.int .i64 k)→lk 5 E1=.c (.ptr x5 0)→lk 6 E1=.c (.int .i64 j)→lk 75 E1=.c (.bool b3)→
        Q8 prog Qsu (X.inBlock 3 (X.sq prog Qph (X.next (fun e2 H2=>∃m,m<m2∧∃(j n2:Nat),m=q.blocks.length-j∧j≤q.blocks.length∧n2=n+Q0l cntY (q.blocks.take j)∧n2≤800∧(∀(i:Nat) (hi:i<q.blocks.length),i<j→blkG cs k i q q.blocks[i]=true)∧Kn H H2 [] [(x5,.st [.int .i64 q.params,.int .i64 q.regs,.sl false 5 (Qaq q.blocks)])]∧
         e2=[(1,.c (.pp [.sl fl 3 (Q2 cs)])),(3,.c (.int .i64 n2)),(4,.c (.int .i64 k)),(5,.c (.ptr x5 0)),(6,.c (.int .i64 j))])
         (X.inBlock 2 (X.inBlock 1 (X.sq prog Qhp (X.next (fun e2 H2=>∃m_1,m_1<m∧∃(k n:Nat),m_1=cs.length-k∧k≤cs.length∧n=Q0l cntQ (cs.take k)∧n≤800∧(∀(i:Nat) (hi:i<cs.length),i<k→Qaob cs i hi)∧Kn H H2 [] []∧e2=[(1,.c (.pp [.sl fl 3 (Q2 cs)])),(3,.c (.int .i64 n)),(4,.c (.int .i64 k))])
         (X.inBlock 0 (X.sq prog Qhq (Qs Qer (unK H K))))))))))) E1 H5:=by
       intro b3 E1 H5 hb3 kn l1 l3 l4 l5 l6 l75;refine Qc l75 ?_ ?_
       ·intro hc4;refine Qa ?_;simp only[go_sem];refine Qi ?_;simp only[go_sem,X.next];refine retf false _ _ _ (Q0g fun hu=>?_) kn (by simp[lk]);rw[hc4]at hb3;have hblk:=(hu.2.1 k hlt).2 j (by rw[hq];exact hjl);subst hq;have hov:¬800<n2+cntY cs[k].blocks[j]:=fun ho=>Qbk1 hlt hjl (by omega) hu;rw[hblk]at hb3;simp at hb3;omega
       ·intro hc4;rw[hc4]at hb3;simp only[Jn,Jh,decide_eq_true_eq]at hb3;refine Qe ?_;simp only[go_sem];refine Qq ?_;simp only[go_sem,X.next,l1,l3,l4,l5,l6];refine⟨Qo (by omega) (by omega),q.blocks.length-(j+1),by omega,j+1,_,rfl,by omega,?_,?_,?_,kn,rfl⟩
        ·rw[hss];omega
        ·omega
        ·intro i hi hij;by_cases hij2:i<j
         ·exact hnx i hi hij2
         ·have:i=j:=(by omega);subst this;exact hb3.2
      refine⟨fun hb1=>?_,fun hb1=>?_⟩
      ·refine Qbee hlt (by rw[hq];exact hjl) (by rw[hq];exact hr0) (by rw[hq];exact hr1) (by omega) (by rw[hq];omega) fun H5 hu=>?_;have kn:=kn.call0 hu;simp only[go_sem,Qhs];refine fin _ _ _ ?_ kn (by simp[lk]) (by simp[lk]) (by simp[lk]) (by simp[lk]) (by simp[lk]) (by simp[lk];rfl);subst hq;by_cases ho:n2+cntY cs[k].blocks[j]≤800
       ·have ho':¬800<(n2:Int)+cs[k].blocks[j].ins.length+cs[k].blocks[j].phis.length:=(by simp only[cntY]at ho;omega);simp[ho,ho']
       ·have ho':800<(n2:Int)+cs[k].blocks[j].ins.length+cs[k].blocks[j].phis.length:=(by simp only[cntY]at ho;omega);simp[ho,ho']
      ·replace hb1:=Qdx hb1;simp only[go_sem,Qhs,hb1];exact fin true _ _ (by simp at hb1;simp[hcy];omega) kn (by simp[lk]) (by simp[lk]) (by simp[lk]) (by simp[lk]) (by simp[lk]) (by simp[lk])
     ·intro hc3;refine Qv ?_;simp only[go_sem,X.next];refine Qq ?_;simp only[go_sem,X.next];have hjq:q.blocks.length≤j:=(by simpa using hc3);have hjq:j=q.blocks.length:=(by omega);refine⟨Qo (by omega) (by omega),cs.length-(k+1),by omega,k+1,n2,rfl,by omega,?_,hn2,?_,kn.drop (A:=[]),rfl⟩
      ·rw[Qpo hlt,hq,hn2s,hns,hjq,Jai];rfl
      ·intro i hi hik;by_cases hik2:i<k
       ·exact hgd i hi hik2
       ·have:i=k:=(by omega);subst this;subst hq;exact⟨by rw[hb];rfl,fun b hbl=>hnx b hbl (by omega)⟩
   refine⟨fun hb1=>?_,fun hb1=>?_⟩
   ·refine Qdk ?_;simp only[go_sem,Qhr,hx53,Qam];intro hblim;refine⟨fun hb2=>?_,fun hb2=>?_⟩
    ·replace hb2:=Qi8 hb2;refine Qdk ?_;simp only[go_sem,Qd9];refine rest _ _ (by simp[lk]) (by simp[lk]) (by simp[lk]) (by simp[lk]) (by simp[lk];rfl) ?_;simp[Q9b]
    ·replace hb2:=Qdx hb2;simp only[go_sem,Qd9,hb2];exact rest true _ (by simp[lk]) (by simp[lk]) (by simp[lk]) (by simp[lk]) (by simp[lk]) (by simp at hb2;simp[Q9b];omega)
   ·replace hb1:=Qdx hb1;simp only[go_sem,Qhr,Qd9,hb1,hx53,Qam,cond_true];exact rest true _ (by simp[lk]) (by simp[lk]) (by simp[lk]) (by simp[lk]) (by simp[lk]) (by simp at hb1;simp[Q9b];omega)
  ·intro hc;refine Qv ?_;simp only[go_sem,X.next];refine Qa ?_;simp only[go_sem];refine Qi ?_;have hkc:cs.length≤k:=by simpa using hc
   refine retf true _ _ _ (decide_eq_true ⟨by omega,fun i hi=>hgd i hi (by omega),?_⟩) kn (by simp[lk]);rw[Jd hkc]at hns;omega
end Go.AE.Y
namespace Go.AE.Y
attribute [local go_sem] cond_true cond_false Bool.not_true Bool.not_false
attribute [local instance] Classical.propDecidable
open Go.Proofs.Tryz
variable {H:Heap}{K:V→Heap→Prop}{fns:List Fn}
noncomputable def lowB (fns:List Fn):Bool:=Qat6 fns&&Qabz (Qba (-1) fns)
noncomputable def lowP (fns:List Fn):List CodeD:=if lowB fns=true then Qba (-1) fns else []
theorem Qah3 {m:Nat}:∀{l:List Fn},(∀f∈l,Qh f.body≤m)→Qt l≤l.length * (m+1)
 |[],_=>by simp[Qt]
 |f::r,h=>by
  have h1:=h f (by simp);have h2:=Qah3 fun g hg=>h g (Jl _ hg);simp only[Qt,Jk];rw[Nat.add_mul];omega
theorem FineP.prOk (h:FineP fns):PrOk fns:=by
 have hs:∀f∈fns,Qh f.body≤4000∧Qcn f.body∧f.params.length≤3:=fun f hf=>by
  obtain⟨k,hk,rfl⟩:=Jam.1 hf;exact h.sizes k hk
 have hl:=h.len;refine⟨hl.1,fun f hf=>(hs f hf).2.2,fun f hf=>(hs f hf).2.1,?_,hl.2⟩;have h1:=Qah3 fun f hf=>(hs f hf).1;have h2:fns.length * (4000+1)≤4 * (4000+1):=J3 _ hl.2;omega
theorem Qbg5 {fl:Bool}(hf:Qt fns≤2^36)(hK:∀H',Upd H H' []→(∀c∈lowP fns,c.fits)→K (.tup [.ag [.sl false 3 (Q2 (lowP fns))],.c (.bool (lowB fns))]) H') :
  Ql prog Qfr [.ag [.sl fl 3 (Q1 fns)]] H K:=by
 refine Q0 ?_;refine Qb Qai Q9s ?_;refine Qa ?_;simp only[go_sem];intro x2 hx2 H1 h1;have kn:=(Kn.start0 H).al hx2 h1;have g2:=kn.l 0 rfl;simp only[go_sem,Qkl];refine Q4 ?_;refine Qa ?_;simp only[go_sem];refine Qbkp hf fun H2 hu=>?_;have kn:=kn.call0 hu;have g2:=kn.l 0 rfl;simp only[go_sem,Qkm];have bad:∀(e:Env) (H':Heap) (L:List (Nat×Obj)),lowB fns=false→Kn H H' [] ((x2,.st [.sl true 3 []])::L)→lk 2 e=.c (.ptr x2 0)→lk 3 e=.c (.bool false)→Qs Qd6 (unK H K) .ret e H':=by
  intro e H' L hb kn l2 l3;have g2:=kn.l 0 rfl;simp only[go_sem,Qs,Q6,Qd6,Jag,J4,or_false,forall_eq_or_imp,forall_eq,RS.op,g2,l2,l3];have:=hK _ kn.fin (by rw[lowP,hb];simp);rw[lowP,hb]at this;refine⟨_,Qagn (rows:=[]) (by simp) _,this⟩
 refine Qf (Qc rfl (fun hc=>?_) (fun hc=>?_))
 ·have hb:Qat6 fns=false:=by simpa using hc
  refine Qa ?_;simp only[go_sem,g2];intro H3 h3;have kn:=kn.stL 0 rfl h3;simp only[go_sem,Qkn];refine Qi ?_;exact bad _ _ _ (by rw[lowB,hb];rfl) kn rfl rfl
 have hb:Qat6 fns=true:=by simpa using hc
 have hp:=fine_iff.1 hb;refine Qe ?_;try simp only[go_sem]
 refine Qa ?_;simp only[go_sem];refine Qbi8 hp.prOk fun H3 hu hfit=>?_;have kn:=kn.call0 hu;simp only[go_sem,Qkp];intro x4 hx4 H4 h4;have kn:=kn.al hx4 h4;have g4:=kn.l 1 rfl;simp only[go_sem,Qko,g4];intro H5 h5;have kn:Kn H H5 [] [(x2,.st [.sl true 3 []]),(x4,.st [.sl false 3 (Q2 (Qba (-1) fns))])]:=kn.stL 1 rfl h5;have g4:=kn.l 1 rfl;refine Q4 ?_;refine Qa ?_;simp only[go_sem,g4];refine Qaw5 hfit fun H6 hu=>?_;have kn:=kn.call0 hu;have g2:=kn.l 0 rfl;have g4:=kn.l 1 rfl;simp only[go_sem,Qkq];refine Qf (Qc rfl (fun hc=>?_) (fun hc=>?_))
 ·have hg:Qabz (Qba (-1) fns)=false:=by simpa using hc
  refine Qa ?_;simp only[go_sem,g2];intro H7 h7;have kn:=kn.stL 0 rfl h7;simp only[go_sem,Qkr];refine Qi ?_;exact bad _ _ _ (by rw[lowB,hg,Bool.and_false]) kn rfl rfl
 have hg:Qabz (Qba (-1) fns)=true:=by simpa using hc
 have hlow:lowB fns=true:=by rw[lowB,hb,hg];rfl
 have hP:lowP fns=Qba (-1) fns:=by rw[lowP,if_pos hlow]
 refine Qe ?_;try simp only[go_sem]
 refine Qa ?_;simp only[go_sem,g2,g4];intro H7 h7;have kn:=kn.stL 0 rfl h7;have g2:=kn.l 0 rfl;simp only[go_sem,Qks];refine Qi ?_;simp only[go_sem,Qs,Q6,Qd6,Jag,J4,or_false,forall_eq_or_imp,forall_eq,RS.op,g2];have:=hK _ kn.fin (by rw[hP];exact hfit);rw[hP,hlow]at this;exact⟨_,Qagn (Qmt _) _,this⟩
end Go.AE.Y
namespace Go.AE.Y
open Go.Proofs.Tryz
variable {H:Heap}{K:V→Heap→Prop}
theorem Qbdz {op:Int}(hK:K (.c (.bool (decide (1≤op)&&decide (op≤14)))) H):Ql prog Qpw [.c (.int .i64 op)] H K:=by
 refine Qb Qai Qa86 ?_;refine Qa ?_;simp only[go_sem];refine Qa ?_;simp only[go_sem];refine Qgh ?_;simp only[go_sem,Q74];refine Qi ?_;simp only[go_sem,Qs,Q6,Qer,Ja,forall_eq,RS.op];exact hK
theorem Qbim {n:Int}(hK:K (.c (.bool (decide (0≤n)&&decide (n≤255)))) H):Ql prog Qh8 [.c (.int .i64 n)] H K:=by
 refine Qb Qai Qahq ?_;refine Qa ?_;simp only[go_sem];refine Qa ?_;simp only[go_sem];refine Qgh ?_;simp only[go_sem,Qn3];refine Qi ?_;simp only[go_sem,Qs,Q6,Qer,Ja,forall_eq,RS.op];exact hK
theorem Qbg2 {op:Int}(hK:K (.c (.bool (Q7h op))) H):Ql prog Qz7 [.c (.int .i64 op)] H K:=by
 refine Qb Qai Qben ?_;refine Qa ?_;simp only[go_sem];refine Qa ?_;simp only[go_sem];refine Qbdz ?_;simp only[go_sem,Qacl];refine Qi ?_;simp only[go_sem,Qs,Q6,Qer,Ja,forall_eq,RS.op];have:∀a b c:Bool,(bif bif a then b else false then c else false)=(a&&b&&c):=by decide
 rw[this];have e:(decide (1≤op)&&decide (op≤14))=decide (1≤op∧op≤14):=by simp
 rw[e];exact hK
theorem Qaw1 {j:Int}(hK:K (.c (.bool (decide (j=2) || decide (j=3)))) H):Ql prog Qmu [.c (.int .i64 j)] H K:=by
 refine Qb Qai Qa2r ?_;refine Qa ?_;simp only[go_sem];refine Qa ?_;simp only[go_sem];refine Qi ?_;simp only[go_sem,Qs,Q6,Qer,Ja,forall_eq,RS.op];have:∀a b:Bool,(bif a then true else b)=(a || b):=by decide
 first|(rw[this];exact hK)|exact hK
theorem Qa2z {j:Int}(hK:K (.c (.int .i64 (Qvc j))) H):Ql prog Qlq [.c (.int .i64 j)] H K:=by
 refine Qb Qai Qaom ?_;have retf:∀(n:Int) (e:Env),Qvc j=n→lk 2 e=.c (.int .i64 n)→Qs Qer K .ret e H:=by
  intro b e h1 h3;simp only[go_sem,Qs,Q6,Qer,Ja,forall_eq,RS.op,h3];rw[←h1];exact hK
 refine Qa ?_;simp only[go_sem];refine Q4 ?_;refine Qa ?_;simp only[go_sem];refine Qf (Qd ?_);refine Qa ?_;simp only[go_sem];refine Qc rfl ?_ ?_
 ·intro hc;refine Qa ?_;simp only[go_sem];refine Qi ?_;simp only[go_sem];exact retf 1 _ (by simp at hc;simp[Qvc,hc]) (by simp[lk])
 intro hc1;refine Qa ?_;simp only[go_sem];refine Qc rfl ?_ ?_
 ·intro hc;refine Qa ?_;simp only[go_sem];refine Qi ?_;simp only[go_sem];exact retf 2 _ (by simp at hc;simp[Qvc,hc]) (by simp[lk])
 intro hc2;refine Qa ?_;simp only[go_sem];refine Qc rfl ?_ ?_
 ·intro hc;refine Qa ?_;simp only[go_sem];refine Qi ?_;simp only[go_sem];exact retf 0 _ (by simp at hc;simp[Qvc,hc]) (by simp[lk])
 ·intro hc;refine Qe ?_;simp only[go_sem];refine Qa ?_;simp only[go_sem];refine Qi ?_;exact retf (-1) _ (by simp at hc hc1 hc2;simp[Qvc,hc,hc1,hc2]) (by simp[lk])
def Qaw6 (op:Int):Int:=if op=1 then 0 else if op=2∨op=10∨op=11∨op=13 then 1 else 2
theorem Qbdy {op:Int}(hK:K (.c (.int .i64 (Qaw6 op))) H):Ql prog Qpv [.c (.int .i64 op)] H K:=by
 refine Qb Qai Qaxw ?_;have retf:∀(n:Int) (e:Env),Qaw6 op=n→lk 2 e=.c (.int .i64 n)→Qs Qer K .ret e H:=by
  intro b e h1 h3;simp only[go_sem,Qs,Q6,Qer,Ja,forall_eq,RS.op,h3];rw[←h1];exact hK
 refine Qa ?_;simp only[go_sem];refine Q4 ?_;refine Qa ?_;simp only[go_sem];refine Qf (Qd ?_);refine Qa ?_;simp only[go_sem];refine Qc rfl ?_ ?_
 ·intro hc;refine Qa ?_;simp only[go_sem];refine Qi ?_;simp only[go_sem];exact retf 0 _ (by simp at hc;simp[Qaw6,hc]) (by simp[lk])
 intro hc1;have fin:∀(b:Bool) (e:Env),b=decide (op=2∨op=10∨op=11∨op=13)→lk 6 e=.c (.bool b)→Q8 prog Q3s (X.inBlock 0 (X.sq prog Q3t (Qs Qer K))) e H:=by
  intro b e hb l6;refine Qc l6 ?_ ?_
  ·intro hc;refine Qa ?_;simp only[go_sem];refine Qi ?_;simp only[go_sem];exact retf 1 _ (by rw[hc]at hb;have:=of_decide_eq_true hb.symm;simp at hc1;rw[Qaw6,if_neg hc1,if_pos this]) (by simp[lk])
  ·intro hc;refine Qe ?_;simp only[go_sem];refine Qa ?_;simp only[go_sem];refine Qi ?_;exact retf 2 _ (by rw[hc]at hb;have:=of_decide_eq_false hb.symm;simp at hc1;rw[Qaw6,if_neg hc1,if_neg this]) (by simp[lk])
 refine Q4 ?_;refine Qa ?_;simp only[go_sem];refine Qf (Qc rfl ?_ ?_)
 ·intro hc;refine Qe ?_;simp only[go_sem];exact fin true _ (decide_eq_true (.inl (of_decide_eq_true hc))).symm (by simp[lk];exact of_decide_eq_true hc)
 intro hc2;refine Qa ?_;simp only[go_sem];refine Qc rfl ?_ ?_
 ·intro hc;refine Qe ?_;simp only[go_sem];exact fin true _ (decide_eq_true (.inr (.inl (of_decide_eq_true hc)))).symm (by simp[lk];exact of_decide_eq_true hc)
 intro hc3;refine Qa ?_;simp only[go_sem];refine Qc rfl ?_ ?_
 ·intro hc;refine Qe ?_;simp only[go_sem];exact fin true _ (decide_eq_true (.inr (.inr (.inl (of_decide_eq_true hc))))).symm (by simp[lk];exact of_decide_eq_true hc)
 intro hc4;refine Qq ?_;simp only[go_sem];refine fin (decide (op=13)) _ ?_ (by simp[lk]);have a2:=of_decide_eq_false hc2;have a3:=of_decide_eq_false hc3;have a4:=of_decide_eq_false hc4;simp[a2,a3,a4]
theorem Qa1r {l:List BlkD}(hf:∀b∈l,b.ins.length≤2 ^ 38∧b.phis.length≤2 ^ 38):Q0l cntY l≤l.length * 549755813888:=by
 induction l with
 |nil=>simp[Q0l]
 |cons y l ih=>
  have h1:=hf y Jx;have h2:=ih fun b hb=>hf b (Jl _ hb);simp only[Q0l,J1,List.sum_cons,cntY,Jk]at *;omega
theorem Qa11 {q:CodeD}{fl:Bool}(hf:q.fits)(hb:q.blocks.length≤160)(hK:∀H',Upd H H' []→K (.c (.int .i64 (cntQ q))) H') :
  Ql prog Qlm [.ag [.int .i64 q.params,.int .i64 q.regs,.sl fl 5 (Qaq q.blocks)]] H K:=by
 refine Q0 ?_;refine Qb Qai Qaoh ?_;have hsb:=Qa1r hf;refine Qa ?_;simp only[go_sem];refine Qa ?_;simp only[go_sem];refine Q4 ?_;refine Qa ?_;simp only[go_sem,Qam];intro _;refine Qf (Qd (Qw (fun m e1 H1=>∃(i:Nat),m=q.blocks.length-i∧i≤q.blocks.length∧Kn H H1 [] []∧
  e1=[(3,.c (.int .i64 (Q0l cntY (q.blocks.take i):Nat))),(7,.c (.sl fl 5 (Qaq q.blocks))),(8,.c (.int .i64 q.blocks.length)),(9,.c (.int .i64 i))]) q.blocks.length ?_ ?_))
 ·exact⟨0,by omega,by omega,Kn.start0 H,rfl⟩
 ·rintro m e1 H1 ⟨i,hm,hi,kn,rfl⟩;refine Qa ?_;simp only[go_sem];refine Qf (Qc rfl ?_ ?_)
  ·intro hc;have hlt:i<q.blocks.length:=by simpa using hc
   have hbf:=hf _ (Jb hlt);have hss:=Qpo (f:=cntY) hlt;have hle:=Qa6s (f:=cntY) (l:=q.blocks) (i+1);have hcy:cntY q.blocks[i]=q.blocks[i].ins.length+q.blocks[i].phis.length:=rfl;have hmul:q.blocks.length * 549755813888≤160 * 549755813888:=J3 _ hb;refine Qe ?_;simp only[go_sem];refine Qf (Qd ?_);refine Qa ?_;simp only[go_sem,hlt,Qam,Qdm _ _ hlt,BlkD.cells];intro x5 hx5 H2 h2;have kn:=kn.al hx5 h2;have hx5:=kn.l 0 rfl;simp only[go_sem,Qow,hx5];intro H3 h3;have kn:Kn H H3 [] ([]++[(x5,.st [.sl false 2 (Qgk q.blocks[i].phis),.sl false 4 (Qmq q.blocks[i].ins),.int .i64 q.blocks[i].jump,.int .i64 q.blocks[i].on,.sl false 1 (Qk q.blocks[i].next)])]):=kn.stL 0 rfl h3;have hx5:=kn.l 0 rfl;refine Qq ?_;simp only[go_sem,hx5,Qc9,Qct];intro _ _;refine⟨Qo (by omega) (by omega),Qo (by omega) (by omega),?_⟩;refine Qq ?_;simp only[go_sem,X.next];refine⟨Qo (by omega) (by omega),q.blocks.length-(i+1),by omega,i+1,rfl,by omega,kn.drop,?_⟩;rw[hss,hcy];have:((Q0l cntY (q.blocks.take i):Nat):Int)+((q.blocks[i].phis.length:Int)+q.blocks[i].ins.length)=((Q0l cntY (q.blocks.take i)+(q.blocks[i].ins.length+q.blocks[i].phis.length):Nat):Int):=by omega
   rw[this];rfl
  ·intro hc;have hge:q.blocks.length≤i:=by simpa using hc
   refine Qv ?_;simp only[go_sem,X.next];refine Qa ?_;simp only[go_sem];refine Qi ?_;simp only[go_sem,Qs,Q6,Qer,Ja,forall_eq,RS.op];rw[Jd hge];exact⟨_,.c _ _ (Qg rfl),hK _ kn.fin⟩
theorem Qass {x7:Nat}{q:CodeD}{v:Int}(h7:H x7=.st q.cells)(hr:-(2^62)≤q.regs)(hr2:q.regs≤2^62)(hK:K (.c (.bool (decide (0≤v∧v≤q.regs-1)))) H) :
  Ql prog Qen [.c (.int .i64 v),.c (.ptr x7 0)] H K:=by
 refine Qb Qai Qaun ?_;refine Qa ?_;simp only[go_sem];refine Qa ?_;simp only[go_sem,h7,CodeD.cells];refine⟨Qo (by omega) (by omega),?_⟩;refine Qgh ?_;simp only[go_sem,Qrn];refine Qi ?_;simp only[go_sem,Qs,Q6,Q3g,Ja,forall_eq,RS.op];have e:(decide (0≤v)&&decide (v≤q.regs-1))=decide (0≤v∧v≤q.regs-1):=by simp
 rw[e];exact hK
theorem Qa8z {x7 x8:Nat}{q:CodeD}{v:Int}(h7:H x7=.st q.cells)(h8:H x8=.st [.fn Qen [.ptr x7 0]])(hr:-(2^62)≤q.regs)(hr2:q.regs≤2^62)(hK:K (.c (.bool (!decide (0≤v∧v≤q.regs-1)))) H) :
  Ql prog Qnm [.c (.int .i64 v),.c (.ptr x8 0)] H K:=by
 refine Qb Qai Qauo ?_;refine Qa ?_;simp only[go_sem];refine Qa ?_;simp only[go_sem,h8,Jr,Jq,J1,Jaj];refine Qass h7 hr hr2 ?_;simp only[go_sem,Qro];refine Qi ?_;simp only[go_sem,Qs,Q6,Q3g,Ja,forall_eq,RS.op];exact hK
theorem Qa1z (p:Int→Bool)(l:List Int):(l.any fun x=>!p x) = !l.all p:=by
 induction l with
 |nil=>rfl
 |cons x l ih=>simp only[List.any_cons,List.all_cons,ih];cases p x <;> simp
theorem Qbmx {cs:List CodeD}{fl:Bool}{k:Nat}{x:InsD}(hk:k<cs.length)(hr:0≤cs[k].regs)(hr2:cs[k].regs≤300)(hcl:cs.length≤100)(hK:∀(H':Heap),Upd H H' []→K (.c (.bool (insG cs k x))) H') :
  Ql prog Q4g [.ag [.sl fl 3 (Q2 cs)],.c (.int .i64 k),.ag x.cells] H K:=by
 refine Q0 ?_;refine Qb Qai Qa85 ?_;refine Qa ?_;simp only[go_sem,InsD.cells];refine Qa ?_;simp only[go_sem,hk,Qaj,Qbh _ _ hk,CodeD.cells];intro x7 hx7 H1 h1;have kn:=(Kn.start0 H).al hx7 h1;have hx7:=kn.l 0 rfl;simp only[go_sem,Q71,hx7];intro H2 h2;have kn:=kn.stL 0 rfl h2;refine Qa ?_;simp only[go_sem];intro x8 hx8 H3 h3;have kn:=kn.al hx8 h3;have hx8:=kn.l 1 rfl;simp only[go_sem,Q72,hx8];intro H4 h4;have kn:Kn H H4 [] [(x7,.st cs[k].cells),(x8,.st [.fn Qen [.ptr x7 0]])]:=kn.stL 1 rfl h4;have h7:H4 x7=.st cs[k].cells:=kn.l 0 rfl;have h8:=kn.l 1 rfl;have hrg:=Qa25 hk;have retf:∀(b:Bool) (e:Env),insG cs k x=b→lk 6 e=.c (.bool b)→Qs Qblj (unK H K) .ret e H4:=by
  intro b e h1 h3;simp only[go_sem,Qs,Q6,Qblj,Ja,forall_eq,RS.op,h3];rw[←h1];exact⟨_,.c _ _ (Qg rfl),hK _ kn.fin⟩
 refine Q4 ?_;refine Qa ?_;simp only[go_sem];refine Qbdz ?_;simp only[go_sem,Q73];have rest2:∀(E1:Env) (b:Bool),insH cs[k].regs x=true→insT cs[k].regs x=(!b)→lk 1 E1=.c (.int .i64 k)→lk 3 E1=.c (.pp [.sl fl 3 (Q2 cs)])→lk 5 E1=.c (.pp [.int .i64 x.op,.int .i64 x.to,.sl false 1 (Qk x.args),.int .i64 x.n])→lk 45 E1=.c (.bool b)→
   Q8 prog (s_im_insOk_8.seq Q7z) (Qs Qblj (unK H K)) E1 H4:=by
  intro E1 b hb1 hb2 l1 l3 l5 l45;refine Qf (Qc l45 ?_ ?_)
  ·intro hc;refine Qa ?_;simp only[go_sem];refine Qi ?_;simp only[go_sem];exact retf false _ (by rw[insG,hrg,hb2,hc];simp) (by simp[lk])
  intro hc;rw[hc]at hb2;have hG:insG cs k x=insL cs k x:=by rw[insG,hrg,hb1,hb2];rfl
  have hop14:1≤x.op∧x.op≤14:=by
   simp only[insH,Jh,decide_eq_true_eq]at hb1;exact hb1.1
  refine Qe ?_;simp only[go_sem];refine Q4 ?_;refine Qa ?_;simp only[go_sem,l1,l3,l5];refine Qf (Qd ?_);refine Qa ?_;simp only[go_sem];refine Qc rfl ?_ ?_
  ·intro hc;have hop:x.op=1:=of_decide_eq_true hc;have hL:insL cs k x=(decide ((x.args.length:Int)=0)&&(decide (0≤x.n)&&decide (x.n≤255))):=by
    rw[insL,if_neg (by omega)];simp[Q4b,hop]
   refine Qa ?_;simp only[go_sem,Qj];intro _;refine⟨fun hb=>?_,fun hb=>?_⟩
   ·refine Qbim ?_;simp only[go_sem,Qqq];refine Qi ?_;simp only[go_sem];refine retf _ _ ?_ (by simp[lk];rfl);have hb':x.args=[]:=List.length_eq_zero_iff.1 (by have:=of_decide_eq_true hb;omega);rw[hG,hL];simp[hb']
   ·simp only[go_sem,Qqq,hb];refine Qi ?_;simp only[go_sem];exact retf false _ (by rw[hG,hL,hb];rfl) (by simp[lk])
  intro hc1;have hop1:¬x.op=1:=of_decide_eq_false hc1;refine Qa ?_;simp only[go_sem];refine Qc rfl ?_ ?_
  ·intro hc;have hop:x.op=14:=of_decide_eq_true hc;rw[insL,if_pos hop]at hG;refine Qag ?_;simp only[go_sem];refine⟨Qo (by omega) (by omega),?_⟩;refine Qgh ?_;by_cases hin:0≤x.n∧x.n≤(k:Int)-1
   ·obtain⟨m,hm⟩:=Int.eq_ofNat_of_zero_le hin.1;have hmk:m<cs.length:=(by omega);have h1:(0≤(m:Int))=True:=eq_true (by omega);have h2:((m:Int)≤(k:Int)-1)=True:=eq_true (by omega);simp only[go_sem,Qh5,hm,h1,h2,hmk,decide_true,Bool.and_self,Qaj,Qbh _ _ hmk,CodeD.cells,Qj];refine Qi ?_;simp only[go_sem];refine retf _ _ ?_ (by simp[lk];rfl);rw[hG,hm,Int.toNat_natCast,Qa22 hmk];simp only[h1,h2,and_self,decide_true,Bool.true_and]
   ·have hin':(decide (0≤x.n)&&decide (x.n≤(k:Int)-1))=false:=(by simpa using hin);have hin2:decide (0≤x.n∧x.n≤(k:Int)-1)=false:=(by simpa using hin);by_cases hm:x.n.toNat<cs.length
    ·simp only[go_sem,Qh5,hin',Qbh _ _ hm,CodeD.cells];refine Qi ?_;simp only[go_sem];exact retf false _ (by rw[hG,hin2];rfl) (by simp[lk])
    ·have hgd:(Q2 cs).getD x.n.toNat []=[]:=by
      rw[Jc,Jz (by rw[Qaj];omega)];rfl
     simp only[go_sem,Qh5,hin',hgd,Ja2,List.headD_nil];refine Qi ?_;simp only[go_sem];exact retf false _ (by rw[hG,hin2];rfl) (by simp[lk])
  ·intro hc;have hop:¬x.op=14:=of_decide_eq_false hc;have hA:Q4b x.op=Qaw6 x.op:=by
    rw[Q4b,Qaw6,if_neg hop1,if_neg hop1];split
    ·rfl
    ·rw[if_pos (by omega)]
   have hL:insL cs k x=(decide (x.n=0)&&decide ((x.args.length:Int)=Qaw6 x.op)):=by
    rw[insL,if_neg hop,hA];by_cases hn:x.n=0
    ·simp[hn]
    ·simp[hn,hop1]
   refine Qe ?_;simp only[go_sem];refine Qag ?_;simp only[go_sem,Qj];refine⟨fun hb=>?_,fun hb=>?_⟩
   ·refine Qbdy ?_;simp only[go_sem,Qn2,hb,Qj];refine Qi ?_;refine retf _ _ ?_ (by simp[lk];rfl);have hb':=of_decide_eq_true hb;rw[hG,hL];simp[hb']
   ·simp only[go_sem,Qn2,hb,Qj];refine Qi ?_;exact retf false _ (by rw[hG,hL,hb];rfl) (by simp[lk])
 have rest:∀(E1:Env) (b:Bool),insH cs[k].regs x=(!b)→lk 1 E1=.c (.int .i64 k)→lk 3 E1=.c (.pp [.sl fl 3 (Q2 cs)])→lk 5 E1=.c (.pp [.int .i64 x.op,.int .i64 x.to,.sl false 1 (Qk x.args),.int .i64 x.n])→lk 8 E1=.c (.ptr x8 0)→lk 24 E1=.c (.bool b)→
   Q8 prog (s_im_insOk_4.seq Q70) (Qs Qblj (unK H K)) E1 H4:=by
  intro E1 b hb l1 l3 l5 l8 l24;refine Qf (Qc l24 ?_ ?_)
  ·intro hc;refine Qa ?_;simp only[go_sem];refine Qi ?_;simp only[go_sem];exact retf false _ (by rw[insG,hrg,hb,hc];rfl) (by simp[lk])
  intro hc;rw[hc]at hb;refine Qe ?_;simp only[go_sem];refine Q4 ?_;refine Qa ?_;simp only[go_sem,l5];refine Qbg2 ?_
  cases hmk:Q7h x.op with
  |true=>
   simp only[go_sem,Jn,Qqp,l5,l8,h8];refine Qass h7 (by omega) (by omega) ?_;have hT:insT cs[k].regs x=decide (0≤x.to∧x.to≤cs[k].regs-1):=by rw[insT,hmk];rfl
   cases hd:decide (0≤x.to∧x.to≤cs[k].regs-1)with
   |true=>
    simp only[go_sem,cond_true,Jac,Jn,Qk2,l5];refine Qbg2 ?_;simp only[go_sem,cond_false,Jac,Jn,Qk1,l1,l3,l5,hmk];exact rest2 _ false hb (by rw[hT,hd];rfl) (by simp[lk]) (by simp[lk]) (by simp[lk]) (by simp[lk])
   |false=>
    simp only[go_sem,cond_true,Jac,Jn,Qk2,Qk1,l1,l3,l5];exact rest2 _ true hb (by rw[hT,hd];rfl) (by simp[lk]) (by simp[lk]) (by simp[lk]) (by simp[lk])
  |false=>
   have hT:insT cs[k].regs x=decide (x.to=-1):=by rw[insT,hmk];rfl
   simp only[go_sem,cond_false,Jn,Qqp,Qk2,l5,l8,h8];refine Qbg2 ?_;simp only[go_sem,cond_true,cond_false,Jn,Qk1,l1,l3,l5,hmk];refine rest2 _ (!decide (x.to=-1)) hb ?_ ?_ ?_ ?_ ?_
   ·rw[hT];simp
   ·rfl
   ·rfl
   ·rfl
   ·rfl
 cases hi:(decide (1≤x.op)&&decide (x.op≤14))with
 |false=>
  simp only[go_sem,Qqo];refine rest _ true ?_ (by simp[lk]) (by simp[lk]) (by simp[lk]) (by simp[lk]) (by simp[lk]);have:decide (1≤x.op∧x.op≤14)=false:=by simpa using hi
  rw[insH,this];rfl
 |true=>
  simp only[go_sem];refine Qni (p:=fun r=>!decide (0≤r∧r≤cs[k].regs-1)) (.mk' _ _ _ _) rfl (fun v K' hv hK'=>Qa8z h7 h8 (by omega) (by omega) hK') ?_;simp only[go_sem,Qqo];refine rest _ (x.args.any fun r=>!decide (0≤r∧r≤cs[k].regs-1)) ?_ (by simp[lk]) (by simp[lk]) (by simp[lk]) (by simp[lk]) (by simp[lk]);have:decide (1≤x.op∧x.op≤14)=true:=by simpa using hi
  rw[insH,this,Qa1z,Qvr];simp
end Go.AE.Y
namespace Go.AE.Y
attribute [local go_sem] cond_true cond_false Bool.not_true Bool.not_false
open Go.Proofs.Tryz
variable {H:Heap}{K:V→Heap→Prop}
theorem Qaw3 {fl:Bool}{l:List InsD}{f:Nat}{caps:List C}{p:InsD→Bool}
  (hf:∀(x:InsD) (H1:Heap) (K':V→Heap→Prop),x∈l→(∀H2,Upd H1 H2 []→K' (.c (.bool (p x))) H2)→Ql prog f ([.ag x.cells]++caps.map .c) H1 K')
  (hK:∀(r:Int) (H':Heap),Upd H H' []→decide (0≤r)=l.any p→K (.c (.int .i64 r)) H') :
  Ql prog Qez [.c (.sl fl 4 (Qmq l)),.c (.fn f caps)] H K:=by
 refine Q0 ?_;refine Qb Qai Q7f ?_;refine Qa ?_;simp only[go_sem];refine Q4 ?_;refine Qa ?_;simp only[go_sem,Qc9];intro hl;simp only[LIM]at hl;refine Qf (Qd (Qw (fun m e1 H1=>∃(i:Nat),m=l.length-i∧i≤l.length∧Kn H H1 [] []∧(∀x∈l.take i,p x=false)∧e1=[(0,.c (.sl fl 4 (Qmq l))),(1,.c (.fn f caps)),(7,.c (.int .i64 l.length)),(8,.c (.int .i64 i))]) l.length ?_ ?_))
 ·exact⟨0,by omega,by omega,Kn.start0 H,by simp,rfl⟩
 ·rintro m e1 H1 ⟨i,hm,hi,kn,hall,rfl⟩;refine Qa ?_;simp only[go_sem];refine Qf (Qc rfl ?_ ?_)
  ·intro hc;have hlt:i<l.length:=by simpa using hc
   refine Qe ?_;simp only[go_sem];refine Qf (Qd ?_);refine Qa ?_;simp only[go_sem];refine Qa ?_;simp only[go_sem,hlt,Qc9,Qoe _ _ hlt,InsD.take4,InsD.allOw,InsD.len4];refine hf _ _ _ (Jb hlt) fun H2 hu=>?_;have kn:=kn.call0 hu;refine Qc rfl ?_ ?_
   ·intro hc2;refine Qa ?_;simp only[go_sem];refine Qi ?_;simp only[go_sem,X.next,Qs,Q6,Qm6,Ja,forall_eq,RS.op];refine⟨_,.c _ _ (Qg rfl),hK _ _ kn.fin ?_⟩;have:l.any p=true:=Jab.2 ⟨_,Jb hlt,hc2⟩;rw[this];simp
   ·intro hc2;refine Qe ?_;simp only[go_sem];refine Qq ?_;simp only[go_sem,X.next];refine⟨Qo (by omega) (by omega),l.length-(i+1),by omega,i+1,rfl,by omega,kn,?_,rfl⟩;rw[Je hlt];intro x hx;rcases Jj.1 hx with hx|hx
    ·exact hall x hx
    ·simp only[Ja]at hx;subst hx;exact hc2
  ·intro hc;have hge:l.length≤i:=by simpa using hc
   rw[Jd hge]at hall;refine Qv ?_;simp only[go_sem,X.next];refine Qa ?_;simp only[go_sem];refine Qi ?_;simp only[go_sem,Qs,Q6,Qm6,Ja,forall_eq,RS.op];refine⟨_,.c _ _ (Qg rfl),hK _ _ kn.fin ?_⟩;have:l.any p=false:=by
    cases hc:l.any p with
    |false=>rfl
    |true=>obtain⟨x,hx,hp⟩:=Jab.1 hc;rw[hall x hx]at hp;exact absurd hp (by simp)
   rw[this];rfl
theorem Qagr {fl:Bool}{l:List InsD}{f:Nat}{caps:List C}{p:InsD→Bool}
  (hf:∀(x:InsD) (H1:Heap) (K':V→Heap→Prop),x∈l→(∀H2,Upd H1 H2 []→K' (.c (.bool (p x))) H2)→Ql prog f ([.ag x.cells]++caps.map .c) H1 K')
  (hK:∀(H':Heap),Upd H H' []→K (.c (.bool (l.any p))) H') :
  Ql prog Qdf [.c (.sl fl 4 (Qmq l)),.c (.fn f caps)] H K:=by
 refine Qb Qai Qu9 ?_;refine Qa ?_;simp only[go_sem];refine Qa ?_;simp only[go_sem];refine Qaw3 hf fun r H' hu hr=>?_;simp only[go_sem,Qe8];refine Qi ?_;simp only[go_sem,Qs,Q6,Qm6,Ja,forall_eq,RS.op];rw[hr];exact hK _ hu
theorem Q4c {x5:Nat}{q:CodeD}{v:Int}(h5:H x5=.st q.cells)(hr:-(2^62)≤q.regs)(hr2:q.regs≤2^62)(hK:K (.c (.bool (decide (0≤v∧v≤q.regs-1)))) H) :
  Ql prog Qas [.c (.int .i64 v),.c (.ptr x5 0)] H K:=by
 refine Qb Qai Qaoi ?_;refine Qa ?_;simp only[go_sem];refine Qa ?_;simp only[go_sem,h5,CodeD.cells];refine⟨Qo (by omega) (by omega),?_⟩;refine Qgh ?_;simp only[go_sem,Qox];refine Qi ?_;simp only[go_sem,Qs,Q6,Q3g,Ja,forall_eq,RS.op];have e:(decide (0≤v)&&decide (v≤q.regs-1))=decide (0≤v∧v≤q.regs-1):=by simp
 rw[e];exact hK
theorem Qa12 {x5:Nat}{q:CodeD}{v:Int}(h5:H x5=.st q.cells)(hb:q.blocks.length≤2 ^ 38)(hK:K (.c (.bool (!Qadx (Qaq q.blocks).length v))) H) :
  Ql prog Qln [.c (.int .i64 v),.c (.ptr x5 0)] H K:=by
 refine Qb Qai Qaoj ?_;refine Qa ?_;simp only[go_sem];refine Qa ?_;simp only[go_sem,h5,CodeD.cells,Qam];intro _;refine⟨Qo (by omega) (by omega),?_⟩;refine Qgh ?_;simp only[go_sem,Qoy];refine Qi ?_;simp only[go_sem,Qs,Q6,Q3g,Ja,forall_eq,RS.op];have e:(decide (1≤v)&&decide (v≤(q.blocks.length:Int)-1))=Qadx (Qaq q.blocks).length v:=by simp[Qadx,Qam]
 rw[e];exact hK
theorem Qa13 {cs:List CodeD}{fl:Bool}{k:Nat}{x:InsD}(hk:k<cs.length)(hr:0≤cs[k].regs)(hr2:cs[k].regs≤300)(hcl:cs.length≤100)(hK:∀(H':Heap),Upd H H' []→K (.c (.bool (!insG cs k x))) H') :
  Ql prog Qlo [.ag x.cells,.c (.pp [.sl fl 3 (Q2 cs)]),.c (.pp [.int .i64 k])] H K:=by
 refine Qb Qai Qaok ?_;refine Qa ?_;simp only[go_sem,InsD.cells];refine Qa ?_;simp only[go_sem];refine Qbmx hk hr hr2 hcl fun H' hu=>?_;simp only[go_sem,Qoz];refine Qi ?_;simp only[go_sem,Qs,Q6,Qm6,Ja,forall_eq,RS.op];exact hK _ hu
theorem Qa14 {x5 x6:Nat}{q:CodeD}{v:Int}(h5:H x5=.st q.cells)(h6:H x6=.st [.fn Qas [.ptr x5 0]])(hr:-(2^62)≤q.regs)(hr2:q.regs≤2^62)(hK:K (.c (.bool (!decide (0≤v∧v≤q.regs-1)))) H) :
  Ql prog Qlp [.c (.int .i64 v),.c (.ptr x6 0)] H K:=by
 refine Qb Qai Qaol ?_;refine Qa ?_;simp only[go_sem];refine Qa ?_;simp only[go_sem,h6,Jr,Jq,J1,Jaj];refine Q4c h5 hr hr2 ?_;simp only[go_sem,Qo0];refine Qi ?_;simp only[go_sem,Qs,Q6,Q3g,Ja,forall_eq,RS.op];exact hK
attribute [local instance] Classical.propDecidable
def blkC (b:BlkD):Obj:=.st [.sl false 2 (Qgk b.phis),.sl false 4 (Qmq b.ins),.int .i64 b.jump,.int .i64 b.on,.sl false 1 (Qk b.next)]
theorem Qaxb {cs:List CodeD}{k:Nat}{hk:k<cs.length}(h:¬Qaob cs k hk):decide (Qaob cs k hk)=false:=decide_eq_false h
theorem Qbhv {cs:List CodeD}{fl:Bool}{k:Nat}(hk:k<cs.length)(hcl:cs.length≤100)(hfit:cs[k].fits)(hK:∀(H':Heap),Upd H H' []→K (.c (.bool (decide (Qaob cs k hk)))) H') :
  Ql prog Qux [.ag [.sl fl 3 (Q2 cs)],.c (.int .i64 k)] H K:=by
 refine Q0 ?_;refine Qb Qai Qa2p ?_;have retf:∀(v:Bool) (e:Env) (H':Heap) (L:List (Nat×Obj)),decide (Qaob cs k hk)=v→Kn H H' [] L→lk 4 e=.c (.bool v)→Qs Qm6 (unK H K) .ret e H':=by
  intro v e H' L hb kn h3;simp only[go_sem,Qs,Q6,Qm6,Ja,forall_eq,RS.op,h3];rw[←hb];exact⟨_,.c _ _ (Qg rfl),hK _ kn.fin⟩
 obtain⟨q,hq⟩:∃q,cs[k]=q:=⟨_,rfl⟩;have hP:Qaob cs k hk=(Q9b q=true∧∀(b:Nat) (h:b<q.blocks.length),blkG cs k b q q.blocks[b]=true):=by subst hq;rfl
 refine Qa ?_;simp only[go_sem];refine Qa ?_;simp only[go_sem,hk,Qaj,Qbh _ _ hk,CodeD.cells,hq];intro x5 hx5 H1 h1;have kn:=(Kn.start0 H).al hx5 h1;have hx5:=kn.l 0 rfl;simp only[go_sem,Q3p,hx5];intro H2 h2;have kn:Kn H H2 [] [(x5,.st q.cells)]:=kn.stL 0 rfl h2;have hx5:H2 x5=.st [.int .i64 q.params,.int .i64 q.regs,.sl false 5 (Qaq q.blocks)]:=kn.l 0 rfl;refine Q4 ?_;refine Qa ?_;simp only[go_sem,hx5];refine Qgh ?_;have rest0:∀(b:Bool) (E1:Env),Q9b q=(!b)→lk 2 E1=.c (.pp [.sl fl 3 (Q2 cs)])→lk 3 E1=.c (.pp [.int .i64 k])→lk 5 E1=.c (.ptr x5 0)→lk 36 E1=.c (.bool b)→
   Q8 prog (s_im_codeOk_4.seq Q3o) (Qs Qm6 (unK H K)) E1 H2:=by
  intro b E1 hb l2 l3 l5 l36;refine Qf (Qc l36 ?_ ?_)
  ·intro hc;refine Qa ?_;simp only[go_sem];refine Qi ?_;simp only[go_sem];exact retf false _ _ _ (Qaxb fun h=>by rw[hP,hb,hc]at h;simp at h) kn (by simp[lk])
  intro hc;rw[hc]at hb;have hb':=hb;simp only[Q9b,Jn,Jh,decide_eq_true_eq]at hb';obtain⟨hr0,hr1,hb0,hbl⟩:0≤q.regs∧q.regs≤300∧0<q.blocks.length∧q.blocks.length≤160:=by omega
  refine Qe ?_;simp only[go_sem];refine Qa ?_;simp only[go_sem,l5];intro x6 hx6 H3 h3;have kn:=kn.al hx6 h3;have hx6:=kn.l 1 rfl;simp only[go_sem,Q3q,hx6,l2,l3,l5];intro H4 h4;have kn:Kn H H4 [] [(x5,.st q.cells),(x6,.st [.fn Qas [.ptr x5 0]])]:=kn.stL 1 rfl h4;have hx5:H4 x5=.st [.int .i64 q.params,.int .i64 q.regs,.sl false 5 (Qaq q.blocks)]:=kn.l 0 rfl;refine Q4 ?_;refine Qa ?_;simp only[go_sem,hx5,Qam];intro _;refine Qf (Qd (Qw (fun m e1 H1=>∃(j:Nat),m=q.blocks.length-j∧j≤q.blocks.length∧(∀(i:Nat) (hi:i<q.blocks.length),i<j→blkG cs k i q q.blocks[i]=true)∧Kn H H1 [] [(x5,.st q.cells),(x6,.st [.fn Qas [.ptr x5 0]])]∧
   e1=[(2,.c (.pp [.sl fl 3 (Q2 cs)])),(3,.c (.pp [.int .i64 k])),(5,.c (.ptr x5 0)),(6,.c (.ptr x6 0)),(39,.c (.sl false 5 (Qaq q.blocks))),(40,.c (.int .i64 q.blocks.length)),(41,.c (.int .i64 j))]) q.blocks.length ?_ ?_))
  ·exact⟨0,by omega,by omega,fun _ _ h=>by omega,kn,rfl⟩
  ·rintro m e1 H5 ⟨j,hm,hj,hdone,kn,rfl⟩;refine Qa ?_;simp only[go_sem];refine Qf (Qc rfl ?_ ?_)
   ·intro hc1;have hlt:j<q.blocks.length:=(by simpa using hc1);have hbf:q.blocks[j].ins.length≤2 ^ 38∧q.blocks[j].phis.length≤2 ^ 38:=(by subst hq;exact hfit _ (Jb hlt));refine Qe ?_;simp only[go_sem];refine Qbl2 (fun e2 H2=>Kn H H2 [] [(x5,.st q.cells),(x6,.st [.fn Qas [.ptr x5 0]])]∧blkG cs k j q q.blocks[j]=true∧lk 2 e2=.c (.pp [.sl fl 3 (Q2 cs)])∧lk 3 e2=.c (.pp [.int .i64 k])∧lk 5 e2=.c (.ptr x5 0)∧lk 6 e2=.c (.ptr x6 0)∧
     lk 39 e2=.c (.sl false 5 (Qaq q.blocks))∧lk 40 e2=.c (.int .i64 q.blocks.length)∧lk 41 e2=.c (.int .i64 j)) ?_ ?_
    ·intro Q hnr hrt _;replace hrt:∀e H',Qs Qm6 (unK H K) .ret e H'→Q .ret e H':=fun e H' h=>hrt e H' (by simpa only[go_sem,X.next]using h);have retq:∀(e:Env) (H':Heap) (L:List (Nat×Obj)),blkG cs k j q q.blocks[j]=false→Kn H H' [] L→lk 4 e=.c (.bool false)→Q .ret e H':=fun e H' L hb kn l4=>
      hrt e H' (retf false e H' L (Qaxb fun h=>by rw[hP]at h;rw[h.2 j hlt]at hb;exact absurd hb (by simp)) kn l4)
     have hGd:blkG cs k j q q.blocks[j]=(Q4i q.regs q.blocks[j]&&q.blocks[j].next.all (Qadx (Qaq q.blocks).length)&&q.blocks[j].ins.all (insG cs k)&&q.blocks[j].phis.all (phiG q.regs (Qcm (gnx q) (j:Int) (Qaq q.blocks).length).length j)):=rfl;refine Qd ?_;refine Qa ?_;simp only[go_sem,hlt,Qam,Qdm _ _ hlt,BlkD.cells];obtain⟨y,hy⟩:∃y,q.blocks[j]=y:=⟨_,rfl⟩;rw[hy]at hGd retq hbf hnr;rw[hy];intro x8 hx8 H6 h6;have kn:=kn.al hx8 h6;have hx8:=kn.l 2 rfl;simp only[go_sem,Q3r,hx8];intro H7 h7;have kn:Kn H H7 [] [(x5,.st q.cells),(x6,.st [.fn Qas [.ptr x5 0]]),(x8,blkC y)]:=kn.stL 2 rfl h7;have hx5:H7 x5=.st [.int .i64 q.params,.int .i64 q.regs,.sl false 5 (Qaq q.blocks)]:=kn.l 0 rfl;have hx5':H7 x5=.st q.cells:=kn.l 0 rfl;have hx6:=kn.l 1 rfl;have hx8:H7 x8=.st [.sl false 2 (Qgk y.phis),.sl false 4 (Qmq y.ins),.int .i64 y.jump,.int .i64 y.on,.sl false 1 (Qk y.next)]:=kn.l 2 rfl;have rest3:∀(E1:Env) (H8:Heap),Q4i q.regs y=true→y.next.all (Qadx (Qaq q.blocks).length)=true→y.ins.all (insG cs k)=true→Kn H H8 [] [(x5,.st q.cells),(x6,.st [.fn Qas [.ptr x5 0]]),(x8,blkC y)]→
       lk 2 E1=.c (.pp [.sl fl 3 (Q2 cs)])→lk 3 E1=.c (.pp [.int .i64 k])→lk 5 E1=.c (.ptr x5 0)→lk 6 E1=.c (.ptr x6 0)→lk 7 E1=.c (.int .i64 j)→lk 8 E1=.c (.ptr x8 0)→
       lk 39 E1=.c (.sl false 5 (Qaq q.blocks))→lk 40 E1=.c (.int .i64 q.blocks.length)→lk 41 E1=.c (.int .i64 j)→Q8 prog Qn0 (X.inBlock 1 Q) E1 H8:=by
      intro E1 H8 g1 g2 g3 kn l2 l3 l5 l6 l7 l8 l39 l40 l41;have hx5:H8 x5=.st [.int .i64 q.params,.int .i64 q.regs,.sl false 5 (Qaq q.blocks)]:=kn.l 0 rfl;have hin:(decide (0≤(j:Int))&&decide ((j:Int)≤((Qaq q.blocks).length:Int)-1))=true:=(by rw[Qam];simp;omega);refine Qa ?_;simp only[go_sem,hx5,l5,l7];refine Qbcs (rows:=Qaq q.blocks) (nx:=gnx q) (Qbig _ q false) fun fl' H9 hu=>?_;have kn:=kn.call0 hu;rw[Qah1,if_pos hin];generalize hnp:Qcm (gnx q) (j:Int) (Qaq q.blocks).length=ps;rw[hnp]at hGd;simp only[go_sem,Qwb,l2,l3,l5,l6,l7,l8,l39,l40,l41,Qj];intro _;have hx8:H9 x8=.st [.sl false 2 (Qgk y.phis),.sl false 4 (Qmq y.ins),.int .i64 y.jump,.int .i64 y.on,.sl false 1 (Qk y.next)]:=kn.l 2 rfl;refine Qa ?_;simp only[go_sem,hx8,Qct];intro _;refine Qd (Qw (fun m e1 H1=>∃(i:Nat),m=y.phis.length-i∧i≤y.phis.length∧(y.phis.take i).all (phiG q.regs ps.length j)=true∧Kn H H1 [] [(x5,.st q.cells),(x6,.st [.fn Qas [.ptr x5 0]])]∧
       e1=[(2,.c (.pp [.sl fl 3 (Q2 cs)])),(3,.c (.pp [.int .i64 k])),(5,.c (.ptr x5 0)),(6,.c (.ptr x6 0)),(7,.c (.int .i64 j)),(9,.c (.int .i64 ps.length)),(39,.c (.sl false 5 (Qaq q.blocks))),(40,.c (.int .i64 q.blocks.length)),(41,.c (.int .i64 j)),(91,.c (.sl false 2 (Qgk y.phis))),(92,.c (.int .i64 y.phis.length)),(93,.c (.int .i64 i))]) y.phis.length ?_ ?_)
      ·exact⟨0,by omega,by omega,rfl,kn.drop (A:=[_,_]),rfl⟩
      ·rintro m2 e1 H10 ⟨i,hm2,hi,hall,kn,rfl⟩;refine Qa ?_;simp only[go_sem];refine Qf (Qc rfl ?_ ?_)
       ·intro hc2;have hil:i<y.phis.length:=(by simpa using hc2);refine Qe ?_;simp only[go_sem];refine Qf (Qd ?_);refine Qa ?_;simp only[go_sem,hil,Qct,Qlv _ _ hil,PhiD.cells];obtain⟨z,hz⟩:∃z,y.phis[i]=z:=⟨_,rfl⟩;rw[hz];intro x11 hx11 H11 h11;have kn:=kn.al hx11 h11;have hx11:=kn.l 2 rfl;simp only[go_sem,Qwc,hx11];intro H12 h12;have kn:Kn H H12 [] ([(x5,.st q.cells),(x6,.st [.fn Qas [.ptr x5 0]])]++[(x11,.st [.int .i64 z.to,.sl false 1 (Qk z.args)])]):=kn.stL 2 rfl h12;have hx5':H12 x5=.st q.cells:=kn.l 0 rfl;have hx6:=kn.l 1 rfl;have hx11:=kn.l 2 rfl;have fin:∀(b3:Bool) (E1:Env),phiG q.regs ps.length j z=(!b3)→lk 2 E1=.c (.pp [.sl fl 3 (Q2 cs)])→lk 3 E1=.c (.pp [.int .i64 k])→lk 5 E1=.c (.ptr x5 0)→lk 6 E1=.c (.ptr x6 0)→lk 7 E1=.c (.int .i64 j)→lk 9 E1=.c (.int .i64 ps.length)→
          lk 39 E1=.c (.sl false 5 (Qaq q.blocks))→lk 40 E1=.c (.int .i64 q.blocks.length)→lk 41 E1=.c (.int .i64 j)→lk 91 E1=.c (.sl false 2 (Qgk y.phis))→lk 92 E1=.c (.int .i64 y.phis.length)→lk 93 E1=.c (.int .i64 i)→lk 118 E1=.c (.bool b3)→
          Q8 prog Q3l (X.inBlock 3 (X.sq prog Q3m (X.next (fun e2 H2=>∃m,m<m2∧∃(i:Nat),m=y.phis.length-i∧i≤y.phis.length∧(y.phis.take i).all (phiG q.regs ps.length j)=true∧Kn H H2 [] [(x5,.st q.cells),(x6,.st [.fn Qas [.ptr x5 0]])]∧
           e2=[(2,.c (.pp [.sl fl 3 (Q2 cs)])),(3,.c (.pp [.int .i64 k])),(5,.c (.ptr x5 0)),(6,.c (.ptr x6 0)),(7,.c (.int .i64 j)),(9,.c (.int .i64 ps.length)),(39,.c (.sl false 5 (Qaq q.blocks))),(40,.c (.int .i64 q.blocks.length)),(41,.c (.int .i64 j)),(91,.c (.sl false 2 (Qgk y.phis))),(92,.c (.int .i64 y.phis.length)),(93,.c (.int .i64 i))])
           (X.inBlock 2 (X.inBlock 1 Q))))) E1 H12:=by
         intro b3 E1 hph l2 l3 l5 l6 l7 l9 l39 l40 l41 l91 l92 l93 l118;refine Qc l118 ?_ ?_
         ·intro hc3;refine Qa ?_;simp only[go_sem];refine Qi ?_;simp only[go_sem,X.next];exact retq _ _ _ (by rw[hGd,Qfe hil (by rw[hz,hph,hc3];rfl)];simp) kn (by simp[lk])
         ·intro hc3;refine Qe ?_;simp only[go_sem];refine Qq ?_;simp only[go_sem,X.next,l2,l3,l5,l6,l7,l9,l39,l40,l41,l91,l92,l93];exact⟨Qo (by omega) (by omega),y.phis.length-(i+1),by omega,i+1,rfl,by omega,by rw[Qdj hil,hall,hz,hph,hc3];rfl,kn.drop,rfl⟩
        have hpG:phiG q.regs ps.length j z=(!decide (j=0)&&decide ((z.args.length:Int)=ps.length)&&Qvr q.regs z.args&&decide (0≤z.to∧z.to≤q.regs-1)):=rfl;refine Qa ?_;simp only[go_sem]
        cases hj0:decide ((j:Int)=0)with
        |true=>
         have hj0':decide (j=0)=true:=(by simpa using hj0);simp only[go_sem,Qd2,Qd1];exact fin true _ (by rw[hpG,hj0'];rfl) (by simp[lk]) (by simp[lk]) (by simp[lk]) (by simp[lk]) (by simp[lk]) (by simp[lk]) (by simp[lk]) (by simp[lk]) (by simp[lk]) (by simp[lk]) (by simp[lk]) (by simp[lk]) (by simp[lk])
        |false=>
         have hj0':decide (j=0)=false:=(by simpa using hj0);simp only[go_sem,hx11,hx6,J1,Jaj];refine Q4c hx5' (by omega) (by omega) ?_
         cases ht:decide (0≤z.to∧z.to≤q.regs-1)with
         |false=>
          simp only[go_sem,Qd2,Qd1];exact fin true _ (by rw[hpG,ht];simp) (by simp[lk]) (by simp[lk]) (by simp[lk]) (by simp[lk]) (by simp[lk]) (by simp[lk]) (by simp[lk]) (by simp[lk]) (by simp[lk]) (by simp[lk]) (by simp[lk]) (by simp[lk]) (by simp[lk])
         |true=>
          by_cases hal:(z.args.length:Int)=ps.length
          ·simp only[go_sem,Qd2,hx11,Qj,hal,decide_true,Jac];intro _;refine Qni (p:=fun r=>!decide (0≤r∧r≤q.regs-1)) (.mk' _ _ _ _) rfl (fun v K' hv hK'=>Qa14 hx5' hx6 (by omega) (by omega) hK') ?_;simp only[go_sem,Qd1];refine fin (z.args.any fun r=>!decide (0≤r∧r≤q.regs-1)) _ ?_ (by simp[lk]) (by simp[lk]) (by simp[lk]) (by simp[lk]) (by simp[lk]) (by simp[lk]) (by simp[lk]) (by simp[lk]) (by simp[lk]) (by simp[lk]) (by simp[lk]) (by simp[lk]) (by simp[lk]);rw[hpG,hj0',ht,Qa1z,hal,Qvr];simp
          ·simp only[go_sem,Qd2,Qd1,hx11,Qj,hal,decide_false,Jn];intro _;exact fin true _ (by rw[hpG];simp[hal]) (by simp[lk]) (by simp[lk]) (by simp[lk]) (by simp[lk]) (by simp[lk]) (by simp[lk]) (by simp[lk]) (by simp[lk]) (by simp[lk]) (by simp[lk]) (by simp[lk]) (by simp[lk]) (by simp[lk])
       ·intro hc2;have hge:y.phis.length≤i:=(by simpa using hc2);rw[Jd hge]at hall;refine Qv ?_;simp only[go_sem,X.next];exact hnr _ _ ⟨kn,by rw[hGd,g1,g2,g3,hall];rfl,rfl,rfl,rfl,rfl,rfl,rfl,rfl⟩
     have rest2:∀(b1:Bool) (E1:Env),Q4i q.regs y=(!b1)→lk 2 E1=.c (.pp [.sl fl 3 (Q2 cs)])→lk 3 E1=.c (.pp [.int .i64 k])→lk 5 E1=.c (.ptr x5 0)→lk 6 E1=.c (.ptr x6 0)→lk 7 E1=.c (.int .i64 j)→lk 8 E1=.c (.ptr x8 0)→
       lk 39 E1=.c (.sl false 5 (Qaq q.blocks))→lk 40 E1=.c (.int .i64 q.blocks.length)→lk 41 E1=.c (.int .i64 j)→lk 75 E1=.c (.bool b1)→Q8 prog (s_im_codeOk_11.seq Q3n) (X.inBlock 1 Q) E1 H7:=by
      intro b1 E1 hb1 l2 l3 l5 l6 l7 l8 l39 l40 l41 l75;refine Qf (Qc l75 ?_ ?_)
      ·intro hc2;refine Qa ?_;simp only[go_sem];refine Qi ?_;simp only[go_sem];exact retq _ _ _ (by rw[hGd,hb1,hc2];simp) kn (by simp[lk])
      intro hc2;rw[hc2]at hb1;refine Qe ?_;simp only[go_sem];refine Q4 ?_;refine Qa ?_;simp only[go_sem,hx8,l5,l8];refine Qni (p:=fun v=>!Qadx (Qaq q.blocks).length v) (.mk' _ _ _ _) rfl (fun v K' hv hK'=>Qa12 hx5' (by omega) hK') ?_;have fin:∀(b:Bool) (E1:Env) (H8:Heap),(y.next.all (Qadx (Qaq q.blocks).length)&&y.ins.all (insG cs k))=(!b)→Kn H H8 [] [(x5,.st q.cells),(x6,.st [.fn Qas [.ptr x5 0]]),(x8,blkC y)]→lk 2 E1=.c (.pp [.sl fl 3 (Q2 cs)])→lk 3 E1=.c (.pp [.int .i64 k])→lk 5 E1=.c (.ptr x5 0)→lk 6 E1=.c (.ptr x6 0)→lk 7 E1=.c (.int .i64 j)→lk 8 E1=.c (.ptr x8 0)→
        lk 39 E1=.c (.sl false 5 (Qaq q.blocks))→lk 40 E1=.c (.int .i64 q.blocks.length)→lk 41 E1=.c (.int .i64 j)→lk 85 E1=.c (.bool b)→Q8 prog (s_im_codeOk_14.seq Qn0) (X.inBlock 1 Q) E1 H8:=by
       intro b E1 H8 hb kn l2 l3 l5 l6 l7 l8 l39 l40 l41 l85;refine Qf (Qc l85 ?_ ?_)
       ·intro hc3;refine Qa ?_;simp only[go_sem];refine Qi ?_;simp only[go_sem];exact retq _ _ _ (by rw[hGd,Bool.and_assoc (Q4i _ _),hb,hc3];simp) kn (by simp[lk])
       ·intro hc3;rw[hc3]at hb;simp only[Jn,Jh]at hb;refine Qe ?_;simp only[go_sem];exact rest3 E1 H8 hb1 hb.1 hb.2 kn l2 l3 l5 l6 l7 l8 l39 l40 l41
      rw[Qa1z]
      cases ha:y.next.all (Qadx (Qaq q.blocks).length)with
      |false=>
       simp only[go_sem,Ql9,Ql8,l2,l3,l5,l6,l7,l8,l39,l40,l41];exact fin true _ _ (by rw[ha];rfl) kn (by simp[lk]) (by simp[lk]) (by simp[lk]) (by simp[lk]) (by simp[lk]) (by simp[lk]) (by simp[lk]) (by simp[lk]) (by simp[lk]) (by simp[lk])
      |true=>
       simp only[go_sem,Ql9,hx8,l2,l3,l8];refine Qagr (p:=fun x=>!insG cs k x) (fun x H1 K' hx hK'=>Qa13 hk (by rw[hq];exact hr0) (by rw[hq];exact hr1) hcl hK') fun H8 hu=>?_;have kn:=kn.call0 hu;simp only[go_sem,Ql8,l2,l3,l5,l6,l7,l8,l39,l40,l41];refine fin (y.ins.any fun x=>!insG cs k x) _ _ ?_ kn (by simp[lk]) (by simp[lk]) (by simp[lk]) (by simp[lk]) (by simp[lk]) (by simp[lk]) (by simp[lk]) (by simp[lk]) (by simp[lk]) (by simp[lk]);rw[ha,←List.not_all_eq_any_not];simp
     refine Q4 ?_;refine Qag ?_;simp only[go_sem,hx8,Qj];refine Qa2z ?_;have hjG:Q4i q.regs y=(decide ((y.next.length:Int)=Qvc y.jump)&&if y.jump=1 then decide (y.on=0)else decide (0≤y.on∧y.on≤q.regs-1)):=rfl;by_cases hn:(y.next.length:Int)=Qvc y.jump
     ·have hjmp:y.jump=1∨(y.jump=2∨y.jump=3)∧¬y.jump=1:=by
       rw[Qvc]at hn;split at hn
       ·exact .inl ‹_›
       ·split at hn
        ·omega
        ·split at hn
         ·omega
         ·omega
      simp only[go_sem,Ql7,hx8,Qj,hn,decide_true,Jac];refine Qaw1 ?_;rcases hjmp with h1|⟨h1,h2⟩
      ·have hu:(decide (y.jump=2) || decide (y.jump=3))=false:=(by simp[h1]);simp only[go_sem,Qh4,Qet,hu,hx8];refine Qaw1 ?_;simp only[go_sem,Qes,hu,hx8];exact rest2 (!decide (y.on=0)) _ (by rw[hjG,if_pos h1,hn];simp) (by simp[lk]) (by simp[lk]) (by simp[lk]) (by simp[lk]) (by simp[lk]) (by simp[lk]) (by simp[lk]) (by simp[lk]) (by simp[lk]) (by simp[lk])
      ·have hu:(decide (y.jump=2) || decide (y.jump=3))=true:=(by simpa using h1);simp only[go_sem,Qh4,hu,hx8,hx6,Jr,Jq,J1,Jaj];refine Q4c hx5' (by omega) (by omega) ?_
       cases ho:decide (0≤y.on∧y.on≤q.regs-1)with
       |true=>
        simp only[go_sem,Qet,hx8];refine Qaw1 ?_;simp only[go_sem,Qes,hu,hx8];exact rest2 false _ (by rw[hjG,if_neg h2,hn,ho];simp) (by simp[lk]) (by simp[lk]) (by simp[lk]) (by simp[lk]) (by simp[lk]) (by simp[lk]) (by simp[lk]) (by simp[lk]) (by simp[lk]) (by simp[lk])
       |false=>
        simp only[go_sem,Qet,Qes,hx8];exact rest2 true _ (by rw[hjG,if_neg h2,ho];simp) (by simp[lk]) (by simp[lk]) (by simp[lk]) (by simp[lk]) (by simp[lk]) (by simp[lk]) (by simp[lk]) (by simp[lk]) (by simp[lk]) (by simp[lk])
     ·simp only[go_sem,Ql7,Qh4,Qet,Qes,hx8,Qj,hn,decide_false,Jn];exact rest2 true _ (by rw[hjG];simp[hn]) (by simp[lk]) (by simp[lk]) (by simp[lk]) (by simp[lk]) (by simp[lk]) (by simp[lk]) (by simp[lk]) (by simp[lk]) (by simp[lk]) (by simp[lk])
    ·rintro e2 H8 ⟨kn,hbg,l2,l3,l5,l6,l39,l40,l41⟩;refine Qq ?_;simp only[go_sem,X.next,l2,l3,l5,l6,l39,l40,l41];refine⟨Qo (by omega) (by omega),q.blocks.length-(j+1),by omega,j+1,rfl,by omega,fun i hi hij=>?_,kn,rfl⟩;by_cases h:i<j
     ·exact hdone i hi h
     ·have:i=j:=(by omega);subst this;exact hbg
   ·intro hc1;have hge:q.blocks.length≤j:=(by simpa using hc1);refine Qv ?_;simp only[go_sem,X.next];refine Qa ?_;simp only[go_sem];refine Qi ?_;exact retf true _ _ _ (decide_eq_true (by rw[hP];exact⟨by rw[hb];rfl,fun b h=>hdone b h (by omega)⟩)) kn (by simp[lk])
 have hH:Q9b q=(decide (0≤q.params∧q.params≤3)&&decide (q.params≤q.regs∧q.regs≤300)&&decide (1≤(q.blocks.length:Int)∧(q.blocks.length:Int)≤160)):=rfl;by_cases hr:0≤q.regs∧q.regs≤300
 ·have hr':(decide (0≤q.regs)&&decide (q.regs≤300))=true:=by simpa using hr
  simp only[go_sem,Qn1,hr',hx5];refine Qgh ?_;by_cases hp:0≤q.params∧q.params≤3∧q.params≤q.regs
  ·have hp':(decide (0≤q.params)&&decide (q.params≤if q.regs<3 then q.regs else 3))=true:=by
    split <;> simp <;> omega
   simp only[go_sem,Qh3,hp',hx5,Qam];intro _;refine Qgh ?_;simp only[go_sem,Qh2];refine rest0 _ _ ?_ (by simp[lk]) (by simp[lk]) (by simp[lk]) (by simp[lk];rfl);have a1:decide (0≤q.params∧q.params≤3)=true:=by simp;omega
   have a2:decide (q.params≤q.regs∧q.regs≤300)=true:=by simp;omega
   rw[hH,a1,a2];simp
  ·have hp':(decide (0≤q.params)&&decide (q.params≤if q.regs<3 then q.regs else 3))=false:=by
    split <;> simp <;> omega
   simp only[go_sem,Qh3,Qh2,hp',hx5];refine rest0 true _ ?_ (by simp[lk]) (by simp[lk]) (by simp[lk]) (by simp[lk]);rw[hH];simp;omega
 ·have hr':(decide (0≤q.regs)&&decide (q.regs≤300))=false:=by simpa using hr
  simp only[go_sem,Qn1,Qh3,Qh2,hr',hx5];refine rest0 true _ ?_ (by simp[lk]) (by simp[lk]) (by simp[lk]) (by simp[lk]);rw[hH];simp;omega
theorem Qaud {cs:List CodeD}{fl:Bool}(hfit:∀c∈cs,c.fits)(hK:∀(H':Heap),Upd H H' []→K (.c (.bool (Qabz cs))) H') :
  Ql prog Qll [.ag [.sl fl 3 (Q2 cs)]] H K:=by
 refine Q0 ?_;refine Qb Qai Qaog ?_;have retf:∀(b:Bool) (e:Env) (H':Heap) (L:List (Nat×Obj)),Qabz cs=b→Kn H H' [] L→lk 2 e=.c (.bool b)→Qs Qer (unK H K) .ret e H':=by
  intro b e H' L hb kn h3;simp only[go_sem,Qs,Q6,Qer,Ja,forall_eq,RS.op,h3];rw[←hb];exact⟨_,.c _ _ (Qg rfl),hK _ kn.fin⟩
 have kn:=Kn.start0 H;refine Qa ?_;simp only[go_sem];refine Q4 ?_;refine Qa ?_;simp only[go_sem,Qaj];intro hcl;refine Qgh ?_;simp only[go_sem,Qos];refine Qf (Qc rfl ?_ ?_)
 ·intro hc;have hc':=Qi8 hc;refine Qa ?_;simp only[go_sem];refine Qi ?_;simp only[go_sem];exact retf false _ _ _ (Q0g fun hu=>by have h1:=hu.1;simp at hc';omega) kn (by simp[lk])
 intro hc;have hc':=Qdx hc;have hc4:1≤cs.length∧cs.length≤4:=by simp at hc';omega
 refine Qe ?_;simp only[go_sem];refine Qa ?_;simp only[go_sem];refine Q4 ?_;refine Qa ?_;simp only[go_sem,Qaj];intro _;refine Qf (Qd (Qw (fun m e1 H1=>∃(k:Nat),m=cs.length-k∧k≤cs.length∧Q0l cntQ (cs.take k)≤k * (160 * 549755813888)∧(∀(i:Nat) (hi:i<cs.length),i<k→Qaob cs i hi)∧Kn H H1 [] []∧
  e1=[(1,.c (.pp [.sl fl 3 (Q2 cs)])),(3,.c (.int .i64 (Q0l cntQ (cs.take k):Nat))),(12,.c (.sl fl 3 (Q2 cs))),(13,.c (.int .i64 cs.length)),(14,.c (.int .i64 k))]) cs.length ?_ ?_))
 ·exact⟨0,by omega,by omega,by simp[Q0l],fun _ _ h=>by omega,kn,rfl⟩
 ·rintro m e1 H1 ⟨k,hm,hk,hsum,hdone,kn,rfl⟩;refine Qa ?_;simp only[go_sem];refine Qf (Qc rfl ?_ ?_)
  ·intro hc2;have hlt:k<cs.length:=by simpa using hc2
   have hss:=Qpo (f:=cntQ) hlt;refine Qe ?_;simp only[go_sem];refine Qf (Qd ?_);refine Qa ?_;simp only[go_sem,hlt,Qaj,Qbh _ _ hlt,CodeD.cells];obtain⟨q,hq⟩:∃q,cs[k]=q:=⟨_,rfl⟩;have hqf:q.fits:=by subst hq;exact hfit _ (Jb hlt)
   rw[hq];intro x5 hx5 H2 h2;have kn:=kn.al hx5 h2;have hx5:=kn.l 0 rfl;simp only[go_sem,Qot,hx5];intro H3 h3;have kn:Kn H H3 [] ([]++[(x5,.st [.int .i64 q.params,.int .i64 q.regs,.sl false 5 (Qaq q.blocks)])]):=kn.stL 0 rfl h3;refine Q4 ?_;refine Qa ?_;simp only[go_sem];refine Qbhv hlt (by omega) (by rw[hq];exact hqf) fun H4 hu=>?_;have kn:=kn.call0 hu;have hx5:=kn.l 0 rfl;simp only[go_sem,Qou];refine Qf (Qc rfl ?_ ?_)
   ·intro hc3;have hno:=of_decide_eq_false (Qi8 hc3);refine Qa ?_;simp only[go_sem];refine Qi ?_;simp only[go_sem,X.next];exact retf false _ _ _ (Q0g fun hu=>hno (hu.2.1 k hlt)) kn (by simp[lk])
   ·intro hc3;have hyes:=of_decide_eq_true (Qdx hc3);have hbl:q.blocks.length≤160:=by
     have:=hyes.1;rw[hq]at this;simp only[Q9b,Jh,decide_eq_true_eq]at this;omega
    have hcq:cntQ q≤160 * 549755813888:=J0 (Qa1r hqf) (J3 _ hbl);have hk4:k * (160 * 549755813888)≤4 * (160 * 549755813888):=J3 _ (by omega);have hk1:(k+1) * (160 * 549755813888)=k * (160 * 549755813888)+160 * 549755813888:=Nat.succ_mul _ _;rw[hq]at hss;refine Qe ?_;simp only[go_sem];refine Qq ?_;simp only[go_sem,hx5];refine Qa11 hqf hbl fun H5 hu=>?_;have kn:=kn.call0 hu;simp only[go_sem,Qov];refine⟨Qo (by omega) (by omega),?_⟩;refine Qq ?_;simp only[go_sem,X.next];refine⟨Qo (by omega) (by omega),cs.length-(k+1),by omega,k+1,rfl,by omega,by rw[hss,hk1];omega,fun i hi hik=>?_,kn.drop,?_⟩
    ·by_cases h:i<k
     ·exact hdone i hi h
     ·have:i=k:=(by omega);subst this;exact hyes
    ·rw[hss];rfl
  ·intro hc2;have hge:cs.length≤k:=by simpa using hc2
   rw[Jd hge];refine Qv ?_;simp only[go_sem,X.next];refine Qa ?_;simp only[go_sem];refine Qi ?_;refine retf (decide (((Q0l cntQ cs:Nat):Int)≤800)) _ _ _ ?_ kn (by simp[lk]);by_cases hs:Q0l cntQ cs≤800
   ·have h1:Qabz cs=true:=decide_eq_true ⟨by omega,fun i hi=>hdone i hi (by omega),hs⟩;rw[h1];simp;omega
   ·rw[Q0g fun hu=>hs hu.2.2];simp;omega
end Go.AE.Y
