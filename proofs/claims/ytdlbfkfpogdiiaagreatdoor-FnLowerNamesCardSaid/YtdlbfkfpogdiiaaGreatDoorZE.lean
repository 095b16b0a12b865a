/- Part 5 of the proof: the engine, codes, walks and plain laws, each named where it stands. -/
import Derived.Test.YtdlbfkfpogdiiaaGreatDoorZD
import Derived.Shelf.Sort.Plain
import Derived.Shelf.Sort.So_math_bits_LenIn
open Nat (reduceEqDiff reduceAdd reduceLeDiff reduceLT)
set_option linter.unusedVariables false
set_option linter.unusedSimpArgs false
set_option maxRecDepth 4000
set_option maxHeartbeats 4000000
open Bool renaming and_eq_true->Jh,not_false->Jn,not_true->J6,and_false->Jan
open List renaming mem_singleton->Ja,getElem_mem->Jb,take_succ_eq_append_getElem->Jc,getD_eq_getElem?_getD->Jd,take_of_length_le->Je,perm_append_comm->Jg,append_assoc->Ji,mem_append->Jj,length_cons->Jk,mem_cons_of_mem->Jl,getD_cons_zero->Jm,length_map->Jo,cons_append->Jp,length_nil->Jq,nil_append->Jr,take_zero->Js,mem_cons_self->Jt,take_append_drop->Ju,map_cons->Jw,getD_cons_succ->Jy,mem_map->Jz,map_append->J1,mem_cons->J2,any_eq_true->J3,not_mem_nil->J4,mem_iff_getElem->J5,drop_eq_getElem_cons->J7,getElem?_cons_zero->J9,length_take->Jab,contains_iff_mem->Jac,map_nil->Jad,mem_append_right->Jae,mem_append_left->Jaf,set_cons_zero->Jag,nodup_append->Jah,mem_flatMap->Jaj,length_set->Jak,sum_append->Jal,take_nil->Jao,map_set->Jap,set_set->Jaq
open Nat renaming le_refl->Jf,le_trans->Jv,mul_le_mul_right->Jx,zero_add->J0,le_succ->Jaa,min_eq_left->Jam,add_zero->Jar
open Option renaming isSome_iff_exists->J8
open Option.some renaming injEq->Jai
namespace Go.AE
open Go.AE.Y
open Go.Proofs.Tryz
variable {H:Heap}{K:V→Heap→Prop}
theorem Gr.slc {H0 H:Heap}{E B Lg:List (Nat×Obj)}{sz:Nat}{rows:List (List C)}{c:C}(h:Gr Lg sz rows c)(kn:Kn H0 H E (B++Lg)):Slc H sz rows c:=by
 obtain⟨h1,h2⟩:=h.get kn;exact⟨h1,h.elemSz,h2,h.lenC⟩
theorem Gr.ne {H0 H:Heap}{E B Lg:List (Nat×Obj)}{sz:Nat}{rows:List (List C)}{c:C}{r:Nat}{o:Obj}(h:Gr Lg sz rows c)(kn:Kn H0 H E (B++Lg))(hr:(r,o)∈E):∀l a d n,c=.vsl l a d n→l≠r:=by
 intro l a d n hc hh;rcases h with ⟨h1,_⟩|⟨y,h1,h2⟩
 ·rw[h1]at hc;simp at hc
 ·rw[h1]at hc;have hy:y=l:=by injection hc
  have:=kn.loc (y,.vec sz rows) (by rw[h2];simp);exact kn.ext (r,o) hr (by rw[←hh,←hy];exact this)
end Go.AE
namespace Go.AE.Y
open Go.Proofs.Tryz
variable {H:Heap}{K:V→Heap→Prop}
structure GRd (H:Heap)(c:C)(rows:List (List C))(nx:Nat→List Int):Prop where
 s:Slc H 5 rows c
 ow:c.isOw=false
 no:∀r∈rows,noOw r=true
 x:∀i,i<rows.length→∃a1 a2 a3 a4 fl,rows.getD i []=[a1,a2,a3,a4,.sl fl 1 (Q0 (nx i))]
theorem GRd.keep {c:C}{rows:List (List C)}{nx:Nat→List Int}{H':Heap}{E L:List (Nat×Obj)}(h:GRd H c rows nx)(kn:Kn H H' E L)(hE:∀l a b d,c=.vsl l a b d→l∉E.map Prod.fst):GRd H' c rows nx:=⟨h.s.keep kn hE,h.ow,h.no,h.x⟩
theorem GRd.keep0 {c:C}{rows:List (List C)}{nx:Nat→List Int}{H':Heap}{L:List (Nat×Obj)}(h:GRd H c rows nx)(kn:Kn H H' [] L):GRd H' c rows nx:=h.keep kn (by simp)
def gnx (q:CodeD):Nat→List Int:=fun i=>(q.blocks.map BlkD.next).getD i []
theorem Qblz (H:Heap)(q:CodeD)(fl:Bool):GRd H (.sl fl 5 (Qap q.blocks)) (Qap q.blocks) (gnx q):=by
 refine⟨.mk' _ _ _ _,rfl,Qakq _,fun i h=>?_⟩;rw[Qal]at h;rw[Qdf _ _ h];have:gnx q i=q.blocks[i].next:=by simp[gnx,Jd,h]
 exact⟨.sl false 2 (Qf3 q.blocks[i].phis),.sl false 4 (Qn7 q.blocks[i].ins),.int .i64 q.blocks[i].jump,.int .i64 q.blocks[i].on,false,by rw[this];rfl⟩
theorem Qh8 {n lo hi:Int}(hK:K (.c (.bool (decide (lo≤n)&&decide (n≤hi)))) H):Qj prog Qav [.c (.int .i64 n),.c (.int .i64 lo),.c (.int .i64 hi)] H K:=by
 refine Qb Qad Qalr ?_;refine Qa ?_;simp only[go_sem];refine Qa ?_;simp only[go_sem];refine Qi ?_;simp only[go_sem,Qq,Q7,Qbo3,Ja,forall_eq,RS.op];have:(bif decide (lo≤n)then decide (n≤hi)else false)=(decide (lo≤n)&&decide (n≤hi)):=by cases decide (lo≤n) <;> rfl
 first|exact hK|(rw[this];exact hK)|(simpa[this]using hK)
def IsIx (ns:List Int)(v r:Int):Prop:=(r=-1∧v∉ns)∨∃i:Nat,r=i∧i<ns.length∧ns.getD i 0=v∧v∉ns.take i
theorem IsIx.nonneg {ns:List Int}{v r:Int}(h:IsIx ns v r):decide (0≤r)=ns.contains v:=by
 rcases h with ⟨rfl,hn⟩|⟨i,rfl,h1,h2,_⟩
 ·have:ns.contains v=false:=by
   cases hc:ns.contains v with
   |false=>rfl
   |true=>exact absurd (Jac.1 hc) hn
  rw[this];rfl
 ·have:v∈ns:=by
   rw[←h2,Jd,List.getElem?_eq_getElem h1];exact Jb h1
  rw[Jac.2 this];simp
theorem Qbpa {c:C}{ns:List Int}{v:Int}(hs:Slc H 1 (Q0 ns) c)(how:c.isOw=false)(hK:∀r,IsIx ns v r→K (.c (.int .i64 r)) H) :
  Qj prog Q71 [.c c,.c (.int .i64 v)] H K:=by
 refine Qb Qad Qbcz ?_;have hok:=eq_true hs.ok;have hlen:=hs.len;have hsz:=hs.sz;have hrw:=hs.rows;refine Qa ?_;simp only[go_sem];refine Q5 ?_;refine Qa ?_;simp only[go_sem,hok,hlen,Qt];intro hl;simp only[LIM]at hl;refine Qg (Qe (Q2 (fun m e1 H1=>∃(i:Nat),m=ns.length-i∧i≤ns.length∧H1=H∧v∉ns.take i∧e1=[(0,.c c),(1,.c (.int .i64 v)),(7,.c (.int .i64 ns.length)),(8,.c (.int .i64 i))]) ns.length ?_ ?_))
 ·exact⟨0,by omega,by omega,rfl,by simp,rfl⟩
 ·rintro m e1 H1 ⟨i,hm,hi,rfl,hno,rfl⟩;refine Qa ?_;simp only[go_sem];refine Qg (Qc rfl ?_ ?_)
  ·intro hc;have hlt:i<ns.length:=by simpa using hc
   have hgd:ns.getD i 0=ns[i]:=by simp[Jd,hlt]
   refine Qf ?_;simp only[go_sem];refine Qg (Qe ?_);refine Qa ?_;simp only[go_sem];refine Qa ?_;simp only[go_sem,hok,hlen,hsz,hrw,hlt,Qt,Qbj _ _ hlt];refine Qc rfl ?_ ?_
   ·intro hc2;have hv:v=ns.getD i 0:=(by simpa using hc2);refine Qa ?_;simp only[go_sem];refine Qi ?_;simp only[go_sem,X.next,Qq,Q7,Qpr,Ja,forall_eq,RS.op];exact hK _ (.inr ⟨i,rfl,hlt,hv.symm,hno⟩)
   ·intro hc2;have hv:¬v=ns.getD i 0:=(by simpa using hc2);refine Qf ?_;simp only[go_sem];refine Qp ?_;simp only[go_sem,X.next];refine⟨Qm (by omega) (by omega),ns.length-(i+1),by omega,i+1,rfl,by omega,?_,rfl⟩;rw[Jc hlt];simp only[Jj,Ja,not_or];exact⟨hno,fun h=>hv (by rw[hgd];exact h)⟩
  ·intro hc;have hge:ns.length≤i:=by simpa using hc
   rw[Je hge]at hno;refine Q1 ?_;simp only[go_sem,X.next];refine Qa ?_;simp only[go_sem];refine Qi ?_;simp only[go_sem,Qq,Q7,Qpr,Ja,forall_eq,RS.op];exact hK _ (.inl ⟨rfl,hno⟩)
theorem Qbbz {c:C}{ns:List Int}{v:Int}(hs:Slc H 1 (Q0 ns) c)(how:c.isOw=false)(hK:K (.c (.bool (ns.contains v))) H) :
  Qj prog Qqc [.c c,.c (.int .i64 v)] H K:=by
 refine Qb Qad Qayp ?_;refine Qa ?_;simp only[go_sem];refine Qa ?_;simp only[go_sem];refine Qbpa hs how fun r hr=>?_;simp only[go_sem,Qwh];refine Qi ?_;simp only[go_sem,Qq,Q7,Qpr,Ja,forall_eq,RS.op];rw[hr.nonneg];exact hK
theorem Qa5s {c:C}{ns:List Int}{f:Nat}{caps:List C}{p:Int→Bool}(hs:Slc H 1 (Q0 ns) c)(how:c.isOw=false)
  (hf:∀(x:Int) (K':V→Heap→Prop),x∈ns→K' (.c (.bool (p x))) H→Qj prog f ([.c (.int .i64 x)]++caps.map .c) H K')
  (hK:∀r:Int,decide (0≤r)=ns.any p→K (.c (.int .i64 r)) H) :
  Qj prog Qn5 [.c c,.c (.fn f caps)] H K:=by
 refine Qb Qad Qasi ?_;have hok:=eq_true hs.ok;have hlen:=hs.len;have hsz:=hs.sz;have hrw:=hs.rows;refine Qa ?_;simp only[go_sem];refine Q5 ?_;refine Qa ?_;simp only[go_sem,hok,hlen,Qt];intro hl;simp only[LIM]at hl;refine Qg (Qe (Q2 (fun m e1 H1=>∃(i:Nat),m=ns.length-i∧i≤ns.length∧H1=H∧(∀x∈ns.take i,p x=false)∧e1=[(0,.c c),(1,.c (.fn f caps)),(7,.c (.int .i64 ns.length)),(8,.c (.int .i64 i))]) ns.length ?_ ?_))
 ·exact⟨0,by omega,by omega,rfl,by simp,rfl⟩
 ·rintro m e1 H1 ⟨i,hm,hi,rfl,hno,rfl⟩;refine Qa ?_;simp only[go_sem];refine Qg (Qc rfl ?_ ?_)
  ·intro hc;have hlt:i<ns.length:=by simpa using hc
   have hgd:ns.getD i 0=ns[i]:=by simp[Jd,hlt]
   refine Qf ?_;simp only[go_sem];refine Qg (Qe ?_);refine Qa ?_;simp only[go_sem];refine Qa ?_;simp only[go_sem,hok,hlen,hsz,hrw,hlt,Qt,Qbj _ _ hlt];refine hf _ _ (by rw[hgd];exact Jb hlt) ?_;refine Qc rfl ?_ ?_
   ·intro hc2;refine Qa ?_;simp only[go_sem];refine Qi ?_;simp only[go_sem,X.next,Qq,Q7,Qpr,Ja,forall_eq,RS.op];refine hK _ ?_;have:ns.any p=true:=J3.2 ⟨ns[i],Jb hlt,by rw[←hgd];exact hc2⟩;rw[this];simp
   ·intro hc2;refine Qf ?_;simp only[go_sem];refine Qp ?_;simp only[go_sem,X.next];refine⟨Qm (by omega) (by omega),ns.length-(i+1),by omega,i+1,rfl,by omega,?_,rfl⟩;rw[Jc hlt];intro x hx;rcases Jj.1 hx with hx|hx
    ·exact hno x hx
    ·simp only[Ja]at hx;subst hx;rw[←hgd];exact hc2
  ·intro hc;have hge:ns.length≤i:=by simpa using hc
   rw[Je hge]at hno;refine Q1 ?_;simp only[go_sem,X.next];refine Qa ?_;simp only[go_sem];refine Qi ?_;simp only[go_sem,Qq,Q7,Qpr,Ja,forall_eq,RS.op];refine hK _ ?_;have:ns.any p=false:=by
    cases hc:ns.any p with
    |false=>rfl
    |true=>obtain⟨x,hx,hp⟩:=J3.1 hc;rw[hno x hx]at hp;exact absurd hp (by simp)
   rw[this];rfl
theorem Qp6 {c:C}{ns:List Int}{f:Nat}{caps:List C}{p:Int→Bool}(hs:Slc H 1 (Q0 ns) c)(how:c.isOw=false)
  (hf:∀(x:Int) (K':V→Heap→Prop),x∈ns→K' (.c (.bool (p x))) H→Qj prog f ([.c (.int .i64 x)]++caps.map .c) H K')
  (hK:K (.c (.bool (ns.any p))) H):Qj prog Qcl [.c c,.c (.fn f caps)] H K:=by
 refine Qb Qad Qads ?_;refine Qa ?_;simp only[go_sem];refine Qa ?_;simp only[go_sem];refine Qa5s hs how hf fun r hr=>?_;simp only[go_sem,Qmw];refine Qi ?_;simp only[go_sem,Qq,Q7,Qpr,Ja,forall_eq,RS.op];rw[hr];exact hK
theorem Qbng {rows:List (List C)}(h:∀r∈rows,noOw r=true){i:Nat}(hi:i<rows.length){a1 a2 a3 a4 a5:C}(hr:rows.getD i []=[a1,a2,a3,a4,a5]) :
  a1.isOw=false∧a2.isOw=false∧a3.isOw=false∧a4.isOw=false∧a5.isOw=false:=by
 have:=h _ (Jb hi);have e:rows[i]=[a1,a2,a3,a4,a5]:=by rw[←hr];simp[Jd,hi]
 rw[e]at this;simpa[Go.AE.noOw]using this
def Qalz (nx:Nat→List Int)(b:Int)(n:Nat):List Int:=if decide (0≤b)&&decide (b≤(n:Int)-1)then Qc5 nx b n else []
theorem Qbb2 {p rg:Int}{bc:C}{rows:List (List C)}{nx:Nat→List Int}{b:Int}(hs:Slc H 5 rows bc)(how:bc.isOw=false)(hno:∀r∈rows,noOw r=true)
  (hx:∀i,i<rows.length→∃a1 a2 a3 a4 a5,rows.getD i []=[a1,a2,a3,a4,a5]∧Slc H 1 (Q0 (nx i)) a5)
  (hK:∀fl H',Upd H H' []→K (.c (.sl fl 1 (Q0 (Qalz nx b rows.length)))) H'):Qj prog Qm9 [.ag [.int .i64 p,.int .i64 rg,bc],.c (.int .i64 b)] H K:=by
 refine Qn ?_;refine Qb Qad Qa1n ?_;have hok:=eq_true hs.ok;have hlen:=hs.len;have hsz:=hs.sz;refine Qa ?_;simp only[go_sem];refine Qa ?_;simp only[go_sem];refine Q5 ?_;refine Qa ?_;simp only[go_sem,how,hok,hlen];intro hl;simp only[LIM]at hl;refine⟨Qm (by omega) (by omega),?_⟩;refine Qh8 ?_;simp only[go_sem,Qy8];refine Qg (Qc rfl ?_ ?_)
 ·intro hc;have hc':=Qk9 hc;refine Qa ?_;simp only[go_sem];refine Qi ?_;simp only[go_sem,Qq,Q7,Qpr,Ja,forall_eq,RS.op];have h:=hK false _ (Kn.start0 H).fin;simp only[Qalz,hc']at h;exact⟨_,.c _ _ FrzR.nil.sl,h⟩
 ·intro hc;have hc':=Qeh hc;refine Qf ?_;simp only[go_sem];refine Q5 ?_;refine Qa ?_;simp only[go_sem,how,hok,hlen];intro _;refine Qg (Qe (Q2 (fun m e1 H1=>∃(i:Nat) (c:C) (Lg:List (Nat×Obj)),m=rows.length-i∧i≤rows.length∧Gr Lg 1 (Q0 (Qc5 nx b i)) c∧Kn H H1 [] ([]++Lg)∧
   e1=[(1,.c (.int .i64 b)),(5,.c c),(16,.c bc),(17,.c (.int .i64 rows.length)),(18,.c (.int .i64 i))]) rows.length ?_ ?_))
  ·exact⟨0,_,[],by omega,by omega,.nil 1,Kn.start0 H,rfl⟩
  ·rintro m e1 H1 ⟨i,c,Lg,hm,hi,hgr,kn,rfl⟩;have hs1:=hs.keep0 kn;have hok1:=eq_true hs1.ok;have hrw1:=hs1.rows;refine Qa ?_;simp only[go_sem];refine Qg (Qc rfl ?_ ?_)
   ·intro hc;have hlt:i<rows.length:=(by simpa using hc);obtain⟨a1,a2,a3,a4,a5,hrow,hs5⟩:=hx i hlt;obtain⟨o1,o2,o3,o4,o5⟩:=Qbng hno hlt hrow;refine Qf ?_;simp only[go_sem];refine Qbr5 (fun e2 H2=>∃(c:C) (Lg:List (Nat×Obj)),Gr Lg 1 (Q0 (Qc5 nx b (i+1))) c∧Kn H H2 [] ([]++Lg)∧
     lk 1 e2=.c (.int .i64 b)∧lk 5 e2=.c c∧lk 16 e2=.c bc∧lk 17 e2=.c (.int .i64 rows.length)∧lk 18 e2=.c (.int .i64 i)) ?_ ?_
    ·intro Q hnr _ _;refine Qe ?_;refine Qa ?_;simp only[go_sem,hok1,hlen,hsz,hrw1,hlt,hrow,o1,o2,o3,o4,o5];intro x hx H2 h2;have kn:=(kn.al hx h2).perm Jg;have hx2:=kn.l 0 rfl;simp only[go_sem,Qy9,hx2];intro H3 h3;have kn:=kn.stL 0 rfl h3;have hx3:=kn.l 0 rfl;refine Qa ?_;simp only[go_sem,hx3,o5];refine Qbbz (hs5.keep0 kn) o5 ?_;refine Qc rfl ?_ ?_
     ·intro hcon;have hpl:=Qal0 nx b i;refine Qp ?_;simp only[go_sem];refine kn.grow (B:=[_]) (new:=Q0 [(i:Int)]) hgr (.mk' _ _ _ _) (Qay _) (by simp only[Qt,LIM,Jk,Jq];omega) fun y' H4 kn=>?_;simp only[go_sem,Qza];refine hnr _ _ ⟨_,_,?_,(kn.perm Jg).drop,rfl,rfl,rfl,rfl,rfl⟩;rw[Qpj,hcon,if_pos rfl,Qqz];exact .mk _ _ _ (by simp)
     ·intro hcon;refine Qf ?_;simp only[go_sem];refine hnr _ _ ⟨c,Lg,?_,?_,rfl,rfl,rfl,rfl,rfl⟩
      ·rw[Qpj,hcon];simpa using hgr
      ·have kn:Kn H H3 [] ([(x,.st [a1,a2,a3,a4,a5])]++([]++Lg)):=kn;exact (kn.perm Jg).drop
    ·rintro e2 H2 ⟨c2,Lg2,hgr,kn,l1,l5,l16,l17,l18⟩;refine Qp ?_;simp only[go_sem,X.next,l1,l5,l16,l17,l18];exact⟨Qm (by omega) (by omega),rows.length-(i+1),by omega,i+1,c2,Lg2,rfl,by omega,hgr,kn,rfl⟩
   ·intro hc;have hge:i=rows.length:=(by have:¬i<rows.length:=(by simpa using hc);omega);subst hge;refine Q1 ?_;simp only[go_sem,X.next];refine Qa ?_;simp only[go_sem];refine Qi ?_;simp only[go_sem,Qq,Q7,Qpr,Ja,forall_eq,RS.op];refine⟨_,.c _ _ (hgr.frz kn (Qay _)),?_⟩;have:=hK false _ kn.fin;simp only[Qalz,hc']at this;exact this
theorem Qbge {p rg:Int}{bc:C}{rows:List (List C)}{nx:Nat→List Int}{b:Int}(hg:GRd H bc rows nx)
  (hK:∀fl H',Upd H H' []→K (.c (.sl fl 1 (Q0 (Qalz nx b rows.length)))) H'):Qj prog Qm9 [.ag [.int .i64 p,.int .i64 rg,bc],.c (.int .i64 b)] H K:=
 Qbb2 hg.s hg.ow hg.no (fun i hi=>by
  obtain⟨a1,a2,a3,a4,fl,h⟩:=hg.x i hi;exact⟨a1,a2,a3,a4,_,h,.mk' _ _ _ _⟩) hK
end Go.AE.Y
namespace Go.AE.Y
open Go.Proofs.Tryz
def Qrm:List Item:=[mJ 4 9]
def Qah0:SC:=sR (fJ 5 0 2::lJ 6 5::fJ 7 0 3::lJ 8 7::eI 9 (.call Qe0 [.t 6,.t 8,.k (.c (.fn Qfb []))])::Qrm) [4] .ret
def Qasv:SC:=sR [vJ 2 0,vJ 3 1,fB 4 false] [2,3] Qah0
theorem Qar8:mFn prog Qnx 2 10 Qasv Qpr=true:=by kernel_rfl
def Qr7:List Item:=[pF 37 31 36,mJ 4 37]
def Qr8:List Item:=pF 30 24 29::mJ 31 30::gTf 32 31 1 2::gTl 33 31 32::gTf 34 31 1 3::gTl 35 31 34::.e (some 36) (some (31,true)) (.call Qfs [.t 33,.t 35,.k (.c (.fn Qg9 []))])::Qr7
def Qr9:List Item:=pF 23 17 22::mJ 24 23::gTf 25 24 0 2::gTl 26 24 25::gTf 27 24 0 3::gTl 28 24 27::.e (some 29) (some (24,true)) (.call Qft [.t 26,.t 28,.k (.c (.fn Qha []))])::Qr8
def Qai1:SC:=sR (fJ 5 2 2::lJ 6 5::fJ 7 2 3::lJ 8 7::bJ 9 .eql 6 8::mJ 10 9::gTf 11 10 3 2::gTl 12 10 11::gTf 13 10 3 3::gTl 14 10 13::gT 15 10 (.bin 0 .eql (.t 12) (.t 14))::pF 16 10 15::mJ 17 16::gTf 18 17 4 2::gTl 19 17 18::gTf 20 17 4 3::gTl 21 17 20::.e (some 22) (some (17,true)) (.call Qn4 [.t 19,.t 21])::Qr9) [4] .ret
def Qatw:SC:=sR [vJ 2 0,vJ 3 1,fB 4 false] [2,3] Qai1
theorem Qasg:mFn prog Qea 2 38 Qatw Qpr=true:=by kernel_rfl
def Qvc:List Item:=[pF 23 17 22,mJ 4 23]
def Qanh:SC:=sR (fJ 5 0 2::lJ 6 5::fJ 7 0 3::lJ 8 7::bJ 9 .eql 6 8::mJ 10 9::gTf 11 10 1 2::gTl 12 10 11::gTf 13 10 1 3::gTl 14 10 13::gT 15 10 (.bin 0 .eql (.t 12) (.t 14))::pF 16 10 15::mJ 17 16::gTf 18 17 2 2::gTl 19 17 18::gTf 20 17 2 3::gTl 21 17 20::.e (some 22) (some (17,true)) (.call Qef [.t 19,.t 21,.k (.c (.fn Qea []))])::Qvc) [4] .ret
def Qazh:SC:=sR [vJ 2 0,vJ 3 1,fB 4 false] [2,3] Qanh
theorem Qaye:mFn prog Qfb 2 24 Qazh Qpr=true:=by kernel_rfl
def Q0z:List Item:=[pF 30 24 29,mJ 4 30]
def Qatx:SC:=sR (fJ 5 0 2::lJ 6 5::fJ 7 0 3::lJ 8 7::bJ 9 .eql 6 8::mJ 10 9::gTf 11 10 1 2::gTl 12 10 11::gTf 13 10 1 3::gTl 14 10 13::gT 15 10 (.bin 0 .eql (.t 12) (.t 14))::pF 16 10 15::mJ 17 16::gTf 18 17 3 2::gTl 19 17 18::gTf 20 17 3 3::gTl 21 17 20::gT 22 17 (.bin 0 .eql (.t 19) (.t 21))::pF 23 17 22::mJ 24 23::gTf 25 24 2 2::gTl 26 24 25::gTf 27 24 2 3::gTl 28 24 27::.e (some 29) (some (24,true)) (.call Qn4 [.t 26,.t 28])::Q0z) [4] .ret
def Qa24:SC:=sR [vJ 2 0,vJ 3 1,fB 4 false] [2,3] Qatx
theorem Qa1t:mFn prog Qg9 2 31 Qa24 Qpr=true:=by kernel_rfl
def Q00:List Item:=[pF 16 10 15,mJ 4 16]
def Qaty:SC:=sR (fJ 5 0 2::lJ 6 5::fJ 7 0 3::lJ 8 7::bJ 9 .eql 6 8::mJ 10 9::gTf 11 10 1 2::gTl 12 10 11::gTf 13 10 1 3::gTl 14 10 13::.e (some 15) (some (10,true)) (.call Qn4 [.t 12,.t 14])::Q00) [4] .ret
def Qa25:SC:=sR [vJ 2 0,vJ 3 1,fB 4 false] [2,3] Qaty
theorem Qa1u:mFn prog Qha 2 17 Qa25 Qpr=true:=by kernel_rfl
def Qvy:List Item:=[gF 45 39 (.not (.t 44)),pT 46 39 45]
def Qaqa:SC:=cT 46 (sR [fB 4 false] [4] .ret) .skip
def Qvz:List Item:=[gF 81 67 (.not (.t 80)),pT 82 67 81]
def Qaqb:SC:=cT 82 (sR [fB 4 false] [4] .ret) .skip
def Qaqc:SC:=.reg [mJ 52 5,cJ 53 .add 52 1,mJ 5 53] [2,3,5]
def Qaqd:SC:=.seq (.block 1 (.seq (.dreg 29 [0,1,2,3,4,5,6,7,8,9,10,11,12,13,14,15,16,17,18,19,20,21,22,23,24,25,26,27,28] ( fJ 54 0 2::lJ 55 54::mJ 56 5::iJ 57 2 55 56::fJ 58 0 57::lJ 59 58::fJ 60 0 3::lJ 61 60::mJ 62 5::iJ 63 2 61 62::fJ 64 0 63::lJ 65 64::bJ 66 .neq 59 65::mJ 67 66::gFf 68 67 0 2::gFl 69 67 68::gFm 70 67 5::gF 71 67 (.iad 2 (.t 69) (.t 70))::gFf 72 67 1 71::gFl 73 67 72::gFf 74 67 0 3::gFl 75 67 74::gFm 76 67 5::gF 77 67 (.iad 2 (.t 75) (.t 76))::gFf 78 67 1 77::gFl 79 67 78::.e (some 80) (some (67,false)) (.call Qyd [.t 73,.t 79])::Qvz) [2,3,5,82]) Qaqb)) Qaqc
def Qajq:SC:=.seq (sR [mJ 47 5,fJ 48 0 2,lJ 49 48,nJ 50 49,bJ 51 .lss 47 50] [2,3,5,51] (cT 51 .skip (.exit 0))) Qaqd
def Qv0:List Item:=[sJ 4 7 94]
def Qv1:List Item:=[sJ 4 8 99]
def Qv2:List Item:=[gF 125 119 (.not (.t 124)),pT 126 119 125]
def Qajh:SC:=cT 126 (sR [fB 4 false] [4] .ret) .skip
def Qaji:SC:=sR (fJ 100 0 7::lJ 101 100::fJ 102 0 8::lJ 103 102::bJ 104 .neq 101 103::mJ 105 104::gFf 106 105 1 7::gFl 107 105 106::gFf 108 105 1 8::gFl 109 105 108::gF 110 105 (.bin 0 .neq (.t 107) (.t 109))::pT 111 105 110::mJ 112 111::gFf 113 112 3 7::gFl 114 112 113::gFf 115 112 3 8::gFl 116 112 115::gF 117 112 (.bin 0 .neq (.t 114) (.t 116))::pT 118 112 117::mJ 119 118::gFf 120 119 2 7::gFl 121 119 120::gFf 122 119 2 8::gFl 123 119 122::.e (some 124) (some (119,false)) (.call Qyd [.t 121,.t 123])::Qv2) [2,3,6,126] Qajh
def Qajj:SC:=sR (fJ 95 1 3::lJ 96 95::mJ 97 6::iJ 98 4 96 97::tJ 99 4 98::eI 8 (.alloc [.int .i64 0,.int .i64 0,.sl true 1 [],.int .i64 0])::Qv1) [2,3,6,7,8] Qaji
def Qajk:SC:=.reg [mJ 88 6,cJ 89 .add 88 1,mJ 6 89] [2,3,6]
def Qajl:SC:=.seq (.block 3 (sR (fJ 90 1 2::lJ 91 90::mJ 92 6::iJ 93 4 91 92::tJ 94 4 93::eI 7 (.alloc [.int .i64 0,.int .i64 0,.sl true 1 [],.int .i64 0])::Qv0) [2,3,6,7] Qajj)) Qajk
def Qafg:SC:=.seq (sR [mJ 83 6,fJ 84 1 2,lJ 85 84,nJ 86 85,bJ 87 .lss 83 86] [2,3,6,87] (cT 87 .skip (.exit 2))) Qajl
def Qajm:SC:=sR [fB 4 true] [4] .ret
def Qajn:SC:=.seq (sR [zJ 6 0] [2,3,6] (bL 2 Qafg)) Qajm
def Qajo:SC:=.seq (sR [zJ 5 0] [2,3,5] (bL 0 Qajq)) Qajn
def Qajp:SC:=.seq (sR (fJ 9 0 2::lJ 10 9::nJ 11 10::fJ 12 0 3::lJ 13 12::nJ 14 13::bJ 15 .neq 11 14::mJ 16 15::gFf 17 16 1 2::gFl 18 16 17::gF 19 16 (.len (.t 18))::gFf 20 16 1 3::gFl 21 16 20::gF 22 16 (.len (.t 21))::gF 23 16 (.bin 0 .neq (.t 19) (.t 22))::pT 24 16 23::mJ 25 24::gFf 26 25 2 2::gFl 27 25 26::gFf 28 25 2 3::gFl 29 25 28::gF 30 25 (.bin 0 .neq (.t 27) (.t 29))::pT 31 25 30::mJ 32 31::gFf 33 32 3 2::gFl 34 32 33::gFf 35 32 3 3::gFl 36 32 35::gF 37 32 (.bin 0 .neq (.t 34) (.t 36))::pT 38 32 37::mJ 39 38::gFf 40 39 4 2::gFl 41 39 40::gFf 42 39 4 3::gFl 43 39 42::.e (some 44) (some (39,false)) (.call Qyd [.t 41,.t 43])::Qvy) [2,3,46] Qaqa) Qajo
def Qaz8:SC:=sR [vJ 2 0,vJ 3 1,fB 4 false] [2,3] Qajp
theorem Qayl:mFn prog Qqb 2 127 Qaz8 Qpr=true:=by kernel_rfl
def Qauw:SC:=cT 26 (sR [fB 4 false] [4] .ret) .skip
def Q18:List Item:=[oJ 45 44]
def Qaux:SC:=cT 45 (sR [fB 4 false] [4] .ret) .skip
def Qauy:SC:=.reg [mJ 32 5,cJ 33 .add 32 1,mJ 5 33] [2,3,5]
def Qauz:SC:=.seq (.block 1 (.seq (.dreg 12 [0,1,2,3,4,5,6,7,8,9,10,11] ( fJ 34 2 2::lJ 35 34::mJ 36 5::iJ 37 5 35 36::tJ 38 5 37::fJ 39 2 3::lJ 40 39::mJ 41 5::iJ 42 5 40 41::tJ 43 5 42::aJ 44 Qqb [.t 38,.t 43]::Q18) [2,3,5,45]) Qaux)) Qauy
def Qaqe:SC:=.seq (sR [mJ 27 5,fJ 28 2 2,lJ 29 28,nJ 30 29,bJ 31 .lss 27 30] [2,3,5,31] (cT 31 .skip (.exit 0))) Qauz
def Qau0:SC:=sR [fB 4 true] [4] .ret
def Qau1:SC:=.seq (sR [zJ 5 0] [2,3,5] (bL 0 Qaqe)) Qau0
def Qau2:SC:=.seq (sR [fJ 6 0 2,lJ 7 6,fJ 8 0 3,lJ 9 8,bJ 10 .neq 7 9,mJ 11 10,gFf 12 11 1 2,gFl 13 11 12,gFf 14 11 1 3,gFl 15 11 14,gF 16 11 (.bin 0 .neq (.t 13) (.t 15)),pT 17 11 16,mJ 18 17,gFf 19 18 2 2,gFl 20 18 19,gF 21 18 (.len (.t 20)),gFf 22 18 2 3,gFl 23 18 22,gF 24 18 (.len (.t 23)),gF 25 18 (.bin 0 .neq (.t 21) (.t 24)),pT 26 18 25] [2,3,26] Qauw) Qau1
def Qa4p:SC:=sR [vJ 2 0,vJ 3 1,fB 4 false] [2,3] Qau2
theorem Qa15:mFn prog Qtb 2 46 Qa4p Qpr=true:=by kernel_rfl
def Qbe6:SC:=cT 10 (sR [fB 4 false] [4] .ret) .skip
def Qbe7:SC:=cT 25 (sR [fB 4 false] [4] .ret) .skip
def Qbe8:SC:=.reg [mJ 15 5,cJ 16 .add 15 1,mJ 5 16] [0,1,5]
def Qbe9:SC:=.seq (.block 1 (.seq (.dreg 9 [0,1,2,3,4,5,6,7,8] ( mJ 17 0::mJ 18 5::iJ 19 1 17 18::lJ 20 19::mJ 21 1::mJ 22 5::iJ 23 1 21 22::lJ 24 23::bJ 25 .neq 20 24::[]) [0,1,5,25]) Qbe7)) Qbe8
def Qa9k:SC:=.seq (sR [mJ 11 5,mJ 12 0,nJ 13 12,bJ 14 .lss 11 13] [0,1,5,14] (cT 14 .skip (.exit 0))) Qbe9
def Qbfa:SC:=sR [fB 4 true] [4] .ret
def Qbfb:SC:=.seq (sR [zJ 5 0] [0,1,5] (bL 0 Qa9k)) Qbfa
def Qbfc:SC:=.seq (sR [mJ 6 0,nJ 7 6,mJ 8 1,nJ 9 8,bJ 10 .neq 7 9] [0,1,10] Qbe6) Qbfb
def Qbn3:SC:=sR [fB 4 false] [0,1] Qbfc
theorem Qbm0:mFn prog Qyd 2 26 Qbn3 Qpr=true:=by kernel_rfl
def Qa41:SC:=cT 10 (sR [fB 4 false] [4] .ret) .skip
def Qa42:SC:=cT 24 (sR [fB 4 false] [4] .ret) .skip
def Qa43:SC:=.seq (.dreg 9 [0,1,2,3,4,5,6,7,8] ( mJ 16 0::mJ 17 5::iJ 18 1 16 17::lJ 19 18::mJ 20 1::mJ 21 5::iJ 22 1 20 21::lJ 23 22::bJ 24 .neq 19 23::[]) [0,1,12,13,24]) Qa42
def Qa44:SC:=.reg [cJ 25 .add 13 1,mJ 13 25] [0,1,12,13]
def Qa45:SC:=.seq (.block 1 (sR [mJ 15 13,mJ 5 15] [0,1,5,12,13] Qa43)) Qa44
def Qa0n:SC:=sR [bJ 14 .lss 13 12] [0,1,12,13,14] (cX 14 0 Qa45)
def Qa46:SC:=sR [fB 4 true] [4] .ret
def Qa47:SC:=.seq (sR [mJ 11 0,nJ 12 11,zJ 13 0] [0,1,12,13] (bL 0 Qa0n)) Qa46
def Qa48:SC:=.seq (sR [mJ 6 0,nJ 7 6,mJ 8 1,nJ 9 8,bJ 10 .neq 7 9] [0,1,10] Qa41) Qa47
def Qbf0:SC:=sR [fB 4 false] [0,1] Qa48
theorem Qbcy:mFn prog Qn4 2 26 Qbf0 Qpr=true:=by kernel_rfl
def Qxu:SC:=cT 14 (sR [fB 6 false] [6] .ret) .skip
def Qh5:List Item:=[mJ 7 19,sJ 5 8 21]
def Qh6:List Item:=[sJ 5 9 25]
def Qh7:List Item:=[oJ 30 29]
def Qxv:SC:=cT 30 (sR [fB 6 false] [6] .ret) .skip
def Qxw:SC:=sR (mJ 26 2::tJ 27 5 8::tJ 28 5 9::eI 29 (.callv (.t 26) [.t 27,.t 28])::Qh7) [1,2,15,16,17,30] Qxv
def Qxx:SC:=sR (mJ 22 1::mJ 23 7::iJ 24 5 22 23::tJ 25 5 24::eI 9 (.alloc [.sl true 2 [],.sl true 4 [],.int .i64 0,.int .i64 0,.sl true 1 []])::Qh6) [1,2,8,9,15,16,17] Qxw
def Qxy:SC:=.reg [cJ 31 .add 17 1,mJ 17 31] [1,2,15,16,17]
def Qxz:SC:=.seq (.block 1 (sR (mJ 19 17::iJ 20 5 15 17::tJ 21 5 20::eI 8 (.alloc [.sl true 2 [],.sl true 4 [],.int .i64 0,.int .i64 0,.sl true 1 []])::Qh5) [1,2,7,8,15,16,17] Qxx)) Qxy
def Qup:SC:=sR [bJ 18 .lss 17 16] [1,2,15,16,17,18] (cX 18 0 Qxz)
def Qum:SC:=sR [fB 6 true] [6] .ret
def Qun:SC:=.seq (sR [mJ 15 0,nJ 16 15,zJ 17 0] [1,2,15,16,17] (bL 0 Qup)) Qum
def Quo:SC:=.seq (sR [mJ 10 0,nJ 11 10,mJ 12 1,nJ 13 12,bJ 14 .neq 11 13] [0,1,2,14] Qxu) Qun
def Q5w:SC:=sR [fB 6 false] [0,1,2] Quo
theorem Q4i:mFn prog Qef 3 32 Q5w Qbo3=true:=by kernel_rfl
def Q2o:SC:=cT 14 (sR [fB 6 false] [6] .ret) .skip
def Qiu:List Item:=[mJ 7 19,sJ 3 8 21]
def Qiv:List Item:=[sJ 3 9 25]
def Qiw:List Item:=[oJ 30 29]
def Q2p:SC:=cT 30 (sR [fB 6 false] [6] .ret) .skip
def Q2q:SC:=sR (mJ 26 2::tJ 27 3 8::tJ 28 3 9::eI 29 (.callv (.t 26) [.t 27,.t 28])::Qiw) [1,2,15,16,17,30] Q2p
def Q2r:SC:=sR (mJ 22 1::mJ 23 7::iJ 24 3 22 23::tJ 25 3 24::eI 9 (.alloc [.int .i64 0,.int .i64 0,.sl true 5 []])::Qiv) [1,2,8,9,15,16,17] Q2q
def Q2s:SC:=.reg [cJ 31 .add 17 1,mJ 17 31] [1,2,15,16,17]
def Q2t:SC:=.seq (.block 1 (sR (mJ 19 17::iJ 20 3 15 17::tJ 21 3 20::eI 8 (.alloc [.int .i64 0,.int .i64 0,.sl true 5 []])::Qiu) [1,2,7,8,15,16,17] Q2r)) Q2s
def Qx3:SC:=sR [bJ 18 .lss 17 16] [1,2,15,16,17,18] (cX 18 0 Q2t)
def Qx0:SC:=sR [fB 6 true] [6] .ret
def Qx1:SC:=.seq (sR [mJ 15 0,nJ 16 15,zJ 17 0] [1,2,15,16,17] (bL 0 Qx3)) Qx0
def Qx2:SC:=.seq (sR [mJ 10 0,nJ 11 10,mJ 12 1,nJ 13 12,bJ 14 .neq 11 13] [0,1,2,14] Q2o) Qx1
def Q9y:SC:=sR [fB 6 false] [0,1,2] Qx2
theorem Q74:mFn prog Qe0 3 32 Q9y Qbo3=true:=by kernel_rfl
def Q5x:SC:=cT 14 (sR [fB 6 false] [6] .ret) .skip
def Qk0:List Item:=[mJ 7 19,sJ 4 8 21]
def Qk1:List Item:=[sJ 4 9 25]
def Qk2:List Item:=[oJ 30 29]
def Q5y:SC:=cT 30 (sR [fB 6 false] [6] .ret) .skip
def Q5z:SC:=sR (mJ 26 2::tJ 27 4 8::tJ 28 4 9::eI 29 (.callv (.t 26) [.t 27,.t 28])::Qk2) [1,2,15,16,17,30] Q5y
def Q50:SC:=sR (mJ 22 1::mJ 23 7::iJ 24 4 22 23::tJ 25 4 24::eI 9 (.alloc [.int .i64 0,.int .i64 0,.sl true 1 [],.int .i64 0])::Qk1) [1,2,8,9,15,16,17] Q5z
def Q51:SC:=.reg [cJ 31 .add 17 1,mJ 17 31] [1,2,15,16,17]
def Q52:SC:=.seq (.block 1 (sR (mJ 19 17::iJ 20 4 15 17::tJ 21 4 20::eI 8 (.alloc [.int .i64 0,.int .i64 0,.sl true 1 [],.int .i64 0])::Qk0) [1,2,7,8,15,16,17] Q50)) Q51
def Q2x:SC:=sR [bJ 18 .lss 17 16] [1,2,15,16,17,18] (cX 18 0 Q52)
def Q2u:SC:=sR [fB 6 true] [6] .ret
def Q2v:SC:=.seq (sR [mJ 15 0,nJ 16 15,zJ 17 0] [1,2,15,16,17] (bL 0 Q2x)) Q2u
def Q2w:SC:=.seq (sR [mJ 10 0,nJ 11 10,mJ 12 1,nJ 13 12,bJ 14 .neq 11 13] [0,1,2,14] Q5x) Q2v
def Qaco:SC:=sR [fB 6 false] [0,1,2] Q2w
theorem Qabe:mFn prog Qfs 3 32 Qaco Qbo3=true:=by kernel_rfl
def Q53:SC:=cT 14 (sR [fB 6 false] [6] .ret) .skip
def Qk3:List Item:=[mJ 7 19,sJ 2 8 21]
def Qk4:List Item:=[sJ 2 9 25]
def Qk5:List Item:=[oJ 30 29]
def Q54:SC:=cT 30 (sR [fB 6 false] [6] .ret) .skip
def Q55:SC:=sR (mJ 26 2::tJ 27 2 8::tJ 28 2 9::eI 29 (.callv (.t 26) [.t 27,.t 28])::Qk5) [1,2,15,16,17,30] Q54
def Q56:SC:=sR (mJ 22 1::mJ 23 7::iJ 24 2 22 23::tJ 25 2 24::eI 9 (.alloc [.int .i64 0,.sl true 1 []])::Qk4) [1,2,8,9,15,16,17] Q55
def Q57:SC:=.reg [cJ 31 .add 17 1,mJ 17 31] [1,2,15,16,17]
def Q58:SC:=.seq (.block 1 (sR (mJ 19 17::iJ 20 2 15 17::tJ 21 2 20::eI 8 (.alloc [.int .i64 0,.sl true 1 []])::Qk3) [1,2,7,8,15,16,17] Q56)) Q57
def Q21:SC:=sR [bJ 18 .lss 17 16] [1,2,15,16,17,18] (cX 18 0 Q58)
def Q2y:SC:=sR [fB 6 true] [6] .ret
def Q2z:SC:=.seq (sR [mJ 15 0,nJ 16 15,zJ 17 0] [1,2,15,16,17] (bL 0 Q21)) Q2y
def Q20:SC:=.seq (sR [mJ 10 0,nJ 11 10,mJ 12 1,nJ 13 12,bJ 14 .neq 11 13] [0,1,2,14] Q53) Q2z
def Qacp:SC:=sR [fB 6 false] [0,1,2] Q20
theorem Qabf:mFn prog Qft 3 32 Qacp Qbo3=true:=by kernel_rfl
def Qaj0:SC:=cT 12 (sR [fB 4 false] [4] .ret) .skip
def Qsl:List Item:=[oJ 31 30]
def Qaj1:SC:=cT 31 (sR [fB 4 false] [4] .ret) .skip
def Qaj2:SC:=.reg [mJ 18 5,cJ 19 .add 18 1,mJ 5 19] [2,3,5]
def Qaj3:SC:=.seq (.block 1 (.seq (.dreg 12 [0,1,2,3,4,5,6,7,8,9,10,11] ( fJ 20 0 2::lJ 21 20::mJ 22 5::iJ 23 3 21 22::tJ 24 3 23::fJ 25 0 3::lJ 26 25::mJ 27 5::iJ 28 3 26 27::tJ 29 3 28::aJ 30 Qtb [.t 24,.t 29]::Qsl) [2,3,5,31]) Qaj1)) Qaj2
def Qafp:SC:=.seq (sR [mJ 13 5,fJ 14 0 2,lJ 15 14,nJ 16 15,bJ 17 .lss 13 16] [2,3,5,17] (cT 17 .skip (.exit 0))) Qaj3
def Qaj4:SC:=sR [fB 4 true] [4] .ret
def Qaj5:SC:=.seq (sR [zJ 5 0] [2,3,5] (bL 0 Qafp)) Qaj4
def Qaj6:SC:=.seq (sR [fJ 6 0 2,lJ 7 6,nJ 8 7,fJ 9 0 3,lJ 10 9,nJ 11 10,bJ 12 .neq 8 11] [2,3,12] Qaj0) Qaj5
def Qavx:SC:=sR [vJ 2 0,vJ 3 1,fB 4 false] [2,3] Qaj6
theorem Qasj:mFn prog Qhf 2 32 Qavx Qpr=true:=by kernel_rfl
end Go.AE.Y
namespace Go.AE.Y
attribute [local go_sem] cond_true cond_false Bool.not_true Bool.not_false
open Go.Proofs.Tryz
variable {H H0 F:Heap}{K:V→Heap→Prop}{E B Lg:List (Nat×Obj)}{fns:List Fn}
theorem Q38 {S:Nat→Bool}{rows:List (List C)}{fl:Bool}(hr:∀r∈rows,noOw r=true)(b:Bool):FrzV H S (.tup [.ag [.sl fl 3 rows],.c (.bool b)]) (.tup [.ag [.sl false 3 rows],.c (.bool b)]):=by
 refine .tup _ _ rfl fun j x x' h1 h2=>?_;rcases j with _|_|j
 ·simp only[J9,Jai]at h1 h2;subst h1 h2;exact (FrzL.cons (FrzR.same hr).sl .nil).ag
 ·simp only[List.getElem?_cons_succ,J9,Jai]at h1 h2;subst h1 h2;exact .c _ _ (Qd rfl)
 ·simp at h1
end Go.AE.Y
namespace Go.AE.Y
open Go.Proofs.Tryz
def Qlx:List Item:=[fB 3 false]
def Qly:List Item:=[oJ 7 6]
def Qlz:List Item:=[fB 3 false]
def Q8l:SC:=cT 7 (sR (fI 8 (.bld [.sl true 3 []] [])::sJ 1 2 8::Qlz) [2,3] .ret) .skip
def Ql0:List Item:=[sJ 1 4 13]
def Ql1:List Item:=fI 13 (.bld [.sl true 3 []] [(0,1,.t 12)])::eI 4 (.alloc [.sl true 3 []])::Ql0
def Ql2:List Item:=[oJ 16 15]
def Ql3:List Item:=[fB 3 false]
def Q8m:SC:=cT 16 (sR (fI 17 (.bld [.sl true 3 []] [])::sJ 1 2 17::Ql3) [2,3] .ret) .skip
def Ql4:List Item:=[fB 3 true]
def Q4u:SC:=sR (tJ 18 1 4::sJ 1 2 18::Ql4) [2,3] .ret
def Q4v:SC:=.seq (sR (tJ 14 1 4::aJ 15 Qny [.t 14]::Ql2) [2,4,16] Q8m) Q4u
def Q4w:SC:=sR (fJ 9 0 1::lJ 10 9::fI 11 (.mkf Qd8 [.t 1])::aJ 12 Qez [.t 10,.t 11]::Ql1) [2,4] Q4v
def Q4x:SC:=.seq (sR (tJ 5 1 1::aJ 6 Q3q [.t 5]::Qly) [1,2,7] Q8l) Q4w
def Qad4:SC:=sR (vJ 1 0::eI 2 (.alloc [.sl true 3 []])::Qlx) [1,2] Q4x
def Qet:List RS:=[.cell 2 1 true,.tmp 3]
theorem Qadh:mFn prog Qdz 1 19 Qad4 Qet=true:=by kernel_rfl
def Qhp:List Item:=[sJ 3 3 6]
def Qwo:SC:=sR (tJ 4 1 1::tJ 5 3 2::aJ 6 Qs5 [.t 4,.t 5]::Qhp) [3] .ret
def Q4y:SC:=sR [vJ 2 0,eI 3 (.alloc [.int .i64 0,.int .i64 0,.sl true 5 []])] [1,2,3] Qwo
def Qlh:List RS:=[.cell 3 3 true]
theorem Q4b:mFn prog Qd8 2 7 Q4y Qlh=true:=by kernel_rfl
def Qj9:List Item:=[fB 3 false]
def Qcr:List Item:=[pT 11 7 10]
def Qel:List Item:=oJ 6 5::mJ 7 6::gFf 8 7 0 1::gFl 9 7 8::.e (some 10) (some (7,false)) (.call Qed [.t 9,.k (.c (.fn Qdp []))])::Qcr
def Qka:List Item:=[fB 3 false]
def s_im_RenameProgram_4:SC:=cT 11 (sR (fI 12 (.bld [.sl true 3 []] [])::sJ 1 2 12::Qka) [2,3] .ret) .skip
def Qkb:List Item:=[fB 3 true]
def Qkc:List Item:=fI 16 (.bld [.sl true 3 []] [(0,1,.t 15)])::sJ 1 2 16::Qkb
def Ql8:SC:=sR (fJ 13 0 1::lJ 14 13::eI 15 (.call Qg8 [.t 14,.k (.c (.fn Qdq []))])::Qkc) [2,3] .ret
def Q43:SC:=.seq (sR (tJ 4 1 1::aJ 5 Q3q [.t 4]::Qel) [1,2,11] s_im_RenameProgram_4) Ql8
def Qabv:SC:=sR (vJ 1 0::eI 2 (.alloc [.sl true 3 []])::Qj9) [1,2] Q43
theorem Qaa8:mFn prog Qfr 1 17 Qabv Qet=true:=by kernel_rfl
def Qf8:List Item:=[cJ 5 .gtr 4 26,mJ 2 5]
def Qtt:SC:=sR (tJ 3 3 1::aJ 4 Qjl [.t 3]::Qf8) [2] .ret
def Qzc:SC:=sR [vJ 1 0,fB 2 false] [1] Qtt
theorem Qyj:mFn prog Qdp 1 6 Qzc Qfh=true:=by kernel_rfl
def Qf9:List Item:=[eI 2 (.alloc [.str [],.sl true 1 [],.sl true 5 []])]
def Qga:List Item:=[sJ 1 4 7]
def Qgb:List Item:=sJ 1 3 6::Qga
def Qgc:List Item:=eI 4 (.alloc [.pnil])::Qgb
def Qgd:List Item:=eI 3 (.alloc [.pnil])::Qgc
def Qge:List Item:=aJ 7 Qam [.k (.c .pnil)]::Qgd
def Qgf:List Item:=[fJ 12 1 1,sJ 1 12 11]
def Qgg:List Item:=[fJ 18 2 1,sJ 1 18 17]
def Qtu:SC:=sR [tJ 19 3 1,sJ 3 2 19] [2] .ret
def Qtv:SC:=sR (lJ 13 3::fJ 14 2 1::lJ 15 14::lJ 16 4::aJ 17 Qcc [.t 13,.t 15,.t 16]::Qgg) [1,2] Qtu
def Qrj:SC:=sR (fJ 8 1 1::lJ 9 8::fI 10 (.mkf Qbu [.t 3,.t 4])::aJ 11 Qch [.t 9,.t 10]::Qgf) [1,2,3,4] Qtv
def Qrk:SC:=sR (fI 5 (.bld [.int .i64 0] [])::eI 6 (.boxm (.t 5))::Qge) [1,2,3,4] Qrj
def Qzd:SC:=sR (eI 1 (.boxm (.t 0))::Qf9) [1,2] Qrk
def Qj1:List RS:=[.cell 2 3 true]
theorem Qyk:mFn prog Qdq 1 20 Qzd Qj1=true:=by kernel_rfl
def Qek:List Item:=[mJ 4 8]
def Qo8:SC:=sR (lJ 5 1::lJ 6 2::mJ 7 0::aJ 8 Qd0 [.t 5,.t 6,.t 7]::Qek) [4] .ret
def Qrl:SC:=sR [fI 4 (.mv (.k (.c (.str []))))] [0,1,2] Qo8
theorem Qq0:mFn prog Qbu 3 9 Qrl Qpr=true:=by kernel_rfl
def Qzs:List Item:=[mJ 5 11]
def Qzt:List Item:=[kJ 22 13,fJ 23 1 22,fJ 24 1 23,sJ 1 24 18]
def Qzu:List Item:=hJ 15 14::.chk 16 none (.len (.t 15))::kJ 19 12::fJ 20 1 19::fJ 21 0 20::sJ 1 21 16::Qzt
def Qzv:List Item:=[mJ 6 25]
def Qatn:SC:=.reg [mJ 34 6,kJ 35 34,fJ 36 0 35,lJ 37 36,mJ 38 8,mJ 39 7,.e none none (.upd 1 (.t 37) (.t 38) (.t 39))] [3,4,5,6,27,28,29]
def Qato:SC:=.reg [cJ 40 .add 29 1,mJ 29 40] [3,4,5,6,27,28,29]
def Qatp:SC:=.seq (.block 1 (sR [mJ 31 29,iJ 32 1 27 29,lJ 33 32,mJ 7 31,mJ 8 33] [3,4,5,6,7,8,27,28,29] Qatn)) Qato
def Qane:SC:=sR [bJ 30 .lss 29 28] [3,4,5,6,27,28,29,30] (cX 30 0 Qatp)
def Qzw:List Item:=[aJ 52 Qa6 [.t 43,.t 45,.t 46,.t 51]]
def Qzx:List Item:=[hJ 59 58,eI 60 (.call Qah [.t 53,kI 3,.t 55,.t 59,.k (.c (.sl true 1 []))])]
def Qam6:SC:=sR [mJ 61 5,kJ 62 61,fJ 63 1 62,tJ 64 3 63,sJ 3 4 64] [4] .ret
def Qam7:SC:=.seq (.dreg 8 [0,1,3,4,5,6,2,6,7] ( mJ 53 5::mJ 54 5::mJ 56 5::kJ 57 56::fJ 58 4 57::lJ 59 58::eI 55 (.call Qao [.t 54,kI 1,kI 0,.k (.c (.sl true 1 []))])::Qzx) [4,5]) Qam6
def Qam8:SC:=sR (mJ 43 5::fJ 44 2 3::lJ 45 44::mJ 46 6::fJ 47 1 3::lJ 48 47::nJ 49 48::fI 50 (.bld [.int .i64 0] [(0,1,.t 49)])::eI 51 (.boxm (.t 50))::Qzw) [4,5] Qam7
def Qam9:SC:=sR [mJ 41 5,aJ 42 Qbc [.t 41,kI 1]] [3,4,5,6] Qam8
def Qana:SC:=.seq (sR [fJ 26 1 3,lJ 27 26,nJ 28 27,zJ 29 0] [3,4,5,6,27,28,29] (bL 0 Qane)) Qam9
def Qanb:SC:=sR (aJ 25 Qam [.k (.c .pnil)]::Qzv) [3,4,5,6] Qana
def Qanc:SC:=.seq (.dreg 15 [0,1,2,3,4,5,6,3,4,7,8,9,10,11,12,13,14] ( mJ 12 5::mJ 13 5::fJ 14 1 3::lJ 15 14::nJ 16 15::tJ 17 3 3::aJ 18 Qjl [.t 17]::Qzu) [3,4,5]) Qanb
def Qand:SC:=sR (tJ 9 1 2::fI 10 (.bld [.sl true 3 [],.int .i64 0,.int .i64 0,.sl true 5 [],.int .i64 0] [(0,1,.t 9)])::eI 11 (.boxm (.t 10))::Qzs) [3,4,5] Qanc
def Qa2x:SC:=sR [vJ 2 0,vJ 3 1,eI 4 (.alloc [.int .i64 0,.int .i64 0,.sl true 5 []])] [2,3,4] Qand
theorem Qa1r:mFn prog Qs5 2 65 Qa2x Qbo4=true:=by kernel_rfl
def Qih:List Item:=[sJ 5 9 21]
def Qii:List Item:=[mJ 10 26]
def Qij:List Item:=[mJ 11 38]
def Qik:List Item:=[hJ 49 4,hJ 51 50,aJ 55 Qa6 [.t 49,.t 51,.t 53,.t 54]]
def Qzy:SC:=sR [lJ 56 4,mJ 57 10,cJ 58 .add 57 2,mJ 59 10,fI 60 (.bsl 1 [.t 59]),aJ 61 Qah [.t 56,kI 1,kI 0,.t 58,.t 60]] [3,4,6,16,17,18] (.exit 1)
def Qzz:SC:=.seq (.dreg 7 [0,1,2,3,5,4,0,2,6] ( lJ 49 4::fJ 50 3 9::lJ 51 50::lJ 52 6::mJ 54 3::aJ 53 Qam [.t 52]::Qik) [3,4,6,10,16,17,18]) Qzy
def Qz0:SC:=sR [lJ 39 4,mJ 40 11,mJ 41 10,cJ 42 .add 41 1,mJ 43 10,cJ 44 .add 43 1,mJ 45 10,cJ 46 .add 45 2,fI 47 (.bsl 1 [.t 44,.t 46]),aJ 48 Qah [.t 39,kI 2,.t 40,.t 42,.t 47]] [3,4,6,9,10,16,17,18] Qzz
def Qz1:SC:=.seq (.dreg 8 [0,1,2,3,4,5,6,7] ( lJ 32 4::fJ 33 2 9::lJ 34 33::fI 35 (.iad 4 (.t 34) (kI 0))::tJ 36 4 35::lJ 37 6::aJ 38 Qbb [.t 32,.t 36,.t 37]::Qij) [3,4,6,9,10,11,16,17,18]) Qz0
def Qz2:SC:=sR [lJ 27 4,mJ 28 10,mJ 29 10,fI 30 (.bsl 1 [.t 29]),aJ 31 Qah [.t 27,kI 1,kI 0,.t 28,.t 30]] [3,4,6,9,10,16,17,18] Qz1
def Qz3:SC:=cT 24 (sR (lJ 25 4::aJ 26 Qbc [.t 25,kI 3]::Qii) [3,4,6,9,10,16,17,18] Qz2) .skip
def Qht:List Item:=[mJ 12 65]
def Qwz:SC:=.dreg 11 [0,1,2,3,4,5,6,7,8,9,10] ( lJ 87 4::lJ 88 6::kJ 89 88::fJ 90 0 89::lJ 91 90::fJ 92 1 9::lJ 93 92::fI 94 (.lup 1 (.c (.int .i64 0)) (.t 91) (.t 93))::mJ 95 12::fI 96 (.bld [.int .i64 0,.int .i64 0,.sl true 1 [],.int .i64 0] [(0,1,kI 2),(1,1,.t 94),(2,1,.t 95),(3,1,kI 0)])::aJ 97 Qa7 [.t 87,.t 96]::[]) [3,4,6,16,17,18]
def Qw0:SC:=sR [mJ 80 3,kJ 81 80,fJ 82 0 81,lJ 83 82,cJ 84 .add 83 1,kJ 85 80,fJ 86 0 85,sJ 1 86 84] [3,4,6,9,12,16,17,18] Qwz
def Qhu:List Item:=[mJ 100 104,fI 105 (.ext (.t 100) 0),fI 106 (.ext (.t 100) 1),mJ 13 105,mJ 14 106]
def Qw1:SC:=.reg [lJ 107 4,mJ 108 13,mJ 109 12,fI 110 (.bld [.int .i64 0,.int .i64 0,.sl true 1 [],.int .i64 0] [(0,1,kI 2),(1,1,.t 108),(2,1,.t 109),(3,1,kI 0)]),aJ 111 Qa7 [.t 107,.t 110]] [3,4,6,16,17,18]
def Qhv:List Item:=[mJ 15 127]
def Qhw:List Item:=[hJ 138 4,hJ 140 139,aJ 144 Qa6 [.t 138,.t 140,.t 142,.t 143]]
def Qhx:List Item:=[hJ 152 4,hJ 154 153,aJ 158 Qa6 [.t 152,.t 154,.t 156,.t 157]]
def Qw2:SC:=.reg [lJ 159 4,mJ 160 15,cJ 161 .add 160 2,mJ 162 15,cJ 163 .add 162 2,fI 164 (.bsl 1 [.t 163]),aJ 165 Qah [.t 159,kI 1,kI 0,.t 161,.t 164]] [3,4,6,16,17,18]
def Qw3:SC:=.seq (.dreg 7 [0,1,2,3,5,4,0,2,6] ( lJ 152 4::fJ 153 4 9::lJ 154 153::lJ 155 6::mJ 157 3::aJ 156 Qam [.t 155]::Qhx) [3,4,6,15,16,17,18]) Qw2
def Qw4:SC:=sR [lJ 145 4,mJ 146 15,cJ 147 .add 146 1,mJ 148 15,cJ 149 .add 148 2,fI 150 (.bsl 1 [.t 149]),aJ 151 Qah [.t 145,kI 1,kI 0,.t 147,.t 150]] [3,4,6,9,15,16,17,18] Qw3
def Qw5:SC:=.seq (.dreg 7 [0,1,2,3,5,4,0,2,6] ( lJ 138 4::fJ 139 3 9::lJ 140 139::lJ 141 6::mJ 143 3::aJ 142 Qam [.t 141]::Qhw) [3,4,6,9,15,16,17,18]) Qw4
def Qw6:SC:=.seq (.dreg 10 [0,1,2,3,4,5,6,7,8,9] ( lJ 128 4::mJ 129 12::fI 130 (.iad 1 (.t 129) (kI 0))::lJ 131 130::mJ 132 15::mJ 133 15::mJ 134 15::cJ 135 .add 134 1::fI 136 (.bsl 1 [.t 133,.t 135])::aJ 137 Qah [.t 128,kI 2,.t 131,.t 132,.t 136]::[]) [3,4,6,9,15,16,17,18]) Qw5
def Qhy:List Item:=[hJ 168 4,.chk 170 none (.iad 1 (.t 169) (kI 0)),hJ 171 170,eI 174 (.call Qah [.t 168,kI 3,.t 171,.t 173,.k (.c (.sl true 1 []))])]
def Qw7:SC:=cT 166 (.dreg 7 [0,1,2,3,4,5,0,2,3,6] ( lJ 168 4::mJ 169 12::fI 170 (.iad 1 (.t 169) (kI 0))::lJ 171 170::lJ 172 4::aJ 173 Qbc [.t 172,kI 1]::Qhy) [3,4,6,16,17,18]) .skip
def Qw8:SC:=cT 124 (sR (lJ 126 4::aJ 127 Qbc [.t 126,kI 3]::Qhv) [3,4,6,9,12,15,16,17,18] Qw6) (sR [cJ 167 .eql 67 7,mJ 166 167] [3,4,6,12,16,17,18,166] Qw7)
def Qw9:SC:=cT 118 (.reg [lJ 120 4,mJ 121 12,fI 122 (.bld [.int .i64 0,.int .i64 0,.sl true 1 [],.int .i64 0] [(0,1,kI 12),(1,1,kI (-1)),(2,1,.t 121),(3,1,kI 0)]),aJ 123 Qa7 [.t 120,.t 122]] [3,4,6,16,17,18]) (sR [cJ 125 .eql 67 5,mJ 124 125] [3,4,6,9,12,16,17,18,67,124] Qw8)
def Qxa:SC:=cT 112 (.reg [lJ 114 4,mJ 115 12,fI 116 (.bld [.int .i64 0,.int .i64 0,.sl true 1 [],.int .i64 0] [(0,1,kI 13),(1,1,kI (-1)),(2,1,.t 115),(3,1,kI 0)]),aJ 117 Qa7 [.t 114,.t 116]] [3,4,6,16,17,18]) (sR [cJ 119 .eql 67 4,mJ 118 119] [3,4,6,9,12,16,17,18,67,118] Qw9)
def Qxb:SC:=cT 98 (sR (lJ 101 6::fJ 102 1 9::lJ 103 102::aJ 104 Qbn [.t 101,.t 103]::Qhu) [3,4,6,12,13,16,17,18] Qw1) (sR [cJ 113 .eql 67 3,mJ 112 113] [3,4,6,9,12,16,17,18,67,112] Qxa)
def Qxc:SC:=cT 68 (.seq (.dreg 11 [0,1,2,3,4,5,6,7,8,9,10] ( lJ 70 6::kJ 71 70::fJ 72 0 71::lJ 73 72::fJ 74 1 9::lJ 75 74::mJ 76 3::kJ 77 76::fJ 78 0 77::lJ 79 78::.e none none (.upd 1 (.t 73) (.t 75) (.t 79))::[]) [3,4,6,9,12,16,17,18]) Qw0) (sR [cJ 99 .eql 67 2,mJ 98 99] [3,4,6,9,12,16,17,18,67,98] Qxb)
def Qxd:SC:=.block 2 (sR [cJ 69 .eql 67 1,mJ 68 69] [3,4,6,9,12,16,17,18,67,68] Qxc)
def Qxe:SC:=sR [fJ 66 0 9,lJ 67 66] [3,4,6,9,12,16,17,18,67] Qxd
def Qxf:SC:=sR (fJ 62 2 9::lJ 63 62::fI 64 (.mkf Qdg [.t 4,.t 6])::aJ 65 Qcj [.t 63,.t 64]::Qht) [3,4,6,9,12,16,17,18] Qxe
def Qxg:SC:=.seq (sR [fJ 22 0 9,lJ 23 22,cJ 24 .eql 23 6] [3,4,6,9,16,17,18,24] Qz3) Qxf
def Qif:SC:=.reg [cJ 175 .add 18 1,mJ 18 175] [3,4,6,16,17,18]
def Qig:SC:=.seq (.block 1 (sR (iJ 20 5 16 18::tJ 21 5 20::eI 9 (.alloc [.int .i64 0,.str [],.sl true 4 [],.sl true 5 [],.sl true 5 []])::Qih) [3,4,6,9,16,17,18] Qxg)) Qif
def Qt0:SC:=sR [bJ 19 .lss 18 17] [3,4,6,16,17,18,19] (cX 19 0 Qig)
def Qxh:SC:=sR [mJ 16 1,nJ 17 16,zJ 18 0] [3,4,6,16,17,18] (bL 0 Qt0)
def Q8s:SC:=sR [vJ 4 0,vJ 6 2] [1,3,4,6] Qxh
theorem Q72:mFn prog Qa6 4 176 Q8s Qtn=true:=by kernel_rfl
def Qfk:List Item:=[mJ 4 8]
def Qrz:SC:=sR (lJ 5 1::tJ 6 4 3::lJ 7 2::aJ 8 Qbb [.t 5,.t 6,.t 7]::Qfk) [4] .ret
def Qxi:SC:=sR [vJ 3 0,zJ 4 0] [1,2,3] Qrz
theorem Qwl:mFn prog Qdg 3 9 Qxi Qpr=true:=by kernel_rfl
def Qma:List Item:=[kJ 31 23,fJ 32 4 31,sJ 1 32 26]
def Qmb:List Item:=kJ 29 22::fJ 30 3 29::sJ 1 30 25::Qma
def Q8t:SC:=.reg [mJ 33 0,mJ 34 3,kJ 35 33,fJ 36 4 35,sJ 1 36 34] []
def Q8u:SC:=sR (mJ 21 10::mJ 22 10::mJ 23 10::mJ 24 1::mJ 25 2::mJ 26 4::kJ 27 21::fJ 28 2 27::sJ 1 28 24::Qmb) [0,3] Q8t
def Qaef:SC:=.seq (.dreg 11 [0,1,2,3,4,5,6,7,8,9,10] ( mJ 11 0::kJ 12 11::fJ 13 1 12::fJ 14 2 13::lJ 15 14::mJ 16 0::kJ 17 16::fJ 18 4 17::lJ 19 18::iJ 20 5 15 19::mJ 10 20::[]) [0,1,2,3,4,10]) Q8u
theorem Qadl:mFn prog Qah 5 37 Qaef Qtn=true:=by kernel_rfl
def Qki:List Item:=[mJ 6 22]
def Qkj:List Item:=[mJ 25 29,fI 30 (.ext (.t 25) 0),fI 31 (.ext (.t 25) 1),mJ 7 30,mJ 8 31]
def Q5a:SC:=sR [mJ 32 7,mJ 6 32] [6] .ret
def Qkk:List Item:=[mJ 9 41]
def Qkl:List Item:=[mJ 10 43]
def Qkm:List Item:=[mJ 11 45]
def Qkn:List Item:=[mJ 12 60]
def Qko:List Item:=[mJ 13 64]
def Q5b:SC:=sR [mJ 78 10,mJ 6 78] [6] .ret
def Q5c:SC:=sR [lJ 71 3,mJ 72 11,cJ 73 .add 72 1,mJ 74 11,cJ 75 .add 74 1,fI 76 (.bsl 1 [.t 75]),aJ 77 Qah [.t 71,kI 1,kI 0,.t 73,.t 76]] [10] Q5b
def Qz4:SC:=sR [lJ 65 3,mJ 66 10,mJ 67 13,fI 68 (.bsl 1 [.t 67]),fI 69 (.bld [.int .i64 0,.int .i64 0,.sl true 1 [],.int .i64 0] [(0,1,kI 10),(1,1,.t 66),(2,1,.t 68),(3,1,kI 0)]),aJ 70 Qa7 [.t 65,.t 69]] [3,10,11] Q5c
def Qz5:SC:=sR (lJ 61 3::mJ 62 12::fI 63 (.bsl 1 [.t 62])::aJ 64 Qao [.t 61,kI 10,kI 0,.t 63]::Qko) [3,10,11,13] Qz4
def Qz6:SC:=.seq (.dreg 8 [0,1,2,3,4,5,6,7] ( lJ 54 3::fJ 55 3 4::lJ 56 55::fI 57 (.iad 4 (.t 56) (kI 1))::tJ 58 4 57::lJ 59 5::aJ 60 Qbb [.t 54,.t 58,.t 59]::Qkn) [3,10,11,12]) Qz5
def Qz7:SC:=sR [lJ 46 3,mJ 47 9,mJ 48 11,mJ 49 11,mJ 50 11,cJ 51 .add 50 1,fI 52 (.bsl 1 [.t 49,.t 51]),aJ 53 Qah [.t 46,kI 2,.t 47,.t 48,.t 52]] [3,4,5,10,11] Qz6
def Qz8:SC:=sR (lJ 44 3::aJ 45 Qbc [.t 44,kI 2]::Qkm) [3,4,5,9,10,11] Qz7
def Qz9:SC:=sR (lJ 42 3::eI 43 (.call Qao [.t 42,kI 1,kI 0,.k (.c (.sl true 1 []))])::Qkl) [3,4,5,9,10] Qz8
def Q0a:SC:=cT 33 (.seq (.dreg 8 [0,1,2,3,4,5,6,7] ( lJ 35 3::fJ 36 3 4::lJ 37 36::fI 38 (.iad 4 (.t 37) (kI 0))::tJ 39 4 38::lJ 40 5::aJ 41 Qbb [.t 35,.t 39,.t 40]::Qkk) [3,4,5,9]) Qz9) .skip
def Q0b:SC:=cT 23 (sR (lJ 26 5::fJ 27 2 4::lJ 28 27::aJ 29 Qbn [.t 26,.t 28]::Qkj) [7] Q5a) (sR [cJ 34 .eql 16 10,mJ 33 34] [3,4,5,33] Q0a)
def Q0c:SC:=cT 17 (sR (lJ 19 3::fJ 20 1 4::lJ 21 20::eI 22 (.call Qao [.t 19,kI 1,.t 21,.k (.c (.sl true 1 []))])::Qki) [6] .ret) (sR [cJ 24 .eql 16 2,mJ 23 24] [3,4,5,16,23] Q0b)
def Q0d:SC:=.block 0 (sR [cJ 18 .eql 16 1,mJ 17 18] [3,4,5,16,17] Q0c)
def Qil:List Item:=[mJ 14 82]
def Qim:List Item:=[mJ 6 89]
def Qin:List Item:=[mJ 6 94]
def Qio:List Item:=[mJ 6 106]
def Qip:List Item:=hJ 97 3::aJ 106 Qao [.t 97,kI 14,.t 104,.t 105]::Qio
def Q0e:SC:=cT 95 (.seq (.dreg 11 [0,1,2,3,4,5,6,8,7,0,9,10] ( lJ 97 3::lJ 98 3::kJ 99 98::fJ 100 0 99::tJ 101 1 100::fJ 102 2 4::lJ 103 102::mJ 105 14::aJ 104 Qqu [.t 101,.t 103]::Qip) [6]) .ret) .skip
def Q0f:SC:=cT 90 (sR (lJ 92 3::mJ 93 14::aJ 94 Qao [.t 92,kI 11,kI 0,.t 93]::Qin) [6] .ret) (sR [cJ 96 .eql 84 13,mJ 95 96] [3,4,14,95] Q0e)
def Q0g:SC:=cT 85 (sR (lJ 87 3::mJ 88 14::aJ 89 Qao [.t 87,kI 10,kI 0,.t 88]::Qim) [6] .ret) (sR [cJ 91 .eql 84 12,mJ 90 91] [3,4,14,84,90] Q0f)
def Q0h:SC:=.block 1 (sR [cJ 86 .eql 84 11,mJ 85 86] [3,4,14,84,85] Q0g)
def Qiq:List Item:=[mJ 6 111]
def Q0i:SC:=sR (lJ 107 3::fJ 108 0 4::lJ 109 108::mJ 110 14::aJ 111 Qao [.t 107,.t 109,kI 0,.t 110]::Qiq) [6] .ret
def Q0j:SC:=.seq (sR [fJ 83 0 4,lJ 84 83] [3,4,14,84] Q0h) Q0i
def Q0k:SC:=sR (fJ 79 3 4::lJ 80 79::fI 81 (.mkf Qdr [.t 3,.t 5])::aJ 82 Qcj [.t 80,.t 81]::Qil) [3,4,14] Q0j
def Q0l:SC:=.seq (sR [fJ 15 0 4,lJ 16 15] [3,4,5,16] Q0d) Q0k
def Qab4:SC:=sR [vJ 3 0,vJ 4 1,vJ 5 2,zJ 6 0] [3,4,5] Q0l
theorem Qaba:mFn prog Qbb 3 112 Qab4 Qbo3=true:=by kernel_rfl
def Qgh:List Item:=[mJ 4 8]
def Qt1:SC:=sR (lJ 5 1::tJ 6 4 3::lJ 7 2::aJ 8 Qbb [.t 5,.t 6,.t 7]::Qgh) [4] .ret
def Q0m:SC:=sR [vJ 3 0,zJ 4 0] [1,2,3] Qt1
theorem Qyl:mFn prog Qdr 3 9 Q0m Qpr=true:=by kernel_rfl
def Qkp:List Item:=[mJ 9 11]
def Q5d:SC:=sR [mJ 19 9,mJ 8 19] [8] .ret
def Q5e:SC:=sR [mJ 12 0,mJ 13 1,mJ 14 9,mJ 15 3,mJ 16 2,fI 17 (.bld [.int .i64 0,.int .i64 0,.sl true 1 [],.int .i64 0] [(0,1,.t 13),(1,1,.t 14),(2,1,.t 15),(3,1,.t 16)]),aJ 18 Qa7 [.t 12,.t 17]] [9] Q5d
def Q5f:SC:=sR (mJ 10 0::aJ 11 Qg7 [.t 10]::Qkp) [0,1,2,3,9] Q5e
def Qab5:SC:=sR [zJ 8 0] [0,1,2,3] Q5f
def Qpo:List RS:=[.tmp 8]
theorem Qabb:mFn prog Qao 4 20 Qab5 Qpo=true:=by kernel_rfl
def Qmc:List Item:=[kJ 23 15,fJ 24 1 23,sJ 1 24 22]
def Q8v:SC:=.dreg 11 [0,1,2,3,4,5,6,7,8,9,10] ( mJ 15 4::mJ 16 4::kJ 17 16::fJ 18 1 17::lJ 19 18::tJ 20 4 3::fI 21 (.bsl 4 [.t 20])::xJ 22 4 19 21::Qmc) []
def Q8w:SC:=.seq (.dreg 11 [0,1,2,3,4,5,6,7,8,9,10] ( mJ 5 0::kJ 6 5::fJ 7 1 6::fJ 8 2 7::lJ 9 8::mJ 10 0::kJ 11 10::fJ 12 4 11::lJ 13 12::iJ 14 5 9 13::mJ 4 14::[]) [3,4]) Q8v
def Qaeg:SC:=sR [vJ 3 1] [0,3] Q8w
theorem Qadm:mFn prog Qa7 2 25 Qaeg Qtn=true:=by kernel_rfl
def Q8x:SC:=sR [mJ 12 0,kJ 13 12,fJ 14 1 13,fJ 15 1 14,lJ 16 15,cJ 17 .sub 16 1,mJ 2 17] [2] .ret
def Q8y:SC:=sR [mJ 3 0,kJ 4 3,fJ 5 1 4,fJ 6 1 5,lJ 7 6,cJ 8 .add 7 1,kJ 9 3,fJ 10 1 9,fJ 11 1 10,sJ 1 11 8] [0] Q8x
def Qaeh:SC:=sR [zJ 2 0] [0] Q8y
theorem Qadn:mFn prog Qg7 1 18 Qaeh Qfh=true:=by kernel_rfl
def Qir:List Item:=[sJ 3 7 13]
def Qis:List Item:=[mJ 5 19]
def Qit:List Item:=fI 18 (.bsl 3 [.t 17])::xJ 19 3 14 18::Qis
def Q0o:SC:=.reg (mJ 14 5::mJ 15 1::tJ 16 3 7::eI 17 (.callv (.t 15) [.t 16])::Qit) [1,5,8,9,10]
def Q0p:SC:=.reg [cJ 20 .add 10 1,mJ 10 20] [1,5,8,9,10]
def Q0q:SC:=.seq (.block 1 (sR (iJ 12 3 8 10::tJ 13 3 12::eI 7 (.alloc [.str [],.sl true 1 [],.sl true 5 []])::Qir) [1,5,7,8,9,10] Q0o)) Q0p
def Qxp:SC:=sR [bJ 11 .lss 10 9] [1,5,8,9,10,11] (cX 11 0 Q0q)
def Q0r:SC:=sR [mJ 21 5,mJ 4 21] [4] .ret
def Q0s:SC:=.seq (sR [mJ 8 0,nJ 9 8,zJ 10 0] [1,5,8,9,10] (bL 0 Qxp)) Q0r
def Q0t:SC:=sR [fI 5 (.mv (.k (.c (.sl true 3 []))))] [0,1,5] Q0s
def Q8z:SC:=sR [fI 4 (.mv (.k (.c (.sl true 3 []))))] [0,1] Q0t
theorem Q73:mFn prog Qez 2 22 Q8z Qpr=true:=by kernel_rfl
def Qmd:List Item:=[sJ 3 7 13]
def Qme:List Item:=[mJ 5 19]
def Qmf:List Item:=fI 18 (.bsl 3 [.t 17])::xJ 19 3 14 18::Qme
def Q80:SC:=.reg (mJ 14 5::mJ 15 1::tJ 16 3 7::eI 17 (.callv (.t 15) [.t 16])::Qmf) [1,5,8,9,10]
def Q81:SC:=.reg [cJ 20 .add 10 1,mJ 10 20] [1,5,8,9,10]
def Q82:SC:=.seq (.block 1 (sR (iJ 12 3 8 10::tJ 13 3 12::eI 7 (.alloc [.str [],.sl true 1 [],.sl true 5 []])::Qmd) [1,5,7,8,9,10] Q80)) Q81
def Q5k:SC:=sR [bJ 11 .lss 10 9] [1,5,8,9,10,11] (cX 11 0 Q82)
def Q83:SC:=sR [mJ 21 5,mJ 4 21] [4] .ret
def Q84:SC:=.seq (sR [mJ 8 0,nJ 9 8,zJ 10 0] [1,5,8,9,10] (bL 0 Q5k)) Q83
def Q85:SC:=sR [fI 5 (.mv (.k (.c (.sl true 3 []))))] [0,1,5] Q84
def Qaei:SC:=sR [fI 4 (.mv (.k (.c (.sl true 3 []))))] [0,1] Q85
theorem Qado:mFn prog Qg8 2 22 Qaei Qpr=true:=by kernel_rfl
def Qd3:List Item:=[mJ 5 19]
def Qd4:List Item:=fI 18 (.bsl 1 [.t 17])::xJ 19 1 14 18::Qd3
def Qon:SC:=.reg (mJ 14 5::mJ 15 1::mJ 16 7::eI 17 (.callv (.t 15) [.t 16])::Qd4) [1,5,8,9,10]
def Qoo:SC:=.reg [cJ 20 .add 10 1,mJ 10 20] [1,5,8,9,10]
def Qop:SC:=.seq (.block 1 (sR [iJ 12 1 8 10,lJ 13 12,mJ 7 13] [1,5,7,8,9,10] Qon)) Qoo
def Qni:SC:=sR [bJ 11 .lss 10 9] [1,5,8,9,10,11] (cX 11 0 Qop)
def Qoq:SC:=sR [mJ 21 5,mJ 4 21] [4] .ret
def Qor:SC:=.seq (sR [mJ 8 0,nJ 9 8,zJ 10 0] [1,5,8,9,10] (bL 0 Qni)) Qoq
def Qos:SC:=sR [fI 5 (.mv (.k (.c (.sl true 1 []))))] [0,1,5] Qor
def Qqp:SC:=sR [fI 4 (.mv (.k (.c (.sl true 1 []))))] [0,1] Qos
theorem Qqe:mFn prog Qch 2 22 Qqp Qpr=true:=by kernel_rfl
def Qmg:List Item:=[mJ 6 29]
def Q86:SC:=sR (mJ 23 0::mJ 24 0::kJ 25 24::fJ 26 0 25::lJ 27 26::cJ 28 .sub 27 1::aJ 29 Qck [.t 23,.t 28]::Qmg) [6] .ret
def Q87:SC:=sR [mJ 16 0,kJ 17 16,fJ 18 0 17,lJ 19 18,cJ 20 .add 19 1,kJ 21 16,fJ 22 0 21,sJ 1 22 20] [0] Q86
def Q88:SC:=.seq (.dreg 10 [0,1,2,3,4,5,6,7,8,9] ( mJ 7 1::kJ 8 7::fJ 9 0 8::lJ 10 9::mJ 11 2::mJ 12 0::kJ 13 12::fJ 14 0 13::lJ 15 14::.e none none (.upd 1 (.t 10) (.t 11) (.t 15))::[]) [0]) Q87
def Qael:SC:=sR [fI 6 (.mv (.k (.c (.str []))))] [0,1,2] Q88
theorem Qadp:mFn prog Qd0 3 30 Qael Qbo3=true:=by kernel_rfl
def Qkr:List Item:=[mJ 6 9]
def Q5l:SC:=sR (mJ 7 1::fI 8 (.mkf Qdt [.t 3,.t 5])::aJ 9 Qds [.t 7,.t 8]::Qkr) [6] .ret
def Qab8:SC:=sR [vJ 3 0,vJ 5 2,fI 6 (.mv (.k (.c (.sl true 5 []))))] [1,3,5] Q5l
theorem Qabd:mFn prog Qcc 3 10 Qab8 Qbo3=true:=by kernel_rfl
def Qgp:List Item:=[eI 4 (.alloc [.int .i64 0,.str [],.sl true 4 [],.sl true 5 [],.sl true 5 []])]
def Qgq:List Item:=[fJ 11 2 3,sJ 1 11 10]
def Qgr:List Item:=[fJ 21 1 3,sJ 1 21 20]
def Qgs:List Item:=[mJ 24 28,fI 29 (.ext (.t 24) 0),fI 30 (.ext (.t 24) 1),mJ 5 29,mJ 6 30]
def Qgt:List Item:=[fJ 34 1 3,sJ 1 34 33]
def Quf:SC:=.reg (lJ 31 1::mJ 32 5::aJ 33 Qck [.t 31,.t 32]::Qgt) [1,2,3,4]
def Qug:SC:=cT 22 (sR (lJ 25 2::fJ 26 1 3::lJ 27 26::aJ 28 Qbn [.t 25,.t 27]::Qgs) [1,2,3,4,5] Quf) .skip
def Quh:SC:=cT 14 (.reg (lJ 16 1::lJ 17 2::fJ 18 1 3::lJ 19 18::aJ 20 Qd0 [.t 16,.t 17,.t 19]::Qgr) [1,2,3,4]) (sR [cJ 23 .eql 13 2,mJ 22 23] [1,2,3,4,22] Qug)
def Qui:SC:=.block 0 (sR [cJ 15 .eql 13 1,mJ 14 15] [1,2,3,4,13,14] Quh)
def Qgu:List Item:=[fJ 41 3 3,sJ 1 41 40]
def Qfl:List Item:=hJ 35 1::hJ 37 36::aJ 40 Qcc [.t 35,.t 37,.t 39]::Qgu
def Qfm:List Item:=[fJ 48 4 3,sJ 1 48 47]
def Qfn:List Item:=hJ 42 1::hJ 44 43::aJ 47 Qcc [.t 42,.t 44,.t 46]::Qfm
def Qr2:SC:=sR [tJ 49 5 3,sJ 5 4 49] [4] .ret
def Qr3:SC:=.seq (.dreg 8 [0,1,2,3,4,0,2,5,6,7] ( lJ 42 1::fJ 43 4 3::lJ 44 43::lJ 45 2::aJ 46 Qam [.t 45]::Qfn) [3,4]) Qr2
def Qgo:SC:=.seq (.dreg 8 [0,1,2,3,4,0,2,5,6,7] ( lJ 35 1::fJ 36 3 3::lJ 37 36::lJ 38 2::aJ 39 Qam [.t 38]::Qfl) [1,2,3,4]) Qr3
def Qr4:SC:=.seq (sR [fJ 12 0 3,lJ 13 12] [1,2,3,4,13] Qui) Qgo
def Qr5:SC:=sR (fJ 7 2 3::lJ 8 7::fI 9 (.mkf Qfa [.t 1,.t 2])::aJ 10 Qcf [.t 8,.t 9]::Qgq) [1,2,3,4] Qr4
def Q0y:SC:=sR (eI 3 (.boxm (.t 0))::Qgp) [1,2,3,4] Qr5
theorem Qyo:mFn prog Qdt 3 50 Q0y Qama=true:=by kernel_rfl
def Qeq:List Item:=[sJ 4 4 8]
def Qo9:SC:=sR (lJ 5 1::tJ 6 4 3::lJ 7 2::aJ 8 Qd1 [.t 5,.t 6,.t 7]::Qeq) [4] .ret
def Qr6:SC:=sR [vJ 3 0,eI 4 (.alloc [.int .i64 0,.int .i64 0,.str [],.sl true 4 []])] [1,2,3,4] Qo9
theorem Qq1:mFn prog Qfa 3 9 Qr6 Qps=true:=by kernel_rfl
def Qmh:List Item:=[vJ 5 2,eI 6 (.alloc [.int .i64 0,.int .i64 0,.str [],.sl true 4 []])]
def Qmi:List Item:=[mJ 12 16,fI 17 (.ext (.t 12) 0),fI 18 (.ext (.t 12) 1),mJ 7 17,mJ 8 18]
def Qmj:List Item:=[fJ 22 2 4,sJ 1 22 21]
def Q89:SC:=.reg (lJ 19 3::mJ 20 7::aJ 21 Qck [.t 19,.t 20]::Qmj) [3,4,5,6]
def Q9a:SC:=cT 11 (sR (lJ 13 5::fJ 14 2 4::lJ 15 14::aJ 16 Qbn [.t 13,.t 15]::Qmi) [3,4,5,6,7] Q89) .skip
def Qmk:List Item:=[fJ 27 3 4,sJ 1 27 26]
def Q9b:SC:=sR [tJ 28 4 4,sJ 4 6 28] [6] .ret
def Qot:SC:=sR (fJ 23 3 4::lJ 24 23::fI 25 (.mkf Qjy [.t 3,.t 5])::aJ 26 Qcf [.t 24,.t 25]::Qmk) [4,6] Q9b
def Q9c:SC:=.seq (sR [fJ 9 0 4,lJ 10 9,cJ 11 .eql 10 2] [3,4,5,6,11] Q9a) Qot
def Qaem:SC:=sR (vJ 3 0::eI 4 (.boxm (.t 1))::Qmh) [3,4,5,6] Q9c
theorem Qadq:mFn prog Qd1 3 29 Qaem Qth=true:=by kernel_rfl
def Qh2:List Item:=[sJ 4 4 8]
def Qxq:SC:=sR (lJ 5 1::tJ 6 4 3::lJ 7 2::aJ 8 Qd1 [.t 5,.t 6,.t 7]::Qh2) [4] .ret
def Q5m:SC:=sR [vJ 3 0,eI 4 (.alloc [.int .i64 0,.int .i64 0,.str [],.sl true 4 []])] [1,2,3,4] Qxq
theorem Q4f:mFn prog Qjy 3 9 Q5m Qps=true:=by kernel_rfl
def Qvd:List Item:=[sJ 1 3 6]
def Qanl:SC:=sR [lJ 11 3,mJ 2 11] [2] .ret
def Qanm:SC:=sR [fJ 7 2 1,lJ 8 7,fI 9 (.mkf Qi2 [.t 3]),aJ 10 Qi1 [.t 8,kI 1,.t 9]] [3] Qanl
def Qann:SC:=sR (fJ 4 1 1::lJ 5 4::nJ 6 5::eI 3 (.alloc [.int .i64 0])::Qvd) [1,3] Qanm
def Qazp:SC:=sR [vJ 1 0,zJ 2 0] [1] Qann
theorem Qayf:mFn prog Qjl 1 12 Qazp Qfh=true:=by kernel_rfl
def Qacd:SC:=cT 7 (.reg [lJ 8 2,cJ 9 .add 8 1,sJ 1 2 9] []) .skip
def Qace:SC:=sR [fJ 5 0 3,lJ 6 5,cJ 7 .eql 6 1] [2,7] Qacd
def Qai2:SC:=sR [vJ 3 0] [2,3] Qace
theorem Qahv:mFn prog Qi2 3 10 Qai2 Qtn=true:=by kernel_rfl
def Q9w:SC:=cT 14 (sR [fB 2 true] [2] .ret) .skip
def Qmn:List Item:=[sJ 1 3 16]
def Qmo:List Item:=eI 3 (.alloc [.sl true 3 []])::Qmn
def Qmp:List Item:=[mJ 5 21]
def Qmq:List Item:=sJ 1 4 20::Qmp
def Qmr:List Item:=mJ 17 19::fI 20 (.ext (.t 17) 0)::fI 21 (.ext (.t 17) 1)::eI 4 (.alloc [.sl true 3 []])::Qmq
def Qms:List Item:=[mJ 7 26]
def Qmt:List Item:=sJ 1 6 25::Qms
def Qmu:List Item:=mJ 22 24::fI 25 (.ext (.t 22) 0)::fI 26 (.ext (.t 22) 1)::eI 6 (.alloc [.sl true 3 []])::Qmt
def Qmv:List Item:=[mJ 9 31]
def Qkt:List Item:=sJ 1 8 30::Qmv
def Qku:List Item:=mJ 27 29::fI 30 (.ext (.t 27) 0)::fI 31 (.ext (.t 27) 1)::eI 8 (.alloc [.sl true 3 []])::Qkt
def Qcs:List Item:=[gF 39 35 (.not (.t 38)),pT 40 35 39,mJ 41 40,gFm 42 41 5,gF 43 41 (.not (.t 42)),pT 44 41 43,mJ 45 44,gFm 46 45 9,gF 47 45 (.not (.t 46)),pT 48 45 47]
def Qkv:List Item:=[pF 56 52 55,mJ 2 56]
def Qml:SC:=cT 48 (sR (mJ 49 5::mJ 50 7::fI 51 (.bin 1 .eql (.t 49) (.t 50))::mJ 52 51::gT 53 52 (.ld 1 true (.t 4))::gT 54 52 (.ld 1 true (.t 6))::.e (some 55) (some (52,true)) (.call Qhf [.t 53,.t 54])::Qkv) [2] .ret) .skip
def Qkw:List Item:=[mJ 11 61]
def Qkx:List Item:=sJ 1 10 60::Qkw
def Qky:List Item:=mJ 57 59::fI 60 (.ext (.t 57) 0)::fI 61 (.ext (.t 57) 1)::eI 10 (.alloc [.sl true 3 []])::Qkx
def Qkz:List Item:=[pF 67 63 66,mJ 2 67]
def Q5n:SC:=sR (mJ 62 11::mJ 63 62::gT 64 63 (.ld 1 true (.t 10))::gT 65 63 (.ld 1 true (.t 4))::.e (some 66) (some (63,true)) (.call Qnx [.t 64,.t 65])::Qkz) [2] .ret
def Qmm:SC:=sR (tJ 58 1 8::aJ 59 Qdz [.t 58]::Qky) [4,10,11] Q5n
def Q5o:SC:=.seq (sR (mJ 32 5::mJ 33 7::fI 34 (.bin 1 .neq (.t 32) (.t 33))::mJ 35 34::gF 36 35 (.ld 1 true (.t 4))::gF 37 35 (.ld 1 true (.t 6))::.e (some 38) (some (35,false)) (.call Qhf [.t 36,.t 37])::Qcs) [4,5,6,7,8,48] Qml) Qmm
def Q5p:SC:=sR (tJ 28 1 3::aJ 29 Qfr [.t 28]::Qku) [4,5,6,7,8,9] Q5o
def Q5q:SC:=sR (tJ 23 1 3::aJ 24 Qhe [.t 23]::Qmu) [3,4,5,6,7] Q5p
def Q5r:SC:=sR (tJ 18 1 3::aJ 19 Qdz [.t 18]::Qmr) [3,4,5] Q5q
def Q5s:SC:=sR (mJ 15 0::aJ 16 Qdw [.t 15]::Qmo) [3] Q5r
def Q5t:SC:=.seq (sR [mJ 12 0,nJ 13 12,cJ 14 .gtr 13 1048576] [0,14] Q9w) Q5s
def Qafh:SC:=sR [fB 2 false] [0] Q5t
theorem Qadr:mFn prog Qpg 1 68 Qafh Qfh=true:=by kernel_rfl
def Qh3:List Item:=[cJ 8 .geq 7 0,mJ 4 8]
def Qxr:SC:=sR (mJ 5 0::mJ 6 1::aJ 7 Qcm [.t 5,.t 6]::Qh3) [4] .ret
def Q5u:SC:=sR [fB 4 false] [0,1] Qxr
theorem Q4g:mFn prog Qed 2 9 Q5u Qpr=true:=by kernel_rfl
def Qgw:List Item:=[sJ 1 2 5]
def Qgx:List Item:=aJ 5 Qala [.t 4]::Qgw
def Quw:SC:=sR (mJ 3 0::aJ 4 Qada [.t 3]::Qgx) [2] .ret
def Q3a:SC:=sR [eI 2 (.alloc [.sl true 3 []])] [0,2] Quw
theorem Qyr:mFn prog Qdw 1 6 Q3a Qbbq=true:=by kernel_rfl
def Qm1:List Item:=[fB 3 false]
def Qm2:List Item:=[oJ 7 6]
def Qm3:List Item:=[fB 3 false]
def Qaah:SC:=cT 7 (sR (fI 8 (.bld [.sl true 3 []] [])::sJ 1 2 8::Qm3) [2,3] .ret) .skip
def Qm4:List Item:=[sJ 1 4 10]
def Qm5:List Item:=eI 4 (.alloc [.sl true 3 []])::Qm4
def Qm6:List Item:=[oJ 13 12]
def Qm7:List Item:=[fB 3 false]
def Qaai:SC:=cT 13 (sR (fI 14 (.bld [.sl true 3 []] [])::sJ 1 2 14::Qm7) [2,3] .ret) .skip
def Qm8:List Item:=[fB 3 true]
def Q6l:SC:=sR (tJ 15 1 4::sJ 1 2 15::Qm8) [2,3] .ret
def Q6m:SC:=.seq (sR (tJ 11 1 4::aJ 12 Qn6 [.t 11]::Qm6) [2,4,13] Qaai) Q6l
def Q6n:SC:=sR (tJ 9 1 1::aJ 10 Qalc [.t 9]::Qm5) [2,4] Q6m
def Q6o:SC:=.seq (sR (tJ 5 1 1::aJ 6 Qak9 [.t 5]::Qm2) [1,2,7] Qaah) Q6n
def Qafn:SC:=sR (vJ 1 0::eI 2 (.alloc [.sl true 3 []])::Qm1) [1,2] Q6o
theorem Qadv:mFn prog Qhe 1 16 Qafn Qet=true:=by kernel_rfl
def Qkq:List Item:=[kJ 20 12,fJ 21 1 20,fJ 22 2 21,sJ 1 22 19]
def Q5g:SC:=sR [mJ 23 5,mJ 4 23] [4] .ret
def Q5h:SC:=sR (mJ 12 0::mJ 13 0::kJ 14 13::fJ 15 1 14::fJ 16 2 15::lJ 17 16::mJ 18 1::eI 19 (.apz 5 [.sl true 2 [],.sl true 4 [],.int .i64 0,.int .i64 0,.sl true 1 []] (.t 17) (.t 18))::Qkq) [5] Q5g
def Q5i:SC:=sR [mJ 6 0,kJ 7 6,fJ 8 1 7,fJ 9 2 8,lJ 10 9,nJ 11 10,mJ 5 11] [0,1,5] Q5h
def Qab6:SC:=sR [zJ 4 0] [0,1] Q5i
theorem Qabc:mFn prog Qbc 2 24 Qab6 Qpr=true:=by kernel_rfl
def Qhz:List Item:=[sJ 4 7 13]
def Qh0:List Item:=[mJ 5 19]
def Qh1:List Item:=fI 18 (.bsl 1 [.t 17])::xJ 19 1 14 18::Qh0
def Qxj:SC:=.reg (mJ 14 5::mJ 15 1::tJ 16 4 7::eI 17 (.callv (.t 15) [.t 16])::Qh1) [1,5,8,9,10]
def Qxk:SC:=.reg [cJ 20 .add 10 1,mJ 10 20] [1,5,8,9,10]
def Qxl:SC:=.seq (.block 1 (sR (iJ 12 4 8 10::tJ 13 4 12::eI 7 (.alloc [.int .i64 0,.int .i64 0,.str [],.sl true 4 []])::Qhz) [1,5,7,8,9,10] Qxj)) Qxk
def Qt8:SC:=sR [bJ 11 .lss 10 9] [1,5,8,9,10,11] (cX 11 0 Qxl)
def Qxm:SC:=.seq (.seq .gh (.reg [mJ 21 5,mJ 4 21] [4])) .ret
def Qxn:SC:=.seq (sR [mJ 8 0,nJ 9 8,zJ 10 0] [1,5,8,9,10] (bL 0 Qt8)) Qxm
def Qxo:SC:=sR [fI 5 (.mv (.k (.c (.sl true 1 []))))] [0,1,5] Qxn
def Q5j:SC:=sR [fI 4 (.mv (.k (.c (.sl true 1 []))))] [0,1] Qxo
theorem Q4e:mFn prog Qcj 2 22 Q5j Qpr=true:=by kernel_rfl
structure IS where
 fns:List Fn
 pfl:Bool
 params:Int
 regs:Int
 bc:C
 lb:List (Nat×Obj)
 blocks:List Blk
 at_:Nat
def IS.o (s:IS):Obj:=.st [.sl s.pfl 3 (Q3 s.fns),.int .i64 s.params,.int .i64 s.regs,s.bc,.int .i64 s.at_]
def IS.L (s:IS)(w:Nat):List (Nat×Obj):=[(w,s.o)]++(s.lb++s.blocks.flatMap Blk.lg)
structure IInv (F H:Heap)(w:Nat)(s:IS):Prop where
 kn:Kn F H [] (s.L w)
 gb:Gr s.lb 5 (s.blocks.map Blk.row) s.bc
 gi:∀b∈s.blocks,Gr b.lg 4 b.irows b.ic
 ri:∀b∈s.blocks,∀r∈b.irows,InsRow r
structure IS.ok (s:IS)(N:Nat):Prop where
 r0:0≤s.regs
 r1:s.regs≤N
 b1:s.blocks.length≤N
 i1:∀b∈s.blocks,b.irows.length≤N
theorem IS.ok.mono {s:IS}{N M:Nat}(h:s.ok N)(hm:N≤M):s.ok M:=
 ⟨h.r0,by have:=h.r1;omega,by have:=h.b1;omega,fun b hb=>by have:=h.i1 b hb;omega⟩
def IS.d (s:IS):Lw:=⟨s.regs,s.blocks.map Blk.d,s.at_⟩
theorem IS.dlen (s:IS):s.blocks.length=s.d.bs.length:=by simp[IS.d]
theorem IS.dregs (s:IS):s.regs=s.d.regs:=rfl
variable {F H H':Heap}{w:Nat}{s:IS}{K:V→Heap→Prop}
theorem IInv.hw (h:IInv F H w s):H w=s.o:=h.kn.l 0 rfl
theorem IInv.bvec (h:IInv F H w s)(hb:0<s.blocks.length):∃y,s.bc=.vsl y 5 0 s.blocks.length∧s.lb=[(y,.vec 5 (s.blocks.map Blk.row))]∧H y=.vec 5 (s.blocks.map Blk.row):=by
 rcases h.gb with ⟨_,h2,_⟩|⟨y,h1,h2⟩
 ·simp at h2;rw[h2]at hb;simp at hb
 ·refine⟨y,by rw[h1];simp,h2,?_⟩;exact (h.kn.get (y,.vec 5 (s.blocks.map Blk.row)) (by simp[IS.L,h2])).1
theorem IInv.setw {s':IS}(h:IInv F H w s)(h1:H'=H.set w s'.o)(a1:s'.lb=s.lb)(a3:s'.blocks=s.blocks)(a4:s'.bc=s.bc):IInv F H' w s':=by
 refine⟨?_,by rw[a1,a3,a4];exact h.gb,by rw[a3];exact h.gi,by rw[a3];exact h.ri⟩;have:=h.kn.stL 0 (x:=w) (o:=s.o) rfl h1 (by simp[IS.o]);simp only[IS.L,a1,a3];exact this
theorem IInv.re {H2:Heap}(h:IInv F H w s)(kn:Kn F H2 [] (s.L w)):IInv F H2 w s:=⟨kn,h.gb,h.gi,h.ri⟩
def blkZ:Blk:=⟨.sl true 4 [],[],[],0,0,true,[]⟩
theorem Qbuc (n:Nat):(List.replicate n blkZ).flatMap Blk.lg=[]:=by
 induction n with
 |zero=>rfl
 |succ n ih=>rw[List.replicate_succ,List.flatMap_cons,ih];rfl
theorem IInv.addBlks {n:Nat}(h:IInv F H w s)(hl:s.blocks.length+n≤LIM)
  (hK:∀(y:Nat) (H1:Heap),H1 w=s.o→(∀H2,H2=H1.set w (IS.o { s with bc:=.vsl y 5 0 (s.blocks.length+n) })→
   IInv F H2 w { s with bc:=.vsl y 5 0 (s.blocks.length+n),lb:=[(y,.vec 5 ((s.blocks++List.replicate n blkZ).map Blk.row))],blocks:=s.blocks++List.replicate n blkZ })→K (.c (.vsl y 5 0 (s.blocks.length+n))) H1) :
  appQ H 5 s.bc (.sl false 5 (List.replicate n blkZ.row)) K:=by
 have kn:=h.kn;have kn:Kn F H [] (([(w,s.o)]++s.blocks.flatMap Blk.lg)++s.lb):=kn.perm (by
  simp only[IS.L,Ji];exact .append_left _ Jg)
 refine kn.grow h.gb (.mk' _ _ _ _) (by
  intro r hr;obtain⟨_,rfl⟩:=List.mem_replicate.1 hr;rfl) (by simpa using hl) fun y H1 kn=>?_
 have e1:(s.blocks.map Blk.row).length+(List.replicate n blkZ.row).length=s.blocks.length+n:=by simp
 rw[e1];refine hK y H1 (kn.l 0 rfl) fun H2 h2=>⟨?_,?_,?_,?_⟩
 ·have:=kn.stL 0 (x:=w) (o:=s.o) rfl h2 (by simp[IS.o]);simp only[IS.L,List.flatMap_append,Qbuc,List.append_nil,J1,List.map_replicate];simp only[Jp,Jr,Jag]at this⊢;refine this.perm (.cons _ ?_);exact Jg
 ·exact .mk _ _ _ (by simp)
 ·intro b' hb';rcases Jj.1 hb' with hb'|hb'
  ·exact h.gi b' hb'
  ·obtain⟨_,rfl⟩:=List.mem_replicate.1 hb';exact .nil 4
 ·intro b' hb';rcases Jj.1 hb' with hb'|hb'
  ·exact h.ri b' hb'
  ·obtain⟨_,rfl⟩:=List.mem_replicate.1 hb';simp[blkZ]
theorem IInv.setBlk {b':Blk}{y i:Nat}(h:IInv F H w s)(hi:i<s.blocks.length)(hbc:s.bc=.vsl y 5 0 s.blocks.length)(hlb:s.lb=[(y,.vec 5 (s.blocks.map Blk.row))])
  (h1:H'=H.set y (.vec 5 ((s.blocks.set i b').map Blk.row))) (a1:b'.lg=s.blocks[i].lg) (a2:b'.ic=s.blocks[i].ic) (a3:b'.irows=s.blocks[i].irows) :
  IInv F H' w { s with lb:=[(y,.vec 5 ((s.blocks.set i b').map Blk.row))],blocks:=s.blocks.set i b' }:=by
 have hm:=Jb hi;refine⟨?_,?_,fun b hb=>?_,fun b hb=>?_⟩
 ·have kn:=h.kn;simp only[IS.L,hlb]at kn;have kn:=kn.stL 1 (x:=y) rfl h1;refine kn.perm ?_;simp only[IS.L,Jp,Jr,Jag,List.set_cons_succ];refine .cons _ (.cons _ ?_);refine (Qak4 Blk.lg s.blocks i hi).trans ?_;rw[←a1];exact (Qakb Blk.lg s.blocks i b' hi).symm
 ·simp only[hbc];exact .mk _ _ _ (by simp)
 ·rcases Qb0 hb with rfl|hb
  ·rw[a1,a2,a3];exact h.gi _ hm
  ·exact h.gi b hb
 ·rcases Qb0 hb with rfl|hb
  ·rw[a3];exact h.ri _ hm
  ·exact h.ri b hb
theorem IInv.addInsX {K:V→Heap→Prop}{y i:Nat}{fl:Bool}{r:List C}(h:IInv F H w s)(hi:i<s.blocks.length)(hbc:s.bc=.vsl y 5 0 s.blocks.length)(hlb:s.lb=[(y,.vec 5 (s.blocks.map Blk.row))])
  (hr:InsRow r) (hl:s.blocks[i].irows.length+1≤LIM)
  (hK:∀(z:Nat) (H1:Heap),H1 w=s.o→H1 y=.vec 5 (s.blocks.map Blk.row)→
   (∀H2,H2=H1.set y (.vec 5 ((s.blocks.map Blk.row).set i (Blk.row { s.blocks[i]with ic:=.vsl z 4 0 (s.blocks[i].irows.length+1) })))→
    ∃b':Blk,b'.irows.length=s.blocks[i].irows.length+1∧b'.d={ s.blocks[i].d with ins:=s.blocks[i].d.ins++[rowI r] }∧IInv F H2 w { s with lb:=[(y,.vec 5 ((s.blocks.set i b').map Blk.row))],blocks:=s.blocks.set i b' })→K (.c (.vsl z 4 0 (s.blocks[i].irows.length+1))) H1) :
  appQ H 4 s.blocks[i].ic (.sl fl 4 [r]) K:=by
 have hm:=Jb hi;have kn:=h.kn;simp only[IS.L]at kn;have kn:Kn F H [] (([(w,s.o)]++(s.lb++((s.blocks.eraseIdx i).flatMap Blk.lg)))++s.blocks[i].lg):=kn.perm (by
  have h1:(s.blocks.flatMap Blk.lg).Perm ((s.blocks.eraseIdx i).flatMap Blk.lg++s.blocks[i].lg):=(Qak4 Blk.lg s.blocks i hi).trans Jg;refine ((h1.append_left _).append_left _).trans ?_;simp only[Ji];exact .refl _)
 refine kn.grow (h.gi _ hm) (.mk' _ _ _ _) (by intro r' hr';simp only[Ja]at hr';subst hr';exact hr.noOw) (by simpa using hl) fun z H1 kn=>?_;have e1:s.blocks[i].irows.length+[r].length=s.blocks[i].irows.length+1:=by simp
 rw[e1];simp only[hlb]at kn;refine hK z H1 (kn.l 0 rfl) (kn.l 1 rfl) fun H2 h2=>?_;refine⟨{ s.blocks[i]with ic:=.vsl z 4 0 (s.blocks[i].irows.length+1),irows:=s.blocks[i].irows++[r],lg:=[(z,.vec 4 (s.blocks[i].irows++[r]))] },by simp,by simp[Blk.d],?_⟩;have hrow:Blk.row { s.blocks[i]with ic:=.vsl z 4 0 (s.blocks[i].irows.length+1) }=Blk.row { s.blocks[i]with ic:=.vsl z 4 0 (s.blocks[i].irows.length+1),irows:=s.blocks[i].irows++[r],lg:=[(z,.vec 4 (s.blocks[i].irows++[r]))] }:=rfl;rw[hrow,Qtf]at h2;refine⟨?_,?_,fun b hb=>?_,fun b hb=>?_⟩
 ·have kn:=kn.stL 1 (x:=y) rfl h2;refine kn.perm ?_;simp only[IS.L];have h1:=(Qakb Blk.lg s.blocks i { s.blocks[i]with ic:=.vsl z 4 0 (s.blocks[i].irows.length+1),irows:=s.blocks[i].irows++[r],lg:=[(z,.vec 4 (s.blocks[i].irows++[r]))] } hi).symm;have h3:=(Jg.trans h1).append_left ([(w,s.o)]++([(y,Obj.vec 5 ((s.blocks.set i { s.blocks[i]with ic:=.vsl z 4 0 (s.blocks[i].irows.length+1),irows:=s.blocks[i].irows++[r],lg:=[(z,.vec 4 (s.blocks[i].irows++[r]))] }).map Blk.row))]));refine List.Perm.trans ?_ (h3.trans ?_)
  ·simp only[List.set,Jp,Jr,Ji];exact .refl _
  ·simp only[Jp,Jr];exact .refl _
 ·simp only[hbc];exact .mk _ _ _ (by simp)
 ·rcases Qb0 hb with rfl|hb
  ·exact .mk _ _ _ (by simp)
  ·exact h.gi b hb
 ·rcases Qb0 hb with rfl|hb
  ·intro r' hr';rcases Jj.1 hr' with hr'|hr'
   ·exact h.ri _ hm r' hr'
   ·simp at hr';subst hr';exact hr
  ·exact h.ri b hb
structure IStep (s s':IS)(d:Nat):Prop where
 bl:s.blocks.length≤s'.blocks.length
 ok:∀N,s.ok N→s'.ok (N+d)
 at_:s.at_<s.blocks.length→s'.at_<s'.blocks.length
 fn:s'.fns=s.fns∧s'.pfl=s.pfl∧s'.params=s.params
theorem IStep.trans {s s' s'':IS}{d e:Nat}(h:IStep s s' d)(k:IStep s' s'' e):IStep s s'' (d+e):=
 ⟨Jv h.bl k.bl,fun N hN=>by rw[←Nat.add_assoc];exact k.ok _ (h.ok N hN),fun ha=>k.at_ (h.at_ ha),k.fn.1.trans h.fn.1,k.fn.2.1.trans h.fn.2.1,k.fn.2.2.trans h.fn.2.2⟩
theorem IStep.refl (s:IS):IStep s s 0:=⟨Jf _,fun N h=>h,fun h=>h,rfl,rfl,rfl⟩
theorem IStep.mono {s s':IS}{d e:Nat}(h:IStep s s' d)(hd:d≤e):IStep s s' e:=⟨h.bl,fun N hN=>(h.ok N hN).mono (by omega),h.at_,h.fn⟩
theorem Qbsn {N:Nat}(h:IInv F H w s)(hok:s.ok N)(hN:N+1≤2^38)(hK:∀(s':IS) (H':Heap),IInv F H' w s'→IStep s s' 1→s'.d=s.d.fresh→K (.c (.int .i64 s.regs)) H') :
  Qj prog Qg7 [.c (.ptr w 0)] H K:=by
 have hw:=h.hw;have h0:=hok.r0;have h1:=hok.r1;refine Qb Qad Qadn ?_;refine Qa ?_;simp only[go_sem];refine Qa ?_;simp only[go_sem,hw,IS.o];refine⟨Qm (by omega) (by omega),fun H1 h1'=>?_⟩;have h':IInv F H1 w { s with regs:=s.regs+1 }:=h.setw h1' rfl rfl rfl;have hw1:=h'.hw;refine Qa ?_;simp only[go_sem,hw1,IS.o];refine⟨Qm (by omega) (by omega),?_⟩;refine Qi ?_;simp only[go_sem,Qq,Q7,Qfh,Ja,forall_eq,RS.op];refine hK _ H1 h' ⟨Jf _,fun M hM=>⟨?_,?_,?_,?_⟩,fun h=>h,rfl,rfl,rfl⟩ rfl
 ·have:=hM.r0;show 0≤s.regs+1;omega
 ·have:=hM.r1;show s.regs+1≤_;omega
 ·have:=hM.b1;show s.blocks.length≤_;omega
 ·intro b hb;have:=hM.i1 b hb;omega
theorem IInv.bget (h:IInv F H w s):okSl H s.bc=True∧lenC s.bc=s.blocks.length:=by
 rcases h.gb with ⟨h1,h2,_⟩|⟨y,h1,h2⟩
 ·rw[h1];refine⟨rfl,?_⟩;have:=congrArg List.length h2;simp only[Jo,Jq]at this;rw[this];rfl
 ·have hy:H y=.vec 5 (s.blocks.map Blk.row):=(h.kn.get (y,.vec 5 (s.blocks.map Blk.row)) (by simp[IS.L,h2])).1;rw[h1];refine⟨eq_true ?_,by simp[lenC]⟩;simp only[Go.AE.okSl,hy];exact⟨trivial,by omega⟩
theorem Qale {n N:Nat}(h:IInv F H w s)(hok:s.ok N)(hN:N+n≤2^38)(hK:∀(s':IS) (H':Heap),IInv F H' w s'→IStep s s' n→s.blocks.length+n≤s'.blocks.length→s'.d=s.d.add n→K (.c (.int .i64 s.blocks.length)) H') :
  Qj prog Qbc [.c (.ptr w 0),.c (.int .i64 n)] H K:=by
 have hw:=h.hw;have hb1:=hok.b1;have hbow:=h.gb.isOw;obtain⟨hg1,hg2⟩:=h.bget;refine Qb Qad Qabc ?_;refine Qa ?_;simp only[go_sem];refine Qa ?_;simp only[go_sem,hw,IS.o,hbow,hg1,hg2];intro _;refine Qa ?_;simp only[go_sem,hw,IS.o,hbow];refine⟨by have:=Qh9;omega,?_⟩;refine h.addBlks (n:=n) (by simp only[LIM];omega) fun y H1 hw1 cont=>?_;simp only[go_sem,Qkq,hw1,IS.o];intro H2 h2;have h':=cont H2 h2;refine Qa ?_;simp only[go_sem];refine Qi ?_;simp only[go_sem,Qq,Q7,Qpr,Ja,forall_eq,RS.op];refine hK _ H2 h' ⟨by simp,fun M hM=>⟨hM.r0,?_,?_,?_⟩,fun ha=>by simp;show s.at_<_;omega,rfl,rfl,rfl⟩ (by simp) ?_
 ·have:=hM.r1;show s.regs≤_;omega
 ·have:=hM.b1;simp;omega
 ·intro b hb;rcases Jj.1 hb with hb|hb
  ·have:=hM.i1 b hb;omega
  ·obtain⟨_,rfl⟩:=List.mem_replicate.1 hb;simp[blkZ]
 ·simp[IS.d,Lw.add,Blk.d,blkZ,blk0]
theorem Qawe {N:Nat}{op to n:Int}{fl:Bool}{args:List Int}(h:IInv F H w s)(hat:s.at_<s.blocks.length)(hok:s.ok N)(hN:N+1≤2^38)
  (hK:∀(s':IS) (H':Heap),IInv F H' w s'→IStep s s' 1→s'.d=s.d.put op to n args→K (.tup []) H') :
  Qj prog Qa7 [.c (.ptr w 0),.ag [.int .i64 op,.int .i64 to,.sl fl 1 (Q0 args),.int .i64 n]] H K:=by
 have hw:=h.hw;obtain⟨y,hbc,hlb,hy⟩:=h.bvec (by omega);have hm:=Jb hat;have hi1:=hok.i1 _ hm;have hiow:=(h.gi _ hm).isOw;have hg1:List.getD (List.map Blk.row s.blocks) s.at_ []=s.blocks[s.at_].row:=by simp[Jd,hat]
 have hg2:List.getD (List.take s.blocks.length (List.map Blk.row s.blocks)) s.at_ []=s.blocks[s.at_].row:=by
  rw[Je (by simp)];exact hg1
 refine Qb Qad Qadm ?_;refine Qa ?_;simp only[go_sem];refine Qaf ?_;simp only[go_sem,hw,IS.o,hbc,hy,hat,J0,Jo];refine Qe8 ?_;simp only[go_sem,hy,hat,hg2,Blk.row,hiow,J0,Jo];refine h.addInsX hat hbc hlb ⟨op,to,n,fl,args,rfl⟩ (by simp only[LIM];omega) fun z H1 hw1 hy1 cont=>?_;simp only[go_sem,Qmc,hy1,hg1,hat,Blk.row,J0,Jo];intro H2 h2;obtain⟨b',hb',hbd,h'⟩:=cont H2 h2;simp only[Qq,Q7,Qtn];refine⟨by simp,hK _ H2 h' ⟨by simp,fun M hM=>⟨hM.r0,?_,?_,?_⟩,fun ha=>by simp;show s.at_<_;omega,rfl,rfl,rfl⟩ ?_⟩
 ·have:=hM.r1;show s.regs≤_;omega
 ·have:=hM.b1;simp;omega
 ·intro b hb;rcases Qb0 hb with rfl|hb
  ·have:=hM.i1 _ hm;omega
  ·have:=hM.i1 b hb;omega
 ·simp only[IS.d,Lw.put];rw[Q35 Blk.d (fun b=>{ b with ins:=b.ins++[⟨op,to,args,n⟩] }) _ _ _ fun _=>by rw[hbd,Qa6u]]
theorem Qyi {N:Nat}{op n:Int}{fl:Bool}{args:List Int}(h:IInv F H w s)(hat:s.at_<s.blocks.length)(hok:s.ok N)(hN:N+2≤2^38)
  (hK:∀(s':IS) (H':Heap),IInv F H' w s'→IStep s s' 2→s'.d=s.d.make op n args→K (.c (.int .i64 s.regs)) H') :
  Qj prog Qao [.c (.ptr w 0),.c (.int .i64 op),.c (.int .i64 n),.c (.sl fl 1 (Q0 args))] H K:=by
 refine Qb Qad Qabb ?_;refine Qa ?_;simp only[go_sem];refine Qa ?_;simp only[go_sem];refine Qbsn h hok (by omega) fun s1 H1 h1 st1 ex1=>?_;simp only[go_sem,Qkp];refine Qa ?_;simp only[go_sem];refine Qawe h1 (st1.at_ hat) (st1.ok _ hok) (by omega) fun s2 H2 h2 st2 ex2=>?_;simp only[go_sem];refine Qa ?_;simp only[go_sem];refine Qi ?_;simp only[go_sem,Qq,Q7,Qpo,Ja,forall_eq,RS.op];exact hK s2 H2 h2 (st1.trans st2) (by rw[ex2,ex1];rfl)
theorem Q6r {N:Nat}{kind on:Int}{at':Nat}{fl:Bool}{next:List Int}(h:IInv F H w s)(hat:s.at_<s.blocks.length)(hat':at'<s.blocks.length)
  (hK:∀(s':IS) (H':Heap),IInv F H' w s'→IStep s s' 0→s'.d=s.d.jump kind on next at'→K (.tup []) H') :
  Qj prog Qah [.c (.ptr w 0),.c (.int .i64 kind),.c (.int .i64 on),.c (.int .i64 at'),.c (.sl fl 1 (Q0 next))] H K:=by
 have hw:=h.hw;obtain⟨y,hbc,hlb,hy⟩:=h.bvec (by omega);have hm:=Jb hat;have hg1:List.getD (List.map Blk.row s.blocks) s.at_ []=s.blocks[s.at_].row:=by simp[Jd,hat]
 refine Qb Qad Qadl ?_;refine Qaf ?_;simp only[go_sem,hw,IS.o,hbc,hy,hat,J0,Jo];refine Qa ?_;simp only[go_sem,hy,hg1,hat,Blk.row,J0,Jo];intro H1 h1;have h1:H1=H.set y (.vec 5 ((s.blocks.set s.at_ { s.blocks[s.at_]with jump:=kind }).map Blk.row)):=by rw[h1,←Qtf];rfl
 have hv:=h.setBlk hat hbc hlb h1 rfl rfl rfl;obtain⟨b1,hb1,hb1l,hb1i⟩:∃b1:Blk,b1={ s.blocks[s.at_]with jump:=kind }∧b1.irows=s.blocks[s.at_].irows∧b1.ic=s.blocks[s.at_].ic:=⟨_,rfl,rfl,rfl⟩;rw[←hb1]at hv h1;have hy1:H1 y=.vec 5 ((s.blocks.set s.at_ b1).map Blk.row):=by rw[h1];exact Heap.set_same _ _ _
 have hg2:List.getD ((s.blocks.set s.at_ b1).map Blk.row) s.at_ []=b1.row:=by simp[Jd,hat]
 simp only[go_sem,Qmb,hy1,hg2,hat,Blk.row,J0,Jo,Jak];intro H2 h2;have h2:H2=H1.set y (.vec 5 (((s.blocks.set s.at_ b1).set s.at_ { b1 with on:=on }).map Blk.row)):=by rw[h2];simp only[Jap];rfl
 have hv:=hv.setBlk (i:=s.at_) (b':={ b1 with on:=on }) (by simpa using hat) (by simpa using hbc) (by rfl) h2 (by simp) (by simp) (by simp);simp only[Jaq]at hv h2;obtain⟨b2,hb2,hb2i⟩:∃b2:Blk,b2={ b1 with on:=on }∧b2.irows=b1.irows:=⟨_,rfl,rfl⟩;rw[←hb2]at hv h2;have hy2:H2 y=.vec 5 ((s.blocks.set s.at_ b2).map Blk.row):=by rw[h2];exact Heap.set_same _ _ _
 have hg3:List.getD ((s.blocks.set s.at_ b2).map Blk.row) s.at_ []=b2.row:=by simp[Jd,hat]
 simp only[go_sem,Qma,hy2,hg3,hat,Blk.row,J0,Jo,Jak];intro H3 h3;have h3:H3=H2.set y (.vec 5 (((s.blocks.set s.at_ b2).set s.at_ { b2 with next:=next,nfl:=fl }).map Blk.row)):=by rw[h3];simp only[Jap];rfl
 have hv:=hv.setBlk (i:=s.at_) (b':={ b2 with next:=next,nfl:=fl }) (by simpa using hat) (by simpa using hbc) (by rfl) h3 (by simp) (by simp) (by simp);simp only[Jaq]at hv;have hw3:=hv.hw;refine Qp ?_;simp only[go_sem,hw3,IS.o];intro H4 h4;have h':=hv.setw (s':={ s with lb:=[(y,.vec 5 ((s.blocks.set s.at_ { b2 with next:=next,nfl:=fl }).map Blk.row))],blocks:=s.blocks.set s.at_ { b2 with next:=next,nfl:=fl },at_:=at' }) h4 rfl rfl rfl;simp only[Qq,Q7,Qtn];refine⟨by simp,hK _ H4 h' ⟨by simp,fun M hM=>⟨hM.r0,hM.r1,?_,?_⟩,fun ha=>by simpa using hat',rfl,rfl,rfl⟩ ?_⟩
 ·have:=hM.b1;simpa using this
 ·intro b hb;rcases Qb0 hb with rfl|hb
  ·show b2.irows.length≤_;rw[hb2i,hb1l];exact hM.i1 _ hm
  ·exact hM.i1 b hb
 ·simp only[IS.d,Lw.jump];rw[Q35 Blk.d (fun b=>{ b with jump:=kind,on:=on,next:=next }) _ _ _ fun _=>by rw[hb2,hb1];rfl]
end Go.AE.Y
namespace Go.AE
variable {F H H':Heap}{A M:List (Nat×Obj)}
theorem Kn.sideX (kn:Kn F H [] (A++M)):∃F',Kn F' H [] A∧(∀m,F m≠.none→F' m=F m)∧(∀p∈M,F' p.1=p.2)∧
  ∀(A':List (Nat×Obj)) (H':Heap),Kn F' H' [] A'→Kn F H' [] (A'++M):=by
 have hnd:=kn.dL;rw[J1]at hnd;obtain⟨d1,d2,d3⟩:=Jah.1 hnd;obtain⟨F',hF'⟩:∃F':Heap,F'=fun m=>if m∈M.map Prod.fst then H m else F m:=⟨_,rfl⟩;have hin:∀m,m∈M.map Prod.fst→F' m=H m:=fun m hm=>by rw[hF'];exact if_pos hm
 have hout:∀m,m∉M.map Prod.fst→F' m=F m:=fun m hm=>by rw[hF'];exact if_neg hm
 have hM:∀p∈M,F' p.1=p.2∧p.2≠.none:=fun p hp=>by
  have:=kn.get p (by simp[hp]);rw[hin p.1 (Qb6 hp)];exact this
 have hfree:∀m,m∈M.map Prod.fst→F m=.none:=fun m hm=>by
  obtain⟨p,hp,rfl⟩:=Jz.1 hm;exact kn.loc p (Jae _ hp)
 refine⟨F',⟨fun p hp=>kn.get p (by simp only[Jr]at hp⊢;exact Jaf _ hp),by simp,fun p hp=>?_,by simp,d1,fun m hm _=>?_⟩,fun m hm=>hout m fun h=>hm (hfree m h),fun p hp=>(hM p hp).1,fun A' H' k=>?_⟩
 ·rw[hout p.1 fun h=>d3 _ (Qb6 hp) _ h rfl];exact kn.loc p (Jaf _ hp)
 ·by_cases h:m∈M.map Prod.fst
  ·rw[hin m h]
  ·rw[hout m h]at hm⊢;exact kn.chg m hm (by simp)
 ·have hA:∀p∈A',p.1∉M.map Prod.fst:=fun p hp h=>by
   obtain⟨q,hq,e⟩:=Jz.1 h;have h1:=k.loc p hp;rw[←e,(hM q hq).1]at h1;exact (hM q hq).2 h1
  have hMH:∀p∈M,H' p.1=p.2:=fun p hp=>by
   have h1:=hM p hp;rw[k.chg p.1 (by rw[h1.1];exact h1.2) (by simp),h1.1]
  refine⟨fun p hp=>?_,by simp,fun p hp=>?_,by simp,?_,fun m hm _=>?_⟩
  ·simp only[Jr]at hp;rcases Jj.1 hp with hp|hp
   ·exact k.get p (by simpa using hp)
   ·exact⟨hMH p hp,(hM p hp).2⟩
  ·rcases Jj.1 hp with hp|hp
   ·have:=k.loc p hp;rw[hout _ (hA p hp)]at this;exact this
   ·exact kn.loc p (Jae _ hp)
  ·rw[J1];refine Jah.2 ⟨k.dL,d2,fun a ha b hb e=>?_⟩;obtain⟨p,hp,rfl⟩:=Jz.1 ha;exact hA p hp (e▸hb)
  ·have hm2:m∉M.map Prod.fst:=fun h=>hm (hfree m h);have:=k.chg m (by rw[hout m hm2];exact hm) (by simp);rw[this,hout m hm2]
end Go.AE
namespace Go.AE.Y
attribute [local go_sem] cond_true cond_false Bool.not_true Bool.not_false
open Go.Proofs.Tryz
variable {F H H':Heap}{w:Nat}{s:IS}{K:V→Heap→Prop}{M Lg:List (Nat×Obj)}
theorem IInv.sideX (h:IInv F H w s)(kn:Kn F H [] (s.L w++M)) :
  ∃F',IInv F' H w s∧(∀m,F m≠.none→F' m=F m)∧(∀p∈M,F' p.1=p.2)∧∀(s':IS) (H':Heap),IInv F' H' w s'→IInv F H' w s'∧Kn F H' [] (s'.L w++M):=by
 obtain⟨F',k1,k2,k3,k4⟩:=kn.sideX;exact⟨F',⟨k1,h.gb,h.gi,h.ri⟩,k2,k3,fun s' H' h'=>⟨⟨(k4 _ _ h'.kn).drop,h'.gb,h'.gi,h'.ri⟩,k4 _ _ h'.kn⟩⟩
abbrev vI (n:Nat):Int:=n
def ScIn (F:Heap)(sc:ScD)(v:Vars):Prop:=(∀p∈sc.ob,F p.1=p.2)∧ScD.ok vI sc v
theorem ScIn.mono {F':Heap}{sc:ScD}{v:Vars}(h:ScIn F sc v)(hf:∀m,F m≠.none→F' m=F m):ScIn F' sc v:=
 ⟨fun p hp=>by
  have h1:=h.1 p hp;rw[hf p.1 (by rw[h1];obtain⟨x,_,rfl⟩:=Jz.1 hp;nofun),h1],h.2⟩
theorem ScIn.find {sc:ScD}{v:Vars}(h:ScIn F sc v)(kn:Kn F H [] M):ScOk vI H sc.ls v:=ScD.scOk h.2 fun p hp=>by
 have h1:=h.1 p hp;rw[kn.chg p.1 (by rw[h1];obtain⟨x,_,rfl⟩:=Jz.1 hp;nofun) (by simp),h1]
theorem Qbbw (v:Vars)(t:List UInt8):valO vI (v.find t)=Qa1 v 0 t:=by
 rw[Qa1];cases v.find t <;> rfl
def IExX (n:Nat):Prop:=∀(x:Ex) (F H:Heap) (w:Nat) (s:IS) (N:Nat) (sc:ScD) (v:Vars) (K:V→Heap→Prop),x.size≤n→x.ok→IInv F H w s→ScIn F sc v→s.at_<s.blocks.length→s.ok N→N+10 * x.size≤2^38→
  (∀(s':IS) (H':Heap),IInv F H' w s'→IStep s s' (10 * x.size)→s'.d=(x.low (Qa1 v 0) (Qce s.fns) s.d).1→K (.c (.int .i64 (x.low (Qa1 v 0) (Qce s.fns) s.d).2)) H')→
  Qj prog Qbb [.c (.ptr w 0),.ag x.cells,.c (scC sc.ls)] H K
theorem Qsr (l:List Nat):(scC l).isOw=false:=by cases l <;> rfl
theorem Qbg6 {f n N:Nat}{caps:List C}{l:List Ex}{fl:Bool}{sc:ScD}{v:Vars}(hl0:Qr l≤n)(hok:Qda l)(h:IInv F H w s)(hsc:ScIn F sc v)(hat:s.at_<s.blocks.length)(hsok:s.ok N)(hN:N+10 * Qr l≤2^38)
  (hf:∀x∈l,∀(F H:Heap) (s:IS) (N:Nat) (K':V→Heap→Prop),IInv F H w s→ScIn F sc v→s.at_<s.blocks.length→s.ok N→N+10 * x.size≤2^38→
   (∀(s':IS) (H':Heap),IInv F H' w s'→IStep s s' (10 * x.size)→s'.d=(x.low (Qa1 v 0) (Qce s.fns) s.d).1→K' (.c (.int .i64 (x.low (Qa1 v 0) (Qce s.fns) s.d).2)) H')→
   Qj prog f ([.ag x.cells]++caps.map .c) H K')
  (hK:∀(s':IS) (H':Heap),IInv F H' w s'→IStep s s' (10 * Qr l)→s'.d=(Qab (Qa1 v 0) (Qce s.fns) l s.d).1→K (.c (.sl false 1 (Q0 (Qab (Qa1 v 0) (Qce s.fns) l s.d).2))) H') :
  Qj prog Qcj [.c (.sl fl 4 (Qw l)),.c (.fn f caps)] H K:=by
 refine Qb Qad Q4e ?_;refine Qa ?_;simp only[go_sem];refine Qa ?_;simp only[go_sem];refine Q5 ?_;refine Qa ?_;simp only[go_sem,Ql];intro hl;simp only[LIM]at hl;refine Qg (Qe (Q2 (fun m e1 H1=>∃(i:Nat) (ars:List Int) (c:C) (Lg:List (Nat×Obj)) (s':IS),m=l.length-i∧i≤l.length∧ars.length=i∧Gr Lg 1 (Q0 ars) c∧IInv F H1 w s'∧Kn F H1 [] (s'.L w++Lg)∧
  IStep s s' (10 * Qr (l.take i))∧s'.d=(Qab (Qa1 v 0) (Qce s.fns) (l.take i) s.d).1∧ars=(Qab (Qa1 v 0) (Qce s.fns) (l.take i) s.d).2∧
  e1=[(1,.c (.fn f caps)),(5,.c c),(8,.c (.sl fl 4 (Qw l))),(9,.c (.int .i64 l.length)),(10,.c (.int .i64 i))]) l.length ?_ ?_))
 ·exact⟨0,[],_,[],s,by omega,by omega,rfl,.nil 1,h,by simpa using h.kn,(IStep.refl s).mono (by omega),by rw[Js,Qab],by rw[Js,Qab],rfl⟩
 ·rintro m e1 H1 ⟨i,ars,c,Lg,s1,hm,hi,hasl,hgr,h1,kn,st1,ex1,hars,rfl⟩;have hco:=hgr.isOw;refine Qa ?_;simp only[go_sem,hco];refine Qg (Qc rfl ?_ ?_)
  ·intro hc;have hlt:i<l.length:=by simpa using hc
   have hms:=Qar (Jb hlt);have htk:=Qjw hlt;have htl:=Qc1 l (i+1);obtain⟨x,hx⟩:∃x,l[i]=x:=⟨_,rfl⟩;have hxm:x∈l:=by rw[←hx];exact Jb hlt
   rw[hx]at hms htk;refine Qf ?_;try simp only[go_sem]
   refine Qg (Qe ?_);refine Qa ?_;simp only[go_sem,hco,hlt,Ql,Qaq _ _ hlt,hx,x.cells_eq];intro x7 hx7 H3 h3;have kn:Kn F H3 [] (s1.L w++([(x7,.st [.int .i64 0,.int .i64 0,.str [],.sl true 4 []])]++Lg)):=(kn.al hx7 h3).perm (by
    rw[Ji];exact .append_left _ Jg)
   have g7:H3 x7=_:=(kn.get (x7,.st [.int .i64 0,.int .i64 0,.str [],.sl true 4 []]) (by simp)).1;simp only[go_sem,Qhz,g7,hco];intro H4 h4;have kn:Kn F H4 [] (s1.L w++([(x7,.st [.int .i64 x.op,.int .i64 x.n,.str x.name,.sl false 4 (Qw x.kids)])]++Lg)):=kn.stM (by simpa using h4);have g7:H4 x7=.st [.int .i64 x.op,.int .i64 x.n,.str x.name,.sl false 4 (Qw x.kids)]:=(kn.get (x7,_) (by simp)).1;have h1:IInv F H4 w s1:=h1.re kn.drop;refine Qp ?_;simp only[go_sem,g7,hco];obtain⟨F',hf',hfm,_,back⟩:=h1.sideX kn;have hfx:=hf x hxm F' H4 s1 (N+10 * Qr (l.take i));rw[x.cells_eq]at hfx;refine hfx _ hf' (hsc.mono hfm) (st1.at_ hat) (st1.ok _ hsok) (by omega) fun s2 H5 h2 st2 ex2=>?_;obtain⟨h2,kn⟩:=back s2 H5 h2;have etk:Qab (Qa1 v 0) (Qce s.fns) (l.take (i+1)) s.d=((x.low (Qa1 v 0) (Qce s1.fns) s1.d).1,ars++[(x.low (Qa1 v 0) (Qce s1.fns) s1.d).2]):=by
    rw[Jc hlt,Q7y,hx,ex1,st1.fn.1,hars]
   obtain⟨r,hr⟩:∃r,(x.low (Qa1 v 0) (Qce s1.fns) s1.d).2=r:=⟨_,rfl⟩;rw[hr]at etk;rw[hr];have kn:Kn F H5 [] (s2.L w++Lg):=kn.sub (.append_left (List.sublist_append_right _ _) _);simp only[go_sem,Qh1,hco];refine kn.growR hgr (new:=Q0 [r]) (.mk' _ true 1 _) (Qay _) (by simp only[Qt,hasl,Jk,Jq,LIM];omega) fun t2 Lg2 H6 hgr2 hto2 kn=>?_;rw[←Qqz]at hgr2;simp only[go_sem,Qh0,hto2];refine Qp ?_;simp only[go_sem,AE.X.next,hto2];exact⟨Qm (by omega) (by omega),l.length-(i+1),by omega,i+1,ars++[r],t2,Lg2,s2,rfl,by omega,by simp[hasl],hgr2,h2.re kn.drop,kn,(st1.trans st2).mono (by rw[htk];omega),by rw[etk];exact ex2,by rw[etk],rfl⟩
  ·intro hc;have hge:l.length≤i:=by simpa using hc
   rw[Je hge]at st1 ex1 hars;refine Q1 ?_;simp only[go_sem,AE.X.next];refine Q5 ?_;obtain⟨S,H2,f1,f2,kn2⟩:=hgr.freeze kn (Qay _);have h2:=h1.re kn2;refine c_gh (Qi4 S (fun t=>?_) f2) (e':=[(1,.c (.fn f caps)),(5,.c (.sl false 1 (Q0 ars))),(8,.c (.sl fl 4 (Qw l))),(9,.c (.int .i64 l.length)),(10,.c (.int .i64 i))]) ?_
   ·simp only[lk];split
    ·exact .c _ _ (.same _ rfl)
    ·split
     ·exact .c _ _ f1
     ·split
      ·exact .c _ _ (.same _ rfl)
      ·split
       ·exact .c _ _ (.same _ rfl)
       ·split
        ·exact .c _ _ (.same _ rfl)
        ·exact .unk _
   refine Qa ?_;simp only[go_sem];refine Qi ?_;simp only[go_sem,Qq,Q7,Qpr,Ja,forall_eq,RS.op];rw[hars];exact hK s1 H2 h2 st1 ex1
end Go.AE.Y
namespace Go.AE.Y
open Go.Proofs.Tryz
variable {F H:Heap}{w:Nat}{s:LS}{K:V→Heap→Prop}
def hasN (name:List UInt8)(r:List C):Bool:=match r with
 |.str s::_=>decide (s=name)
 |_=>false
def rowN (r:List C):Int:=match r with
 |[_,.int _ n,_]=>n
 |_=>0
def rgR (rows:List (List C))(name:List UInt8):Int:=match rows.reverse.find? (hasN name)with
 |some r=>rowN r
 |none=>-1
theorem Qbs2 {rows:List (List C)}{name:List UInt8}{i:Nat}(h:i<rows.length)(hn:(rows.drop (i+1)).reverse.find? (hasN name)=none)(hp:hasN name rows[i]=true):rgR rows name=rowN rows[i]:=by
 have e:rows.reverse=(rows.drop (i+1)).reverse++(rows[i]::(rows.take i).reverse):=by
  conv=>lhs;rw[←Ju i rows,J7 h]
  simp
 rw[rgR,e,List.find?_append,hn,Option.none_or,List.find?_cons,hp]
theorem Qbnd {rows:List (List C)}{name:List UInt8}{i:Nat}(h:i<rows.length)(hn:(rows.drop (i+1)).reverse.find? (hasN name)=none)(hp:hasN name rows[i]=false):(rows.drop i).reverse.find? (hasN name)=none:=by
 rw[J7 h,List.reverse_cons,List.find?_append,hn,Option.none_or,List.find?_cons,hp];rfl
theorem Lw.fresh_len (s:Lw):s.fresh.bs.length=s.bs.length:=rfl
theorem Lw.add_add (s:Lw)(a b:Nat):(s.add a).add b=s.add (a+b):=by simp only[Lw.add,Ji,List.replicate_append_replicate]
theorem LS.dregs (s:LS):s.regs=s.d.regs:=rfl
theorem Qbgy (fns:List Fn)(name:List UInt8):ixI (Qk7 fns name)=Qce fns name:=by
 simp only[ixI,Qce];cases Qk7 fns name <;> rfl
theorem Qbs1 {name:List UInt8}(h:LInv F H w s)(hK:K (.c (.int .i64 (rgR s.vars name))) H):Qj prog Qpf [.c (.ptr w 0),.c (.str name)] H K:=by
 have hw:=h.hw;obtain⟨hv1,hv2⟩:=h.vget;have hvl:=h.gv.lenC;have hve:=h.gv.elemSz;have hvo:=h.gv.isOw;refine Qb Qad Qa6n ?_;have retf:∀(n:Int) (e:Env),n=rgR s.vars name→lk 4 e=.c (.int .i64 n)→Qq Qpr K .ret e H:=by
  intro b e hb h1;simp only[go_sem,Qq,Q7,Qpr,Ja,forall_eq,RS.op,h1];rw[hb];exact hK
 refine Qa ?_;simp only[go_sem];refine Q5 ?_;refine Qa ?_;simp only[go_sem,hw,LS.o,hv1,hvl,hvo];intro hl;simp only[LIM]at hl;refine⟨Qm (by omega) (by omega),?_⟩;refine Qg (Qe (Q2 (fun n e1 H1=>∃(j:Nat),n=j∧j≤s.vars.length∧(s.vars.drop j).reverse.find? (hasN name)=none∧H1=H∧e1=[(0,.c (.ptr w 0)),(1,.c (.str name)),(5,.c (.int .i64 ((j:Int)-1)))]) s.vars.length ?_ ?_))
 ·exact⟨s.vars.length,rfl,by omega,by simp,rfl,rfl⟩
 ·rintro n e1 H1 ⟨j,hnj,hj,hnn,rfl,rfl⟩;refine Q5 ?_;refine Qa ?_;simp only[go_sem];refine Qg (Qc rfl ?_ ?_)
  ·intro hc;have hj1:1≤j:=by simp at hc;omega
   obtain⟨i,rfl⟩:∃i,j=i+1:=⟨j-1,by omega⟩;have e1:(((i+1:Nat):Int)-1)=(i:Int):=by omega
   have hlt:i<s.vars.length:=by omega
   obtain⟨nm,a,b,hr⟩:=h.rv _ (Jb hlt);have hr':List.getD s.vars i []=[.str nm,.int .i64 a,.int .i64 b]:=by rw[←hr];simp[Jd,hlt]
   rw[e1]at hc⊢;refine Qf ?_;simp only[go_sem];refine Qg (Qe ?_);refine Qa ?_;simp only[go_sem,hw,LS.o,hv1,hv2,hvl,hvo,hve,hlt,hr'];refine Qc rfl ?_ ?_
   ·intro hc2;refine Qa ?_;simp only[go_sem,hw,LS.o,hv1,hv2,hvl,hvo,hve,hlt,hr'];refine Qi ?_;simp only[go_sem,X.next];refine retf _ _ ?_ (by simp[lk];rfl);rw[Qbs2 hlt hnn (by rw[hr];simpa[hasN]using hc2),hr];rfl
   ·intro hc2;refine Qf ?_;simp only[go_sem];refine Qp ?_;simp only[go_sem,X.next];exact⟨Qm (by omega) (by omega),i,by omega,i,rfl,by omega,Qbnd hlt hnn (by rw[hr];simpa[hasN]using hc2),rfl⟩
  ·intro hc;refine Q1 ?_;simp only[go_sem,X.next];refine Qa ?_;simp only[go_sem];refine Qi ?_;obtain rfl:j=0:=by simp at hc;omega
   refine retf _ _ ?_ (by simp[lk];rfl);rw[List.drop_zero]at hnn;rw[rgR,hnn]
def Qbk2 (n:Nat):Prop:=∀(x:Ex) (F H:Heap) (w:Nat) (s:LS) (N:Nat) (K:V→Heap→Prop),x.size≤n→x.ok→LInv F H w s→s.at_<s.blocks.length→s.ok N→N+10 * x.size≤2^38→
  (∀(s':LS) (H':Heap),LInv F H' w s'→LStep s s' (10 * x.size)→LTo s' (x.low (rgR s.vars) (Qce s.fns) s.d).1 s.vars s.next→K (.c (.int .i64 (x.low (rgR s.vars) (Qce s.fns) s.d).2)) H')→Qj prog Qdh [.c (.ptr w 0),.ag x.cells] H K
def AndX (n:Nat):Prop:=∀(x:Ex) (F H:Heap) (w:Nat) (s:LS) (N:Nat) (K:V→Heap→Prop),x.size≤n→x.ok→x.op=10→LInv F H w s→s.at_<s.blocks.length→s.ok N→N+10 * x.size≤2^38→
  (∀(s':LS) (H':Heap),LInv F H' w s'→LStep s s' (10 * x.size)→LTo s' (x.low (rgR s.vars) (Qce s.fns) s.d).1 s.vars s.next→K (.c (.int .i64 (x.low (rgR s.vars) (Qce s.fns) s.d).2)) H')→Qj prog Qyf [.c (.ptr w 0),.ag x.cells] H K
theorem Qbtz {n:Nat}(hE:∀m,m<n→Qbk2 m):AndX n:=by
 intro x F H w s N K hn hok hop h hat hsok hN hK;have hsz:=x.size_kids;have hk2:=Ex.ok_and hok hop;have hkok:=Ex.ok_kids hok;obtain⟨a,b,hab⟩:∃a b,x.kids=[a,b]:=by
  match hx:x.kids,hk2 with
  |[a,b],_=>exact⟨a,b,rfl⟩
 rw[hab]at hsz hkok;simp only[Qr,Qda]at hsz hkok;refine Qb Qad Qa6l ?_;refine Qa ?_;simp only[go_sem,x.cells_eq];refine Qa ?_;simp only[go_sem,hab,Qw,Ex.take4,Ex.allOw,Ex.cells_len,Jm];refine⟨by omega,?_⟩;refine hE a.size (by omega) a F H w s N _ (Jf _) hkok.1 h hat hsok (by omega) fun s1 H1 h1 st1 ex1=>?_;simp only[go_sem,Q7k];refine Qa ?_;simp only[go_sem];refine Qyg h1 (st1.ok _ hsok) (by omega) fun s2 H2 h2 st2 ex2=>?_;have st2:=st1.trans st2;simp only[go_sem,Q7m];refine Qady (args:=[]) h2 (st2.at_ hat) (st2.ok _ hsok) (by omega) fun s3 H3 h3 st3 ex3=>?_;have st3:=st2.trans st3;simp only[go_sem,Q7l];refine Qa ?_;simp only[go_sem];refine Qjj h3 (st3.ok _ hsok) (by omega) fun s4 H4 h4 st4 hb4 ex4=>?_;have st4':=st4;have st4:=st3.trans st4;simp only[go_sem,Q7n];refine Qa ?_;simp only[go_sem];refine Qjj h4 (st4.ok _ hsok) (by omega) fun s5 H5 h5 st5 hb5 ex5=>?_;have st5:=st4.trans st5;simp only[go_sem,Q7o];refine Qa ?_;simp only[go_sem];refine Q6s (next:=[(s3.blocks.length:Int),(s4.blocks.length:Int)]) (N:=0) h5 (st5.at_ hat) (by omega) fun s6 H6 h6 st6 ex6=>?_;have hb6:=st6.bl;have st6:=st5.trans st6;refine Qa ?_;simp only[go_sem,Ex.take4,Ex.allOw,Ex.cells_len,Jm,Jy];refine⟨by omega,?_⟩;refine hE b.size (by omega) b F H6 w s6 _ _ (Jf _) hkok.2.1 h6 (st6.at_ hat) (st6.ok _ hsok) (by omega) fun s7 H7 h7 st7 ex7=>?_;have hb7:=st7.bl;have st7:=st6.trans st7;simp only[go_sem,Q7p];refine Qa ?_;simp only[go_sem];refine Qyg h7 (st7.ok _ hsok) (by omega) fun s8 H8 h8 st8 ex8=>?_;have hb8:=st8.bl;have st8:=st7.trans st8;simp only[go_sem,Q7r];refine Qady (args:=[(b.low (rgR s6.vars) (Qce s6.fns) s6.d).2]) h8 (st8.at_ hat) (st8.ok _ hsok) (by omega) fun s9 H9 h9 st9 ex9=>?_;have hb9:=st9.bl;have st9:=st8.trans st9;simp only[go_sem,Q7q];refine Qa ?_;simp only[go_sem];refine Qady (args:=[s7.regs]) h9 (st9.at_ hat) (st9.ok _ hsok) (by omega) fun s10 H10 h10 st10 ex10=>?_;have hb10:=st10.bl;have st10:=st9.trans st10;refine Qa ?_;simp only[go_sem];refine Q6s (next:=[(s4.blocks.length:Int)]) (N:=0) h10 (st10.at_ hat) (by omega) fun s11 H11 h11 st11 ex11=>?_;have st11:=st10.trans st11;refine Qa ?_;simp only[go_sem];refine Qi ?_;simp only[go_sem,Qq,Q7,Qpr,Ja,forall_eq,RS.op];have v6:s6.vars=s.vars:=by rw[ex6.vars,ex5.vars,ex4.vars,ex3.vars,ex2.vars,ex1.vars]
 have n6:s6.next=s.next:=by rw[ex6.next,ex5.next,ex4.next,ex3.next,ex2.next,ex1.next]
 have f6:s6.fns=s.fns:=st6.fn.1;have e:x.low (rgR s.vars) (Qce s.fns) s.d=(s11.d,s1.regs):=by
  obtain⟨op,q,nm,kids⟩:=x;simp only[Ex.op]at hop;simp only[Ex.kids]at hab;subst hop;subst hab;simp only[Ex.low,Qu3,Qnu,ex11.d,ex10.d,ex9.d,ex8.d,ex7.d,ex6.d,ex5.d,ex4.d,ex3.d,ex2.d,ex1.d,v6,f6,LS.dlen,LS.dregs,Lw.add_add,Lw.add_len,Lw.put_len,Lw.fresh_len,Lw.make];simp
 have:=hK s11 H11 h11 (st11.mono (by omega)) (by rw[e];exact⟨rfl,by rw[ex11.vars,ex10.vars,ex9.vars,ex8.vars,ex7.vars,v6],by rw[ex11.next,ex10.next,ex9.next,ex8.next,ex7.next,n6]⟩);rw[e]at this;exact this
theorem Ex.low_eq (rg fi:List UInt8→Int)(x:Ex)(s:Lw):x.low rg fi s=if x.op=1 then (s.make 1 x.n [],s.regs)else if x.op=2 then (s,rg x.name)else if x.op=10 then Qu3 rg fi x.kids s else
  ((Qab rg fi x.kids s).1.make (Qasl x.op) (if x.op=13 then fi x.name else 0) (Qab rg fi x.kids s).2,(Qab rg fi x.kids s).1.regs):=by cases x;simp only[Ex.low,Ex.op,Ex.n,Ex.name,Ex.kids];rfl
theorem Qbsh {n:Nat}(hA:AndX n)(hE:∀m,m<n→Qbk2 m):Qbk2 n:=by
 intro x F H w s N K hn hok h hat hsok hN hK;have hsz:=x.size_kids;have hkok:=Ex.ok_kids hok;refine Qb Qad Qa16 ?_;have retf:∀(v:Int) (e:Env) (s':LS) (H':Heap),LInv F H' w s'→LStep s s' (10 * x.size)→x.low (rgR s.vars) (Qce s.fns) s.d=(s'.d,v)→s'.vars=s.vars→s'.next=s.next→lk 4 e=.c (.int .i64 v)→Qq Qpr K .ret e H':=by
  intro v e s' H' a1 a2 a3 a4 a5 h1;simp only[go_sem,Qq,Q7,Qpr,Ja,forall_eq,RS.op,h1];have:=hK _ _ a1 a2 (by rw[a3];exact⟨rfl,a4,a5⟩);rw[a3]at this;exact this
 refine Qa ?_;simp only[go_sem,x.cells_eq];refine Q5 ?_;refine Qa ?_;simp only[go_sem];refine Qg (Qe ?_);refine Qa ?_;simp only[go_sem];refine Qc rfl ?_ ?_
 ·intro hc;refine Qaf ?_;simp only[go_sem];refine Qyg h hsok (by omega) fun s1 H1 h1 st1 ex1=>?_;simp only[go_sem,Q2a];refine Qady (args:=[]) h1 (st1.at_ hat) (st1.ok _ hsok) (by omega) fun s2 H2 h2 st2 ex2=>?_;simp only[go_sem,Q19];refine Qi ?_;simp only[go_sem];exact retf _ _ s2 H2 h2 ((st1.trans st2).mono (by omega)) (by rw[Ex.low_eq,if_pos (by simpa using hc),ex2.d,ex1.d];rfl) (by rw[ex2.vars,ex1.vars]) (by rw[ex2.next,ex1.next]) (by simp[lk];try rfl)
 intro hc1;refine Qa ?_;simp only[go_sem];refine Qc rfl ?_ ?_
 ·intro hc;refine Qa ?_;simp only[go_sem];refine Qbs1 h ?_;simp only[go_sem,Q2b];refine Qi ?_;simp only[go_sem];exact retf _ _ s H h ((LStep.refl s).mono (by omega)) (by rw[Ex.low_eq,if_neg (by simpa using hc1),if_pos (by simpa using hc)]) rfl rfl (by simp[lk];try rfl)
 intro hc2;refine Qa ?_;simp only[go_sem];refine Qc rfl ?_ ?_
 ·intro hc;have hop:x.op=10:=by simpa using hc
  refine Qa ?_;simp only[go_sem];rw[←x.cells_eq];refine hA x F H w s N _ hn hok hop h hat hsok hN fun s1 H1 h1 st1 ex1=>?_;simp only[go_sem,Q2c];refine Qi ?_;simp only[go_sem];exact retf _ _ s1 H1 h1 st1 (by rw[ex1.d]) ex1.vars ex1.next (by simp[lk];try rfl)
 intro hc3;refine Qf ?_;simp only[go_sem];refine Qa ?_;simp only[go_sem];refine Q5 ?_;refine Qa ?_;simp only[go_sem];refine Qg (Qe (Q2 (fun n e1 H1=>∃(i:Nat) (ars:List Int) (c:C) (Lg:List (Nat×Obj)) (s':LS),n=x.kids.length-i∧i≤x.kids.length∧ars.length=i∧Gr Lg 1 (Q0 ars) c∧LInv F H1 w s'∧Kn F H1 [] (s'.L w++Lg)∧
  LStep s s' (10 * Qr (x.kids.take i))∧LTo s' (Qab (rgR s.vars) (Qce s.fns) (x.kids.take i) s.d).1 s.vars s.next∧ars=(Qab (rgR s.vars) (Qce s.fns) (x.kids.take i) s.d).2∧e1=[(0,.c (.ptr w 0)),(3,.c (.pp [.int .i64 x.op,.int .i64 x.n,.str x.name,.sl false 4 (Qw x.kids)])),(5,.c c),(6,.c (.int .i64 i))]) x.kids.length ?_ ?_))
 ·exact⟨0,[],_,[],s,by omega,by omega,rfl,.nil 1,h,by simpa using h.kn,(LStep.refl s).mono (by omega),by rw[Js,Qab];exact .refl s,by rw[Js,Qab],rfl⟩
 ·rintro n e1 H1 ⟨i,ars,c,Lg,s1,hn1,hi,hasl,hgr,h1,kn,st1,ex1,hars,rfl⟩;refine Q5 ?_;refine Qa ?_;simp only[go_sem,Ql];intro hl;simp only[LIM]at hl;refine Qg (Qc rfl ?_ ?_)
  ·intro hc;have hlt:i<x.kids.length:=by simpa using hc
   have hm:=Qar (Jb hlt);have htk:=Qjw hlt;have htl:=Qc1 x.kids (i+1);refine Qf ?_;simp only[go_sem];refine Qg (Qe (Qp ?_));simp only[go_sem,hlt,Ql,Qaq _ _ hlt,Ex.take4,Ex.allOw,Ex.cells_len];obtain⟨F',hf,back⟩:=h1.beside kn hgr;refine hE x.kids[i].size (by omega) _ F' H1 w s1 _ _ (Jf _) (Qqt hkok _ (Jb hlt)) hf (st1.at_ hat) (st1.ok _ hsok) (by omega) fun s2 H2 h2 st2 ex2=>?_;obtain⟨h2,kn⟩:=back s2 H2 h2;have etk:Qab (rgR s.vars) (Qce s.fns) (x.kids.take (i+1)) s.d=((x.kids[i].low (rgR s1.vars) (Qce s1.fns) s1.d).1,ars++[(x.kids[i].low (rgR s1.vars) (Qce s1.fns) s1.d).2]):=by
    rw[Jc hlt,Q7y,ex1.vars,ex1.d,st1.fn.1,hars]
   generalize hvv:(x.kids[i].low (rgR s1.vars) (Qce s1.fns) s1.d).2=v at *;simp only[go_sem,Q2e];refine kn.grow (new:=Q0 [v]) hgr (.mk' _ _ _ _) (Qay _) (by simp only[Qt,hasl,Jk,Jq,LIM];omega) fun y' H3 kn=>?_;simp only[go_sem,Q2d];refine Qp ?_;simp only[go_sem,X.next];refine⟨Qm (by omega) (by omega),x.kids.length-(i+1),by omega,i+1,ars++[v],_,_,s2,rfl,by omega,by simp[hasl],.mk y' 1 (Q0 (ars++[v])) (n:=(Q0 ars).length+(Q0 [v]).length) (by simp[Q0]),h2.re kn.drop,by rw[Qqz];exact kn,(st1.trans st2).mono (by rw[htk];omega),by rw[etk];exact⟨ex2.d,ex2.vars.trans ex1.vars,ex2.next.trans ex1.next⟩,by rw[etk],by simp[Q0]⟩
  ·intro hc;have hge:x.kids.length≤i:=by simpa using hc
   rw[Je hge]at st1 ex1 hars;have fin:∀(op n:Int) (s4:LS),Qasl x.op=op→(if x.op=13 then Qce s.fns x.name else 0)=n→LTo s4 (s1.d.fresh.put op s1.regs n ars) s1.vars s1.next→x.low (rgR s.vars) (Qce s.fns) s.d=(s4.d,s1.regs)∧s4.vars=s.vars∧s4.next=s.next:=by
    intro op n s4 e1 e2 ex4;refine⟨?_,ex4.vars.trans ex1.vars,ex4.next.trans ex1.next⟩;rw[Ex.low_eq,if_neg (by simpa using hc1),if_neg (by simpa using hc2),if_neg (by simpa using hc3),e1,e2,ex4.d,←hars,←ex1.d];rfl
   refine Q1 ?_;simp only[go_sem,X.next];refine Q5 ?_;refine Q5 ?_;obtain⟨S,H2,f1,f2,kn2⟩:=hgr.freeze kn (Qay _);have h2:=h1.re kn2;refine c_gh (Qi4 S (fun t=>?_) f2) (e':=[(0,.c (.ptr w 0)),(3,.c (.pp [.int .i64 x.op,.int .i64 x.n,.str x.name,.sl false 4 (Qw x.kids)])),(5,.c (.sl false 1 (Q0 ars)))]) ?_
   ·simp only[lk];split
    ·exact .c _ _ (.same _ rfl)
    ·split
     ·exact .c _ _ (.same _ rfl)
     ·split
      ·exact .c _ _ f1
      ·exact .unk _
   refine Qa ?_;simp only[go_sem];refine Qg (Qe ?_);refine Qa ?_;simp only[go_sem];refine Qc rfl ?_ ?_
   ·intro hc;refine Qa ?_;simp only[go_sem];refine Qyg h2 (st1.ok _ hsok) (by omega) fun s3 H3 h3 st3 ex3=>?_;have st3:=st1.trans st3;simp only[go_sem,Qv5];refine Qady h3 (st3.at_ hat) (st3.ok _ hsok) (by omega) fun s4 H4 h4 st4 ex4=>?_;simp only[go_sem,Qv4];refine Qi ?_;simp only[go_sem];obtain⟨g1,g2,g3⟩:=fin _ _ s4 (by rw[show x.op=11 by simpa using hc];try rfl) (by rw[show x.op=11 by simpa using hc];try rfl) (by have:=ex4;rw[ex3.d,ex3.vars,ex3.next]at this;simpa[st1.fn.1,Qasl]using this);exact retf _ _ s4 H4 h4 ((st3.trans st4).mono (by omega)) g1 g2 g3 (by simp[lk];try rfl)
   intro hc4;refine Qa ?_;simp only[go_sem];refine Qc rfl ?_ ?_
   ·intro hc;refine Qa ?_;simp only[go_sem];refine Qyg h2 (st1.ok _ hsok) (by omega) fun s3 H3 h3 st3 ex3=>?_;have st3:=st1.trans st3;simp only[go_sem,Qv7];refine Qady h3 (st3.at_ hat) (st3.ok _ hsok) (by omega) fun s4 H4 h4 st4 ex4=>?_;simp only[go_sem,Qv6];refine Qi ?_;simp only[go_sem];obtain⟨g1,g2,g3⟩:=fin _ _ s4 (by rw[show x.op=12 by simpa using hc];try rfl) (by rw[show x.op=12 by simpa using hc];try rfl) (by have:=ex4;rw[ex3.d,ex3.vars,ex3.next]at this;simpa[st1.fn.1,Qasl]using this);exact retf _ _ s4 H4 h4 ((st3.trans st4).mono (by omega)) g1 g2 g3 (by simp[lk];try rfl)
   intro hc5;refine Qa ?_;simp only[go_sem];refine Qc rfl ?_ ?_
   ·intro hc;have hw2:=h2.hw;refine Qaf ?_;simp only[go_sem,hw2,LS.o];refine Qyg h2 (st1.ok _ hsok) (by omega) fun s3 H3 h3 st3 ex3=>?_;have hw3:=h3.hw;have hfn:=st3.fn;have st3:=st1.trans st3;simp only[go_sem,Qwa,hw3,LS.o,hfn.1,hfn.2.1];refine Qa0t ?_;rw[Qbgy];simp only[go_sem,Qv9];refine Qady h3 (st3.at_ hat) (st3.ok _ hsok) (by omega) fun s4 H4 h4 st4 ex4=>?_;simp only[go_sem,Qv8];refine Qi ?_;simp only[go_sem];obtain⟨g1,g2,g3⟩:=fin _ _ s4 (by rw[show x.op=13 by simpa using hc];try rfl) (by rw[if_pos (by simpa using hc)]) (by have:=ex4;rw[ex3.d,ex3.vars,ex3.next]at this;simpa[st1.fn.1,Qasl]using this);exact retf _ _ s4 H4 h4 ((st3.trans st4).mono (by omega)) g1 g2 g3 (by simp[lk];try rfl)
   intro hc6;refine Qf ?_;simp only[go_sem];refine Qaf ?_;simp only[go_sem];refine Qyg h2 (st1.ok _ hsok) (by omega) fun s3 H3 h3 st3 ex3=>?_;have st3:=st1.trans st3;simp only[go_sem,Qwc];refine Qady h3 (st3.at_ hat) (st3.ok _ hsok) (by omega) fun s4 H4 h4 st4 ex4=>?_;simp only[go_sem,Qwb];refine Qi ?_;obtain⟨g1,g2,g3⟩:=fin _ _ s4 (by rw[Qasl,if_neg (by simpa using hc4),if_neg (by simpa using hc5),if_neg (by simpa using hc6)]) (by rw[if_neg (by simpa using hc6)]) (by have:=ex4;rw[ex3.d,ex3.vars,ex3.next]at this;simpa[st1.fn.1,Qasl]using this);exact retf _ _ s4 H4 h4 ((st3.trans st4).mono (by omega)) g1 g2 g3 (by simp[lk];try rfl)
theorem Qbsg (n:Nat):Qbk2 n:=by
 induction n using Nat.strongRecOn with
 |ind n ih=>exact Qbsh (Qbtz ih) ih
end Go.AE.Y
namespace Go.AE.Y
attribute [local go_sem] cond_true cond_false Bool.not_true Bool.not_false
open Go.Proofs.Tryz
variable {F H H':Heap}{w:Nat}{s:IS}{K:V→Heap→Prop}{M Lg:List (Nat×Obj)}{sc:ScD}{v:Vars}
theorem Qbg8 {n N:Nat}{x:Ex}(hE:IExX n)(hn:x.size≤n)(hok:x.ok)(h:IInv F H w s)(hsc:ScIn F sc v)(hat:s.at_<s.blocks.length)(hsok:s.ok N)(hN:N+10 * x.size≤2^38)
  (hK:∀(s':IS) (H':Heap),IInv F H' w s'→IStep s s' (10 * x.size)→s'.d=(x.low (Qa1 v 0) (Qce s.fns) s.d).1→K (.c (.int .i64 (x.low (Qa1 v 0) (Qce s.fns) s.d).2)) H') :
  Qj prog Qdr [.ag x.cells,.c (.pp [.ptr w 0]),.c (.pp [scC sc.ls])] H K:=by
 have how:=Qsr sc.ls;refine Qb Qad Qyl ?_;refine Qa ?_;simp only[go_sem,x.cells_eq,how];refine Qa ?_;simp only[go_sem,how];have hx:=hE x F H w s N sc v;rw[x.cells_eq]at hx;refine hx _ hn hok h hsc hat hsok hN fun s1 H1 h1 st1 ex1=>?_;simp only[go_sem,Qgh];refine Qi ?_;simp only[go_sem,Qq,Q7,Qpr,Ja,forall_eq,RS.op];exact hK s1 H1 h1 st1 ex1
theorem Qbl1 {n:Nat}(hE:∀m,m<n→IExX m):IExX n:=by
 intro x F H w s N sc v K hn hok h hsc hat hsok hN hK;have how:=Qsr sc.ls;have hsz:=x.size_kids;have hkok:=Ex.ok_kids hok;refine Qb Qad Qaba ?_;have retf:∀(r:Int) (e:Env) (s':IS) (H':Heap),IInv F H' w s'→IStep s s' (10 * x.size)→x.low (Qa1 v 0) (Qce s.fns) s.d=(s'.d,r)→lk 6 e=.c (.int .i64 r)→Qq Qbo3 K .ret e H':=by
  intro r e s' H' a1 a2 a3 h1;simp only[go_sem,Qq,Q7,Qbo3,Ja,forall_eq,RS.op,h1];have:=hK _ _ a1 a2 (by rw[a3]);rw[a3]at this;exact this
 refine Qa ?_;simp only[go_sem,x.cells_eq,how];refine Q5 ?_;refine Qa ?_;simp only[go_sem,how];refine Qg (Qe ?_);refine Qa ?_;simp only[go_sem,how];refine Qc rfl ?_ ?_
 ·intro hc;refine Qa ?_;simp only[go_sem];refine Qyi (args:=[]) h hat hsok (by omega) fun s1 H1 h1 st1 ex1=>?_;simp only[go_sem,Qki];refine Qi ?_;exact retf _ _ s1 H1 h1 (st1.mono (by omega)) (by rw[Ex.low_eq,if_pos (by simpa using hc),ex1];try rfl) (by simp[lk];try rfl)
 intro hc1;refine Qa ?_;simp only[go_sem,how];refine Qc rfl ?_ ?_
 ·intro hc;refine Qa ?_;simp only[go_sem,how];refine Q34 (hsc.find h.kn) ?_;simp only[go_sem,Qkj,Jm,Jy];refine Qa ?_;simp only[go_sem];refine Qi ?_;exact retf _ _ s H h ((IStep.refl s).mono (by omega)) (by rw[Ex.low_eq,if_neg (by simpa using hc1),if_pos (by simpa using hc),←Qbbw]) (by simp[lk];try rfl)
 intro hc2;refine Qa ?_;simp only[go_sem,how];refine Qc rfl ?_ ?_
 ·intro hc;have hop:x.op=10:=by simpa using hc
  have hk2:=Ex.ok_and hok hop;obtain⟨a,b,hab⟩:∃a b,x.kids=[a,b]:=by
   match hx:x.kids,hk2 with
   |[a,b],_=>exact⟨a,b,rfl⟩
  rw[hab]at hsz hkok;simp only[Qr,Qda]at hsz hkok;refine Qaf ?_;simp only[go_sem,how,hab,Qw,Ex.take4,Ex.allOw,Ex.cells_len,Jm,Jk,Jq];try refine⟨by omega,?_⟩
  refine hE a.size (by omega) a F H w s N sc v _ (Jf _) hkok.1 h hsc hat hsok (by omega) fun s1 H1 h1 st1 ex1=>?_;simp only[go_sem,Qkk];refine Qa ?_;simp only[go_sem,how];refine Qyi (args:=[]) h1 (st1.at_ hat) (st1.ok _ hsok) (by omega) fun s2 H2 h2 st2 ex2=>?_;have st2:=st1.trans st2;simp only[go_sem,Qkl];refine Qa ?_;simp only[go_sem,how];refine Qale (n:=2) h2 (st2.ok _ hsok) (by omega) fun s3 H3 h3 st3 hb3 ex3=>?_;have hbb:=(st2.ok _ hsok).b1;have st3:=st2.trans st3;simp only[go_sem,Qkm];refine Qa ?_;simp only[go_sem,how];refine⟨Qm (by omega) (by omega),?_⟩;refine Q6r (next:=[(s2.blocks.length:Int),(s2.blocks.length:Int)+1]) (at':=s2.blocks.length) (N:=0) h3 (st3.at_ hat) (by omega) fun s4 H4 h4 st4 ex4=>?_;have hb4:=st4.bl;have st4:=st3.trans st4;simp only[go_sem];refine Qaf ?_;simp only[go_sem,how,hab,Qw,Ex.take4,Ex.allOw,Ex.cells_len,Jm,Jy,Jk,Jq];try refine⟨by omega,?_⟩
  refine hE b.size (by omega) b F H4 w s4 _ sc v _ (Jf _) hkok.2.1 h4 hsc (st4.at_ hat) (st4.ok _ hsok) (by omega) fun s5 H5 h5 st5 ex5=>?_;have hb5:=st5.bl;have st5:=st4.trans st5;simp only[go_sem,Qkn];refine Qa ?_;simp only[go_sem];refine Qyi (args:=[(b.low (Qa1 v 0) (Qce s4.fns) s4.d).2]) h5 (st5.at_ hat) (st5.ok _ hsok) (by omega) fun s6 H6 h6 st6 ex6=>?_;have hb6:=st6.bl;have st6:=st5.trans st6;simp only[go_sem,Qko];refine Qa ?_;simp only[go_sem];refine Qawe (args:=[s5.regs]) h6 (st6.at_ hat) (st6.ok _ hsok) (by omega) fun s7 H7 h7 st7 ex7=>?_;have hb7:=st7.bl;have st7:=st6.trans st7;simp only[go_sem];refine Qa ?_;simp only[go_sem];refine⟨Qm (by omega) (by omega),?_⟩;refine⟨Qm (by omega) (by omega),?_⟩;rw[show ((s2.blocks.length:Int)+1)=((s2.blocks.length+1:Nat):Int)by omega];refine Q6r (next:=[((s2.blocks.length+1:Nat):Int)]) (at':=s2.blocks.length+1) (N:=0) h7 (st7.at_ hat) (by omega) fun s8 H8 h8 st8 ex8=>?_;have st8:=st7.trans st8;simp only[go_sem];refine Qa ?_;simp only[go_sem];refine Qi ?_;have f4:s4.fns=s.fns:=st4.fn.1;refine retf _ _ s8 H8 h8 (st8.mono (by omega)) ?_ (by simp[lk];try rfl);rw[Ex.low_eq,if_neg (by omega),if_neg (by omega),if_pos hop,hab];simp only[Qu3,Qnu,ex8,ex7,ex6,ex5,ex4,ex3,ex2,ex1,f4,IS.dlen,IS.dregs,Lw.add_len,Lw.put_len,Lw.fresh_len,Lw.make];try simp
 intro hc3;refine Qf ?_;try simp only[go_sem]
 refine Qa ?_;simp only[go_sem,how];refine Qbg6 (n:=Qr x.kids) (Jf _) hkok h hsc hat hsok (by omega) (fun y hy F2 H2 s2 N2 K2 h2 hsc2 hat2 hok2 hN2 hK2=>?_) fun s1 H1 h1 st1 ex1=>?_
 ·have hys:=Qar hy;exact Qbg8 (hE y.size (by omega)) (Jf _) (Qqt hkok _ hy) h2 hsc2 hat2 hok2 hN2 hK2
 obtain⟨ars,hars⟩:∃ars,(Qab (Qa1 v 0) (Qce s.fns) x.kids s.d).2=ars:=⟨_,rfl⟩;rw[hars];have fin:∀(op m:Int) (s4:IS),Qasl x.op=op→(if x.op=13 then Qce s.fns x.name else 0)=m→s4.d=s1.d.make op m ars→x.low (Qa1 v 0) (Qce s.fns) s.d=(s4.d,s1.regs):=by
  intro op m s4 e1 e2 ex4;rw[Ex.low_eq,if_neg (by simpa using hc1),if_neg (by simpa using hc2),if_neg (by simpa using hc3),e1,e2,ex4,hars,←ex1];rfl
 have fn1:=st1.fn.1;simp only[go_sem,Qil];refine Q5 ?_;refine Qa ?_;simp only[go_sem];refine Qg (Qe ?_);refine Qa ?_;simp only[go_sem];refine Qc rfl ?_ ?_
 ·intro hc;refine Qa ?_;simp only[go_sem];refine Qyi h1 (st1.at_ hat) (st1.ok _ hsok) (by omega) fun s2 H2 h2 st2 ex2=>?_;simp only[go_sem,Qim];refine Qi ?_;exact retf _ _ s2 H2 h2 ((st1.trans st2).mono (by omega)) (fin _ _ s2 (by rw[show x.op=11 by simpa using hc];rfl) (by rw[show x.op=11 by simpa using hc];try rfl) ex2) (by simp[lk];try rfl)
 intro hc4;refine Qa ?_;simp only[go_sem];refine Qc rfl ?_ ?_
 ·intro hc;refine Qa ?_;simp only[go_sem];refine Qyi h1 (st1.at_ hat) (st1.ok _ hsok) (by omega) fun s2 H2 h2 st2 ex2=>?_;simp only[go_sem,Qin];refine Qi ?_;exact retf _ _ s2 H2 h2 ((st1.trans st2).mono (by omega)) (fin _ _ s2 (by rw[show x.op=12 by simpa using hc];rfl) (by rw[show x.op=12 by simpa using hc];try rfl) ex2) (by simp[lk];try rfl)
 intro hc5;refine Qa ?_;simp only[go_sem];refine Qc rfl ?_ ?_
 ·intro hc;have hw1:=h1.hw;refine Qaf ?_;simp only[go_sem,hw1,IS.o];refine Qax1 ?_;simp only[go_sem,Qip];refine Qyi h1 (st1.at_ hat) (st1.ok _ hsok) (by omega) fun s2 H2 h2 st2 ex2=>?_;simp only[go_sem,Qio];refine Qi ?_;rw[Qbgy,fn1]at ex2;exact retf _ _ s2 H2 h2 ((st1.trans st2).mono (by omega)) (fin _ _ s2 (by rw[show x.op=13 by simpa using hc];rfl) (by rw[if_pos (by simpa using hc)]) ex2) (by simp[lk];try rfl)
 intro hc6;refine Qf ?_;try simp only[go_sem]
 refine Qa ?_;simp only[go_sem];refine Qyi h1 (st1.at_ hat) (st1.ok _ hsok) (by omega) fun s2 H2 h2 st2 ex2=>?_;simp only[go_sem,Qiq];refine Qi ?_;exact retf _ _ s2 H2 h2 ((st1.trans st2).mono (by omega)) (fin _ _ s2 (by rw[Qasl,if_neg (by simpa using hc4),if_neg (by simpa using hc5),if_neg (by simpa using hc6)]) (by rw[if_neg (by simpa using hc6)]) ex2) (by simp[lk];try rfl)
theorem Qboy (n:Nat):IExX n:=by
 induction n using Nat.strongRecOn with
 |ind n ih=>exact Qbl1 ih
end Go.AE.Y
namespace Go.AE.Y
open Go.Proofs.Tryz
variable {F H:Heap}{w:Nat}{s:LS}{K:V→Heap→Prop}
def row9 (p:List UInt8×Nat):List C:=[.str p.1,.int .i64 p.2,.int .i64 0]
def Qrg (v:Vars):List (List C):=(v.flatten.map row9).reverse
theorem Qrh (v:Vars):Qrg ([]::v)=Qrg v:=by simp[Qrg]
theorem Qbiv (m b:List (List UInt8×Nat))(r:Vars):Qrg ((m++b)::r)=Qrg (b::r)++(m.map row9).reverse:=by simp[Qrg]
theorem Qbc7 (m b:List (List UInt8×Nat))(r:Vars):(Qrg ((m++b)::r)).take (Qrg (b::r)).length=Qrg (b::r):=by rw[Qbiv,List.take_left]
theorem Qa2p (b:List (List UInt8×Nat))(r:Vars)(s:List UInt8)(n:Nat):Qrg (Qaj (b::r) s n)=Qrg (b::r)++[row9 (s,n)]:=by simp[Qrg,Qaj]
theorem Qakh (v:Vars):rgR (Qrg v)=Qa1 v (-1):=by
 funext name
 have h:(hasN name ∘ row9)=fun p:List UInt8×Nat=>decide (p.1=name):=rfl;rw[rgR,Qrg,List.reverse_reverse,List.find?_map,h,Qa1,Vars.find];cases v.flatten.find? fun p=>decide (p.1=name) <;> rfl
theorem Qac5 (rg fi:List UInt8→Int)(l:List Ex)(s:Lw)(h:0<l.length):Qab rg fi (l.take 1) s=((l[0].low rg fi s).1,[(l[0].low rg fi s).2]):=by
 match l,h with
 |x::r,_=>simp[Qab]
theorem St.low_eq (d:Int)(fi:List UInt8→Int)(x:St)(w:Lv):x.low d fi w =
  if x.op=6 then
   let b:=w.s.bs.length;let s1:=(w.s.add 3).jump 1 0 [(b:Int)] b;let s2:=(Qab (Qa1 w.v d) fi (x.args.take 1) s1).1;let s3:=s2.jump 2 ((Qab (Qa1 w.v d) fi (x.args.take 1) s1).2.getD 0 0) [(b:Int)+1,(b:Int)+2] (b+1);let w4:=Qak d fi x.body ⟨s3,[]::w.v,w.next⟩
   ⟨w4.s.jump 1 0 [(b:Int)] (b+2),w.v,w4.next⟩
  else if x.op=5 then
   let s1:=(Qab (Qa1 w.v d) fi x.args w.s).1;let b:=s1.bs.length;let s2:=(s1.add 3).jump 2 ((Qab (Qa1 w.v d) fi x.args w.s).2.getD 0 0) [(b:Int),(b:Int)+1] b;let w3:=Qak d fi x.body ⟨s2,[]::w.v,w.next⟩;let w4:=Qak d fi x.els ⟨w3.s.jump 1 0 [(b:Int)+2] (b+1),[]::w.v,w3.next⟩
   ⟨w4.s.jump 1 0 [(b:Int)+2] (b+2),w.v,w4.next⟩
  else w.one d fi x.op x.name x.args:=by cases x;simp only[St.low,St.op,St.name,St.args,St.body,St.els];rfl
theorem St.low_top {d:Int}{fi:List UInt8→Int}{x:St}{w:Lv}{b:List (List UInt8×Nat)}{r:Vars}(h:w.v=b::r):∃m,(x.low d fi w).v=(m++b)::r:=by
 rw[St.low_v,h];split
 ·exact⟨[(x.name,w.next)],rfl⟩
 ·exact⟨[],rfl⟩
theorem Qst {d:Int}{fi:List UInt8→Int}:∀{l:List St} {w:Lv} {b:List (List UInt8×Nat)} {r:Vars},w.v=b::r→∃m,(Qak d fi l w).v=(m++b)::r
 |[],w,b,r,h=>⟨[],by rw[Qak];exact h⟩
 |x::l,w,b,r,h=>by
  obtain⟨m,hm⟩:=St.low_top (d:=d) (fi:=fi) (x:=x) h;obtain⟨m2,hm2⟩:=Qst (d:=d) (fi:=fi) (l:=l) hm;exact⟨m2++m,by rw[Qak,hm2,Ji]⟩
def LTv (s:LS)(l:Lv):Prop:=LTo s l.s (Qrg l.v) l.next
def LwSt (n:Nat):Prop:=∀(x:St) (F H:Heap) (w:Nat) (s:LS) (N:Nat) (K:V→Heap→Prop) (l:Lv),l.v≠[]→LTv s l→x.size≤n→x.ok→LInv F H w s→s.at_<s.blocks.length→s.ok N→N+10 * x.size≤2^38→
  (∀(s':LS) (H':Heap),LInv F H' w s'→LStep s s' (10 * x.size)→LTv s' (x.low (-1) (Qce s.fns) l)→K (.tup []) H')→Qj prog Qtd [.c (.ptr w 0),.ag x.cells] H K
def Qbr1 (n:Nat):Prop:=∀(x:St) (F H:Heap) (w:Nat) (s:LS) (N:Nat) (K:V→Heap→Prop) (l:Lv),l.v≠[]→LTv s l→x.op=6→x.size≤n→x.ok→LInv F H w s→s.at_<s.blocks.length→s.ok N→N+10 * x.size≤2^38→
  (∀(s':LS) (H':Heap),LInv F H' w s'→LStep s s' (10 * x.size)→LTv s' (x.low (-1) (Qce s.fns) l)→K (.tup []) H')→Qj prog Qtc [.c (.ptr w 0),.ag x.cells] H K
def Qbk3 (n:Nat):Prop:=∀(l:List St) (fl:Bool) (F H:Heap) (w:Nat) (s:LS) (N:Nat) (K:V→Heap→Prop) (lv:Lv),lv.v≠[]→LTv s lv→Qh l≤n→Qcy l→LInv F H w s→s.at_<s.blocks.length→s.ok N→N+10 * Qh l≤2^38→
  (∀(s':LS) (H':Heap),LInv F H' w s'→LStep s s' (10 * Qh l)→LTo s' (Qak (-1) (Qce s.fns) l lv).s (Qrg lv.v) (Qak (-1) (Qce s.fns) l lv).next→K (.tup []) H')→Qj prog Qdn [.c (.ptr w 0),.c (.sl fl 5 (Qk l))] H K
theorem Qbrm {n:Nat}(hS:LwSt n):Qbk3 n:=by
 intro l fl F H w s N K lv hne hto hn hok h hat hsok hN hK;obtain⟨tb,tr,htb⟩:∃tb tr,lv.v=tb::tr:=by
  cases hv:lv.v with
  |nil=>exact absurd hv hne
  |cons b r=>exact⟨b,r,rfl⟩
 have hw:=h.hw;obtain⟨hv1,hv2⟩:=h.vget;have hvl:=h.gv.lenC;have hvo:=h.gv.isOw;refine Qb Qad Qayo ?_;refine Qa ?_;simp only[go_sem,hw,LS.o,hv1,hvl,hvo];intro hvlim;refine Q5 ?_;refine Qa ?_;simp only[go_sem];refine Qg (Qe (Q2 (fun n e1 H1=>∃(i:Nat) (s':LS),n=l.length-i∧i≤l.length∧LInv F H1 w s'∧LStep s s' (10 * Qh (l.take i))∧LTv s' (Qak (-1) (Qce s.fns) (l.take i) lv)∧e1=[(0,.c (.ptr w 0)),(1,.c (.sl fl 5 (Qk l))),(4,.c (.int .i64 s.vars.length)),(5,.c (.int .i64 i))]) l.length ?_ ?_))
 ·exact⟨0,s,by omega,by omega,h,(LStep.refl s).mono (by omega),by rw[Js,Qak];exact hto,rfl⟩
 ·rintro n e1 H1 ⟨i,s1,hn1,hi,h1,st1,ex1,rfl⟩;refine Q5 ?_;refine Qa ?_;simp only[go_sem,Qv];intro hl;simp only[LIM]at hl;refine Qg (Qc rfl ?_ ?_)
  ·intro hc;have hlt:i<l.length:=by simpa using hc
   have hm:=Qbl (Jb hlt);have htk:=Qgz hlt;have htl:=Qbm l (i+1);refine Qf ?_;simp only[go_sem];refine Qg (Qe (Qp ?_));simp only[go_sem,hlt,Qv,Qbg _ _ hlt,St.take5,St.allOw,St.cells_len];refine hS l[i] F H1 w s1 _ _ (Qak (-1) (Qce s.fns) (l.take i) lv) (by obtain⟨m,hm⟩:=Qst (d:=-1) (fi:=Qce s.fns) (l:=l.take i) htb;rw[hm];simp) ex1 (by omega) (Qarv hok _ (Jb hlt)) h1 (st1.at_ hat) (st1.ok _ hsok) (by omega) fun s2 H2 h2 st2 ex2=>?_;refine Qp ?_;simp only[go_sem,X.next];exact⟨Qm (by omega) (by omega),l.length-(i+1),by omega,i+1,s2,rfl,by omega,h2,(st1.trans st2).mono (by rw[htk];omega),by rw[Jc hlt,Qaxj,Qak,Qak,←st1.fn.1];rw[←st1.fn.1]at ex2;exact ex2,rfl⟩
  ·intro hc;have hge:l.length≤i:=by simpa using hc
   rw[Je hge]at st1 ex1;have hw1:=h1.hw;obtain⟨hv1',hv2'⟩:=h1.vget;have hvl':=h1.gv.lenC;have hvo':=h1.gv.isOw;have hve':=h1.gv.elemSz;have hvle:=st1.vl;have hrv:∀r∈s1.vars.take s.vars.length,VarRow r:=fun r hr=>h1.rv r (List.mem_of_mem_take hr);have fin:∀(H2:Heap) (c:C),H2=H1.set w (LS.o { s1 with vc:=c })→VGr s1.lv (s1.vars.take s.vars.length) c→Qq Qtn K .nrm [] H2:=by
    intro H2 c h2 hg;simp only[Qq,Q7,Qtn];refine⟨by simp,hK { s1 with vc:=c,vars:=s1.vars.take s.vars.length } H2 (h1.setw h2 rfl rfl rfl rfl hg hrv) ⟨st1.bl,fun M hM=>?_,by simp;omega,st1.at_,st1.fn⟩ ⟨ex1.d,by
     obtain⟨m,hm⟩:=Qst (d:=-1) (fi:=Qce s.fns) (l:=l) htb;show s1.vars.take s.vars.length=_;rw[ex1.vars,hto.vars,hm,htb,Qbc7],ex1.next⟩⟩
    have:=st1.ok M hM;exact⟨this.r0,this.r1,this.n0,this.n1,this.b1,this.i1,by have:=this.v1;simp;omega⟩
   refine Q1 ?_;simp only[go_sem,X.next];refine Qp ?_;rcases h1.gv with ⟨g1,g2,g3⟩|⟨y,all,k,g1,g2,g3,g4⟩
   ·have hz:s.vars.length=0:=(by rw[g2]at hvle;simpa using hvle);simp only[go_sem,hw1,LS.o,g1,hz,Jao,List.drop_nil];refine⟨⟨by omega,by omega⟩,fun H2 h2=>?_⟩;refine fin H2 (.sl true 3 []) h2 (.inl ⟨rfl,by rw[g2];simp,g3⟩)
   ·rw[g1]at hv1' hvl';have hk:k=s1.vars.length:=(by simpa[lenC]using hvl');simp only[go_sem]at hv1';simp only[go_sem,hw1,LS.o,g1,hv1'];refine⟨⟨by omega,by omega⟩,fun H2 h2=>?_⟩;refine fin H2 (.vsl y 3 0 (s.vars.length-0)) h2 (.inr ⟨y,all,s.vars.length-0,rfl,by omega,?_,g4⟩);rw[g3,List.take_take];congr 1;omega
end Go.AE.Y
namespace Go.AE.Y
mutual
theorem Ex.form_ok:∀(x:Ex) (d:Int),x.form d=true→x.ok
 |.mk op n name kids,d,h=>by
  rw[Ex.form,Jh,Jh]at h;obtain⟨⟨_,hh⟩,hk⟩:=h;simp only[Qakv,Jh,decide_eq_true_eq]at hh;have h2:=hh.1.1.1.1.2;rw[Ex.ok];refine⟨fun h10=>?_,Qav6 kids _ hk⟩;subst h10;simp only[Qfd,Qfc]at h2;omega
theorem Qav6:∀(l:List Ex) (d:Int),Qiz l d=true→Qda l
 |[],_,_=>by simp[Qda]
 |x::r,d,h=>by
  rw[Qiz,Jh]at h;rw[Qda];exact⟨Ex.form_ok x d h.1,Qav6 r d h.2⟩
end
theorem Qa53 {l:List Ex}(h:∀a∈l,a.valid=true):Qda l:=by
 induction l with
 |nil=>simp[Qda]
 |cons x r ih=>
  have h1:=h x (by simp);rw[Ex.valid,Jh]at h1;rw[Qda];exact⟨Ex.form_ok x _ h1.1,ih fun a ha=>h a (by simp[ha])⟩
theorem Qaxt {l:List Ex}(h:∀a∈l,a.valid=true):Qr l≤l.length * 30:=by
 induction l with
 |nil=>simp[Qr]
 |cons x r ih=>
  have h1:=h x (by simp);rw[Ex.valid,Jh,decide_eq_true_eq]at h1;have h2:=ih fun a ha=>h a (by simp[ha]);simp only[Qr,Jk];omega
theorem Qbpg (op:Int):argN op≤2:=by rw[argN];split <;> omega
mutual
theorem St.form_size:∀(x:St) (d:Int),x.form d=true→x.size≤100 * x.cnt∧x.ok
 |.mk op name args body els,d,h=>by
  rw[St.form_eq]at h;simp only[St.op,St.name,St.args,St.body,St.els,Jh]at h;obtain⟨⟨⟨_,hh⟩,hb⟩,he⟩:=h;simp only[Q7u,Jh,decide_eq_true_eq,List.all_eq_true]at hh;have hv:∀a∈args,a.valid=true:=hh.1.1.1.2;have hl:args.length=argN op:=hh.1.1.1.1.1.1.2;have h0:0<argN op:=by rw[argN];split <;> omega
  have h2:=Qbpg op;have h3:=Qaxt hv;obtain⟨b1,b2⟩:=Qp4 body _ hb;obtain⟨e1,e2⟩:=Qp4 els _ he;have hs:=(St.mk op name args body els).size_eq;simp only[St.args,St.body,St.els]at hs;refine⟨?_,?_⟩
  ·rw[hs,St.cnt];omega
  ·rw[St.ok_eq];simp only[St.args,St.body,St.els];refine⟨by omega,?_,b2,e2⟩;exact Qa53 hv
theorem Qp4:∀(l:List St) (d:Int),Qan l d=true→Qh l≤100 * Qby l∧Qcy l
 |[],_,_=>by simp[Qh,Qby,Qcy]
 |x::r,d,h=>by
  rw[Qan,Jh]at h;obtain⟨a1,a2⟩:=St.form_size x d h.1;obtain⟨r1,r2⟩:=Qp4 r d h.2;rw[Qh,Qby,Qcy];exact⟨by omega,a2,r2⟩
end
mutual
theorem Ex.low_dd {v:Vars}{d d':Int}{fi:List UInt8→Int}:∀(x:Ex) (s:Lw),AllV v x.pre→x.low (Qa1 v d) fi s=x.low (Qa1 v d') fi s
 |.mk op m name kids,s,h=>by
  simp only[Ex.pre]at h;have hk:AllV v (Qac kids):=fun e he=>h e (Jl _ he);simp only[Ex.low];by_cases h1:op=1
  ·simp only[h1,if_true]
  ·simp only[h1,if_false];by_cases h2:op=2
   ·simp only[h2,if_true];have:=h (.mk op m name kids) Jt (by simpa[Ex.op]using h2);obtain⟨r,hr⟩:=J8.1 this;have hr:v.find name=some r:=hr;simp only[Qa1,hr]
   ·simp only[h2,if_false];by_cases h3:op=10
    ·simp only[h3,if_true];exact Qbgv kids s hk
    ·simp only[h3,if_false];rw[Qx6 kids s hk]
theorem Qx6 {v:Vars}{d d':Int}{fi:List UInt8→Int}:∀(l:List Ex) (s:Lw),AllV v (Qac l)→Qab (Qa1 v d) fi l s=Qab (Qa1 v d') fi l s
 |[],s,_=>by simp[Qab]
 |x::r,s,h=>by
  simp only[Qac]at h;simp only[Qab];rw[Ex.low_dd (d':=d') x s h.app.1,Qx6 (d':=d') r _ h.app.2]
theorem Qbgv {v:Vars}{d d':Int}{fi:List UInt8→Int}:∀(l:List Ex) (s:Lw),AllV v (Qac l)→Qu3 (Qa1 v d) fi l s=Qu3 (Qa1 v d') fi l s
 |[],s,_=>by simp[Qu3]
 |x::r,s,h=>by
  simp only[Qac]at h;simp only[Qu3];rw[Ex.low_dd (d':=d') x s h.app.1,Qbce (d':=d') r _ _ _ h.app.2]
theorem Qbce {v:Vars}{d d':Int}{fi:List UInt8→Int}:∀(l:List Ex) (t:Int) (r:Nat) (s:Lw),AllV v (Qac l)→Qnu (Qa1 v d) fi t r l s=Qnu (Qa1 v d') fi t r l s
 |[],t,r,s,_=>by simp[Qnu]
 |x::l,t,r,s,h=>by
  simp only[Qac]at h;simp only[Qnu];rw[Ex.low_dd (d':=d') x s h.app.1]
end
mutual
theorem St.low_dd {fns:List Fn}{k:Nat}{d d':Int}{fi:List UInt8→Int}:∀(x:St) (dp:Int) (v:Vars) (n:Nat) (s:Lw),x.form dp=true→(x.ck fns k ⟨v,0,n⟩).c=0→x.low d fi ⟨s,v,n⟩=x.low d' fi ⟨s,v,n⟩
 |.mk op name args body els,dp,v,n,s,hf,hc=>by
  obtain⟨f1,f2,f3,f4,f5,_⟩:=Qqw hf;obtain⟨c1,c2,c3,c4,c5⟩:=Qaav hc;simp only[St.low];by_cases h6:op=6
  ·subst h6;simp only[if_true,show ¬(6:Int)=1 by decide,if_false,Jar]at *;have hall:AllV v (Qac (args.take 1)):=by
    have:Qac args=Qac (args.take 1)++Qac (args.drop 1):=(by rw[←Qac6,Ju]);rw[this]at c1;exact c1.app.1
   rw[Qx6 (d':=d') _ _ hall,Q3j (d':=d') body (dp-1) ([]::v) n _ f1 c3]
  ·simp only[h6,if_false];by_cases h5:op=5
   ·subst h5;simp only[if_true,show ¬(5:Int)=1 by decide,if_false,Jar]at *;rw[Qx6 (d':=d') _ _ c1,Q3j (d':=d') body (dp-1) ([]::v) n _ f1 c3];have hbn:=fun s'=>Q37 (d:=d') (fi:=fi) body (dp-1) ⟨s',[]::v,n⟩ f1;simp only at hbn;rw[hbn,Q3j (d':=d') els (dp-1) ([]::v) (n+Qu body) _ f2 c4]
   ·simp only[h5,if_false];unfold Lv.one;simp only[];rw[Qx6 (d':=d') _ _ c1];by_cases h1:op=1
    ·simp only[h1,if_true]
    ·simp only[h1,if_false];by_cases h2:op=2
     ·obtain⟨r,hr⟩:=J8.1 (c2 h2);simp only[h2,if_true,Qa1,hr]
     ·simp only[h2,if_false]
theorem Q3j {fns:List Fn}{k:Nat}{d d':Int}{fi:List UInt8→Int}:∀(l:List St) (dp:Int) (v:Vars) (n:Nat) (s:Lw),Qan l dp=true→(Qau fns k l ⟨v,0,n⟩).c=0→Qak d fi l ⟨s,v,n⟩=Qak d' fi l ⟨s,v,n⟩
 |[],dp,v,n,s,_,_=>by simp[Qak]
 |x::r,dp,v,n,s,hf,hc=>by
  simp only[Qan,Jh]at hf;obtain⟨c1,c2⟩:=Qakj hc;simp only[Qak];rw[St.low_dd (d':=d') x dp v n s hf.1 c1];have e1:=St.low_v d' fi x ⟨s,v,n⟩;have e2:=St.low_n (d:=d') (fi:=fi) x dp ⟨s,v,n⟩ hf.1;simp only at e1 e2;have e3:x.low d' fi ⟨s,v,n⟩=⟨(x.low d' fi ⟨s,v,n⟩).s,if x.op=1 then Qaj v x.name n else v,n+x.lets⟩:=by
   generalize x.low d' fi ⟨s,v,n⟩=R at e1 e2⊢;obtain⟨r1,r2,r3⟩:=R;simp only at e1 e2;rw[e1,e2]
  rw[e3];exact Q3j (d':=d') r dp _ _ _ hf.2 c2
end
theorem FineP.low_dd {fns:List Fn}(h:FineP fns)(d d':Int):Qbd d fns=Qbd d' fns:=by
 rw[Qbd,Qbd];refine List.map_congr_left fun f hf=>?_;obtain⟨k,hk,rfl⟩:=J5.1 hf;obtain⟨_,_,h3,_,_,_,h7⟩:=h.fn hk;rw[Qo6,Qo6,Q3j (d':=d') _ _ _ _ _ h7 h3]
theorem FineP.sizes {fns:List Fn}(h:FineP fns):∀k (hk:k<fns.length),Qh fns[k].body≤4000∧Qcy fns[k].body∧fns[k].params.length≤3:=by
 intro k hk;obtain⟨_,_,_,_,_,h6,h7⟩:=h.fn hk;obtain⟨a1,a2⟩:=Qp4 _ _ h7;have hv:=h.v;simp only[Qqf,Jh,decide_eq_true_eq]at hv;have hc:Qby fns[k].body≤Qes fns:=by
  have h1:=Qac4 hk;have h2:Qes (fns.take (k+1))≤Qes fns:=by
   conv=>rhs;rw[←Ju (k+1) fns,Qa03]
   omega
  omega
 exact⟨by omega,a2,h6⟩
attribute [local go_sem] cond_true cond_false Bool.not_true Bool.not_false
open Go.Proofs.Tryz
variable {F H H':Heap}{w q:Nat}{s:IS}{K:V→Heap→Prop}{M Lg:List (Nat×Obj)}{sc:ScD}{v:Vars}{ls:List Nat}{lv:Lv}
def lobs (q:Nat)(nx:Int)(sc:ScD):List (Nat×Obj):=(q,.st [.int .i64 nx])::sc.ob
structure BSt (F H:Heap)(w:Nat)(s:IS)(q:Nat)(sc:ScD)(lv:Lv)(ls:List Nat):Prop where
 inv:IInv F H w s
 kn:Kn F H [] (s.L w++lobs q lv.next sc)
 ok:ScD.ok vI sc lv.v
 ls:sc.ls=ls
 len:∀x∈sc,x.2.2.length≤lv.next
 d:s.d=lv.s
theorem BSt.top {b:List (List UInt8×Nat)}{r:Vars}(h:BSt F H w s q sc lv ls)(hv:lv.v=b::r):∃l0 a0 es0 sr,sc=(l0,a0,es0)::sr∧MapOk vI es0 b∧ScD.ok vI sr r:=by
 have:=h.ok;rw[hv]at this
 match sc,this with
 |(l0,a0,es0)::sr,h=>exact⟨l0,a0,es0,sr,rfl,h.1,h.2⟩
theorem Qbm8 (w:Lv)(d:Int)(fi:List UInt8→Int)(op:Int)(name:List UInt8)(args:List Ex):(w.one d fi op name args).next≤w.next+1∧w.next≤(w.one d fi op name args).next:=by
 unfold Lv.one;simp only[];split
 ·exact⟨Jf _,Jaa _⟩
 ·split
  ·exact⟨Jaa _,Jf _⟩
  ·split
   ·exact⟨Jaa _,Jf _⟩
   ·split
    ·exact⟨Jaa _,Jf _⟩
    ·split <;> exact⟨Jaa _,Jf _⟩
mutual
theorem St.low_next {d:Int}{fi:List UInt8→Int}:∀(x:St) (w:Lv),(x.low d fi w).next≤w.next+x.size∧w.next≤(x.low d fi w).next
 |.mk op name args body els,w=>by
  have hs:=(St.mk op name args body els).size_eq;simp only[St.args,St.body,St.els]at hs;simp only[St.low];split
  ·have h1:∀s' v' n',(Qak d fi body ⟨s',v',n'⟩).next≤n'+Qh body∧n'≤(Qak d fi body ⟨s',v',n'⟩).next:=fun s' v' n'=>Qji body ⟨s',v',n'⟩;dsimp only;exact⟨Jv (h1 _ _ _).1 (by omega),(h1 _ _ _).2⟩
  ·split
   ·have h1:∀s' v' n',(Qak d fi body ⟨s',v',n'⟩).next≤n'+Qh body∧n'≤(Qak d fi body ⟨s',v',n'⟩).next:=fun s' v' n'=>Qji body ⟨s',v',n'⟩;have h2:∀s' v' n',(Qak d fi els ⟨s',v',n'⟩).next≤n'+Qh els∧n'≤(Qak d fi els ⟨s',v',n'⟩).next:=fun s' v' n'=>Qji els ⟨s',v',n'⟩;dsimp only;exact⟨Jv (h2 _ _ _).1 (Jv (Nat.add_le_add_right (h1 _ _ _).1 _) (by omega)),Jv (h1 _ _ _).2 (h2 _ _ _).2⟩
   ·have h1:=Qbm8 w d fi op name args;exact⟨by omega,h1.2⟩
theorem Qji {d:Int}{fi:List UInt8→Int}:∀(l:List St) (w:Lv),(Qak d fi l w).next≤w.next+Qh l∧w.next≤(Qak d fi l w).next
 |[],w=>by simp[Qak]
 |x::r,w=>by
  have h1:=St.low_next (d:=d) (fi:=fi) x w;have h2:=Qji (d:=d) (fi:=fi) r (x.low d fi w);rw[Qak,Qh];omega
end
def IBlX (n:Nat):Prop:=∀(l:List St) (fl:Bool) (F H:Heap) (w q:Nat) (s:IS) (N:Nat) (sc:ScD) (lv:Lv) (ls:List Nat) (K:V→Heap→Prop),Qh l≤n→Qcy l→BSt F H w s q sc lv ls→lv.v≠[]→s.at_<s.blocks.length→s.ok N→lv.next≤N→N+10 * Qh l≤2^38→
  (∀(s':IS) (H':Heap) (sc':ScD),BSt F H' w s' q sc' (Qak 0 (Qce s.fns) l lv) ls→IStep s s' (10 * Qh l)→K (.tup []) H')→
  Qj prog Qa6 [.c (.ptr w 0),.c (.sl fl 5 (Qk l)),.c (scC ls),.c (.ptr q 0)] H K
theorem Qa6b {n N:Nat}{body:List St}{fl:Bool}{x9:Nat}{o9:Obj}(hB:IBlX n)(hn:Qh body≤n)(hok:Qcy body)(h:IInv F H w s)(kn:Kn F H [] (s.L w++((x9,o9)::lobs q lv.next sc)))(hsc:ScD.ok vI sc lv.v)(hls:sc.ls=ls)
  (hlen:∀x∈sc,x.2.2.length≤lv.next) (hd:s.d=lv.s) (hat:s.at_<s.blocks.length) (hsok:s.ok N) (hnx:lv.next≤N) (hN:N+10 * Qh body≤2^38)
  {K2:V→Heap→Prop} (hK:∀(lm:Nat) (H1:Heap),H1 x9=o9→(∀K3:V→Heap→Prop,(∀(s':IS) (H':Heap) (sc':ScD),IInv F H' w s'→Kn F H' [] (s'.L w++((x9,o9)::lobs q ((Qak 0 (Qce s.fns) body ⟨lv.s,[]::lv.v,lv.next⟩).next:Int) sc'))→ScD.ok vI sc' lv.v→sc'.ls=ls→
   (∀x∈sc',x.2.2.length≤(Qak 0 (Qce s.fns) body ⟨lv.s,[]::lv.v,lv.next⟩).next)→s'.d=(Qak 0 (Qce s.fns) body ⟨lv.s,[]::lv.v,lv.next⟩).s→IStep s s' (10 * Qh body)→K3 (.tup []) H')→
   Qj prog Qa6 [.c (.ptr w 0),.c (.sl fl 5 (Qk body)),.c (.pp [.mp lm,scC ls]),.c (.ptr q 0)] H1 K3)→K2 (.c (.pp [.mp lm,scC ls])) H1) :
  Qj prog Qam [.c (scC ls)] H K2:=by
 refine Qp2 (Qsr ls) fun lm nn H1 hlm h1=>hK lm H1 ((kn.al hlm h1).get (x9,o9) (by simp)).1 fun K3 hK3=>?_;have kn1:=kn.al hlm h1;have kn2:Kn F H1 [] ((s.L w++lobs q lv.next ((lm,nn,[])::sc))++[(x9,o9)]):=kn1.perm (by
  simp only[lobs,ScD.ob,Jw,Ji,Jp];refine .append_left _ ?_;refine (List.Perm.swap _ _ _).trans (.cons _ ?_);refine List.Perm.trans (l₂:=(lm,Obj.map nn [])::(x9,o9)::List.map (fun x=>(x.1,Obj.map x.2.1 x.2.2)) sc) ?_ (.cons _ ?_)
  ·exact (Jg (l₁:=(x9,o9)::List.map (fun x=>(x.1,Obj.map x.2.1 x.2.2)) sc) (l₂:=[(lm,Obj.map nn [])]))
  ·exact (Jg (l₁:=[(x9,o9)])))
 obtain⟨F',k1,k2,k3,k4⟩:=kn2.sideX;have b0:BSt F' H1 w s q ((lm,nn,[])::sc) ⟨lv.s,[]::lv.v,lv.next⟩ (lm::ls):=
  ⟨⟨k1.drop,h.gb,h.gi,h.ri⟩,k1,⟨MapOk.nil vI,hsc⟩,by rw[←hls];rfl,fun x hx=>by
   rcases J2.1 hx with rfl|hx
   ·exact Nat.zero_le _
   ·exact hlen x hx,hd⟩
 refine hB body fl F' H1 w q s N _ ⟨lv.s,[]::lv.v,lv.next⟩ (lm::ls) K3 hn hok b0 (by simp) hat hsok hnx hN fun s' H' sc' b' st'=>?_;have kn3:=k4 _ _ b'.kn;obtain⟨m,hm⟩:=Qst (d:=0) (fi:=Qce s.fns) (l:=body) (w:=⟨lv.s,[]::lv.v,lv.next⟩) (b:=[]) (r:=lv.v) rfl;obtain⟨l0,a0,es0,sr,rfl,_,hsr⟩:=b'.top hm;have hls':=b'.ls;simp only[ScD.ls,Jw,List.cons.injEq]at hls';have kn4:Kn F H' [] ((s'.L w++lobs q ((Qak 0 (Qce s.fns) body ⟨lv.s,[]::lv.v,lv.next⟩).next:Int) sr)++[(x9,o9)]):=
  kn3.sub (.append (.append (List.Sublist.refl _) (.cons_cons _ (.cons _ (List.Sublist.refl _)))) (List.Sublist.refl _))
 have kn5:Kn F H' [] (s'.L w++((x9,o9)::lobs q ((Qak 0 (Qce s.fns) body ⟨lv.s,[]::lv.v,lv.next⟩).next:Int) sr)):=kn4.perm (by
  rw[Ji];exact .append_left _ Jg)
 exact hK3 s' H' sr ⟨kn5.drop,b'.inv.gb,b'.inv.gi,b'.inv.ri⟩ kn5 hsr hls'.2 (fun x hx=>b'.len x (Jl _ hx)) b'.d st'
theorem BSt.of {x9:Nat}{o9:Obj}{nx:Nat}(h:IInv F H w s)(kn:Kn F H [] (s.L w++((x9,o9)::lobs q nx sc)))(ok:ScD.ok vI sc v)(hls:sc.ls=ls)(len:∀x∈sc,x.2.2.length≤nx)(e:lv=⟨s.d,v,nx⟩):BSt F H w s q sc lv ls:=by
 subst e;exact⟨h,kn.sub (.append (List.Sublist.refl _) (.cons _ (List.Sublist.refl _))),ok,hls,len,rfl⟩
theorem Qbcj {n N:Nat}{x:Ex}(hE:IExX n)(hn:x.size≤n)(hok:x.ok)(h:IInv F H w s)(hsc:ScIn F sc v)(hat:s.at_<s.blocks.length)(hsok:s.ok N)(hN:N+10 * x.size≤2^38)
  (hK:∀(s':IS) (H':Heap),IInv F H' w s'→IStep s s' (10 * x.size)→s'.d=(x.low (Qa1 v 0) (Qce s.fns) s.d).1→K (.c (.int .i64 (x.low (Qa1 v 0) (Qce s.fns) s.d).2)) H') :
  Qj prog Qdg [.ag x.cells,.c (.pp [.ptr w 0]),.c (.pp [scC sc.ls])] H K:=by
 have how:=Qsr sc.ls;refine Qb Qad Qwl ?_;refine Qa ?_;simp only[go_sem,x.cells_eq,how];refine Qa ?_;simp only[go_sem,how];have hx:=hE x F H w s N sc v;rw[x.cells_eq]at hx;refine hx _ hn hok h hsc hat hsok hN fun s1 H1 h1 st1 ex1=>?_;simp only[go_sem,Qfk];refine Qi ?_;simp only[go_sem,Qq,Q7,Qpr,Ja,forall_eq,RS.op];exact hK s1 H1 h1 st1 ex1
structure BEnv (e:Env)(w q:Nat)(ls:List Nat)(fl:Bool)(l:List St)(i:Nat):Prop where
 l3:lk 3 e=.c (.ptr q 0)
 l4:lk 4 e=.c (.pp [.ptr w 0])
 l6:lk 6 e=.c (.pp [scC ls])
 l16:lk 16 e=.c (.sl fl 5 (Qk l))
 l17:lk 17 e=.c (.int .i64 l.length)
 l18:lk 18 e=.c (.int .i64 i)
theorem Qbuf {n N:Nat}{x:St}{l:List St}{fl:Bool}{i:Nat}{e:Env}{Q:X→Env→Heap→Prop}(hB:∀m,m<n→IBlX m)(hn:x.size≤n)(hok:x.ok)(b:BSt F H w s q sc lv ls)(hne:lv.v≠[])(hat:s.at_<s.blocks.length)
  (hsok:s.ok N) (hnx:lv.next≤N) (hN:N+10 * x.size≤2^38) (he:BEnv e w q ls fl l i) (hi:i<l.length) (hx:l[i]=x)
  (hQ:∀(e':Env) (H':Heap) (s':IS) (sc':ScD),BEnv e' w q ls fl l i→BSt F H' w s' q sc' (x.low 0 (Qce s.fns) lv) ls→IStep s s' (10 * x.size)→Q8 prog Qif Q e' H') :
  Q8 prog Qig Q e H:=by
 obtain⟨l3,l4,l6,l16,l17,l18⟩:=he;obtain rfl:=b.ls;have how:=Qsr sc.ls;have hsz:=x.size_eq;have hok0:=hok;rw[St.ok_eq]at hok;obtain⟨hap,hao,hbo,heo⟩:=hok;have ham:=Qar (Jb hap);refine Qg (Qe ?_);refine Qa ?_;simp only[go_sem,l3,l4,l6,l16,l17,l18,how,hi,Qv,Qbg _ _ hi,hx,x.cells_eq];intro x9 hx9 H1 h1;have kn:Kn F H1 [] (s.L w++((x9,.st [.int .i64 0,.str [],.sl true 4 [],.sl true 5 [],.sl true 5 []])::lobs q lv.next sc)):=(b.kn.al hx9 h1).perm (by
  rw[Ji];exact .append_left _ Jg)
 have g9:H1 x9=_:=(kn.get (x9,.st [.int .i64 0,.str [],.sl true 4 [],.sl true 5 [],.sl true 5 []]) (by simp)).1;simp only[go_sem,Qih,g9,how];intro H2 h2;have kn:Kn F H2 [] (s.L w++((x9,.st [.int .i64 x.op,.str x.name,.sl false 4 (Qw x.args),.sl false 5 (Qk x.body),.sl false 5 (Qk x.els)])::lobs q lv.next sc)):=kn.stM h2;obtain⟨o9,ho9⟩:∃o9,Obj.st [.int .i64 x.op,.str x.name,.sl false 4 (Qw x.args),.sl false 5 (Qk x.body),.sl false 5 (Qk x.els)]=o9:=⟨_,rfl⟩;rw[ho9]at kn;obtain⟨F',hf,_,hM,back⟩:=(b.inv.re kn.drop).sideX kn;have hsc:ScIn F' sc lv.v:=⟨fun p hp=>hM p (Jl _ (Jl _ hp)),b.ok⟩;have g9f:F' x9=o9:=hM (x9,o9) (by simp);have g9:∀(H':Heap) (s':IS),IInv F' H' w s'→H' x9=.st [.int .i64 x.op,.str x.name,.sl false 4 (Qw x.args),.sl false 5 (Qk x.body),.sl false 5 (Qk x.els)]:=fun H' s' h'=>by
  rw[h'.kn.chg x9 (by rw[g9f,←ho9];nofun) (by simp),g9f,ho9]
 have g92:=g9 _ _ hf;simp only[l3,l4,l6,l16,l17,l18];refine Q5 ?_;refine Qa ?_;simp only[go_sem,g92,how];refine Qg (Qc rfl ?_ ?_)
 ·intro hc;have hop:x.op=6:=by simpa using hc
  have hb1:=hsok.b1;refine Qa ?_;simp only[go_sem,how];refine Qale (n:=3) hf hsok (by omega) fun s1 H3 h1 st1 hbb1 ex1=>?_;simp only[go_sem,Qii];refine Qa ?_;simp only[go_sem,how];refine Q6r (next:=[(s.blocks.length:Int)]) (at':=s.blocks.length) (N:=0) h1 (st1.at_ hat) (by omega) fun s2 H4 h2 st2 ex2=>?_;have hb2:=st2.bl;have st2:=st1.trans st2;have g94:=g9 _ _ h2;simp only[go_sem];refine Qaf ?_;simp only[go_sem,g94,how,hap,Ql,Qaq _ _ hap,Ex.take4,Ex.allOw,Ex.cells_len];refine⟨by omega,?_⟩;refine Qboy _ x.args[0] F' H4 w s2 _ sc lv.v _ (Jf _) (Qqt hao _ (Jb hap)) h2 hsc (st2.at_ hat) (st2.ok _ hsok) (by omega) fun s3 H5 h3 st3 ex3=>?_;have hb3:=st3.bl;have st3:=st2.trans st3;simp only[go_sem,Qij];refine Qa ?_;simp only[go_sem,how];refine⟨Qm (by omega) (by omega),Qm (by omega) (by omega),Qm (by omega) (by omega),?_⟩;rw[show ((s.blocks.length:Int)+1)=((s.blocks.length+1:Nat):Int)by omega,show ((s.blocks.length:Int)+2)=((s.blocks.length+2:Nat):Int)by omega];refine Q6r (next:=[((s.blocks.length+1:Nat):Int),((s.blocks.length+2:Nat):Int)]) (at':=s.blocks.length+1) (N:=0) h3 (st3.at_ hat) (by omega) fun s4 H6 h4 st4 ex4=>?_;have hb4:=st4.bl;have st4:=st3.trans st4;obtain⟨h4',kn4⟩:=back s4 H6 h4;have g96:=g9 _ _ h4;simp only[go_sem];refine Qaf ?_;simp only[go_sem,g96,how];refine Qa6b (fl:=false) (lv:=⟨s4.d,lv.v,lv.next⟩) (hB (Qh x.body) (by omega)) (Jf _) hbo h4' kn4 b.ok rfl b.len rfl (st4.at_ hat) (st4.ok _ hsok) (Jv hnx (by omega)) (by omega) fun lm H7 g97 call=>?_;rw[←ho9]at g97;simp only[go_sem,Qik,g97,how];refine call _ fun s5 H8 sc' h5 kn5 ok5 ls5 len5 d5 st5=>?_;have hb5:=st5.bl;have st5:=st4.trans st5;obtain⟨F2,hf2,_,_,back2⟩:=h5.sideX kn5;simp only[go_sem];refine Qa ?_;simp only[go_sem,how];refine⟨Qm (by omega) (by omega),?_⟩;rw[show ((s.blocks.length:Int)+2)=((s.blocks.length+2:Nat):Int)by omega];refine Q6r (next:=[(s.blocks.length:Int)]) (at':=s.blocks.length+2) (N:=0) hf2 (st5.at_ hat) (by omega) fun s6 H9 h6 st6 ex6=>?_;have st6:=st5.trans st6;obtain⟨h6,kn6⟩:=back2 s6 H9 h6;simp only[go_sem];refine Q1 ?_;simp only[go_sem,AE.X.next];have f2:s2.fns=s.fns:=st2.fn.1;have f4:s4.fns=s.fns:=st4.fn.1;rw[f4]at d5 len5 kn6;rw[f2,ex2,ex1,b.d]at ex3;have hs4:s4.d=_:=ex4;have elow:x.low 0 (Qce s.fns) lv=⟨s6.d,lv.v,(Qak 0 (Qce s.fns) x.body ⟨s4.d,[]::lv.v,lv.next⟩).next⟩:=by
   rw[ex6,d5,St.low_eq,if_pos hop,hs4,ex3];simp only[Qac5 _ _ _ _ hap,f2,ex2,ex1,b.d,IS.dlen,Jm,Int.natCast_add];rfl
  exact hQ _ H9 s6 sc' ⟨rfl,rfl,rfl,rfl,rfl,rfl⟩ (.of h6 kn6 ok5 ls5 len5 elow) (st6.mono (by omega))
 ·intro hc0;refine Qf ?_;try simp only[go_sem]
  refine Qa ?_;simp only[go_sem,g92,how];refine Qbg6 (n:=Qr x.args) (Jf _) hao hf hsc hat hsok (by omega) (fun y hy F2 H2 s2 N2 K2 h2 hsc2 hat2 hok2 hN2 hK2=>Qbcj (Qboy _) (Jf _) (Qqt hao _ hy) h2 hsc2 hat2 hok2 hN2 hK2) fun s1 H3 h1 st1 ex1=>?_;obtain⟨ars,hars⟩:∃ars,(Qab (Qa1 lv.v 0) (Qce s.fns) x.args s.d).2=ars:=⟨_,rfl⟩;rw[hars];have harl:ars.length=x.args.length:=by rw[←hars,Qbcg]
  have har0:0<ars.length:=by omega
  have e1:Qab (Qa1 lv.v 0) (Qce s.fns) x.args lv.s=(s1.d,ars):=by rw[←b.d];exact Prod.ext ex1.symm hars
  have one:¬x.op=5→x.low 0 (Qce s.fns) lv=lv.one 0 (Qce s.fns) x.op x.name x.args:=fun h5=>by rw[St.low_eq,if_neg (by simpa using hc0),if_neg h5]
  have hsok1:=st1.ok _ hsok;have hat1:=st1.at_ hat;have g93:=g9 _ _ h1;obtain⟨h1',kn1⟩:=back s1 H3 h1;have hb1:=hsok1.b1;simp only[go_sem,Qht];refine Qa ?_;simp only[go_sem,g93,how];refine Qe ?_;refine Qa ?_;simp only[go_sem,how];refine Qc rfl ?_ ?_
  ·intro hc;have hop:x.op=1:=by simpa using hc
   obtain⟨tb,tr,htb⟩:∃tb tr,lv.v=tb::tr:=by
    cases hv:lv.v with
    |nil=>exact absurd hv hne
    |cons c r=>exact⟨c,r,rfl⟩
   obtain⟨l0,a0,es0,sr,hsce,hm0,hsr⟩:=b.top htb;subst hsce;have hsc0:scC (ScD.ls ((l0,a0,es0)::sr))=.pp [.mp l0,scC (ScD.ls sr)]:=rfl;have hows:=Qsr (ScD.ls sr);have kn1':Kn F H3 [] ((s1.L w++[(x9,o9),(q,.st [.int .i64 lv.next])])++(l0,.map a0 es0)::ScD.ob sr):=by
    rw[Ji];exact kn1
   have gq:H3 q=.st [.int .i64 lv.next]:=(kn1'.get (q,.st [.int .i64 lv.next]) (by simp)).1;have gl:H3 l0=.map a0 es0:=kn1'.getM;have hlen0:es0.length≤lv.next:=b.len (l0,a0,es0) Jt;have hlim:=Qh9;refine Qaf ?_;simp only[go_sem,hsc0,hows,g93,gq,gl];refine⟨hm0.ky,by omega,fun H4 h4=>?_⟩;have kn2:Kn F H4 [] ((s1.L w++[(x9,o9),(q,.st [.int .i64 lv.next])])++(l0,.map (a0+1) (Q7w (.str x.name) (.c (.int .i64 lv.next)) es0))::ScD.ob sr):=kn1'.stM h4;have hfe:Qg0 (.str x.name) (Q7w (.str x.name) (.c (.int .i64 lv.next)) es0)=some (.c (.int .i64 lv.next)):=by
    rw[Qak2 _ _ _ _ hm0.ky,if_pos rfl]
   have hky:=Qary x.name (.c (.int .i64 lv.next)) es0 hm0.ky;have hul:=Q39 x.name (.c (.int .i64 lv.next)) es0;have hmo:MapOk vI (Q7w (.str x.name) (.c (.int .i64 lv.next)) es0) ((x.name,lv.next)::tb):=hm0.put x.name lv.next;obtain⟨es1,hes1⟩:∃es1,Q7w (.str x.name) (.c (.int .i64 lv.next)) es0=es1:=⟨_,rfl⟩;rw[hes1]at kn2 hfe hky hul hmo;have gq4:H4 q=.st [.int .i64 lv.next]:=(kn2.get (q,.st [.int .i64 lv.next]) (by simp)).1;refine Qa ?_;simp only[go_sem,hsc0,hows,gq4];refine⟨Qm (by omega) (by omega),fun H5 h5=>?_⟩;have kn3:Kn F H5 [] (s1.L w++((x9,o9)::lobs q ((lv.next+1:Nat):Int) ((l0,a0+1,es1)::sr))):=by
    have k0:Kn F H4 [] ((s1.L w++[(x9,o9)])++(q,.st [.int .i64 lv.next])::((l0,.map (a0+1) es1)::ScD.ob sr)):=by
     rw[Ji]at kn2⊢;exact kn2
    have k1:=k0.stM (o':=.st [.int .i64 ((lv.next:Int)+1)]) h5;rw[Ji]at k1;exact k1
   have h5':=h1'.re kn3.drop;obtain⟨F2,hf2,_,hM2,back2⟩:=h5'.sideX kn3;have g59:H5 x9=.st [.int .i64 x.op,.str x.name,.sl false 4 (Qw x.args),.sl false 5 (Qk x.body),.sl false 5 (Qk x.els)]:=by
    rw[(kn3.get (x9,o9) (by simp)).1,ho9]
   have gl5:H5 l0=.map (a0+1) es1:=(kn3.get (l0,.map (a0+1) es1) (by simp[lobs,ScD.ob])).1;have hent:Qaa H5 (.mp l0)=es1:=by simp only[Qaa,gl5]
   have hokm:Qwn H5 (.mp l0)=True:=by simp only[Qwn,gl5]
   refine Qe8 ?_;simp only[go_sem,hsc0,hows,g59,hent,hokm,hfe,Option.getD_some];refine⟨hky,?_⟩;refine Qawe hf2 hat1 hsok1 (by omega) fun s2 H6 h6 st2 ex2=>?_;obtain⟨h6,kn6⟩:=back2 s2 H6 h6;simp only[go_sem,AE.X.next];have elow:x.low 0 (Qce s.fns) lv=⟨s2.d,Qaj lv.v x.name lv.next,lv.next+1⟩:=by
    rw[one (by omega),Lv.one,if_pos hop];simp only[e1];rw[ex2]
   refine hQ _ H6 s2 ((l0,a0+1,es1)::sr) ⟨rfl,rfl,rfl,rfl,rfl,rfl⟩ (.of h6 kn6 ?_ rfl (fun y hy=>?_) elow) ((st1.trans st2).mono (by omega))
   ·rw[htb];exact⟨hmo,hsr⟩
   ·rcases J2.1 hy with rfl|hy
    ·show es1.length≤_;omega
    ·have:=b.len y (Jl _ hy);omega
  intro hc1;refine Qa ?_;simp only[go_sem,how];refine Qc rfl ?_ ?_
  ·intro hc;have hop:x.op=2:=by simpa using hc
   refine Qa ?_;simp only[go_sem,g93,how];refine Q34 (hsc.find h1.kn) ?_;simp only[go_sem,Qhu,Jm,Jy];refine Qp ?_;simp only[go_sem,how];refine Qawe h1 hat1 hsok1 (by omega) fun s2 H4 h2 st2 ex2=>?_;obtain⟨h2,kn2⟩:=back s2 H4 h2;simp only[go_sem,AE.X.next];have elow:x.low 0 (Qce s.fns) lv=⟨s2.d,lv.v,lv.next⟩:=by
    rw[one (by omega),Lv.one,if_neg (by omega),if_pos hop];simp only[e1];rw[ex2,Qbbw]
   exact hQ _ H4 s2 sc ⟨rfl,rfl,rfl,rfl,rfl,rfl⟩ (.of h2 kn2 b.ok rfl b.len elow) ((st1.trans st2).mono (by omega))
  intro hc2;refine Qa ?_;simp only[go_sem,how];refine Qc rfl ?_ ?_
  ·intro hc;have hop:x.op=3:=by simpa using hc
   refine Qp ?_;simp only[go_sem,how];refine Qawe h1 hat1 hsok1 (by omega) fun s2 H4 h2 st2 ex2=>?_;obtain⟨h2,kn2⟩:=back s2 H4 h2;simp only[go_sem,AE.X.next];have elow:x.low 0 (Qce s.fns) lv=⟨s2.d,lv.v,lv.next⟩:=by
    rw[one (by omega),Lv.one,if_neg (by omega),if_neg (by omega),if_pos hop];simp only[e1];rw[ex2]
   exact hQ _ H4 s2 sc ⟨rfl,rfl,rfl,rfl,rfl,rfl⟩ (.of h2 kn2 b.ok rfl b.len elow) ((st1.trans st2).mono (by omega))
  intro hc3;refine Qa ?_;simp only[go_sem,how];refine Qc rfl ?_ ?_
  ·intro hc;have hop:x.op=4:=by simpa using hc
   refine Qp ?_;simp only[go_sem,how];refine Qawe h1 hat1 hsok1 (by omega) fun s2 H4 h2 st2 ex2=>?_;obtain⟨h2,kn2⟩:=back s2 H4 h2;simp only[go_sem,AE.X.next];have elow:x.low 0 (Qce s.fns) lv=⟨s2.d,lv.v,lv.next⟩:=by
    rw[one (by omega),Lv.one,if_neg (by omega),if_neg (by omega),if_neg (by omega),if_pos hop];simp only[e1];rw[ex2]
   exact hQ _ H4 s2 sc ⟨rfl,rfl,rfl,rfl,rfl,rfl⟩ (.of h2 kn2 b.ok rfl b.len elow) ((st1.trans st2).mono (by omega))
  intro hc4;refine Qa ?_;simp only[go_sem,how];refine Qc rfl ?_ ?_
  ·intro hc;have hop:x.op=5:=by simpa using hc
   refine Qa ?_;simp only[go_sem,how];refine Qale (n:=3) h1 hsok1 (by omega) fun s2 H4 h2 st2 hbb2 ex2=>?_;have st2:=st1.trans st2;have g94:=g9 _ _ h2;simp only[go_sem,Qhv];refine Qaf ?_;simp only[go_sem,how,har0,Qt,Qbj _ _ har0];try refine⟨by omega,?_⟩
   refine⟨Qm (by omega) (by omega),?_⟩;refine Q6r (next:=[(s1.blocks.length:Int),(s1.blocks.length:Int)+1]) (at':=s1.blocks.length) (N:=0) h2 (st2.at_ hat) (by omega) fun s3 H5 h3 st3 ex3=>?_;have hb3:=st3.bl;have st3:=st2.trans st3;have g95:=g9 _ _ h3;obtain⟨h3',kn3⟩:=back s3 H5 h3;simp only[go_sem];refine Qaf ?_;simp only[go_sem,g95,how];refine Qa6b (fl:=false) (lv:=⟨s3.d,lv.v,lv.next⟩) (hB (Qh x.body) (by omega)) (Jf _) hbo h3' kn3 b.ok rfl b.len rfl (st3.at_ hat) (st3.ok _ hsok) (Jv hnx (by omega)) (by omega) fun lm H7 g97 call=>?_;rw[←ho9]at g97;simp only[go_sem,Qhw,g97,how];refine call _ fun s5 H8 sc' h5 kn5 ok5 ls5 len5 d5 st5=>?_;have hb5:=st5.bl;have st5:=st3.trans st5;obtain⟨F2,hf2,_,hM2,back2⟩:=h5.sideX kn5;have how5:=Qsr sc'.ls;simp only[go_sem];refine Qa ?_;simp only[go_sem,how];refine⟨Qm (by omega) (by omega),Qm (by omega) (by omega),?_⟩;rw[show ((s1.blocks.length:Int)+1)=((s1.blocks.length+1:Nat):Int)by omega,show ((s1.blocks.length:Int)+2)=((s1.blocks.length+2:Nat):Int)by omega];refine Q6r (next:=[((s1.blocks.length+2:Nat):Int)]) (at':=s1.blocks.length+1) (N:=0) hf2 (st5.at_ hat) (by omega) fun s6 H9 h6 st6 ex6=>?_;have hb6:=st6.bl;have st6:=st5.trans st6;have g99:H9 x9=.st [.int .i64 x.op,.str x.name,.sl false 4 (Qw x.args),.sl false 5 (Qk x.body),.sl false 5 (Qk x.els)]:=by
    have:=hM2 (x9,o9) (by simp);rw[h6.kn.chg x9 (by rw[this,←ho9];nofun) (by simp),this,ho9]
   obtain⟨h6,kn6⟩:=back2 s6 H9 h6;simp only[go_sem];refine Qaf ?_;simp only[go_sem,g99,how];have f3:s3.fns=s.fns:=st3.fn.1;have f6:s6.fns=s.fns:=st6.fn.1;have hnb:(Qak 0 (Qce s3.fns) x.body ⟨s3.d,[]::lv.v,lv.next⟩).next≤lv.next+Qh x.body∧lv.next≤(Qak 0 (Qce s3.fns) x.body ⟨s3.d,[]::lv.v,lv.next⟩).next:=Qji x.body ⟨s3.d,[]::lv.v,lv.next⟩;refine Qa6b (fl:=false) (lv:=⟨s6.d,lv.v,(Qak 0 (Qce s3.fns) x.body ⟨s3.d,[]::lv.v,lv.next⟩).next⟩) (hB (Qh x.els) (by omega)) (Jf _) heo h6 kn6 ok5 ls5 len5 rfl (st6.at_ hat) (st6.ok _ hsok) (by show (Qak 0 (Qce s3.fns) x.body ⟨s3.d,[]::lv.v,lv.next⟩).next≤_;omega) (by omega) fun lm2 H10 g910 call2=>?_;rw[←ho9]at g910;simp only[go_sem,Qhx,g910,how];refine call2 _ fun s7 H11 sc2 h7 kn7 ok7 ls7 len7 d7 st7=>?_;have hb7:=st7.bl;have st7:=st6.trans st7;obtain⟨F3,hf3,_,_,back3⟩:=h7.sideX kn7;simp only[go_sem];refine Qp ?_;simp only[go_sem,how];refine⟨Qm (by omega) (by omega),Qm (by omega) (by omega),?_⟩;rw[show ((s1.blocks.length:Int)+2)=((s1.blocks.length+2:Nat):Int)by omega];refine Q6r (next:=[((s1.blocks.length+2:Nat):Int)]) (at':=s1.blocks.length+2) (N:=0) hf3 (st7.at_ hat) (by omega) fun s8 H12 h8 st8 ex8=>?_;have st8:=st7.trans st8;obtain⟨h8,kn8⟩:=back3 s8 H12 h8;simp only[go_sem,AE.X.next];rw[f6]at d7 len7 kn8;have elow:x.low 0 (Qce s.fns) lv=⟨s8.d,lv.v,(Qak 0 (Qce s.fns) x.els ⟨s6.d,[]::lv.v,(Qak 0 (Qce s3.fns) x.body ⟨s3.d,[]::lv.v,lv.next⟩).next⟩).next⟩:=by
    rw[ex8,d7,ex6,d5,f3,ex3,ex2,St.low_eq,if_neg (by omega),if_pos hop];simp only[e1,IS.dlen,Int.natCast_add];rfl
   exact hQ _ H12 s8 sc2 ⟨rfl,rfl,rfl,rfl,rfl,rfl⟩ (.of h8 kn8 ok7 ls7 len7 elow) (st8.mono (by omega))
  intro hc5;refine Qa ?_;simp only[go_sem,how];refine Qc rfl ?_ ?_
  ·intro hc;have hop:x.op=7:=by simpa using hc
   refine Qe8 ?_;simp only[go_sem,how,har0,Qt,Qbj _ _ har0];try refine⟨by omega,?_⟩
   refine Qale (n:=1) h1 hsok1 (by omega) fun s2 H4 h2 st2 hb2 ex2=>?_;simp only[go_sem,Qhy,how,har0,Qt,Qbj _ _ har0];try refine⟨by omega,?_⟩
   refine Q6r (next:=[]) (at':=s1.blocks.length) (N:=0) h2 (st2.at_ hat1) (by omega) fun s3 H5 h3 st3 ex3=>?_;obtain⟨h3,kn3⟩:=back s3 H5 h3;simp only[go_sem,AE.X.next];have elow:x.low 0 (Qce s.fns) lv=⟨s3.d,lv.v,lv.next⟩:=by
    rw[one (by omega),Lv.one,if_neg (by omega),if_neg (by omega),if_neg (by omega),if_neg (by omega),if_pos hop];simp only[e1];rw[ex3,ex2,IS.dlen];try simp[Jd,har0]
   exact hQ _ H5 s3 sc ⟨rfl,rfl,rfl,rfl,rfl,rfl⟩ (.of h3 kn3 b.ok rfl b.len elow) (((st1.trans st2).trans st3).mono (by omega))
  intro hc7;refine Qf ?_;simp only[go_sem,AE.X.next];have elow:x.low 0 (Qce s.fns) lv=⟨s1.d,lv.v,lv.next⟩:=by
   rw[one (by simpa using hc5),Lv.one,if_neg (by simpa using hc1),if_neg (by simpa using hc2),if_neg (by simpa using hc3),if_neg (by simpa using hc4),if_neg (by simpa using hc7)];simp only[e1]
  exact hQ _ H3 s1 sc ⟨rfl,rfl,rfl,rfl,rfl,rfl⟩ (.of h1' kn1 b.ok rfl b.len elow) (st1.mono (by omega))
end Go.AE.Y
namespace Go.AE.Y
attribute [local go_sem] cond_true cond_false Bool.not_true Bool.not_false
open Go.Proofs.Tryz
theorem Qbg7 {n:Nat}(hB:∀m,m<n→IBlX m):IBlX n:=by
 intro l fl F H w q s N sc lv ls K hn hok b hne hat hsok hnx hN hK;have how:=Qsr ls;obtain⟨tb,tr,htb⟩:∃tb tr,lv.v=tb::tr:=by
  cases hv:lv.v with
  |nil=>exact absurd hv hne
  |cons c r=>exact⟨c,r,rfl⟩
 refine Qb Qad Q72 ?_;refine Qa ?_;simp only[go_sem,how];refine Qa ?_;simp only[go_sem,how,Qv];intro hl;simp only[LIM]at hl;refine Qe (Q2 (fun m e1 H1=>∃(i:Nat) (s1:IS) (sc1:ScD),m=l.length-i∧i≤l.length∧BSt F H1 w s1 q sc1 (Qak 0 (Qce s.fns) (l.take i) lv) ls∧IStep s s1 (10 * Qh (l.take i))∧
  e1=[(3,.c (.ptr q 0)),(4,.c (.pp [.ptr w 0])),(6,.c (.pp [scC ls])),(16,.c (.sl fl 5 (Qk l))),(17,.c (.int .i64 l.length)),(18,.c (.int .i64 i))]) l.length ?_ ?_)
 ·exact⟨0,s,sc,by omega,by omega,by rw[Js,Qak];exact b,(IStep.refl s).mono (by omega),rfl⟩
 ·rintro m e1 H1 ⟨i,s1,sc1,hm,hi,b1,st1,rfl⟩;refine Qa ?_;simp only[go_sem,how];refine Qg (Qc rfl ?_ ?_)
  ·intro hc;have hlt:i<l.length:=by simpa using hc
   have hms:=Qbl (Jb hlt);have htk:=Qgz hlt;have htl:=Qbm l (i+1);have hnt:=Qji (d:=0) (fi:=Qce s.fns) (l.take i) lv;refine Qf ?_;try simp only[go_sem]
   refine Qbuf hB (by omega) (Qarv hok _ (Jb hlt)) b1 (by obtain⟨m,hm⟩:=Qst (d:=0) (fi:=Qce s.fns) (l:=l.take i) htb;rw[hm];simp) (st1.at_ hat) (st1.ok _ hsok) (by omega) (by omega) ⟨rfl,rfl,rfl,rfl,rfl,rfl⟩ hlt rfl fun e' H' s' sc' he' b' st'=>?_;obtain⟨l3,l4,l6,l16,l17,l18⟩:=he';refine Qp ?_;simp only[go_sem,AE.X.next,l3,l4,l6,l16,l17,l18,how];exact⟨Qm (by omega) (by omega),l.length-(i+1),by omega,i+1,s',sc',rfl,by omega,by rw[Jc hlt,Qaxj,Qak,Qak,←st1.fn.1];rw[←st1.fn.1]at b';exact b',(st1.trans st').mono (by rw[htk];omega),rfl⟩
  ·intro hc;have hge:l.length≤i:=by simpa using hc
   rw[Je hge]at b1 st1;refine Q1 ?_;simp only[go_sem,AE.X.next];simp only[Qq,Q7,Qtn];exact⟨by simp,hK s1 H1 sc1 b1 st1⟩
theorem Qbqc (n:Nat):IBlX n:=by
 induction n using Nat.strongRecOn with
 |ind n ih=>exact Qbg7 ih
end Go.AE.Y
namespace Go.AE.Y
open Go.Proofs.Tryz
variable {F H:Heap}{w:Nat}{s:LS}{K:V→Heap→Prop}
theorem Qbhx {n:Nat}(hS:∀m,m<n→Qbk3 m):Qbr1 n:=by
 intro x F H w s N K l hne hto hop hn hok h hat hsok hN hK;have hsz:=x.size_eq;rw[St.ok_eq]at hok;obtain⟨hap,hao,hbo,heo⟩:=hok;have ham:=Qar (Jb hap);refine Qb Qad Qa18 ?_;refine Qa ?_;simp only[go_sem,x.cells_eq];refine Qa ?_;simp only[go_sem];refine Qjj h hsok (by omega) fun s1 H1 h1 st1 hb1 ex1=>?_;simp only[go_sem,Q2f];refine Qa ?_;simp only[go_sem];refine Qjj h1 (st1.ok _ hsok) (by omega) fun s2 H2 h2 st2 hb2 ex2=>?_;have st2:=st1.trans st2;simp only[go_sem,Q2g];refine Qa ?_;simp only[go_sem];refine Qjj h2 (st2.ok _ hsok) (by omega) fun s3 H3 h3 st3 hb3 ex3=>?_;have st3:=st2.trans st3;simp only[go_sem,Q2h];refine Qa ?_;simp only[go_sem];refine Q6s (next:=[(s.blocks.length:Int)]) (N:=0) h3 (st3.at_ hat) (by omega) fun s4 H4 h4 st4 ex4=>?_;have hb4:=st4.bl;have st4:=st3.trans st4;refine Qa ?_;simp only[go_sem,hap,Ql,Qaq _ _ hap,Ex.take4,Ex.allOw,Ex.cells_len];refine⟨by omega,?_⟩;refine Qbsg _ x.args[0] F H4 w s4 _ _ (Jf _) (Qqt hao _ (Jb hap)) h4 (st4.at_ hat) (st4.ok _ hsok) (by omega) fun s5 H5 h5 st5 ex5=>?_;have hb5:=st5.bl;have st5:=st4.trans st5;simp only[go_sem,Q2i];refine Qa ?_;simp only[go_sem];refine Q6s (next:=[(s1.blocks.length:Int),(s2.blocks.length:Int)]) (N:=0) h5 (st5.at_ hat) (by omega) fun s6 H6 h6 st6 ex6=>?_;have hb6:=st6.bl;have st6:=st5.trans st6;refine Qa ?_;simp only[go_sem];refine hS (Qh x.body) (by omega) x.body _ F H6 w s6 _ _ ⟨s6.d,[]::l.v,l.next⟩ (by simp) ⟨rfl,by rw[ex6.vars,ex5.vars,ex4.vars,ex3.vars,ex2.vars,ex1.vars,hto.vars,Qrh],by rw[ex6.next,ex5.next,ex4.next,ex3.next,ex2.next,ex1.next,hto.next]⟩ (Jf _) hbo h6 (st6.at_ hat) (st6.ok _ hsok) (by omega) fun s7 H7 h7 st7 ex7=>?_;have hb7:=st7.bl;have st7:=st6.trans st7;refine Qp ?_;simp only[go_sem];refine Q6s (next:=[(s.blocks.length:Int)]) (N:=0) h7 (st7.at_ hat) (by omega) fun s8 H8 h8 st8 ex8=>?_;have st8:=st7.trans st8;simp only[Qq,Q7,Qtn];have v4:s4.vars=Qrg l.v:=by rw[ex4.vars,ex3.vars,ex2.vars,ex1.vars,hto.vars]
 have f4:s4.fns=s.fns:=st4.fn.1;have f6:s6.fns=s.fns:=st6.fn.1;have e6:s6.d=_:=ex6.d;refine⟨by simp,hK s8 H8 h8 (st8.mono (by omega)) ?_⟩;have e7:=ex7.d;have n7:=ex7.next;have v7:=ex7.vars;rw[f6]at e7 n7;rw[v4,Qakh,f4]at ex5;have w7:LTv s8 (x.low (-1) (Qce s.fns) l):=by
  simp only[e6,v4,Qakh,f4,ex5.d,LS.dlen,ex4.d,ex3.d,ex2.d,ex1.d,hto.d,Lw.add_add,Lw.add_len,Int.natCast_add]at e7 n7;refine⟨?_,?_,?_⟩
  ·rw[ex8.d,e7,St.low_eq,if_pos hop];simp only[Qac5 _ _ _ _ hap,LS.dlen,ex4.d,ex3.d,ex2.d,ex1.d,hto.d,Lw.add_add,Lw.add_len,Jm,Int.natCast_add];try rfl
  ·rw[ex8.vars,v7,Qrh,St.low_eq,if_pos hop]
  ·rw[ex8.next,n7,St.low_eq,if_pos hop];simp only[Qac5 _ _ _ _ hap,LS.dlen,ex4.d,ex3.d,ex2.d,ex1.d,hto.d,Lw.add_add,Lw.add_len,Jm,Int.natCast_add];try rfl
 exact w7
theorem Qbqv {n:Nat}(hS:∀m,m<n→Qbk3 m):LwSt n:=by
 intro x F H w s N K l hne hto hn hok h hat hsok hN hK;have hok':=hok;have hsz:=x.size_eq;rw[St.ok_eq]at hok;obtain⟨hap,hao,hbo,heo⟩:=hok;refine Qb Qad Qa19 ?_;have retn:∀(e:Env) (s':LS) (H':Heap) (q:X),(q=.nrm∨q=.ret)→LInv F H' w s'→LStep s s' (10 * x.size)→LTv s' (x.low (-1) (Qce s.fns) l)→Qq Qtn K q e H':=by
  intro e s' H' q hq a1 a2 a3;rcases hq with rfl|rfl <;> exact⟨by simp[Qtn],hK s' H' a1 a2 a3⟩
 refine Qa ?_;simp only[go_sem,x.cells_eq];refine Q5 ?_;refine Qa ?_;simp only[go_sem];refine Qg (Qc rfl ?_ ?_)
 ·intro hc;refine Qa ?_;simp only[go_sem];rw[←x.cells_eq];refine Qbhx hS x F H w s N _ l hne hto (by simpa using hc) hn hok' h hat hsok hN fun s1 H1 h1 st1 ex1=>?_;simp only[Qa5i];refine Qi ?_;simp only[go_sem];exact retn _ s1 H1 _ (.inr rfl) h1 st1 ex1
 intro hc0;refine Qf ?_;simp only[go_sem];refine Qa ?_;simp only[go_sem];refine Q5 ?_;refine Qa ?_;simp only[go_sem];refine Qg (Qe (Q2 (fun n e1 H1=>∃(i:Nat) (ars:List Int) (c:C) (Lg:List (Nat×Obj)) (s':LS),n=x.args.length-i∧i≤x.args.length∧ars.length=i∧Gr Lg 1 (Q0 ars) c∧LInv F H1 w s'∧Kn F H1 [] (s'.L w++Lg)∧
  LStep s s' (10 * Qr (x.args.take i))∧LTo s' (Qab (Qa1 l.v (-1)) (Qce s.fns) (x.args.take i) l.s).1 (Qrg l.v) l.next∧ars=(Qab (Qa1 l.v (-1)) (Qce s.fns) (x.args.take i) l.s).2∧e1=[(0,.c (.ptr w 0)),(3,.c (.pp [.int .i64 x.op,.str x.name,.sl false 4 (Qw x.args),.sl false 5 (Qk x.body),.sl false 5 (Qk x.els)])),(4,.c c),(5,.c (.int .i64 i))]) x.args.length ?_ ?_))
 ·exact⟨0,[],_,[],s,by omega,by omega,rfl,.nil 1,h,by simpa using h.kn,(LStep.refl s).mono (by omega),by rw[Js,Qab];exact hto,by rw[Js,Qab],rfl⟩
 ·rintro n e1 H1 ⟨i,ars,c,Lg,s1,hn1,hi,harl,hgr,h1,kn,st1,ex1,hars,rfl⟩;refine Q5 ?_;refine Qa ?_;simp only[go_sem,Ql];intro hl;simp only[LIM]at hl;refine Qg (Qc rfl ?_ ?_)
  ·intro hc;have hlt:i<x.args.length:=by simpa using hc
   have hm:=Qar (Jb hlt);have htk:=Qjw hlt;have htl:=Qc1 x.args (i+1);refine Qf ?_;simp only[go_sem];refine Qg (Qe (Qp ?_));simp only[go_sem,hlt,Ql,Qaq _ _ hlt,Ex.take4,Ex.allOw,Ex.cells_len];obtain⟨F',hf,back⟩:=h1.beside kn hgr;refine Qbsg _ _ F' H1 w s1 _ _ (Jf _) (Qqt hao _ (Jb hlt)) hf (st1.at_ hat) (st1.ok _ hsok) (by omega) fun s2 H2 h2 st2 ex2=>?_;obtain⟨h2,kn⟩:=back s2 H2 h2;have etk:Qab (Qa1 l.v (-1)) (Qce s.fns) (x.args.take (i+1)) l.s=((x.args[i].low (rgR s1.vars) (Qce s1.fns) s1.d).1,ars++[(x.args[i].low (rgR s1.vars) (Qce s1.fns) s1.d).2]):=by
    rw[Jc hlt,Q7y,ex1.vars,ex1.d,st1.fn.1,hars,Qakh]
   generalize hvv:(x.args[i].low (rgR s1.vars) (Qce s1.fns) s1.d).2=v at *;simp only[go_sem,Q2k];refine kn.grow (new:=Q0 [v]) hgr (.mk' _ _ _ _) (Qay _) (by simp only[Qt,harl,Jk,Jq,LIM];omega) fun y' H3 kn=>?_;simp only[go_sem,Q2j];refine Qp ?_;simp only[go_sem,X.next];refine⟨Qm (by omega) (by omega),x.args.length-(i+1),by omega,i+1,ars++[v],_,_,s2,rfl,by omega,by simp[harl],.mk y' 1 (Q0 (ars++[v])) (n:=(Q0 ars).length+(Q0 [v]).length) (by simp[Q0]),h2.re kn.drop,by rw[Qqz];exact kn,(st1.trans st2).mono (by rw[htk];omega),by rw[etk];exact⟨ex2.d,ex2.vars.trans ex1.vars,ex2.next.trans ex1.next⟩,by rw[etk],by simp[Q0]⟩
  ·intro hc;have hge:x.args.length≤i:=by simpa using hc
   have hil:i=x.args.length:=by omega
   rw[Je hge]at st1 ex1 hars;have e1:Qab (Qa1 l.v (-1)) (Qce s.fns) x.args l.s=(s1.d,ars):=Prod.ext ex1.d.symm hars.symm;have one:¬x.op=5→x.low (-1) (Qce s.fns) l=l.one (-1) (Qce s.fns) x.op x.name x.args:=fun h5=>by rw[St.low_eq,if_neg (by simpa using hc0),if_neg h5]
   have har0:0<ars.length:=by omega
   refine Q1 ?_;simp only[go_sem,X.next];refine Q5 ?_;obtain⟨S,H2,f1,f2,kn2⟩:=hgr.freeze kn (Qay _);have h2:=h1.re kn2;refine c_gh (Qi4 S (fun t=>?_) f2) (e':=[(0,.c (.ptr w 0)),(3,.c (.pp [.int .i64 x.op,.str x.name,.sl false 4 (Qw x.args),.sl false 5 (Qk x.body),.sl false 5 (Qk x.els)])),(4,.c (.sl false 1 (Q0 ars)))]) ?_
   ·simp only[lk];split
    ·exact .c _ _ (.same _ rfl)
    ·split
     ·exact .c _ _ (.same _ rfl)
     ·split
      ·exact .c _ _ f1
      ·exact .unk _
   have hsok1:=st1.ok _ hsok;have hat1:=st1.at_ hat;have hw2:=h2.hw;refine Qa ?_;simp only[go_sem];refine Qe ?_;refine Qa ?_;simp only[go_sem];refine Qc rfl ?_ ?_
   ·
    intro hc;refine Qa ?_;simp only[go_sem,hw2,LS.o];refine Qady h2 hat1 hsok1 (by omega) fun s3 H3 h3 st3 ex3=>?_;have hw3:=h3.hw;have hvo:=h3.gv.isOw;have hsok3:=st3.ok _ hsok1;have st3:=st1.trans st3;simp only[go_sem];refine Qaf ?_;simp only[go_sem,hw3,LS.o,hvo];refine h3.addVar ⟨x.name,s3.next,0,rfl⟩ (by have:=hsok3.v1;simp only[LIM];omega) fun y H4 hw4 cont=>?_;simp only[go_sem,Q2l,hw4,LS.o];intro H5 h5;have h5':=cont H5 h5;have hw5:=h5'.hw;refine Qp ?_;have hn0:=hsok3.n0;have hn1:=hsok3.n1;simp only[go_sem,hw5,LS.o];refine⟨Qm (by omega) (by omega),fun H6 h6=>?_⟩;have h6':=h5'.setw (s':={ s3 with vc:=.vsl y 3 0 (s3.vars.length+1),lv:=[(y,.vec 3 (s3.vars++[[C.str x.name,C.int IntKind.i64 s3.next,C.int IntKind.i64 0]]))],vars:=s3.vars++[[C.str x.name,C.int IntKind.i64 s3.next,C.int IntKind.i64 0]],next:=s3.next+1 }) h6 rfl rfl rfl rfl h5'.gv h5'.rv;refine retn _ _ H6 _ (.inl rfl) h6' ⟨st3.bl,fun M hM=>?_,?_,st3.at_,st3.fn⟩ (by
     have hop:x.op=1:=(by simpa using hc);rw[one (by omega),Lv.one,if_pos hop];simp only[e1];obtain⟨tb,tr,htb⟩:∃tb tr,l.v=tb::tr:=by
      cases hv:l.v with
      |nil=>exact absurd hv hne
      |cons b r=>exact⟨b,r,rfl⟩
     refine⟨?_,?_,?_⟩
     ·show s3.d=_;rw[ex3.d,ex1.next]
     ·show s3.vars++[[C.str x.name,C.int IntKind.i64 s3.next,C.int IntKind.i64 0]]=_;rw[htb,Qa2p,ex3.vars,ex3.next,ex1.vars,ex1.next,htb];rfl
     ·show s3.next+1=_;rw[ex3.next,ex1.next];try simp)
    ·have q:=st3.ok M hM;refine⟨q.r0,?_,?_,?_,?_,fun b hb=>?_,?_⟩
     ·have:=q.r1;show s3.regs≤_;omega
     ·have:=q.n0;show 0≤s3.next+1;omega
     ·have:=q.n1;show s3.next+1≤_;omega
     ·have:=q.b1;show s3.blocks.length≤_;omega
     ·have:=q.i1 b hb;omega
     ·have:=q.v1;simp;omega
    ·have:=st3.vl;simp;omega
   intro hc1;refine Qa ?_;simp only[go_sem];refine Qc rfl ?_ ?_
   ·
    intro hc;refine Qp ?_;simp only[go_sem];refine Qbs1 h2 ?_;simp only[go_sem,Q2m];refine Qady h2 hat1 hsok1 (by omega) fun s3 H3 h3 st3 ex3=>?_;exact retn _ _ H3 _ (.inl rfl) h3 ((st1.trans st3).mono (by omega)) (by
     have hop:x.op=2:=(by simpa using hc);rw[one (by omega),Lv.one,if_neg (by omega),if_pos hop];simp only[e1];exact⟨by rw[ex3.d,ex1.vars,Qakh],ex3.vars.trans ex1.vars,ex3.next.trans ex1.next⟩)
   intro hc2;refine Qa ?_;simp only[go_sem];refine Qc rfl ?_ ?_
   ·intro hc;refine Qp ?_;simp only[go_sem];refine Qady h2 hat1 hsok1 (by omega) fun s3 H3 h3 st3 ex3=>?_;exact retn _ _ H3 _ (.inl rfl) h3 ((st1.trans st3).mono (by omega)) (by
     have hop:x.op=3:=(by simpa using hc);rw[one (by omega),Lv.one,if_neg (by omega),if_neg (by omega),if_pos hop];simp only[e1];exact⟨ex3.d,ex3.vars.trans ex1.vars,ex3.next.trans ex1.next⟩)
   intro hc3;refine Qa ?_;simp only[go_sem];refine Qc rfl ?_ ?_
   ·intro hc;refine Qp ?_;simp only[go_sem];refine Qady h2 hat1 hsok1 (by omega) fun s3 H3 h3 st3 ex3=>?_;exact retn _ _ H3 _ (.inl rfl) h3 ((st1.trans st3).mono (by omega)) (by
     have hop:x.op=4:=(by simpa using hc);rw[one (by omega),Lv.one,if_neg (by omega),if_neg (by omega),if_neg (by omega),if_pos hop];simp only[e1];exact⟨ex3.d,ex3.vars.trans ex1.vars,ex3.next.trans ex1.next⟩)
   intro hc4;refine Qa ?_;simp only[go_sem];refine Qc rfl ?_ ?_
   ·
    intro hc;refine Qe8 ?_;simp only[go_sem,har0,Qt,Qbj _ _ har0];refine⟨by omega,?_⟩;refine Qjj h2 hsok1 (by omega) fun s3 H3 h3 st3 hb3 ex3=>?_;have st3:=st1.trans st3;simp only[go_sem,Qwd,har0,Qt,Qbj _ _ har0];refine⟨by omega,?_⟩;refine Q6s (next:=[]) (N:=0) h3 (st3.at_ hat) (by omega) fun s4 H4 h4 st4 ex4=>?_;exact retn _ _ H4 _ (.inl rfl) h4 ((st3.trans st4).mono (by omega)) (by
     have hop:x.op=7:=(by simpa using hc);rw[one (by omega),Lv.one,if_neg (by omega),if_neg (by omega),if_neg (by omega),if_neg (by omega),if_pos hop];simp only[e1];exact⟨by rw[ex4.d,ex3.d,LS.dlen];try simp[Jd,har0],by rw[ex4.vars,ex3.vars,ex1.vars],by rw[ex4.next,ex3.next,ex1.next]⟩)
   intro hc5;refine Qa ?_;simp only[go_sem];refine Qc rfl ?_ ?_
   ·
    intro hc;refine Qa ?_;simp only[go_sem];refine Qjj h2 hsok1 (by omega) fun s3 H3 h3 st3 hb3 ex3=>?_;have st3:=st1.trans st3;simp only[go_sem,Qwe];refine Qa ?_;simp only[go_sem];refine Qjj h3 (st3.ok _ hsok) (by omega) fun s4 H4 h4 st4 hb4 ex4=>?_;have st4:=st3.trans st4;simp only[go_sem,Qwf];refine Qa ?_;simp only[go_sem];refine Qjj h4 (st4.ok _ hsok) (by omega) fun s5 H5 h5 st5 hb5 ex5=>?_;have st5:=st4.trans st5;simp only[go_sem,Qwg];refine Qa ?_;simp only[go_sem,har0,Qt,Qbj _ _ har0];refine⟨by omega,?_⟩;refine Q6s (next:=[(s1.blocks.length:Int),(s3.blocks.length:Int)]) (N:=0) h5 (st5.at_ hat) (by omega) fun s6 H6 h6 st6 ex6=>?_;have hb6:=st6.bl;have st6:=st5.trans st6;refine Qa ?_;simp only[go_sem];refine hS (Qh x.body) (by omega) x.body _ F H6 w s6 _ _ ⟨s6.d,[]::l.v,l.next⟩ (by simp) ⟨rfl,by rw[ex6.vars,ex5.vars,ex4.vars,ex3.vars,ex1.vars,Qrh],by rw[ex6.next,ex5.next,ex4.next,ex3.next,ex1.next]⟩ (Jf _) hbo h6 (st6.at_ hat) (st6.ok _ hsok) (by omega) fun s7 H7 h7 st7 ex7=>?_;have hb7:=st7.bl;have st7:=st6.trans st7;refine Qa ?_;simp only[go_sem];refine Q6s (next:=[(s4.blocks.length:Int)]) (N:=0) h7 (st7.at_ hat) (by omega) fun s8 H8 h8 st8 ex8=>?_;have hb8:=st8.bl;have st8:=st7.trans st8;refine Qa ?_;simp only[go_sem];refine hS (Qh x.els) (by omega) x.els _ F H8 w s8 _ _ ⟨s8.d,[]::l.v,(Qak (-1) (Qce s6.fns) x.body ⟨s6.d,[]::l.v,l.next⟩).next⟩ (by simp) ⟨rfl,by rw[ex8.vars,ex7.vars,Qrh];try rfl,by rw[ex8.next,ex7.next]⟩ (Jf _) heo h8 (st8.at_ hat) (st8.ok _ hsok) (by omega) fun s9 H9 h9 st9 ex9=>?_;have hb9:=st9.bl;have st9:=st8.trans st9;refine Qp ?_;simp only[go_sem];refine Q6s (next:=[(s4.blocks.length:Int)]) (N:=0) h9 (st9.at_ hat) (by omega) fun s10 H10 h10 st10 ex10=>?_;exact retn _ _ H10 _ (.inl rfl) h10 ((st9.trans st10).mono (by omega)) (by
     have hop:x.op=5:=(by simpa using hc);have f6:s6.fns=s.fns:=st6.fn.1;have f8:s8.fns=s.fns:=st8.fn.1;have e6:=ex6.d;have e7:=ex7.d;have e8:=ex8.d;have e9:=ex9.d;have n9:=ex9.next;simp only[LS.dlen,ex5.d,ex4.d,ex3.d,Lw.add_add,Lw.add_len,Int.natCast_add]at e6;simp only[f6,e6]at e7;simp only[LS.dlen,e7,ex4.d,ex3.d,Lw.add_len,Int.natCast_add]at e8;simp only[f8,f6,e8,e6]at e9 n9;rw[St.low_eq,if_neg (by omega),if_pos hop];simp only[e1];refine⟨?_,?_,?_⟩
     ·rw[ex10.d,e9];simp only[LS.dlen,ex4.d,ex3.d,Lw.add_len,Int.natCast_add,Int.add_assoc];rfl
     ·rw[ex10.vars,ex9.vars,Qrh]
     ·rw[ex10.next,n9];simp only[Int.add_assoc];rfl)
   ·intro hc6;refine Qf ?_;simp only[go_sem];exact retn _ _ H2 _ (.inl rfl) h2 (st1.mono (by omega)) (by
     have h1:¬x.op=1:=(by simpa using hc1);have h2:¬x.op=2:=(by simpa using hc2);have h3:¬x.op=3:=(by simpa using hc3);have h4:¬x.op=4:=(by simpa using hc4);have h7:¬x.op=7:=(by simpa using hc5);rw[one (by simpa using hc6),Lv.one,if_neg h1,if_neg h2,if_neg h3,if_neg h4,if_neg h7];simp only[e1];exact⟨rfl,ex1.vars,ex1.next⟩)
theorem Qbug (n:Nat):Qbk3 n:=by
 induction n using Nat.strongRecOn with
 |ind n ih=>exact Qbrm (Qbqv ih)
end Go.AE.Y
namespace Go.AE.Y
open Go.Proofs.Tryz
variable {H:Heap}{K:V→Heap→Prop}
theorem St.lets_eq (x:St):x.lets=(if x.op=1 then 1 else 0)+Qu x.body+Qu x.els:=by cases x;simp only[St.lets,St.op,St.body,St.els];rfl
theorem Qart (a b:List St):Qu (a++b)=Qu a+Qu b:=by
 induction a with
 |nil=>simp[Qu]
 |cons x r ih=>simp only[Jp,Qu,ih];omega
theorem Qahq {l:List St}{i:Nat}(h:i<l.length):Qu (l.take (i+1))=Qu (l.take i)+l[i].lets:=by
 rw[Jc h,Qart];simp[Qu]
mutual
theorem St.lets_le:∀(x:St),x.lets≤x.size
 |.mk op name args body els=>by
  have h1:=Qgy body;have h2:=Qgy els;have h3:=(St.mk op name args body els).size_eq;simp only[St.body,St.els]at h3;rw[St.lets];split <;> omega
theorem Qgy:∀(l:List St),Qu l≤Qh l
 |[]=>by simp[Qu]
 |x::r=>by
  have h1:=St.lets_le x;have h2:=Qgy r;rw[Qu,Qh];omega
end
theorem InsRow.frzx {H:Heap}{S:Nat→Bool}{r:List C}(h:InsRow r):FrzL H S r (rowI r).cells:=by
 obtain⟨op,to,n,fl,args,rfl⟩:=h;rw[Qa6u];exact .cons (Qd rfl) (.cons (Qd rfl) (.cons (FrzR.same (Qay _)).sl (.cons (Qd rfl) .nil)))
theorem Qaf2 {H:Heap}{S:Nat→Bool}:∀(l:List (List C)),(∀r∈l,InsRow r)→FrzR H S l (Qn7 (l.map rowI))
 |[],_=>.nil
 |r::l,h=>.cons (h r Jt).frzx (Qaf2 l fun r' hr'=>h r' (Jl _ hr'))
theorem Qakr {H:Heap}{S:Nat→Bool}:∀(l:List Blk),(∀b∈l,Gr b.lg 4 b.irows b.ic∧(∀r∈b.irows,InsRow r)∧(∀p∈b.lg,H p.1=p.2∧S p.1=true))→
  FrzR H S (l.map Blk.row) (Qap (l.map Blk.d))
 |[],_=>.nil
 |b::l,h=>by
  obtain⟨g1,g2,g3⟩:=h b Jt;refine .cons ?_ (Qakr l fun r' hr'=>h r' (Jl _ hr'));exact .cons FrzR.nil.sl (.cons (Gr.frzM g1 g3 (Qaf2 b.irows g2)) (.cons (Qd rfl) (.cons (Qd rfl) (.cons (FrzR.same (Qay _)).sl .nil))))
theorem Qa2f (l:List (List UInt8))(p:List UInt8):Qyu (l++[p])=(Qaj (Qyu l).1 p (Qyu l).2,(Qyu l).2+1):=by simp[Qyu,List.foldl_append]
theorem Qbbg:∀(l:List (List UInt8)) (b:List (List UInt8×Nat)) (n:Nat),∃b',l.foldl (fun s p=>(Qaj s.1 p s.2,s.2+1)) (([b]:Vars),n)=([b'],n+l.length)
 |[],b,n=>⟨b,rfl⟩
 |p::r,b,n=>by
  obtain⟨b',h⟩:=Qbbg r ((p,n)::b) (n+1);exact⟨b',by rw[List.foldl_cons];refine h.trans ?_;rw[Jk];congr 1;omega⟩
theorem Qayq (l:List (List UInt8)):∃b,(Qyu l).1=[b]∧(Qyu l).2=l.length:=by
 obtain⟨b,h⟩:=Qbbg l [] 0;rw[Qyu,h];exact⟨b,rfl,by simp⟩
theorem Qbmq:∀(n:Nat) (l:List St) {fl:Bool} {H:Heap} {K:V→Heap→Prop},Qh l≤n→Qh l≤2^40→K (.c (.int .i64 (Qu l:Nat))) H→Qj prog Qye [.c (.sl fl 5 (Qk l))] H K:=by
 intro n
 induction n using Nat.strongRecOn with
 |ind n ih=>
 intro l fl H K hn hb hK;have hlen:=Qcd l;refine Qb Qad Qbm3 ?_;refine Qa ?_;simp only[go_sem];refine Qa ?_;simp only[go_sem];refine Q5 ?_;refine Qa ?_;simp only[go_sem];refine Qg (Qe (Q2 (fun n e1 H1=>∃(i v:Nat),n=l.length-i∧i≤l.length∧v=Qu (l.take i)∧H1=H∧e1=[(0,.c (.sl fl 5 (Qk l))),(3,.c (.int .i64 v)),(4,.c (.int .i64 i))]) l.length ?_ ?_))
 ·exact⟨0,0,by omega,by omega,by simp[Qu],rfl,rfl⟩
 ·rintro n e1 H1 ⟨i,v,hn1,hi,hv,rfl,rfl⟩;refine Q5 ?_;refine Qa ?_;simp only[go_sem,Qv];intro hl;simp only[LIM]at hl;refine Qg (Qc rfl ?_ ?_)
  ·intro hc;have hlt:i<l.length:=by simpa using hc
   have hm:=Qbl (Jb hlt);have htk:=Qgz hlt;have htl:=Qbm l (i+1);have hse:=(l[i]'hlt).size_eq;have hl1:=Qgy (l.take i);have hl2:=Qahq hlt;have hl3:=(l[i]'hlt).lets_eq;have hl4:=Qgy l[i].body;have hl5:=Qgy l[i].els;refine Qf ?_;simp only[go_sem];refine Qg (Qe (Qe8 ?_));simp only[go_sem,hlt,Qv,Qbg _ _ hlt,St.cells_eq];refine Qbhs ?_;obtain⟨t,ht,ht1⟩:∃t:Nat,(if decide (l[i].op=1)=true then (1:Int)else 0)=t∧t=if l[i].op=1 then 1 else 0:=by
    by_cases h:l[i].op=1
    ·exact⟨1,by simp[h],by simp[h]⟩
    ·exact⟨0,by simp[h],by simp[h]⟩
   rw[←ht1]at hl3;have ht2:t≤1:=by rw[ht1];split <;> omega
   simp only[go_sem,Qaqh,hlt,Qv,Qbg _ _ hlt,St.cells_eq,ht];refine⟨Qm (by omega) (by omega),?_⟩;refine ih (Qh l[i].body) (by omega) l[i].body (Jf _) (by omega) ?_;simp only[go_sem,Qaqg,hlt,Qv,Qbg _ _ hlt,St.cells_eq];refine⟨Qm (by omega) (by omega),?_⟩;refine ih (Qh l[i].els) (by omega) l[i].els (Jf _) (by omega) ?_;simp only[go_sem,Qaqf];refine⟨Qm (by omega) (by omega),?_⟩;refine Qp ?_;simp only[go_sem,X.next];refine⟨Qm (by omega) (by omega),l.length-(i+1),by omega,i+1,v+t+Qu l[i].body+Qu l[i].els,rfl,by omega,by omega,by simp⟩
  ·intro hc;have hge:l.length≤i:=by simpa using hc
   refine Q1 ?_;simp only[go_sem,X.next];refine Qa ?_;simp only[go_sem];refine Qi ?_;simp only[go_sem,Qq,Q7,Qfh,Ja,forall_eq,RS.op];rw[Je hge]at hv;rw[hv];exact hK
end Go.AE.Y
namespace Go.AE.Y
attribute [local go_sem] cond_true cond_false Bool.not_true Bool.not_false
open Go.Proofs.Tryz
variable {H:Heap}{K:V→Heap→Prop}
def Qavz (a:Int)(s:St) (_:Int):Int:=a+if s.op=1 then 1 else 0
mutual
theorem St.vis_lets:∀(x:St) (n a:Int),x.vis Qavz n a=a+x.lets
 |.mk op name args body els,n,a=>by
  simp only[St.vis,St.lets];rw[Quz els,Quz body,Qavz];simp only[St.op];split <;> simp <;> omega
theorem Quz:∀(l:List St) (n a:Int),Qb5 Qavz l n a=a+Qu l
 |[],n,a=>by simp[Qb5,Qu]
 |x::r,n,a=>by
  simp only[Qb5,Qu];rw[Quz r,St.vis_lets x];simp;omega
end
theorem Qbu8 (x3:Nat):VisOk (fun a=>[(x3,Obj.st [.int .i64 a])]) Qavz (fun a=>0≤a) Int.toNat Qi2 [.ptr x3 0]:=by
 refine⟨fun _ _=>rfl,fun _=>by simp,fun a p hp=>by simp only[Ja]at hp;subst hp;nofun,fun a s n h=>?_,fun a s n=>?_,fun a s n H K ha hmu h0 hn hsz hh hK=>?_⟩
 ·show 0≤Qavz a s n;rw[Qavz];split <;> omega
 ·have:=s.size_eq;rw[Qavz];split <;> omega
 ·have g:H x3=.st [.int .i64 a]:=hh (x3,_) (by simp);refine Qb Qad Qahv ?_;refine Qa ?_;simp only[go_sem,s.cells_eq];refine Qa ?_;simp only[go_sem];have done:∀(H':Heap) (e:Env),H'=H.set x3 (.st [.int .i64 (Qavz a s n)])→Qq Qtn K .nrm e H':=by
   intro H' e h';simp only[Qq,Q7,Qtn];refine⟨by simp,hK _ ⟨fun p hp=>?_,fun m _ hm=>?_⟩⟩
   ·simp only[Ja]at hp;subst hp;rw[h'];exact Heap.set_same _ _ _
   ·rw[h'];exact Heap.set_other _ _ (by simpa using hm)
  refine Qc rfl (fun hc=>?_) (fun hc=>?_)
  ·have h1:s.op=1:=by simpa using hc
   refine Qp ?_;simp only[go_sem,g];refine⟨Qm (by omega) (by omega),fun H1 h1'=>?_⟩;exact done _ _ (by rw[h1',Qavz,if_pos h1])
  ·have h1:¬s.op=1:=by simpa using hc
   refine Qf ?_;try simp only[go_sem,AE.X.next]
   exact done _ _ (by rw[Qavz,if_neg h1,Int.add_zero];exact (Heap.set_self _ _ _ g).symm)
theorem Qalh {f:Fn}(hb:Qh f.body≤2^34)(hp:f.params.length≤3)(hK:∀H',Upd H H' []→K (.c (.int .i64 ((f.params.length:Int)+Qu f.body))) H') :
  Qj prog Qjl [.ag f.cells] H K:=by
 refine Qn ?_;refine Qb Qad Qayf ?_;refine Qa ?_;simp only[go_sem,Fn.cells];refine Qa ?_;simp only[go_sem,Qo];intro hpl x3 hx3 H1 h1;have kn:=(Kn.start0 H).al hx3 h1;have g3:=kn.l 0 rfl;simp only[go_sem,Qvd,g3];intro H2 h2;have kn:Kn H H2 [] [(x3,.st [.int .i64 f.params.length])]:=kn.stL 0 rfl h2;have g3:=kn.l 0 rfl;refine Qa ?_;simp only[go_sem];refine Qa1e (Qbu8 x3) (Qh f.body) f.body 1 _ (f.params.length:Int) _ _ (Jf _) (by omega) (by omega) (by omega) (by show (0:Int)≤_;omega) (by show (f.params.length:Int).toNat+_≤_;omega) (fun p hp=>by simp only[Ja]at hp;subst hp;exact g3) fun H3 hu=>?_;rw[Quz]at hu;have kn:=kn.callL 0 rfl hu (by nofun);have g3:=kn.l 0 rfl;refine Qa ?_;simp only[go_sem,g3];refine Qi ?_;simp only[go_sem,Qq,Q7,Qfh,Ja,forall_eq,RS.op];exact⟨_,.c _ _ (Qd rfl),hK _ kn.fin⟩
theorem Qbck {fns:List Fn}{f:Fn}{fl:Bool}(hpl:f.params.length≤3)(hbo:Qcy f.body)(hbs:Qh f.body≤2^34)
  (hK:∀(H':Heap),Upd H H' []→(Qo6 0 fns f).fits→K (.ag (Qo6 0 fns f).cells) H'):Qj prog Qs5 [.ag [.sl fl 3 (Q3 fns)],.ag f.cells] H K:=by
 refine Qn ?_;refine Qb Qad Qa1r ?_;refine Qa ?_;simp only[go_sem,Fn.cells];intro x4 hx4 H1 h1;have kn:=(Kn.start0 H).al hx4 h1;have hx41:=kn.l 0 rfl;refine Qa ?_;simp only[go_sem];intro w hw H2 h2;have h:IInv H1 H2 w ⟨fns,fl,0,0,.sl true 5 [],[],[],0⟩:=⟨(Kn.start0 H1).al hw h2,.nil 5,by simp,by simp⟩;simp only[go_sem,Qzs];refine Qaf ?_;simp only[go_sem];have hvc:=fun K=>Qalh (f:=f) (H:=H2) (K:=K) hbs hpl;simp only[Fn.cells]at hvc;refine hvc _ fun H3 hu=>?_;have h:=h.re (h.kn.call0 hu);have hv:=Qgy f.body;have hw3:=h.hw;simp only[go_sem,Qzu,hw3,IS.o,Qo];intro H4 h4;have h:=h.setw (s':=⟨fns,fl,f.params.length,0,.sl true 5 [],[],[],0⟩) h4 rfl rfl rfl;have hw4:=h.hw;simp only[go_sem,Qzt,hw4,IS.o];intro H5 h5;have h:=h.setw (s':=⟨fns,fl,f.params.length,(f.params.length:Int)+Qu f.body,.sl true 5 [],[],[],0⟩) h5 rfl rfl rfl;obtain⟨s,hs⟩:∃s:IS,s=⟨fns,fl,f.params.length,(f.params.length:Int)+Qu f.body,.sl true 5 [],[],[],0⟩:=⟨_,rfl⟩;rw[←hs]at h;refine Qa ?_;simp only[go_sem];refine Qp2 (sc:=.pnil) rfl fun lm nn H6 hlm h6=>?_;have knm:=h.kn.al hlm h6;simp only[go_sem,Qzv];refine Q5 ?_;refine Qa ?_;simp only[go_sem,Qo];intro _;refine Qg (Qe (Q2 (fun m e1 H7=>∃(i a:Nat) (es:List (C×V)) (b:List (List UInt8×Nat)),m=f.params.length-i∧i≤f.params.length∧Kn H1 H7 [] (s.L w++[(lm,.map a es)])∧(Qyu (f.params.take i)).1=[b]∧MapOk vI es b∧es.length≤i∧
  e1=[(3,.c (.pp [.str f.name,.sl false 1 (Q9 f.params),.sl false 5 (Qk f.body)])),(4,.c (.ptr x4 0)),(5,.c (.ptr w 0)),(6,.c (.pp [.mp lm,.pnil])),(27,.c (.sl false 1 (Q9 f.params))),(28,.c (.int .i64 f.params.length)),(29,.c (.int .i64 i))]) f.params.length ?_ ?_))
 ·exact⟨0,nn,[],[],by omega,by omega,knm,rfl,.nil vI,Jf _,rfl⟩
 ·rintro m e1 H7 ⟨i,a,es,b,hm,hi,kn7,hpv,hmo,hel,rfl⟩;refine Qa ?_;simp only[go_sem];refine Qg (Qc rfl ?_ ?_)
  ·intro hc;have hlt:i<f.params.length:=by simpa using hc
   have gl:H7 lm=.map a es:=(kn7.get (lm,.map a es) (by simp)).1;have hlim:=Qh9;refine Qf ?_;try simp only[go_sem]
   refine Qg (Qe ?_);refine Qa ?_;simp only[go_sem,hlt,Qo,Qbs _ _ hlt];refine Qp ?_;simp only[go_sem,gl];refine⟨hmo.ky,by omega,fun H8 h8=>?_⟩;have kn8:=Kn.stM (B:=[]) kn7 h8;have hp2:=(Qayq (f.params.take i));obtain⟨b',e1',e2'⟩:=hp2;have hbb:b'=b:=by rw[hpv]at e1';exact (List.cons.inj e1').1.symm
   have hul:=Q39 (f.params.getD i []) (.c (.int .i64 i)) es;refine Qp ?_;simp only[go_sem,AE.X.next];refine⟨Qm (by omega) (by omega),f.params.length-(i+1),by omega,i+1,a+1,_,(f.params.getD i [],i)::b,rfl,by omega,kn8,?_,hmo.put _ i,by omega,rfl⟩;rw[Jc hlt,Qa2f,hpv,e2',Jab,Jam (by omega),show f.params.getD i []=f.params[i]by simp[Jd,hlt]];rfl
  ·intro hc;have hge:f.params.length≤i:=by simpa using hc
   have hie:i=f.params.length:=by omega
   rw[Je hge]at hpv;refine Q1 ?_;simp only[go_sem,AE.X.next];obtain⟨F2,hf2,hF2,hM2,back2⟩:=(h.re kn7.drop).sideX kn7;have hsok:s.ok (3+Qu f.body):=by rw[hs];exact⟨by show (0:Int)≤(f.params.length:Int)+Qu f.body;omega,by show (f.params.length:Int)+Qu f.body≤((3+Qu f.body:Nat):Int);omega,by simp,by simp⟩
   refine Qa ?_;simp only[go_sem];refine Qale (n:=1) hf2 hsok (by omega) fun s1 H8 hh1 st1 hb1 ex1=>?_;obtain⟨hh1,kn8⟩:=back2 s1 H8 hh1;simp only[go_sem];refine Qa ?_;simp only[go_sem,Qo];intro _ q hq H9 h9;simp only[go_sem,Qzw];have hsok1:=st1.ok _ hsok;have hsd:s.d=⟨(f.params.length:Int)+Qu f.body,[],0⟩:=by rw[hs];rfl
   have hat1:s1.at_=0:=by
    have:=congrArg Lw.at_ ex1;rw[hsd]at this;exact this
   have hat:s1.at_<s1.blocks.length:=by omega
   have kn9:Kn H1 H9 [] (s1.L w++lobs q (f.params.length:Nat) [(lm,a,es)]):=(kn8.al hq h9).perm (by
    rw[Ji];exact .append_left _ (List.Perm.swap _ _ _))
   have b0:BSt H1 H9 w s1 q [(lm,a,es)] ⟨s1.d,[b],f.params.length⟩ [lm]:=
    ⟨hh1.re kn9.drop,kn9,⟨hmo,trivial⟩,rfl,fun y hy=>by simp only[Ja]at hy;subst hy;show es.length≤f.params.length;omega,rfl⟩
   refine Qbqc _ f.body false H1 H9 w q s1 _ [(lm,a,es)] ⟨s1.d,[b],f.params.length⟩ [lm] _ (Jf _) hbo b0 (by simp) hat hsok1 (by show f.params.length≤_;omega) (by omega) fun s2 H10 sc' b2 st2=>?_;have hsok2:=st2.ok _ hsok1;have hat2:=st2.at_ hat;have hw10:=b2.inv.hw;simp only[go_sem];refine Qaf ?_;simp only[go_sem,hw10,IS.o];refine Qyi (args:=[]) b2.inv hat2 hsok2 (by omega) fun s3 H11 h3 st3 ex3=>?_;have hw11:=h3.hw;have hat3:s3.at_=s2.at_:=by
    have:=congrArg Lw.at_ ex3;exact this
   simp only[go_sem,Qzx,hw11,IS.o,hat3];refine Q6r (next:=[]) (at':=s2.at_) (N:=0) h3 (st3.at_ hat2) (by rw[←hat3];exact st3.at_ hat2) fun s5 H12 h5 st5 ex5=>?_;have hw12:=h5.hw;have hx412:H12 x4=.st [.int .i64 0,.int .i64 0,.sl true 5 []]:=by rw[h5.kn.chg x4 (by rw[hx41];nofun) (by simp),hx41]
   have hbow:=h5.gb.isOw;simp only[go_sem];refine Qa ?_;simp only[go_sem,hw12,hx412,IS.o,hbow];intro H13 h13;have hx413:H13 x4=.st [.int .i64 s5.params,.int .i64 s5.regs,s5.bc]:=by rw[h13];exact Heap.set_same _ _ _
   have ho13:∀m,m≠x4→H13 m=H12 m:=fun m hm=>by rw[h13];exact Heap.set_other _ _ hm
   have huse:∀m,H m≠.none→H13 m=H m:=fun m hm=>by
    have e1:=kn.chg m hm (by simp);have e2:=h5.kn.chg m (by rw[e1];exact hm) (by simp);rw[ho13 m (fun hh=>by subst hh;exact hm (kn.free 0 rfl)),e2,e1]
   have hun:∀p∈s5.L w,H13 p.1=p.2∧un H p.1=true:=fun p hp=>by
    have e1:=(h5.kn.get p (by simpa using hp)).1;have e2:=h5.kn.loc p hp;have hne:p.1≠x4:=fun hh=>(by rw[hh,hx41]at e2;simp at e2);refine⟨by rw[ho13 _ hne,e1],Qu0 ?_⟩
    cases hh:H p.1 with
    |none=>rfl
    |_=>have:=kn.chg p.1 (by rw[hh];simp) (by simp);rw[e2,hh]at this;simp at this
   refine Qi ?_;simp only[go_sem,Qq,Q7,Qbo4,Ja,forall_eq,RS.op,hx413,hbow];have hok5:=(st3.trans st5).ok _ hsok2;have hbs1:=Qakr (H:=H13) (S:=un H) s5.blocks fun b hb=>⟨h5.gi b hb,h5.ri b hb,fun p hp=>hun p (by
    simp only[IS.L,Jj,Jaj];exact .inr (.inr ⟨b,hb,hp⟩))⟩
   have hd1:s1.d=⟨(f.params.length:Int)+Qu f.body,[blk0],0⟩:=by
    rw[ex1,hsd];rfl
   have hfn:s1.fns=fns:=by rw[st1.fn.1,hs]
   have hd2:=b2.d;rw[hd1,hfn,←hpv]at hd2;rw[ex3,IS.dregs,hd2]at ex5;have hp5:s5.params=f.params.length:=by rw[(st3.trans st5).fn.2.2,st2.fn.2.2,st1.fn.2.2,hs]
   have hcode:Qo6 0 fns f=⟨s5.params,s5.regs,s5.blocks.map Blk.d⟩:=by
    rw[hp5];have e1:s5.regs=s5.d.regs:=rfl;have e2:s5.blocks.map Blk.d=s5.d.bs:=rfl;rw[e1,e2,ex5];rfl
   have hfit:(Qo6 0 fns f).fits:=by
    rw[hcode];intro b hb;obtain⟨b0,hb0,rfl⟩:=Jz.1 hb;have:=hok5.i1 b0 hb0;exact⟨by simp only[Blk.d,Jo];omega,by simp[Blk.d]⟩
   refine⟨.ag (Qo6 0 fns f).cells,?_,hK _ ⟨by simp,fun m hm _=>?_⟩ hfit⟩
   ·rw[hcode];exact FrzL.ag (.cons (Qd rfl) (.cons (Qd rfl) (.cons (Gr.frzM h5.gb (fun p hp=>hun p (by
     simp only[IS.L,Jj];exact .inr (.inl hp))) hbs1) .nil)))
   ·rw[Qbat hm];exact huse m hm
end Go.AE.Y
namespace Go.AE.Y
open Go.Proofs.Tryz
variable {H:Heap}{K:V→Heap→Prop}
theorem Qbss {fns:List Fn}{fl:Bool}{k:Nat}(hk:k<fns.length)(hpl:fns[k].params.length≤3)(hbo:Qcy fns[k].body)(hbs:Qh fns[k].body≤2^34)
  (hK:∀(H':Heap),Upd H H' []→(Qo6 (-1) fns fns[k]).fits→K (.ag (Qo6 (-1) fns fns[k]).cells) H'):Qj prog Qa56 [.ag [.sl fl 3 (Q3 fns)],.c (.int .i64 k)] H K:=by
 refine Qn ?_;refine Qb Qad Qbsy ?_;refine Qa ?_;simp only[go_sem];intro x4 hx4 H1 h1;have kn:=(Kn.start0 H).al hx4 h1;refine Qa ?_;simp only[go_sem,hk,Qx,Qat _ _ hk,Fn.take3,Fn.allOw,Fn.cells_len];generalize fns[k]=f at *;intro x5 hx5 H2 h2;have kn:=kn.al hx5 h2;have hx52:=kn.l 1 rfl;simp only[go_sem,Qa4q,hx52,Fn.cells];intro H3 h3;have kn:Kn H H3 [] [(x4,.st [.int .i64 0,.int .i64 0,.sl true 5 []]),(x5,.st [.str f.name,.sl false 1 (Q9 f.params),.sl false 5 (Qk f.body)])]:=kn.stL 1 rfl h3;have hx43:=kn.l 0 rfl;have hx53:=kn.l 1 rfl;have h45:=kn.neL 0 1 rfl rfl (by decide);refine Qa ?_;simp only[go_sem,hx53,Qo];intro hpl2 w hw H4 h4;have h:LInv H3 H4 w ⟨fns,fl,0,0,.sl true 5 [],[],[],0,.sl true 3 [],[],[],f.params.length⟩:=
  ⟨(Kn.start0 H3).al hw h4,.nil 5,.inl ⟨rfl,rfl,rfl⟩,by simp,by simp,by simp⟩
 have hfr:∀(s:LS) (H':Heap),LInv H3 H' w s→H' x4=.st [.int .i64 0,.int .i64 0,.sl true 5 []]∧H' x5=.st [.str f.name,.sl false 1 (Q9 f.params),.sl false 5 (Qk f.body)]:=fun s H' h'=>
  ⟨by rw[h'.kn.chg x4 (by rw[hx43];simp) (by simp),hx43],by rw[h'.kn.chg x5 (by rw[hx53];simp) (by simp),hx53]⟩
 have hx54:=(hfr _ _ h).2;have hw4:=h.hw;simp only[go_sem,Qa4r];refine Qa ?_;simp only[go_sem,hx54,hw4,LS.o,Qo];intro _ H5 h5;have h:=h.setw (s':=⟨fns,fl,f.params.length,0,.sl true 5 [],[],[],0,.sl true 3 [],[],[],f.params.length⟩) h5 rfl rfl rfl rfl h.gv h.rv;have hx55:=(hfr _ _ h).2;refine Qaf ?_;simp only[go_sem,hx55,Qo];refine Qbmq _ f.body (Jf _) (by omega) ?_;have hv:=Qgy f.body;obtain⟨v,hvd⟩:∃v,Qu f.body=v:=⟨_,rfl⟩;rw[hvd]at hv;rw[hvd];have hw5:=h.hw;simp only[go_sem,Qa4s,hx55,hw5,LS.o,Qo];refine⟨Qm (by omega) (by omega),fun H6 h6=>?_⟩;have h:=h.setw (s':=⟨fns,fl,f.params.length,(f.params.length:Int)+v,.sl true 5 [],[],[],0,.sl true 3 [],[],[],f.params.length⟩) h6 rfl rfl rfl rfl h.gv h.rv;refine Q5 ?_;refine Qa ?_;simp only[go_sem];refine Qg (Qe (Q2 (fun n e1 H1=>∃(i:Nat) (s':LS),n=f.params.length-i∧i≤f.params.length∧LInv H3 H1 w s'∧s'.blocks=[]∧s'.at_=0∧s'.regs=(f.params.length:Int)+v∧s'.next=f.params.length∧s'.vars.length=i∧s'.vars=Qrg (Qyu (f.params.take i)).1∧s'.params=f.params.length∧s'.fns=fns∧
  e1=[(4,.c (.ptr x4 0)),(5,.c (.ptr x5 0)),(6,.c (.ptr w 0)),(7,.c (.int .i64 i))]) f.params.length ?_ ?_))
 ·exact⟨0,_,by omega,by omega,h,rfl,rfl,rfl,rfl,rfl,rfl,rfl,rfl,rfl⟩
 ·rintro n e1 H1 ⟨i,s,hn1,hi,h,hb0,ha0,hr0,hn0,hvl,hvs,hpa,hfs,rfl⟩;have hx51:=(hfr _ _ h).2;have hw1:=h.hw;have hvo:=h.gv.isOw;refine Q5 ?_;refine Qa ?_;simp only[go_sem,hx51,Qo];intro _;refine Qg (Qc rfl ?_ ?_)
  ·intro hc;have hlt:i<f.params.length:=by simpa using hc
   refine Qf ?_;simp only[go_sem];refine Qg (Qe (Qe8 ?_));simp only[go_sem,hx51,hw1,LS.o,hvo,hlt,Qo,Qbs _ _ hlt];refine h.addVar ⟨_,_,_,rfl⟩ (by simp only[LIM];omega) fun y H4 hw4 cont=>?_;simp only[go_sem,Qa4t,hw4,LS.o];intro H5 h5;have h':=cont H5 h5;have hvs':s.vars++[[C.str (f.params.getD i []),C.int .i64 (i:Int),C.int .i64 0]]=Qrg (Qyu (f.params.take (i+1))).1:=by
    obtain⟨b,e1,e2⟩:=Qayq (f.params.take i);rw[hvs,Jc hlt,Qa2f,e1,e2,Qa2p,Jab,Jam (by omega),show f.params.getD i []=f.params[i]by simp[Jd,hlt]];rfl
   refine Qp ?_;simp only[go_sem,X.next];exact⟨Qm (by omega) (by omega),f.params.length-(i+1),by omega,i+1,_,rfl,by omega,h',hb0,ha0,hr0,hn0,by simp[hvl],hvs',hpa,hfs,rfl⟩
  ·intro hc;refine Q1 ?_;simp only[go_sem,X.next];have hge:f.params.length≤i:=by simpa using hc
   rw[Je hge]at hvs;have hsok:s.ok (3+v):=⟨by rw[hr0];omega,by rw[hr0];omega,by rw[hn0];omega,by rw[hn0];omega,by simp[hb0],by simp[hb0],by omega⟩;refine Qa ?_;simp only[go_sem];refine Qjj h hsok (by omega) fun s1 H4 h1 st1 hb1 ex1=>?_;have hat1:s1.at_=s.at_:=congrArg Lw.at_ ex1.d;have hat:s1.at_<s1.blocks.length:=by rw[hat1,ha0];omega
   have hsok1:=st1.ok _ hsok;refine Qa ?_;have hx54:=(hfr _ _ h1).2;simp only[go_sem,hx54];refine Qbug _ f.body _ H3 H4 w s1 _ _ ⟨s1.d,(Qyu f.params).1,f.params.length⟩ (by obtain⟨b,e1,_⟩:=Qayq f.params;rw[e1];simp) ⟨rfl,by rw[ex1.vars,hvs],by rw[ex1.next,hn0]⟩ (Jf _) hbo h1 hat hsok1 (by omega) fun s2 H5 h2 st2 ex2=>?_;refine Qa ?_;simp only[go_sem];refine Qyg h2 (st2.ok _ hsok1) (by omega) fun s3 H6 h3 st3 ex3=>?_;have st3:=st2.trans st3;simp only[go_sem,Qa4v];refine Qady (args:=[]) h3 (st3.at_ hat) (st3.ok _ hsok1) (by omega) fun s4 H7 h4 st4 ex4=>?_;have st4:=st3.trans st4;simp only[go_sem,Qa4u];have hbl4:=st4.bl;refine Qa ?_;simp only[go_sem];refine Q6s (at':=0) (next:=[]) (N:=0) h4 (st4.at_ hat) (by omega) fun s5 H8 h5 st5 ex5=>?_;have hw8:=h5.hw;obtain⟨hx48,hx58⟩:=hfr _ _ h5;have hbow:=h5.gb.isOw;refine Qa ?_;simp only[go_sem,hw8,hx48,LS.o,hbow];intro H9 h9;have hx49:H9 x4=.st [.int .i64 s5.params,.int .i64 s5.regs,s5.bc]:=by rw[h9];exact Heap.set_same _ _ _
   have ho9:∀m,m≠x4→H9 m=H8 m:=fun m hm=>by rw[h9];exact Heap.set_other _ _ hm
   have huse:∀m,H m≠.none→H9 m=H m:=fun m hm=>by
    have e1:=kn.chg m hm (by simp);have e2:=h5.kn.chg m (by rw[e1];exact hm) (by simp);rw[ho9 m (fun hh=>by subst hh;exact hm (kn.free 0 rfl)),e2,e1]
   have hun:∀p∈s5.L w,H9 p.1=p.2∧un H p.1=true:=fun p hp=>by
    have e1:=(h5.kn.get p (by simpa using hp)).1;have e2:=h5.kn.loc p hp;have hne:p.1≠x4:=fun hh=>(by rw[hh,hx43]at e2;simp at e2);refine⟨by rw[ho9 _ hne,e1],Qu0 ?_⟩
    cases hh:H p.1 with
    |none=>rfl
    |_=>have:=kn.chg p.1 (by rw[hh];simp) (by simp);rw[e2,hh]at this;simp at this
   refine Qi ?_;simp only[go_sem,Qq,Q7,Qbo4,Ja,forall_eq,RS.op,hx49,hbow];have hok5:=(st4.trans st5).ok _ hsok1;have hbs1:=Qakr (H:=H9) (S:=un H) s5.blocks fun b hb=>⟨h5.gi b hb,h5.ri b hb,fun p hp=>hun p (by
    simp only[LS.L,Jj,Jaj];exact .inr (.inr (.inr ⟨b,hb,hp⟩)))⟩
   have hd1:s1.d=⟨(f.params.length:Int)+Qu f.body,[blk0],0⟩:=by
    rw[ex1.d,LS.d,hr0,hb0,ha0,hvd];rfl
   have hd2:=ex2.d;have hd5:=ex5.d;rw[hd1,st1.fn.1,hfs]at hd2;rw[ex4.d,ex3.d,LS.dregs,hd2]at hd5;have hp5:s5.params=f.params.length:=by rw[(st4.trans st5).fn.2.2,st1.fn.2.2,hpa]
   have hcode:Qo6 (-1) fns f=⟨s5.params,s5.regs,s5.blocks.map Blk.d⟩:=by
    rw[hp5];have e1:s5.regs=s5.d.regs:=rfl;have e2:s5.blocks.map Blk.d=s5.d.bs:=rfl;rw[e1,e2,hd5];rfl
   have hfit:(Qo6 (-1) fns f).fits:=by
    rw[hcode];intro b hb;obtain⟨b0,hb0,rfl⟩:=Jz.1 hb;have:=hok5.i1 b0 hb0;exact⟨by simp only[Blk.d,Jo];omega,by simp[Blk.d]⟩
   refine⟨.ag (Qo6 (-1) fns f).cells,?_,hK _ ⟨by simp,fun m hm _=>?_⟩ hfit⟩
   ·rw[hcode];exact FrzL.ag (.cons (Qd rfl) (.cons (Qd rfl) (.cons (Gr.frzM h5.gb (fun p hp=>hun p (by
     simp only[LS.L,Jj];exact .inr (.inl hp))) hbs1) .nil)))
   ·rw[Qbat hm];exact huse m hm
theorem Qbmr {fns:List Fn}{fl:Bool}(hp:PrOk fns)(hK:∀(H':Heap),Upd H H' []→(∀c∈Qbd (-1) fns,c.fits)→K (.ag [.sl false 3 (Qy (Qbd (-1) fns))]) H') :
  Qj prog Qalc [.ag [.sl fl 3 (Q3 fns)]] H K:=by
 refine Qn ?_;refine Qb Qad Qbm4 ?_;refine Qa ?_;simp only[go_sem];intro x2 hx2 H1 h1;have kn:=(Kn.start0 H).al hx2 h1;refine Qa ?_;simp only[go_sem];intro x3 hx3 H2 h2;have kn:=kn.al hx3 h2;have hx32:=kn.l 1 rfl;simp only[go_sem,Qarm,hx32];intro H3 h3;have kn:Kn H H3 [] [(x2,.st [.sl true 3 []]),(x3,.st [.sl true 3 []])]:=kn.stL 1 rfl h3;refine Q5 ?_;refine Qa ?_;simp only[go_sem];refine Qg (Qe (Q2 (fun n e1 H1=>∃(i:Nat) (cs:List CodeD) (c:C) (Lg:List (Nat×Obj)),n=fns.length-i∧i≤fns.length∧cs=(Qbd (-1) fns).take i∧cs.length=i∧(∀c∈cs,c.fits)∧Gr Lg 3 (Qy cs) c∧Kn H H1 [] ([(x2,.st [.sl true 3 []]),(x3,.st [c])]++Lg)∧
  e1=[(1,.c (.pp [.sl fl 3 (Q3 fns)])),(2,.c (.ptr x2 0)),(3,.c (.ptr x3 0)),(4,.c (.int .i64 i))]) fns.length ?_ ?_))
 ·exact⟨0,[],_,[],by omega,by omega,rfl,rfl,by simp,.nil 3,kn,rfl⟩
 ·rintro n e1 H1 ⟨i,cs,c,Lg,hn1,hi,hcs,hcl,hfit,hgr,kn,rfl⟩;refine Q5 ?_;refine Qa ?_;simp only[go_sem,Qx];intro hl;simp only[LIM]at hl;have hcow:=hgr.isOw;have hx31:=kn.l 1 rfl;refine Qg (Qc rfl ?_ ?_)
  ·intro hc;have hlt:i<fns.length:=by simpa using hc
   have hm:=Jb hlt;refine Qf ?_;simp only[go_sem];refine Qg (Qe (Qe8 ?_));simp only[go_sem,hx31,hcow];refine Qbss hlt (hp.par _ hm) (hp.ok _ hm) (by have:=Qbf hm;have:=hp.size;omega) fun H4 hu hxf=>?_;obtain⟨x,hx⟩:∃x,Qo6 (-1) fns fns[i]=x:=⟨_,rfl⟩;rw[hx]at hxf;rw[hx];have hcs':cs++[x]=(Qbd (-1) fns).take (i+1):=by
    have hlu:i<(Qbd (-1) fns).length:=(by simpa[Qbd]using hlt);rw[Jc hlu,hcs,←hx];simp[Qbd]
   have kn:=kn.call0 hu;have hx34:=kn.l 1 rfl;simp only[go_sem,Qaro,hx34,hcow,CodeD.cells];refine kn.grow (B:=[_,_]) (new:=[x.cells]) hgr (.mk' _ _ _ _) (by intro r hr;simp only[Ja]at hr;subst hr;rfl) (by simp only[Qae,LIM,Jk,Jq];omega) fun y' H5 kn=>?_;have hx35:=kn.l 1 rfl;simp only[go_sem,Qarn,hx35];intro H6 h6;have kn:=kn.stL 1 rfl h6;refine Qp ?_;simp only[go_sem,X.next];refine⟨Qm (by omega) (by omega),fns.length-(i+1),by omega,i+1,cs++[x],_,_,rfl,by omega,hcs',by simp[hcl],fun c' hc'=>by
    rcases Jj.1 hc' with h|h
    ·exact hfit c' h
    ·simp at h;subst h;exact hxf,?_,kn,rfl⟩
   rw[Qaf1];exact .mk _ _ _ (by simp[Qae])
  ·intro hc;have hge:fns.length≤i:=by simpa using hc
   have hx21:=kn.l 0 rfl;refine Q1 ?_;simp only[go_sem,X.next];refine Qa ?_;simp only[go_sem,hx31,hx21,hcow];intro H2 h2;have kn:=kn.stL 0 rfl h2;have hx22:=kn.l 0 rfl;refine Qi ?_;simp only[go_sem,Qq,Q7,Qbbq,Ja,forall_eq,RS.op,hx22,hcow];exact⟨.ag [.sl false 3 (Qy cs)],FrzL.ag (.cons (hgr.frz (B:=[_,_]) kn (Qpc _)) .nil),by rw[Je (by simpa[Qbd]using hge)]at hcs;subst hcs;exact hK _ kn.fin hfit⟩
attribute [local instance] Classical.propDecidable
def Qald (q:CodeD):Bool:=decide (0≤q.params∧q.params≤3)&&decide (q.params≤q.regs∧q.regs≤300)&&decide (1≤(q.blocks.length:Int)∧(q.blocks.length:Int)≤160)
def cntY (y:BlkD):Nat:=y.ins.length+y.phis.length
def Q7v {α:Type}(f:α→Nat)(l:List α):Nat:=(l.map f).sum
theorem Qsv {α:Type}{f:α→Nat}{l:List α}{i:Nat}(h:i<l.length):Q7v f (l.take (i+1))=Q7v f (l.take i)+f l[i]:=by
 rw[Q7v,Q7v,Jc h,J1,Jal];simp
theorem Qbaf {α:Type}{f:α→Nat}{l:List α}(i:Nat):Q7v f (l.take i)≤Q7v f l:=by
 have:Q7v f l=Q7v f (l.take i)+Q7v f (l.drop i):=by rw[Q7v,Q7v,Q7v,←Jal,←J1,Ju]
 omega
def cntQ (q:CodeD):Nat:=Q7v cntY q.blocks
def Qar3 (cs:List CodeD)(k:Nat)(hk:k<cs.length):Prop:=Qald cs[k]=true∧∀(b:Nat) (h:b<cs[k].blocks.length),blkG cs k b cs[k] cs[k].blocks[b]=true
def Qbrs (cs:List CodeD):Prop:=(1≤(cs.length:Int)∧(cs.length:Int)≤4)∧(∀(k:Nat) (h:k<cs.length),Qar3 cs k h)∧Q7v cntQ cs≤800
noncomputable def Qarx (cs:List CodeD):Bool:=decide (Qbrs cs)
theorem Q31 {cs:List CodeD}(h:¬Qbrs cs):Qarx cs=false:=decide_eq_false h
theorem Qbom {cs:List CodeD}{k j:Nat}(hk:k<cs.length)(hj:j<cs[k].blocks.length)(h:800<Q7v cntQ (cs.take k)+Q7v cntY (cs[k].blocks.take j)+cntY cs[k].blocks[j]):¬Qbrs cs:=by
 rintro⟨_,_,h3⟩;have a1:=Qbaf (f:=cntQ) (l:=cs) (k+1);rw[Qsv hk]at a1;have a2:=Qbaf (f:=cntY) (l:=cs[k].blocks) (j+1);rw[Qsv hj]at a2;simp only[cntQ]at *;omega
theorem Qa0z {cs:List CodeD}{fl:Bool}(hfit:∀c∈cs,c.fits)(hK:∀(H':Heap),Upd H H' []→K (.c (.bool (Qarx cs))) H') :
  Qj prog Qn6 [.ag [.sl fl 3 (Qy cs)]] H K:=by
 refine Qn ?_;refine Qb Qad Qask ?_;have retf:∀(b:Bool) (e:Env) (H':Heap) (L:List (Nat×Obj)),Qarx cs=b→Kn H H' [] L→lk 2 e=.c (.bool b)→Qq Qfh (unK H K) .ret e H':=by
  intro b e H' L hb kn h3;simp only[go_sem,Qq,Q7,Qfh,Ja,forall_eq,RS.op,h3];rw[←hb];exact⟨_,.c _ _ (Qd rfl),hK _ kn.fin⟩
 have kn:=Kn.start0 H;refine Qa ?_;simp only[go_sem];refine Q5 ?_;refine Qa ?_;simp only[go_sem,Qae];intro hcl;refine Qd2 ?_;simp only[go_sem,Qso];refine Qg (Qc rfl ?_ ?_)
 ·intro hc;refine Qa ?_;simp only[go_sem];refine Qi ?_;simp only[go_sem];exact retf false _ _ _ (Q31 fun hu=>by have:=of_decide_eq_false (Qk9 hc);exact this hu.1) kn (by simp[lk])
 intro hc;have hc4:cs.length≤4∧0<cs.length:=by
  have:1≤(cs.length:Int)∧(cs.length:Int)≤4:=by simpa using hc
  omega
 refine Qf ?_;simp only[go_sem];refine Qa ?_;simp only[go_sem];refine Q5 ?_;refine Qa ?_;simp only[go_sem];refine Qg (Qe (Q2 (fun m e1 H1=>∃(k n:Nat),m=cs.length-k∧k≤cs.length∧n=Q7v cntQ (cs.take k)∧n≤800∧(∀(i:Nat) (hi:i<cs.length),i<k→Qar3 cs i hi)∧Kn H H1 [] []∧e1=[(1,.c (.pp [.sl fl 3 (Qy cs)])),(3,.c (.int .i64 n)),(4,.c (.int .i64 k))]) cs.length ?_ ?_))
 ·exact⟨0,0,by omega,by omega,rfl,by omega,fun _ _ h=>by omega,kn,rfl⟩
 ·rintro m e1 H1 ⟨k,n,hm,hk,hns,hn,hgd,kn,rfl⟩;refine Q5 ?_;refine Qa ?_;simp only[go_sem,Qae];intro hcl;refine Qg (Qc rfl ?_ ?_)
  ·intro hc;have hlt:k<cs.length:=by simpa using hc
   refine Qf ?_;simp only[go_sem];refine Qg (Qe ?_);refine Qa ?_;simp only[go_sem,hlt,Qae,Qbe _ _ hlt,CodeD.cells];obtain⟨q,hq⟩:∃q,cs[k]=q:=⟨_,rfl⟩;rw[hq];intro x5 hx5 H2 h2;have kn:=kn.al hx5 h2;have hx52:=kn.l 0 rfl;simp only[go_sem,Qsp,hx52];intro H3 h3;have kn:Kn H H3 [] [(x5,.st [.int .i64 q.params,.int .i64 q.regs,.sl false 5 (Qap q.blocks)])]:=kn.stL 0 rfl h3;have hx53:=kn.l 0 rfl;refine Q5 ?_;refine Qa ?_;simp only[go_sem,hx53];refine Qd2 ?_;simp only[go_sem,Qsq,hx53];have rest:∀(b:Bool) (E1:Env),lk 1 E1=.c (.pp [.sl fl 3 (Qy cs)])→lk 3 E1=.c (.int .i64 n)→lk 4 E1=.c (.int .i64 k)→lk 5 E1=.c (.ptr x5 0)→lk 42 E1=.c (.bool b)→Qald q=(!b)→
     Q8 prog (s_sp_UnitValid_6.seq Qsn) (X.inBlock 1 (X.sq prog Qje (X.next (fun e2 H2=>∃m_1,m_1<m∧∃(k n:Nat),m_1=cs.length-k∧k≤cs.length∧n=Q7v cntQ (cs.take k)∧n≤800∧(∀(i:Nat) (hi:i<cs.length),i<k→Qar3 cs i hi)∧Kn H H2 [] []∧e2=[(1,.c (.pp [.sl fl 3 (Qy cs)])),(3,.c (.int .i64 n)),(4,.c (.int .i64 k))])
      (X.inBlock 0 (X.sq prog Qjf (Qq Qfh (unK H K))))))) E1 H3:=by
    intro b E1 l1 l3 l4 l5 l42 hb;refine Qg (Qc l42 ?_ ?_)
    ·intro hc2;refine Qa ?_;simp only[go_sem];refine Qi ?_;simp only[go_sem,X.next];exact retf false _ _ _ (Q31 fun hu=>by have:=(hu.2.1 k hlt).1;rw[hq,hb,hc2]at this;simp at this) kn (by simp[lk])
    intro hc2;rw[hc2]at hb;have hb':=hb;simp only[Qald,Jn,Jh,decide_eq_true_eq]at hb';obtain⟨hr0,hr1,hb0,hbl⟩:0≤q.regs∧q.regs≤300∧0<q.blocks.length∧q.blocks.length≤160:=(by omega);refine Qf ?_;simp only[go_sem];refine Qa ?_;simp only[go_sem,l1,l3,l4,l5];refine Qe (Q2 (fun m e1 H1=>∃(j n2:Nat),m=q.blocks.length-j∧j≤q.blocks.length∧n2=n+Q7v cntY (q.blocks.take j)∧n2≤800∧(∀(i:Nat) (hi:i<q.blocks.length),i<j→blkG cs k i q q.blocks[i]=true)∧Kn H H1 [] [(x5,.st [.int .i64 q.params,.int .i64 q.regs,.sl false 5 (Qap q.blocks)])]∧
     e1=[(1,.c (.pp [.sl fl 3 (Qy cs)])),(3,.c (.int .i64 n2)),(4,.c (.int .i64 k)),(5,.c (.ptr x5 0)),(6,.c (.int .i64 j))]) q.blocks.length ?_ ?_)
    ·exact⟨0,n,by omega,by omega,rfl,hn,fun _ _ h=>by omega,kn,rfl⟩
    ·rintro m2 e1 H4 ⟨j,n2,hm2,hj,hn2s,hn2,hnx,kn,rfl⟩;have hx54:=kn.l 0 rfl;refine Q5 ?_;refine Qa ?_;simp only[go_sem,hx54,Qal];intro hbl2;refine Qg (Qc rfl ?_ ?_)
     ·intro hc3;have hjl:j<q.blocks.length:=(by simpa using hc3);refine Qf ?_;simp only[go_sem];refine Qg (Qe ?_);have hqf:=hfit _ (Jb hlt);rw[hq]at hqf;have hbf:=hqf _ (Jb hjl);have hss:=Qsv (f:=cntY) hjl;have hcy:cntY q.blocks[j]=q.blocks[j].ins.length+q.blocks[j].phis.length:=rfl;refine Qaf ?_;simp only[go_sem,hx54,hjl,Qal,Qdf _ _ hjl,BlkD.cells,Qco,Qbr];refine⟨Qm (by omega) (by omega),Qm (by omega) (by omega),?_⟩;refine Qa ?_;simp only[go_sem];have fin:∀(b3:Bool) (E1:Env) (H5:Heap),(decide (n2+cntY q.blocks[j]≤800)&&blkG cs k j q q.blocks[j])=(!b3)→Kn H H5 [] [(x5,.st [.int .i64 q.params,.int .i64 q.regs,.sl false 5 (Qap q.blocks)])]→lk 1 E1=.c (.pp [.sl fl 3 (Qy cs)])→
        lk 3 E1=.c (.int .i64 ((n2+q.blocks[j].ins.length+q.blocks[j].phis.length:Nat):Int))→lk 4 E1=.c (.int .i64 k)→lk 5 E1=.c (.ptr x5 0)→lk 6 E1=.c (.int .i64 j)→lk 75 E1=.c (.bool b3)→
        Q8 prog Qwi (X.inBlock 3 (X.sq prog Qsm (X.next (fun e2 H2=>∃m,m<m2∧∃(j n2:Nat),m=q.blocks.length-j∧j≤q.blocks.length∧n2=n+Q7v cntY (q.blocks.take j)∧n2≤800∧(∀(i:Nat) (hi:i<q.blocks.length),i<j→blkG cs k i q q.blocks[i]=true)∧Kn H H2 [] [(x5,.st [.int .i64 q.params,.int .i64 q.regs,.sl false 5 (Qap q.blocks)])]∧
         e2=[(1,.c (.pp [.sl fl 3 (Qy cs)])),(3,.c (.int .i64 n2)),(4,.c (.int .i64 k)),(5,.c (.ptr x5 0)),(6,.c (.int .i64 j))])
         (X.inBlock 2 (X.inBlock 1 (X.sq prog Qje (X.next (fun e2 H2=>∃m_1,m_1<m∧∃(k n:Nat),m_1=cs.length-k∧k≤cs.length∧n=Q7v cntQ (cs.take k)∧n≤800∧(∀(i:Nat) (hi:i<cs.length),i<k→Qar3 cs i hi)∧Kn H H2 [] []∧e2=[(1,.c (.pp [.sl fl 3 (Qy cs)])),(3,.c (.int .i64 n)),(4,.c (.int .i64 k))])
         (X.inBlock 0 (X.sq prog Qjf (Qq Qfh (unK H K))))))))))) E1 H5:=by
       intro b3 E1 H5 hb3 kn l1 l3 l4 l5 l6 l75;refine Qc l75 ?_ ?_
       ·intro hc4;refine Qa ?_;simp only[go_sem];refine Qi ?_;simp only[go_sem,X.next];refine retf false _ _ _ (Q31 fun hu=>?_) kn (by simp[lk]);rw[hc4]at hb3;have hblk:=(hu.2.1 k hlt).2 j (by rw[hq];exact hjl);subst hq;have hov:¬800<n2+cntY cs[k].blocks[j]:=fun ho=>Qbom hlt hjl (by omega) hu;rw[hblk]at hb3;simp at hb3;omega
       ·intro hc4;rw[hc4]at hb3;simp only[Jn,Jh,decide_eq_true_eq]at hb3;refine Qf ?_;simp only[go_sem];refine Qp ?_;simp only[go_sem,X.next,l1,l3,l4,l5,l6];refine⟨Qm (by omega) (by omega),q.blocks.length-(j+1),by omega,j+1,_,rfl,by omega,?_,?_,?_,kn,rfl⟩
        ·rw[hss];omega
        ·omega
        ·intro i hi hij;by_cases hij2:i<j
         ·exact hnx i hi hij2
         ·have:i=j:=(by omega);subst this;exact hb3.2
      refine⟨fun hb1=>?_,fun hb1=>?_⟩
      ·refine Qbht hlt (by rw[hq];exact hjl) (by rw[hq];exact hr0) (by rw[hq];exact hr1) (by omega) (by rw[hq];omega) fun H5 hu=>?_;have kn:=kn.call0 hu;simp only[go_sem,Qjh];refine fin _ _ _ ?_ kn (by simp[lk]) (by simp[lk]) (by simp[lk]) (by simp[lk]) (by simp[lk]) (by simp[lk];rfl);subst hq;by_cases ho:n2+cntY cs[k].blocks[j]≤800
       ·have ho':¬800<(n2:Int)+cs[k].blocks[j].ins.length+cs[k].blocks[j].phis.length:=(by simp only[cntY]at ho;omega);simp[ho,ho']
       ·have ho':800<(n2:Int)+cs[k].blocks[j].ins.length+cs[k].blocks[j].phis.length:=(by simp only[cntY]at ho;omega);simp[ho,ho']
      ·replace hb1:=Qeh hb1;simp only[go_sem,Qjh,hb1];exact fin true _ _ (by simp at hb1;simp[hcy];omega) kn (by simp[lk]) (by simp[lk]) (by simp[lk]) (by simp[lk]) (by simp[lk]) (by simp[lk])
     ·intro hc3;refine Q1 ?_;simp only[go_sem,X.next];refine Qp ?_;simp only[go_sem,X.next];have hjq:q.blocks.length≤j:=(by simpa using hc3);have hjq:j=q.blocks.length:=(by omega);refine⟨Qm (by omega) (by omega),cs.length-(k+1),by omega,k+1,n2,rfl,by omega,?_,hn2,?_,kn.drop (A:=[]),rfl⟩
      ·rw[Qsv hlt,hq,hn2s,hns,hjq,List.take_length];rfl
      ·intro i hi hik;by_cases hik2:i<k
       ·exact hgd i hi hik2
       ·have:i=k:=(by omega);subst this;subst hq;exact⟨by rw[hb];rfl,fun b hbl=>hnx b hbl (by omega)⟩
   refine⟨fun hb1=>?_,fun hb1=>?_⟩
   ·refine Qd2 ?_;simp only[go_sem,Qjg,hx53,Qal];intro hblim;refine⟨fun hb2=>?_,fun hb2=>?_⟩
    ·replace hb2:=Qk9 hb2;refine Qd2 ?_;simp only[go_sem,Qex];refine rest _ _ (by simp[lk]) (by simp[lk]) (by simp[lk]) (by simp[lk]) (by simp[lk];rfl) ?_;simp[Qald]
    ·replace hb2:=Qeh hb2;simp only[go_sem,Qex,hb2];exact rest true _ (by simp[lk]) (by simp[lk]) (by simp[lk]) (by simp[lk]) (by simp[lk]) (by simp at hb2;simp[Qald];omega)
   ·replace hb1:=Qeh hb1;simp only[go_sem,Qjg,Qex,hb1,hx53,Qal,cond_true];exact rest true _ (by simp[lk]) (by simp[lk]) (by simp[lk]) (by simp[lk]) (by simp[lk]) (by simp at hb1;simp[Qald];omega)
  ·intro hc;refine Q1 ?_;simp only[go_sem,X.next];refine Qa ?_;simp only[go_sem];refine Qi ?_;have hkc:cs.length≤k:=by simpa using hc
   refine retf true _ _ _ (decide_eq_true ⟨by omega,fun i hi=>hgd i hi (by omega),?_⟩) kn (by simp[lk]);rw[Je hkc]at hns;omega
end Go.AE.Y
namespace Go.AE.Y
attribute [local go_sem] cond_true cond_false Bool.not_true Bool.not_false
attribute [local instance] Classical.propDecidable
open Go.Proofs.Tryz
variable {H:Heap}{K:V→Heap→Prop}{fns:List Fn}
noncomputable def lowB (fns:List Fn):Bool:=Qak3 fns&&Qarx (Qbd (-1) fns)
noncomputable def lowP (fns:List Fn):List CodeD:=if lowB fns=true then Qbd (-1) fns else []
theorem Q78 {m:Nat}:∀{l:List Fn},(∀f∈l,Qh f.body≤m)→Qs l≤l.length * (m+1)
 |[],_=>by simp[Qs]
 |f::r,h=>by
  have h1:=h f (by simp);have h2:=Q78 fun g hg=>h g (Jl _ hg);simp only[Qs,Jk];rw[Nat.add_mul];omega
theorem FineP.prOk (h:FineP fns):PrOk fns:=by
 have hs:∀f∈fns,Qh f.body≤4000∧Qcy f.body∧f.params.length≤3:=fun f hf=>by
  obtain⟨k,hk,rfl⟩:=J5.1 hf;exact h.sizes k hk
 have hl:=h.len;refine⟨hl.1,fun f hf=>(hs f hf).2.2,fun f hf=>(hs f hf).2.1,?_,hl.2⟩;have h1:=Q78 fun f hf=>(hs f hf).1;have h2:fns.length * (4000+1)≤4 * (4000+1):=Jx _ hl.2;omega
theorem Qbkn {fl:Bool}(hf:Qs fns≤2^36)(hK:∀H',Upd H H' []→(∀c∈lowP fns,c.fits)→K (.tup [.ag [.sl false 3 (Qy (lowP fns))],.c (.bool (lowB fns))]) H') :
  Qj prog Qhe [.ag [.sl fl 3 (Q3 fns)]] H K:=by
 refine Qn ?_;refine Qb Qad Qadv ?_;refine Qa ?_;simp only[go_sem];intro x2 hx2 H1 h1;have kn:=(Kn.start0 H).al hx2 h1;have g2:=kn.l 0 rfl;simp only[go_sem,Qm1];refine Q5 ?_;refine Qa ?_;simp only[go_sem];refine Qboc hf fun H2 hu=>?_;have kn:=kn.call0 hu;have g2:=kn.l 0 rfl;simp only[go_sem,Qm2];have bad:∀(e:Env) (H':Heap) (L:List (Nat×Obj)),lowB fns=false→Kn H H' [] ((x2,.st [.sl true 3 []])::L)→lk 2 e=.c (.ptr x2 0)→lk 3 e=.c (.bool false)→Qq Qet (unK H K) .ret e H':=by
  intro e H' L hb kn l2 l3;have g2:=kn.l 0 rfl;simp only[go_sem,Qq,Q7,Qet,J2,J4,or_false,forall_eq_or_imp,forall_eq,RS.op,g2,l2,l3];have:=hK _ kn.fin (by rw[lowP,hb];simp);rw[lowP,hb]at this;refine⟨_,Q38 (rows:=[]) (by simp) _,this⟩
 refine Qg (Qc rfl (fun hc=>?_) (fun hc=>?_))
 ·have hb:Qak3 fns=false:=by simpa using hc
  refine Qa ?_;simp only[go_sem,g2];intro H3 h3;have kn:=kn.stL 0 rfl h3;simp only[go_sem,Qm3];refine Qi ?_;exact bad _ _ _ (by rw[lowB,hb];rfl) kn rfl rfl
 have hb:Qak3 fns=true:=by simpa using hc
 have hp:=fine_iff.1 hb;refine Qf ?_;try simp only[go_sem]
 refine Qa ?_;simp only[go_sem];refine Qbmr hp.prOk fun H3 hu hfit=>?_;have kn:=kn.call0 hu;simp only[go_sem,Qm5];intro x4 hx4 H4 h4;have kn:=kn.al hx4 h4;have g4:=kn.l 1 rfl;simp only[go_sem,Qm4,g4];intro H5 h5;have kn:Kn H H5 [] [(x2,.st [.sl true 3 []]),(x4,.st [.sl false 3 (Qy (Qbd (-1) fns))])]:=kn.stL 1 rfl h5;have g4:=kn.l 1 rfl;refine Q5 ?_;refine Qa ?_;simp only[go_sem,g4];refine Qa0z hfit fun H6 hu=>?_;have kn:=kn.call0 hu;have g2:=kn.l 0 rfl;have g4:=kn.l 1 rfl;simp only[go_sem,Qm6];refine Qg (Qc rfl (fun hc=>?_) (fun hc=>?_))
 ·have hg:Qarx (Qbd (-1) fns)=false:=by simpa using hc
  refine Qa ?_;simp only[go_sem,g2];intro H7 h7;have kn:=kn.stL 0 rfl h7;simp only[go_sem,Qm7];refine Qi ?_;exact bad _ _ _ (by rw[lowB,hg,Jan]) kn rfl rfl
 have hg:Qarx (Qbd (-1) fns)=true:=by simpa using hc
 have hlow:lowB fns=true:=by rw[lowB,hb,hg];rfl
 have hP:lowP fns=Qbd (-1) fns:=by rw[lowP,if_pos hlow]
 refine Qf ?_;try simp only[go_sem]
 refine Qa ?_;simp only[go_sem,g2,g4];intro H7 h7;have kn:=kn.stL 0 rfl h7;have g2:=kn.l 0 rfl;simp only[go_sem,Qm8];refine Qi ?_;simp only[go_sem,Qq,Q7,Qet,J2,J4,or_false,forall_eq_or_imp,forall_eq,RS.op,g2];have:=hK _ kn.fin (by rw[hP];exact hfit);rw[hP,hlow]at this;exact⟨_,Q38 (Qpc _) _,this⟩
end Go.AE.Y
namespace Go.AE.Y
open Go.Proofs.Tryz
variable {H:Heap}{K:V→Heap→Prop}
theorem Qbhe {op:Int}(hK:K (.c (.bool (decide (1≤op)&&decide (op≤14)))) H):Qj prog Qs3 [.c (.int .i64 op)] H K:=by
 refine Qb Qad Qbct ?_;refine Qa ?_;simp only[go_sem];refine Qa ?_;simp only[go_sem];refine Qh8 ?_;simp only[go_sem,Qab3];refine Qi ?_;simp only[go_sem,Qq,Q7,Qfh,Ja,forall_eq,RS.op];exact hK
theorem Qbl5 {n:Int}(hK:K (.c (.bool (decide (0≤n)&&decide (n≤255)))) H):Qj prog Qjx [.c (.int .i64 n)] H K:=by
 refine Qb Qad Qaln ?_;refine Qa ?_;simp only[go_sem];refine Qa ?_;simp only[go_sem];refine Qh8 ?_;simp only[go_sem,Qqo];refine Qi ?_;simp only[go_sem,Qq,Q7,Qfh,Ja,forall_eq,RS.op];exact hK
theorem Qbkk {op:Int}(hK:K (.c (.bool (Qaf4 op))) H):Qj prog Q3r [.c (.int .i64 op)] H K:=by
 refine Qb Qad Qbh1 ?_;refine Qa ?_;simp only[go_sem];refine Qa ?_;simp only[go_sem];refine Qbhe ?_;simp only[go_sem,Qagk];refine Qi ?_;simp only[go_sem,Qq,Q7,Qfh,Ja,forall_eq,RS.op];have:∀a b c:Bool,(bif bif a then b else false then c else false)=(a&&b&&c):=by decide
 rw[this];have e:(decide (1≤op)&&decide (op≤14))=decide (1≤op∧op≤14):=by simp
 rw[e];exact hK
theorem Qa0v {j:Int}(hK:K (.c (.bool (decide (j=2) || decide (j=3)))) H):Qj prog Qpd [.c (.int .i64 j)] H K:=by
 refine Qb Qad Qa6i ?_;refine Qa ?_;simp only[go_sem];refine Qa ?_;simp only[go_sem];refine Qi ?_;simp only[go_sem,Qq,Q7,Qfh,Ja,forall_eq,RS.op];have:∀a b:Bool,(bif a then true else b)=(a || b):=by decide
 first|(rw[this];exact hK)|exact hK
theorem Qa6p {j:Int}(hK:K (.c (.int .i64 (Q4j j))) H):Qj prog Qn3 [.c (.int .i64 j)] H K:=by
 refine Qb Qad Qasf ?_;have retf:∀(n:Int) (e:Env),Q4j j=n→lk 2 e=.c (.int .i64 n)→Qq Qfh K .ret e H:=by
  intro b e h1 h3;simp only[go_sem,Qq,Q7,Qfh,Ja,forall_eq,RS.op,h3];rw[←h1];exact hK
 refine Qa ?_;simp only[go_sem];refine Q5 ?_;refine Qa ?_;simp only[go_sem];refine Qg (Qe ?_);refine Qa ?_;simp only[go_sem];refine Qc rfl ?_ ?_
 ·intro hc;refine Qa ?_;simp only[go_sem];refine Qi ?_;simp only[go_sem];exact retf 1 _ (by simp at hc;simp[Q4j,hc]) (by simp[lk])
 intro hc1;refine Qa ?_;simp only[go_sem];refine Qc rfl ?_ ?_
 ·intro hc;refine Qa ?_;simp only[go_sem];refine Qi ?_;simp only[go_sem];exact retf 2 _ (by simp at hc;simp[Q4j,hc]) (by simp[lk])
 intro hc2;refine Qa ?_;simp only[go_sem];refine Qc rfl ?_ ?_
 ·intro hc;refine Qa ?_;simp only[go_sem];refine Qi ?_;simp only[go_sem];exact retf 0 _ (by simp at hc;simp[Q4j,hc]) (by simp[lk])
 ·intro hc;refine Qf ?_;simp only[go_sem];refine Qa ?_;simp only[go_sem];refine Qi ?_;exact retf (-1) _ (by simp at hc hc1 hc2;simp[Q4j,hc,hc1,hc2]) (by simp[lk])
def Qa00 (op:Int):Int:=if op=1 then 0 else if op=2∨op=10∨op=11∨op=13 then 1 else 2
theorem Qbhd {op:Int}(hK:K (.c (.int .i64 (Qa00 op))) H):Qj prog Qs2 [.c (.int .i64 op)] H K:=by
 refine Qb Qad Qa1p ?_;have retf:∀(n:Int) (e:Env),Qa00 op=n→lk 2 e=.c (.int .i64 n)→Qq Qfh K .ret e H:=by
  intro b e h1 h3;simp only[go_sem,Qq,Q7,Qfh,Ja,forall_eq,RS.op,h3];rw[←h1];exact hK
 refine Qa ?_;simp only[go_sem];refine Q5 ?_;refine Qa ?_;simp only[go_sem];refine Qg (Qe ?_);refine Qa ?_;simp only[go_sem];refine Qc rfl ?_ ?_
 ·intro hc;refine Qa ?_;simp only[go_sem];refine Qi ?_;simp only[go_sem];exact retf 0 _ (by simp at hc;simp[Qa00,hc]) (by simp[lk])
 intro hc1;have fin:∀(b:Bool) (e:Env),b=decide (op=2∨op=10∨op=11∨op=13)→lk 6 e=.c (.bool b)→Q8 prog Q7b (X.inBlock 0 (X.sq prog Q7c (Qq Qfh K))) e H:=by
  intro b e hb l6;refine Qc l6 ?_ ?_
  ·intro hc;refine Qa ?_;simp only[go_sem];refine Qi ?_;simp only[go_sem];exact retf 1 _ (by rw[hc]at hb;have:=of_decide_eq_true hb.symm;simp at hc1;rw[Qa00,if_neg hc1,if_pos this]) (by simp[lk])
  ·intro hc;refine Qf ?_;simp only[go_sem];refine Qa ?_;simp only[go_sem];refine Qi ?_;exact retf 2 _ (by rw[hc]at hb;have:=of_decide_eq_false hb.symm;simp at hc1;rw[Qa00,if_neg hc1,if_neg this]) (by simp[lk])
 refine Q5 ?_;refine Qa ?_;simp only[go_sem];refine Qg (Qc rfl ?_ ?_)
 ·intro hc;refine Qf ?_;simp only[go_sem];exact fin true _ (decide_eq_true (.inl (of_decide_eq_true hc))).symm (by simp[lk];exact of_decide_eq_true hc)
 intro hc2;refine Qa ?_;simp only[go_sem];refine Qc rfl ?_ ?_
 ·intro hc;refine Qf ?_;simp only[go_sem];exact fin true _ (decide_eq_true (.inr (.inl (of_decide_eq_true hc)))).symm (by simp[lk];exact of_decide_eq_true hc)
 intro hc3;refine Qa ?_;simp only[go_sem];refine Qc rfl ?_ ?_
 ·intro hc;refine Qf ?_;simp only[go_sem];exact fin true _ (decide_eq_true (.inr (.inr (.inl (of_decide_eq_true hc))))).symm (by simp[lk];exact of_decide_eq_true hc)
 intro hc4;refine Qp ?_;simp only[go_sem];refine fin (decide (op=13)) _ ?_ (by simp[lk]);have a2:=of_decide_eq_false hc2;have a3:=of_decide_eq_false hc3;have a4:=of_decide_eq_false hc4;simp[a2,a3,a4]
theorem Qa5l {l:List BlkD}(hf:∀b∈l,b.ins.length≤2 ^ 38∧b.phis.length≤2 ^ 38):Q7v cntY l≤l.length * 549755813888:=by
 induction l with
 |nil=>simp[Q7v]
 |cons y l ih=>
  have h1:=hf y Jt;have h2:=ih fun b hb=>hf b (Jl _ hb);simp only[Q7v,Jw,List.sum_cons,cntY,Jk]at *;omega
theorem Qa5w {q:CodeD}{fl:Bool}(hf:q.fits)(hb:q.blocks.length≤160)(hK:∀H',Upd H H' []→K (.c (.int .i64 (cntQ q))) H') :
  Qj prog Qnz [.ag [.int .i64 q.params,.int .i64 q.regs,.sl fl 5 (Qap q.blocks)]] H K:=by
 refine Qn ?_;refine Qb Qad Qasa ?_;have hsb:=Qa5l hf;refine Qa ?_;simp only[go_sem];refine Qa ?_;simp only[go_sem];refine Q5 ?_;refine Qa ?_;simp only[go_sem,Qal];intro _;refine Qg (Qe (Q2 (fun m e1 H1=>∃(i:Nat),m=q.blocks.length-i∧i≤q.blocks.length∧Kn H H1 [] []∧
  e1=[(3,.c (.int .i64 (Q7v cntY (q.blocks.take i):Nat))),(7,.c (.sl fl 5 (Qap q.blocks))),(8,.c (.int .i64 q.blocks.length)),(9,.c (.int .i64 i))]) q.blocks.length ?_ ?_))
 ·exact⟨0,by omega,by omega,Kn.start0 H,rfl⟩
 ·rintro m e1 H1 ⟨i,hm,hi,kn,rfl⟩;refine Qa ?_;simp only[go_sem];refine Qg (Qc rfl ?_ ?_)
  ·intro hc;have hlt:i<q.blocks.length:=by simpa using hc
   have hbf:=hf _ (Jb hlt);have hss:=Qsv (f:=cntY) hlt;have hle:=Qbaf (f:=cntY) (l:=q.blocks) (i+1);have hcy:cntY q.blocks[i]=q.blocks[i].ins.length+q.blocks[i].phis.length:=rfl;have hmul:q.blocks.length * 549755813888≤160 * 549755813888:=Jx _ hb;refine Qf ?_;simp only[go_sem];refine Qg (Qe ?_);refine Qa ?_;simp only[go_sem,hlt,Qal,Qdf _ _ hlt,BlkD.cells];intro x5 hx5 H2 h2;have kn:=kn.al hx5 h2;have hx5:=kn.l 0 rfl;simp only[go_sem,Qrr,hx5];intro H3 h3;have kn:Kn H H3 [] ([]++[(x5,.st [.sl false 2 (Qf3 q.blocks[i].phis),.sl false 4 (Qn7 q.blocks[i].ins),.int .i64 q.blocks[i].jump,.int .i64 q.blocks[i].on,.sl false 1 (Q0 q.blocks[i].next)])]):=kn.stL 0 rfl h3;have hx5:=kn.l 0 rfl;refine Qp ?_;simp only[go_sem,hx5,Qco,Qbr];intro _ _;refine⟨Qm (by omega) (by omega),Qm (by omega) (by omega),?_⟩;refine Qp ?_;simp only[go_sem,X.next];refine⟨Qm (by omega) (by omega),q.blocks.length-(i+1),by omega,i+1,rfl,by omega,kn.drop,?_⟩;rw[hss,hcy];have:((Q7v cntY (q.blocks.take i):Nat):Int)+((q.blocks[i].phis.length:Int)+q.blocks[i].ins.length)=((Q7v cntY (q.blocks.take i)+(q.blocks[i].ins.length+q.blocks[i].phis.length):Nat):Int):=by omega
   rw[this];rfl
  ·intro hc;have hge:q.blocks.length≤i:=by simpa using hc
   refine Q1 ?_;simp only[go_sem,X.next];refine Qa ?_;simp only[go_sem];refine Qi ?_;simp only[go_sem,Qq,Q7,Qfh,Ja,forall_eq,RS.op];rw[Je hge];exact⟨_,.c _ _ (Qd rfl),hK _ kn.fin⟩
theorem Qawd {x7:Nat}{q:CodeD}{v:Int}(h7:H x7=.st q.cells)(hr:-(2^62)≤q.regs)(hr2:q.regs≤2^62)(hK:K (.c (.bool (decide (0≤v∧v≤q.regs-1)))) H) :
  Qj prog Qe9 [.c (.int .i64 v),.c (.ptr x7 0)] H K:=by
 refine Qb Qad Qayc ?_;refine Qa ?_;simp only[go_sem];refine Qa ?_;simp only[go_sem,h7,CodeD.cells];refine⟨Qm (by omega) (by omega),?_⟩;refine Qh8 ?_;simp only[go_sem,Qva];refine Qi ?_;simp only[go_sem,Qq,Q7,Q6y,Ja,forall_eq,RS.op];have e:(decide (0≤v)&&decide (v≤q.regs-1))=decide (0≤v∧v≤q.regs-1):=by simp
 rw[e];exact hK
theorem Qbcn {x7 x8:Nat}{q:CodeD}{v:Int}(h7:H x7=.st q.cells)(h8:H x8=.st [.fn Qe9 [.ptr x7 0]])(hr:-(2^62)≤q.regs)(hr2:q.regs≤2^62)(hK:K (.c (.bool (!decide (0≤v∧v≤q.regs-1)))) H) :
  Qj prog Qp9 [.c (.int .i64 v),.c (.ptr x8 0)] H K:=by
 refine Qb Qad Qayd ?_;refine Qa ?_;simp only[go_sem];refine Qa ?_;simp only[go_sem,h8,Jp,Jr,Jw,Jad];refine Qawd h7 hr hr2 ?_;simp only[go_sem,Qvb];refine Qi ?_;simp only[go_sem,Qq,Q7,Q6y,Ja,forall_eq,RS.op];exact hK
theorem Qa5u (p:Int→Bool)(l:List Int):(l.any fun x=>!p x) = !l.all p:=by
 induction l with
 |nil=>rfl
 |cons x l ih=>simp only[List.any_cons,List.all_cons,ih];cases p x <;> simp
theorem Qbqe {cs:List CodeD}{fl:Bool}{k:Nat}{x:InsD}(hk:k<cs.length)(hr:0≤cs[k].regs)(hr2:cs[k].regs≤300)(hcl:cs.length≤100)(hK:∀(H':Heap),Upd H H' []→K (.c (.bool (insG cs k x))) H') :
  Qj prog Q70 [.ag [.sl fl 3 (Qy cs)],.c (.int .i64 k),.ag x.cells] H K:=by
 refine Qn ?_;refine Qb Qad Qbcs ?_;refine Qa ?_;simp only[go_sem,InsD.cells];refine Qa ?_;simp only[go_sem,hk,Qae,Qbe _ _ hk,CodeD.cells];intro x7 hx7 H1 h1;have kn:=(Kn.start0 H).al hx7 h1;have hx7:=kn.l 0 rfl;simp only[go_sem,Qab0,hx7];intro H2 h2;have kn:=kn.stL 0 rfl h2;refine Qa ?_;simp only[go_sem];intro x8 hx8 H3 h3;have kn:=kn.al hx8 h3;have hx8:=kn.l 1 rfl;simp only[go_sem,Qab1,hx8];intro H4 h4;have kn:Kn H H4 [] [(x7,.st cs[k].cells),(x8,.st [.fn Qe9 [.ptr x7 0]])]:=kn.stL 1 rfl h4;have h7:H4 x7=.st cs[k].cells:=kn.l 0 rfl;have h8:=kn.l 1 rfl;have hrg:=Qbit hk;have retf:∀(b:Bool) (e:Env),insG cs k x=b→lk 6 e=.c (.bool b)→Qq Qbo3 (unK H K) .ret e H4:=by
  intro b e h1 h3;simp only[go_sem,Qq,Q7,Qbo3,Ja,forall_eq,RS.op,h3];rw[←h1];exact⟨_,.c _ _ (Qd rfl),hK _ kn.fin⟩
 refine Q5 ?_;refine Qa ?_;simp only[go_sem];refine Qbhe ?_;simp only[go_sem,Qab2];have rest2:∀(E1:Env) (b:Bool),insH cs[k].regs x=true→insT cs[k].regs x=(!b)→lk 1 E1=.c (.int .i64 k)→lk 3 E1=.c (.pp [.sl fl 3 (Qy cs)])→lk 5 E1=.c (.pp [.int .i64 x.op,.int .i64 x.to,.sl false 1 (Q0 x.args),.int .i64 x.n])→lk 45 E1=.c (.bool b)→
   Q8 prog (s_im_insOk_8.seq Qaby) (Qq Qbo3 (unK H K)) E1 H4:=by
  intro E1 b hb1 hb2 l1 l3 l5 l45;refine Qg (Qc l45 ?_ ?_)
  ·intro hc;refine Qa ?_;simp only[go_sem];refine Qi ?_;simp only[go_sem];exact retf false _ (by rw[insG,hrg,hb2,hc];simp) (by simp[lk])
  intro hc;rw[hc]at hb2;have hG:insG cs k x=insL cs k x:=by rw[insG,hrg,hb1,hb2];rfl
  have hop14:1≤x.op∧x.op≤14:=by
   simp only[insH,Jh,decide_eq_true_eq]at hb1;exact hb1.1
  refine Qf ?_;simp only[go_sem];refine Q5 ?_;refine Qa ?_;simp only[go_sem,l1,l3,l5];refine Qg (Qe ?_);refine Qa ?_;simp only[go_sem];refine Qc rfl ?_ ?_
  ·intro hc;have hop:x.op=1:=of_decide_eq_true hc;have hL:insL cs k x=(decide ((x.args.length:Int)=0)&&(decide (0≤x.n)&&decide (x.n≤255))):=by
    rw[insL,if_neg (by omega)];simp[Qaht,hop]
   refine Qa ?_;simp only[go_sem,Qt];intro _;refine⟨fun hb=>?_,fun hb=>?_⟩
   ·refine Qbl5 ?_;simp only[go_sem,Qtz];refine Qi ?_;simp only[go_sem];refine retf _ _ ?_ (by simp[lk];rfl);have hb':x.args=[]:=List.length_eq_zero_iff.1 (by have:=of_decide_eq_true hb;omega);rw[hG,hL];simp[hb']
   ·simp only[go_sem,Qtz,hb];refine Qi ?_;simp only[go_sem];exact retf false _ (by rw[hG,hL,hb];rfl) (by simp[lk])
  intro hc1;have hop1:¬x.op=1:=of_decide_eq_false hc1;refine Qa ?_;simp only[go_sem];refine Qc rfl ?_ ?_
  ·intro hc;have hop:x.op=14:=of_decide_eq_true hc;rw[insL,if_pos hop]at hG;refine Qaf ?_;simp only[go_sem];refine⟨Qm (by omega) (by omega),?_⟩;refine Qh8 ?_;by_cases hin:0≤x.n∧x.n≤(k:Int)-1
   ·obtain⟨m,hm⟩:=Int.eq_ofNat_of_zero_le hin.1;have hmk:m<cs.length:=(by omega);have h1:(0≤(m:Int))=True:=eq_true (by omega);have h2:((m:Int)≤(k:Int)-1)=True:=eq_true (by omega);simp only[go_sem,Qju,hm,h1,h2,hmk,decide_true,Bool.and_self,Qae,Qbe _ _ hmk,CodeD.cells,Qt];refine Qi ?_;simp only[go_sem];refine retf _ _ ?_ (by simp[lk];rfl);rw[hG,hm,Int.toNat_natCast,Qbio hmk];simp only[h1,h2,and_self,decide_true,Bool.true_and]
   ·have hin':(decide (0≤x.n)&&decide (x.n≤(k:Int)-1))=false:=(by simpa using hin);have hin2:decide (0≤x.n∧x.n≤(k:Int)-1)=false:=(by simpa using hin);by_cases hm:x.n.toNat<cs.length
    ·simp only[go_sem,Qju,hin',Qbe _ _ hm,CodeD.cells];refine Qi ?_;simp only[go_sem];exact retf false _ (by rw[hG,hin2];rfl) (by simp[lk])
    ·have hgd:(Qy cs).getD x.n.toNat []=[]:=by
      rw[Jd,List.getElem?_eq_none (by rw[Qae];omega)];rfl
     simp only[go_sem,Qju,hin',hgd,Jao,List.headD_nil];refine Qi ?_;simp only[go_sem];exact retf false _ (by rw[hG,hin2];rfl) (by simp[lk])
  ·intro hc;have hop:¬x.op=14:=of_decide_eq_false hc;have hA:Qaht x.op=Qa00 x.op:=by
    rw[Qaht,Qa00,if_neg hop1,if_neg hop1];split
    ·rfl
    ·rw[if_pos (by omega)]
   have hL:insL cs k x=(decide (x.n=0)&&decide ((x.args.length:Int)=Qa00 x.op)):=by
    rw[insL,if_neg hop,hA];by_cases hn:x.n=0
    ·simp[hn]
    ·simp[hn,hop1]
   refine Qf ?_;simp only[go_sem];refine Qaf ?_;simp only[go_sem,Qt];refine⟨fun hb=>?_,fun hb=>?_⟩
   ·refine Qbhd ?_;simp only[go_sem,Qqn,hb,Qt];refine Qi ?_;refine retf _ _ ?_ (by simp[lk];rfl);have hb':=of_decide_eq_true hb;rw[hG,hL];simp[hb']
   ·simp only[go_sem,Qqn,hb,Qt];refine Qi ?_;exact retf false _ (by rw[hG,hL,hb];rfl) (by simp[lk])
 have rest:∀(E1:Env) (b:Bool),insH cs[k].regs x=(!b)→lk 1 E1=.c (.int .i64 k)→lk 3 E1=.c (.pp [.sl fl 3 (Qy cs)])→lk 5 E1=.c (.pp [.int .i64 x.op,.int .i64 x.to,.sl false 1 (Q0 x.args),.int .i64 x.n])→lk 8 E1=.c (.ptr x8 0)→lk 24 E1=.c (.bool b)→
   Q8 prog (s_im_insOk_4.seq Qabz) (Qq Qbo3 (unK H K)) E1 H4:=by
  intro E1 b hb l1 l3 l5 l8 l24;refine Qg (Qc l24 ?_ ?_)
  ·intro hc;refine Qa ?_;simp only[go_sem];refine Qi ?_;simp only[go_sem];exact retf false _ (by rw[insG,hrg,hb,hc];rfl) (by simp[lk])
  intro hc;rw[hc]at hb;refine Qf ?_;simp only[go_sem];refine Q5 ?_;refine Qa ?_;simp only[go_sem,l5];refine Qbkk ?_
  cases hmk:Qaf4 x.op with
  |true=>
   simp only[go_sem,Jn,Qty,l5,l8,h8];refine Qawd h7 (by omega) (by omega) ?_;have hT:insT cs[k].regs x=decide (0≤x.to∧x.to≤cs[k].regs-1):=by rw[insT,hmk];rfl
   cases hd:decide (0≤x.to∧x.to≤cs[k].regs-1)with
   |true=>
    simp only[go_sem,cond_true,J6,Jn,Qnh,l5];refine Qbkk ?_;simp only[go_sem,cond_false,J6,Jn,Qng,l1,l3,l5,hmk];exact rest2 _ false hb (by rw[hT,hd];rfl) (by simp[lk]) (by simp[lk]) (by simp[lk]) (by simp[lk])
   |false=>
    simp only[go_sem,cond_true,J6,Jn,Qnh,Qng,l1,l3,l5];exact rest2 _ true hb (by rw[hT,hd];rfl) (by simp[lk]) (by simp[lk]) (by simp[lk]) (by simp[lk])
  |false=>
   have hT:insT cs[k].regs x=decide (x.to=-1):=by rw[insT,hmk];rfl
   simp only[go_sem,cond_false,Jn,Qty,Qnh,l5,l8,h8];refine Qbkk ?_;simp only[go_sem,cond_true,cond_false,Jn,Qng,l1,l3,l5,hmk];refine rest2 _ (!decide (x.to=-1)) hb ?_ ?_ ?_ ?_ ?_
   ·rw[hT];simp
   ·rfl
   ·rfl
   ·rfl
   ·rfl
 cases hi:(decide (1≤x.op)&&decide (x.op≤14))with
 |false=>
  simp only[go_sem,Qtx];refine rest _ true ?_ (by simp[lk]) (by simp[lk]) (by simp[lk]) (by simp[lk]) (by simp[lk]);have:decide (1≤x.op∧x.op≤14)=false:=by simpa using hi
  rw[insH,this];rfl
 |true=>
  simp only[go_sem];refine Qp6 (p:=fun r=>!decide (0≤r∧r≤cs[k].regs-1)) (.mk' _ _ _ _) rfl (fun v K' hv hK'=>Qbcn h7 h8 (by omega) (by omega) hK') ?_;simp only[go_sem,Qtx];refine rest _ (x.args.any fun r=>!decide (0≤r∧r≤cs[k].regs-1)) ?_ (by simp[lk]) (by simp[lk]) (by simp[lk]) (by simp[lk]) (by simp[lk]);have:decide (1≤x.op∧x.op≤14)=true:=by simpa using hi
  rw[insH,this,Qa5u,Q8f];simp
end Go.AE.Y
namespace Go.AE.Y
attribute [local go_sem] cond_true cond_false Bool.not_true Bool.not_false
open Go.Proofs.Tryz
variable {H:Heap}{K:V→Heap→Prop}
theorem Qa0x {fl:Bool}{l:List InsD}{f:Nat}{caps:List C}{p:InsD→Bool}
  (hf:∀(x:InsD) (H1:Heap) (K':V→Heap→Prop),x∈l→(∀H2,Upd H1 H2 []→K' (.c (.bool (p x))) H2)→Qj prog f ([.ag x.cells]++caps.map .c) H1 K')
  (hK:∀(r:Int) (H':Heap),Upd H H' []→decide (0≤r)=l.any p→K (.c (.int .i64 r)) H') :
  Qj prog Qfu [.c (.sl fl 4 (Qn7 l)),.c (.fn f caps)] H K:=by
 refine Qn ?_;refine Qb Qad Qabg ?_;refine Qa ?_;simp only[go_sem];refine Q5 ?_;refine Qa ?_;simp only[go_sem,Qco];intro hl;simp only[LIM]at hl;refine Qg (Qe (Q2 (fun m e1 H1=>∃(i:Nat),m=l.length-i∧i≤l.length∧Kn H H1 [] []∧(∀x∈l.take i,p x=false)∧e1=[(0,.c (.sl fl 4 (Qn7 l))),(1,.c (.fn f caps)),(7,.c (.int .i64 l.length)),(8,.c (.int .i64 i))]) l.length ?_ ?_))
 ·exact⟨0,by omega,by omega,Kn.start0 H,by simp,rfl⟩
 ·rintro m e1 H1 ⟨i,hm,hi,kn,hall,rfl⟩;refine Qa ?_;simp only[go_sem];refine Qg (Qc rfl ?_ ?_)
  ·intro hc;have hlt:i<l.length:=by simpa using hc
   refine Qf ?_;simp only[go_sem];refine Qg (Qe ?_);refine Qa ?_;simp only[go_sem];refine Qa ?_;simp only[go_sem,hlt,Qco,Qnp _ _ hlt,InsD.take4,InsD.allOw,InsD.len4];refine hf _ _ _ (Jb hlt) fun H2 hu=>?_;have kn:=kn.call0 hu;refine Qc rfl ?_ ?_
   ·intro hc2;refine Qa ?_;simp only[go_sem];refine Qi ?_;simp only[go_sem,X.next,Qq,Q7,Qpr,Ja,forall_eq,RS.op];refine⟨_,.c _ _ (Qd rfl),hK _ _ kn.fin ?_⟩;have:l.any p=true:=J3.2 ⟨_,Jb hlt,hc2⟩;rw[this];simp
   ·intro hc2;refine Qf ?_;simp only[go_sem];refine Qp ?_;simp only[go_sem,X.next];refine⟨Qm (by omega) (by omega),l.length-(i+1),by omega,i+1,rfl,by omega,kn,?_,rfl⟩;rw[Jc hlt];intro x hx;rcases Jj.1 hx with hx|hx
    ·exact hall x hx
    ·simp only[Ja]at hx;subst hx;exact hc2
  ·intro hc;have hge:l.length≤i:=by simpa using hc
   rw[Je hge]at hall;refine Q1 ?_;simp only[go_sem,X.next];refine Qa ?_;simp only[go_sem];refine Qi ?_;simp only[go_sem,Qq,Q7,Qpr,Ja,forall_eq,RS.op];refine⟨_,.c _ _ (Qd rfl),hK _ _ kn.fin ?_⟩;have:l.any p=false:=by
    cases hc:l.any p with
    |false=>rfl
    |true=>obtain⟨x,hx,hp⟩:=J3.1 hc;rw[hall x hx]at hp;exact absurd hp (by simp)
   rw[this];rfl
theorem Qakn {fl:Bool}{l:List InsD}{f:Nat}{caps:List C}{p:InsD→Bool}
  (hf:∀(x:InsD) (H1:Heap) (K':V→Heap→Prop),x∈l→(∀H2,Upd H1 H2 []→K' (.c (.bool (p x))) H2)→Qj prog f ([.ag x.cells]++caps.map .c) H1 K')
  (hK:∀(H':Heap),Upd H H' []→K (.c (.bool (l.any p))) H') :
  Qj prog Qdu [.c (.sl fl 4 (Qn7 l)),.c (.fn f caps)] H K:=by
 refine Qb Qad Qyp ?_;refine Qa ?_;simp only[go_sem];refine Qa ?_;simp only[go_sem];refine Qa0x hf fun r H' hu hr=>?_;simp only[go_sem,Qgv];refine Qi ?_;simp only[go_sem,Qq,Q7,Qpr,Ja,forall_eq,RS.op];rw[hr];exact hK _ hu
theorem Q7x {x5:Nat}{q:CodeD}{v:Int}(h5:H x5=.st q.cells)(hr:-(2^62)≤q.regs)(hr2:q.regs≤2^62)(hK:K (.c (.bool (decide (0≤v∧v≤q.regs-1)))) H) :
  Qj prog Qas [.c (.int .i64 v),.c (.ptr x5 0)] H K:=by
 refine Qb Qad Qasb ?_;refine Qa ?_;simp only[go_sem];refine Qa ?_;simp only[go_sem,h5,CodeD.cells];refine⟨Qm (by omega) (by omega),?_⟩;refine Qh8 ?_;simp only[go_sem,Qrs];refine Qi ?_;simp only[go_sem,Qq,Q7,Q6y,Ja,forall_eq,RS.op];have e:(decide (0≤v)&&decide (v≤q.regs-1))=decide (0≤v∧v≤q.regs-1):=by simp
 rw[e];exact hK
theorem Qa5x {x5:Nat}{q:CodeD}{v:Int}(h5:H x5=.st q.cells)(hb:q.blocks.length≤2 ^ 38)(hK:K (.c (.bool (!Qalv (Qap q.blocks).length v))) H) :
  Qj prog Qn0 [.c (.int .i64 v),.c (.ptr x5 0)] H K:=by
 refine Qb Qad Qasc ?_;refine Qa ?_;simp only[go_sem];refine Qa ?_;simp only[go_sem,h5,CodeD.cells,Qal];intro _;refine⟨Qm (by omega) (by omega),?_⟩;refine Qh8 ?_;simp only[go_sem,Qrt];refine Qi ?_;simp only[go_sem,Qq,Q7,Q6y,Ja,forall_eq,RS.op];have e:(decide (1≤v)&&decide (v≤(q.blocks.length:Int)-1))=Qalv (Qap q.blocks).length v:=by simp[Qalv,Qal]
 rw[e];exact hK
theorem Qa5y {cs:List CodeD}{fl:Bool}{k:Nat}{x:InsD}(hk:k<cs.length)(hr:0≤cs[k].regs)(hr2:cs[k].regs≤300)(hcl:cs.length≤100)(hK:∀(H':Heap),Upd H H' []→K (.c (.bool (!insG cs k x))) H') :
  Qj prog Qn1 [.ag x.cells,.c (.pp [.sl fl 3 (Qy cs)]),.c (.pp [.int .i64 k])] H K:=by
 refine Qb Qad Qasd ?_;refine Qa ?_;simp only[go_sem,InsD.cells];refine Qa ?_;simp only[go_sem];refine Qbqe hk hr hr2 hcl fun H' hu=>?_;simp only[go_sem,Qru];refine Qi ?_;simp only[go_sem,Qq,Q7,Qpr,Ja,forall_eq,RS.op];exact hK _ hu
theorem Qa5z {x5 x6:Nat}{q:CodeD}{v:Int}(h5:H x5=.st q.cells)(h6:H x6=.st [.fn Qas [.ptr x5 0]])(hr:-(2^62)≤q.regs)(hr2:q.regs≤2^62)(hK:K (.c (.bool (!decide (0≤v∧v≤q.regs-1)))) H) :
  Qj prog Qn2 [.c (.int .i64 v),.c (.ptr x6 0)] H K:=by
 refine Qb Qad Qase ?_;refine Qa ?_;simp only[go_sem];refine Qa ?_;simp only[go_sem,h6,Jp,Jr,Jw,Jad];refine Q7x h5 hr hr2 ?_;simp only[go_sem,Qrv];refine Qi ?_;simp only[go_sem,Qq,Q7,Q6y,Ja,forall_eq,RS.op];exact hK
attribute [local instance] Classical.propDecidable
def blkC (b:BlkD):Obj:=.st [.sl false 2 (Qf3 b.phis),.sl false 4 (Qn7 b.ins),.int .i64 b.jump,.int .i64 b.on,.sl false 1 (Q0 b.next)]
theorem Qa04 {cs:List CodeD}{k:Nat}{hk:k<cs.length}(h:¬Qar3 cs k hk):decide (Qar3 cs k hk)=false:=decide_eq_false h
theorem Qblb {cs:List CodeD}{fl:Bool}{k:Nat}(hk:k<cs.length)(hcl:cs.length≤100)(hfit:cs[k].fits)(hK:∀(H':Heap),Upd H H' []→K (.c (.bool (decide (Qar3 cs k hk)))) H') :
  Qj prog Qx9 [.ag [.sl fl 3 (Qy cs)],.c (.int .i64 k)] H K:=by
 refine Qn ?_;refine Qb Qad Qa6g ?_;have retf:∀(v:Bool) (e:Env) (H':Heap) (L:List (Nat×Obj)),decide (Qar3 cs k hk)=v→Kn H H' [] L→lk 4 e=.c (.bool v)→Qq Qpr (unK H K) .ret e H':=by
  intro v e H' L hb kn h3;simp only[go_sem,Qq,Q7,Qpr,Ja,forall_eq,RS.op,h3];rw[←hb];exact⟨_,.c _ _ (Qd rfl),hK _ kn.fin⟩
 obtain⟨q,hq⟩:∃q,cs[k]=q:=⟨_,rfl⟩;have hP:Qar3 cs k hk=(Qald q=true∧∀(b:Nat) (h:b<q.blocks.length),blkG cs k b q q.blocks[b]=true):=by subst hq;rfl
 refine Qa ?_;simp only[go_sem];refine Qa ?_;simp only[go_sem,hk,Qae,Qbe _ _ hk,CodeD.cells,hq];intro x5 hx5 H1 h1;have kn:=(Kn.start0 H).al hx5 h1;have hx5:=kn.l 0 rfl;simp only[go_sem,Q68,hx5];intro H2 h2;have kn:Kn H H2 [] [(x5,.st q.cells)]:=kn.stL 0 rfl h2;have hx5:H2 x5=.st [.int .i64 q.params,.int .i64 q.regs,.sl false 5 (Qap q.blocks)]:=kn.l 0 rfl;refine Q5 ?_;refine Qa ?_;simp only[go_sem,hx5];refine Qh8 ?_;have rest0:∀(b:Bool) (E1:Env),Qald q=(!b)→lk 2 E1=.c (.pp [.sl fl 3 (Qy cs)])→lk 3 E1=.c (.pp [.int .i64 k])→lk 5 E1=.c (.ptr x5 0)→lk 36 E1=.c (.bool b)→
   Q8 prog (s_im_codeOk_4.seq Q67) (Qq Qpr (unK H K)) E1 H2:=by
  intro b E1 hb l2 l3 l5 l36;refine Qg (Qc l36 ?_ ?_)
  ·intro hc;refine Qa ?_;simp only[go_sem];refine Qi ?_;simp only[go_sem];exact retf false _ _ _ (Qa04 fun h=>by rw[hP,hb,hc]at h;simp at h) kn (by simp[lk])
  intro hc;rw[hc]at hb;have hb':=hb;simp only[Qald,Jn,Jh,decide_eq_true_eq]at hb';obtain⟨hr0,hr1,hb0,hbl⟩:0≤q.regs∧q.regs≤300∧0<q.blocks.length∧q.blocks.length≤160:=by omega
  refine Qf ?_;simp only[go_sem];refine Qa ?_;simp only[go_sem,l5];intro x6 hx6 H3 h3;have kn:=kn.al hx6 h3;have hx6:=kn.l 1 rfl;simp only[go_sem,Q69,hx6,l2,l3,l5];intro H4 h4;have kn:Kn H H4 [] [(x5,.st q.cells),(x6,.st [.fn Qas [.ptr x5 0]])]:=kn.stL 1 rfl h4;have hx5:H4 x5=.st [.int .i64 q.params,.int .i64 q.regs,.sl false 5 (Qap q.blocks)]:=kn.l 0 rfl;refine Q5 ?_;refine Qa ?_;simp only[go_sem,hx5,Qal];intro _;refine Qg (Qe (Q2 (fun m e1 H1=>∃(j:Nat),m=q.blocks.length-j∧j≤q.blocks.length∧(∀(i:Nat) (hi:i<q.blocks.length),i<j→blkG cs k i q q.blocks[i]=true)∧Kn H H1 [] [(x5,.st q.cells),(x6,.st [.fn Qas [.ptr x5 0]])]∧
   e1=[(2,.c (.pp [.sl fl 3 (Qy cs)])),(3,.c (.pp [.int .i64 k])),(5,.c (.ptr x5 0)),(6,.c (.ptr x6 0)),(39,.c (.sl false 5 (Qap q.blocks))),(40,.c (.int .i64 q.blocks.length)),(41,.c (.int .i64 j))]) q.blocks.length ?_ ?_))
  ·exact⟨0,by omega,by omega,fun _ _ h=>by omega,kn,rfl⟩
  ·rintro m e1 H5 ⟨j,hm,hj,hdone,kn,rfl⟩;refine Qa ?_;simp only[go_sem];refine Qg (Qc rfl ?_ ?_)
   ·intro hc1;have hlt:j<q.blocks.length:=(by simpa using hc1);have hbf:q.blocks[j].ins.length≤2 ^ 38∧q.blocks[j].phis.length≤2 ^ 38:=(by subst hq;exact hfit _ (Jb hlt));refine Qf ?_;simp only[go_sem];refine Qbr5 (fun e2 H2=>Kn H H2 [] [(x5,.st q.cells),(x6,.st [.fn Qas [.ptr x5 0]])]∧blkG cs k j q q.blocks[j]=true∧lk 2 e2=.c (.pp [.sl fl 3 (Qy cs)])∧lk 3 e2=.c (.pp [.int .i64 k])∧lk 5 e2=.c (.ptr x5 0)∧lk 6 e2=.c (.ptr x6 0)∧
     lk 39 e2=.c (.sl false 5 (Qap q.blocks))∧lk 40 e2=.c (.int .i64 q.blocks.length)∧lk 41 e2=.c (.int .i64 j)) ?_ ?_
    ·intro Q hnr hrt _;replace hrt:∀e H',Qq Qpr (unK H K) .ret e H'→Q .ret e H':=fun e H' h=>hrt e H' (by simpa only[go_sem,X.next]using h);have retq:∀(e:Env) (H':Heap) (L:List (Nat×Obj)),blkG cs k j q q.blocks[j]=false→Kn H H' [] L→lk 4 e=.c (.bool false)→Q .ret e H':=fun e H' L hb kn l4=>
      hrt e H' (retf false e H' L (Qa04 fun h=>by rw[hP]at h;rw[h.2 j hlt]at hb;exact absurd hb (by simp)) kn l4)
     have hGd:blkG cs k j q q.blocks[j]=(Qaa5 q.regs q.blocks[j]&&q.blocks[j].next.all (Qalv (Qap q.blocks).length)&&q.blocks[j].ins.all (insG cs k)&&q.blocks[j].phis.all (phiG q.regs (Qc5 (gnx q) (j:Int) (Qap q.blocks).length).length j)):=rfl;refine Qe ?_;refine Qa ?_;simp only[go_sem,hlt,Qal,Qdf _ _ hlt,BlkD.cells];obtain⟨y,hy⟩:∃y,q.blocks[j]=y:=⟨_,rfl⟩;rw[hy]at hGd retq hbf hnr;rw[hy];intro x8 hx8 H6 h6;have kn:=kn.al hx8 h6;have hx8:=kn.l 2 rfl;simp only[go_sem,Q7a,hx8];intro H7 h7;have kn:Kn H H7 [] [(x5,.st q.cells),(x6,.st [.fn Qas [.ptr x5 0]]),(x8,blkC y)]:=kn.stL 2 rfl h7;have hx5:H7 x5=.st [.int .i64 q.params,.int .i64 q.regs,.sl false 5 (Qap q.blocks)]:=kn.l 0 rfl;have hx5':H7 x5=.st q.cells:=kn.l 0 rfl;have hx6:=kn.l 1 rfl;have hx8:H7 x8=.st [.sl false 2 (Qf3 y.phis),.sl false 4 (Qn7 y.ins),.int .i64 y.jump,.int .i64 y.on,.sl false 1 (Q0 y.next)]:=kn.l 2 rfl;have rest3:∀(E1:Env) (H8:Heap),Qaa5 q.regs y=true→y.next.all (Qalv (Qap q.blocks).length)=true→y.ins.all (insG cs k)=true→Kn H H8 [] [(x5,.st q.cells),(x6,.st [.fn Qas [.ptr x5 0]]),(x8,blkC y)]→
       lk 2 E1=.c (.pp [.sl fl 3 (Qy cs)])→lk 3 E1=.c (.pp [.int .i64 k])→lk 5 E1=.c (.ptr x5 0)→lk 6 E1=.c (.ptr x6 0)→lk 7 E1=.c (.int .i64 j)→lk 8 E1=.c (.ptr x8 0)→
       lk 39 E1=.c (.sl false 5 (Qap q.blocks))→lk 40 E1=.c (.int .i64 q.blocks.length)→lk 41 E1=.c (.int .i64 j)→Q8 prog Qql (X.inBlock 1 Q) E1 H8:=by
      intro E1 H8 g1 g2 g3 kn l2 l3 l5 l6 l7 l8 l39 l40 l41;have hx5:H8 x5=.st [.int .i64 q.params,.int .i64 q.regs,.sl false 5 (Qap q.blocks)]:=kn.l 0 rfl;have hin:(decide (0≤(j:Int))&&decide ((j:Int)≤((Qap q.blocks).length:Int)-1))=true:=(by rw[Qal];simp;omega);refine Qa ?_;simp only[go_sem,hx5,l5,l7];refine Qbge (rows:=Qap q.blocks) (nx:=gnx q) (Qblz _ q false) fun fl' H9 hu=>?_;have kn:=kn.call0 hu;rw[Qalz,if_pos hin];generalize hnp:Qc5 (gnx q) (j:Int) (Qap q.blocks).length=ps;rw[hnp]at hGd;simp only[go_sem,Qzq,l2,l3,l5,l6,l7,l8,l39,l40,l41,Qt];intro _;have hx8:H9 x8=.st [.sl false 2 (Qf3 y.phis),.sl false 4 (Qn7 y.ins),.int .i64 y.jump,.int .i64 y.on,.sl false 1 (Q0 y.next)]:=kn.l 2 rfl;refine Qa ?_;simp only[go_sem,hx8,Qbr];intro _;refine Qe (Q2 (fun m e1 H1=>∃(i:Nat),m=y.phis.length-i∧i≤y.phis.length∧(y.phis.take i).all (phiG q.regs ps.length j)=true∧Kn H H1 [] [(x5,.st q.cells),(x6,.st [.fn Qas [.ptr x5 0]])]∧
       e1=[(2,.c (.pp [.sl fl 3 (Qy cs)])),(3,.c (.pp [.int .i64 k])),(5,.c (.ptr x5 0)),(6,.c (.ptr x6 0)),(7,.c (.int .i64 j)),(9,.c (.int .i64 ps.length)),(39,.c (.sl false 5 (Qap q.blocks))),(40,.c (.int .i64 q.blocks.length)),(41,.c (.int .i64 j)),(91,.c (.sl false 2 (Qf3 y.phis))),(92,.c (.int .i64 y.phis.length)),(93,.c (.int .i64 i))]) y.phis.length ?_ ?_)
      ·exact⟨0,by omega,by omega,rfl,kn.drop (A:=[_,_]),rfl⟩
      ·rintro m2 e1 H10 ⟨i,hm2,hi,hall,kn,rfl⟩;refine Qa ?_;simp only[go_sem];refine Qg (Qc rfl ?_ ?_)
       ·intro hc2;have hil:i<y.phis.length:=(by simpa using hc2);refine Qf ?_;simp only[go_sem];refine Qg (Qe ?_);refine Qa ?_;simp only[go_sem,hil,Qbr,Qfw _ _ hil,PhiD.cells];obtain⟨z,hz⟩:∃z,y.phis[i]=z:=⟨_,rfl⟩;rw[hz];intro x11 hx11 H11 h11;have kn:=kn.al hx11 h11;have hx11:=kn.l 2 rfl;simp only[go_sem,Qzr,hx11];intro H12 h12;have kn:Kn H H12 [] ([(x5,.st q.cells),(x6,.st [.fn Qas [.ptr x5 0]])]++[(x11,.st [.int .i64 z.to,.sl false 1 (Q0 z.args)])]):=kn.stL 2 rfl h12;have hx5':H12 x5=.st q.cells:=kn.l 0 rfl;have hx6:=kn.l 1 rfl;have hx11:=kn.l 2 rfl;have fin:∀(b3:Bool) (E1:Env),phiG q.regs ps.length j z=(!b3)→lk 2 E1=.c (.pp [.sl fl 3 (Qy cs)])→lk 3 E1=.c (.pp [.int .i64 k])→lk 5 E1=.c (.ptr x5 0)→lk 6 E1=.c (.ptr x6 0)→lk 7 E1=.c (.int .i64 j)→lk 9 E1=.c (.int .i64 ps.length)→
          lk 39 E1=.c (.sl false 5 (Qap q.blocks))→lk 40 E1=.c (.int .i64 q.blocks.length)→lk 41 E1=.c (.int .i64 j)→lk 91 E1=.c (.sl false 2 (Qf3 y.phis))→lk 92 E1=.c (.int .i64 y.phis.length)→lk 93 E1=.c (.int .i64 i)→lk 118 E1=.c (.bool b3)→
          Q8 prog Q64 (X.inBlock 3 (X.sq prog Q65 (X.next (fun e2 H2=>∃m,m<m2∧∃(i:Nat),m=y.phis.length-i∧i≤y.phis.length∧(y.phis.take i).all (phiG q.regs ps.length j)=true∧Kn H H2 [] [(x5,.st q.cells),(x6,.st [.fn Qas [.ptr x5 0]])]∧
           e2=[(2,.c (.pp [.sl fl 3 (Qy cs)])),(3,.c (.pp [.int .i64 k])),(5,.c (.ptr x5 0)),(6,.c (.ptr x6 0)),(7,.c (.int .i64 j)),(9,.c (.int .i64 ps.length)),(39,.c (.sl false 5 (Qap q.blocks))),(40,.c (.int .i64 q.blocks.length)),(41,.c (.int .i64 j)),(91,.c (.sl false 2 (Qf3 y.phis))),(92,.c (.int .i64 y.phis.length)),(93,.c (.int .i64 i))])
           (X.inBlock 2 (X.inBlock 1 Q))))) E1 H12:=by
         intro b3 E1 hph l2 l3 l5 l6 l7 l9 l39 l40 l41 l91 l92 l93 l118;refine Qc l118 ?_ ?_
         ·intro hc3;refine Qa ?_;simp only[go_sem];refine Qi ?_;simp only[go_sem,X.next];exact retq _ _ _ (by rw[hGd,Qg1 hil (by rw[hz,hph,hc3];rfl)];simp) kn (by simp[lk])
         ·intro hc3;refine Qf ?_;simp only[go_sem];refine Qp ?_;simp only[go_sem,X.next,l2,l3,l5,l6,l7,l9,l39,l40,l41,l91,l92,l93];exact⟨Qm (by omega) (by omega),y.phis.length-(i+1),by omega,i+1,rfl,by omega,by rw[Qdy hil,hall,hz,hph,hc3];rfl,kn.drop,rfl⟩
        have hpG:phiG q.regs ps.length j z=(!decide (j=0)&&decide ((z.args.length:Int)=ps.length)&&Q8f q.regs z.args&&decide (0≤z.to∧z.to≤q.regs-1)):=rfl;refine Qa ?_;simp only[go_sem]
        cases hj0:decide ((j:Int)=0)with
        |true=>
         have hj0':decide (j=0)=true:=(by simpa using hj0);simp only[go_sem,Qep,Qeo];exact fin true _ (by rw[hpG,hj0'];rfl) (by simp[lk]) (by simp[lk]) (by simp[lk]) (by simp[lk]) (by simp[lk]) (by simp[lk]) (by simp[lk]) (by simp[lk]) (by simp[lk]) (by simp[lk]) (by simp[lk]) (by simp[lk]) (by simp[lk])
        |false=>
         have hj0':decide (j=0)=false:=(by simpa using hj0);simp only[go_sem,hx11,hx6,Jw,Jad];refine Q7x hx5' (by omega) (by omega) ?_
         cases ht:decide (0≤z.to∧z.to≤q.regs-1)with
         |false=>
          simp only[go_sem,Qep,Qeo];exact fin true _ (by rw[hpG,ht];simp) (by simp[lk]) (by simp[lk]) (by simp[lk]) (by simp[lk]) (by simp[lk]) (by simp[lk]) (by simp[lk]) (by simp[lk]) (by simp[lk]) (by simp[lk]) (by simp[lk]) (by simp[lk]) (by simp[lk])
         |true=>
          by_cases hal:(z.args.length:Int)=ps.length
          ·simp only[go_sem,Qep,hx11,Qt,hal,decide_true,J6];intro _;refine Qp6 (p:=fun r=>!decide (0≤r∧r≤q.regs-1)) (.mk' _ _ _ _) rfl (fun v K' hv hK'=>Qa5z hx5' hx6 (by omega) (by omega) hK') ?_;simp only[go_sem,Qeo];refine fin (z.args.any fun r=>!decide (0≤r∧r≤q.regs-1)) _ ?_ (by simp[lk]) (by simp[lk]) (by simp[lk]) (by simp[lk]) (by simp[lk]) (by simp[lk]) (by simp[lk]) (by simp[lk]) (by simp[lk]) (by simp[lk]) (by simp[lk]) (by simp[lk]) (by simp[lk]);rw[hpG,hj0',ht,Qa5u,hal,Q8f];simp
          ·simp only[go_sem,Qep,Qeo,hx11,Qt,hal,decide_false,Jn];intro _;exact fin true _ (by rw[hpG];simp[hal]) (by simp[lk]) (by simp[lk]) (by simp[lk]) (by simp[lk]) (by simp[lk]) (by simp[lk]) (by simp[lk]) (by simp[lk]) (by simp[lk]) (by simp[lk]) (by simp[lk]) (by simp[lk]) (by simp[lk])
       ·intro hc2;have hge:y.phis.length≤i:=(by simpa using hc2);rw[Je hge]at hall;refine Q1 ?_;simp only[go_sem,X.next];exact hnr _ _ ⟨kn,by rw[hGd,g1,g2,g3,hall];rfl,rfl,rfl,rfl,rfl,rfl,rfl,rfl⟩
     have rest2:∀(b1:Bool) (E1:Env),Qaa5 q.regs y=(!b1)→lk 2 E1=.c (.pp [.sl fl 3 (Qy cs)])→lk 3 E1=.c (.pp [.int .i64 k])→lk 5 E1=.c (.ptr x5 0)→lk 6 E1=.c (.ptr x6 0)→lk 7 E1=.c (.int .i64 j)→lk 8 E1=.c (.ptr x8 0)→
       lk 39 E1=.c (.sl false 5 (Qap q.blocks))→lk 40 E1=.c (.int .i64 q.blocks.length)→lk 41 E1=.c (.int .i64 j)→lk 75 E1=.c (.bool b1)→Q8 prog (s_im_codeOk_11.seq Q66) (X.inBlock 1 Q) E1 H7:=by
      intro b1 E1 hb1 l2 l3 l5 l6 l7 l8 l39 l40 l41 l75;refine Qg (Qc l75 ?_ ?_)
      ·intro hc2;refine Qa ?_;simp only[go_sem];refine Qi ?_;simp only[go_sem];exact retq _ _ _ (by rw[hGd,hb1,hc2];simp) kn (by simp[lk])
      intro hc2;rw[hc2]at hb1;refine Qf ?_;simp only[go_sem];refine Q5 ?_;refine Qa ?_;simp only[go_sem,hx8,l5,l8];refine Qp6 (p:=fun v=>!Qalv (Qap q.blocks).length v) (.mk' _ _ _ _) rfl (fun v K' hv hK'=>Qa5x hx5' (by omega) hK') ?_;have fin:∀(b:Bool) (E1:Env) (H8:Heap),(y.next.all (Qalv (Qap q.blocks).length)&&y.ins.all (insG cs k))=(!b)→Kn H H8 [] [(x5,.st q.cells),(x6,.st [.fn Qas [.ptr x5 0]]),(x8,blkC y)]→lk 2 E1=.c (.pp [.sl fl 3 (Qy cs)])→lk 3 E1=.c (.pp [.int .i64 k])→lk 5 E1=.c (.ptr x5 0)→lk 6 E1=.c (.ptr x6 0)→lk 7 E1=.c (.int .i64 j)→lk 8 E1=.c (.ptr x8 0)→
        lk 39 E1=.c (.sl false 5 (Qap q.blocks))→lk 40 E1=.c (.int .i64 q.blocks.length)→lk 41 E1=.c (.int .i64 j)→lk 85 E1=.c (.bool b)→Q8 prog (s_im_codeOk_14.seq Qql) (X.inBlock 1 Q) E1 H8:=by
       intro b E1 H8 hb kn l2 l3 l5 l6 l7 l8 l39 l40 l41 l85;refine Qg (Qc l85 ?_ ?_)
       ·intro hc3;refine Qa ?_;simp only[go_sem];refine Qi ?_;simp only[go_sem];exact retq _ _ _ (by rw[hGd,Bool.and_assoc (Qaa5 _ _),hb,hc3];simp) kn (by simp[lk])
       ·intro hc3;rw[hc3]at hb;simp only[Jn,Jh]at hb;refine Qf ?_;simp only[go_sem];exact rest3 E1 H8 hb1 hb.1 hb.2 kn l2 l3 l5 l6 l7 l8 l39 l40 l41
      rw[Qa5u]
      cases ha:y.next.all (Qalv (Qap q.blocks).length)with
      |false=>
       simp only[go_sem,Qom,Qol,l2,l3,l5,l6,l7,l8,l39,l40,l41];exact fin true _ _ (by rw[ha];rfl) kn (by simp[lk]) (by simp[lk]) (by simp[lk]) (by simp[lk]) (by simp[lk]) (by simp[lk]) (by simp[lk]) (by simp[lk]) (by simp[lk]) (by simp[lk])
      |true=>
       simp only[go_sem,Qom,hx8,l2,l3,l8];refine Qakn (p:=fun x=>!insG cs k x) (fun x H1 K' hx hK'=>Qa5y hk (by rw[hq];exact hr0) (by rw[hq];exact hr1) hcl hK') fun H8 hu=>?_;have kn:=kn.call0 hu;simp only[go_sem,Qol,l2,l3,l5,l6,l7,l8,l39,l40,l41];refine fin (y.ins.any fun x=>!insG cs k x) _ _ ?_ kn (by simp[lk]) (by simp[lk]) (by simp[lk]) (by simp[lk]) (by simp[lk]) (by simp[lk]) (by simp[lk]) (by simp[lk]) (by simp[lk]) (by simp[lk]);rw[ha,←List.not_all_eq_any_not];simp
     refine Q5 ?_;refine Qaf ?_;simp only[go_sem,hx8,Qt];refine Qa6p ?_;have hjG:Qaa5 q.regs y=(decide ((y.next.length:Int)=Q4j y.jump)&&if y.jump=1 then decide (y.on=0)else decide (0≤y.on∧y.on≤q.regs-1)):=rfl;by_cases hn:(y.next.length:Int)=Q4j y.jump
     ·have hjmp:y.jump=1∨(y.jump=2∨y.jump=3)∧¬y.jump=1:=by
       rw[Q4j]at hn;split at hn
       ·exact .inl ‹_›
       ·split at hn
        ·omega
        ·split at hn
         ·omega
         ·omega
      simp only[go_sem,Qok,hx8,Qt,hn,decide_true,J6];refine Qa0v ?_;rcases hjmp with h1|⟨h1,h2⟩
      ·have hu:(decide (y.jump=2) || decide (y.jump=3))=false:=(by simp[h1]);simp only[go_sem,Qjt,Qfj,hu,hx8];refine Qa0v ?_;simp only[go_sem,Qfi,hu,hx8];exact rest2 (!decide (y.on=0)) _ (by rw[hjG,if_pos h1,hn];simp) (by simp[lk]) (by simp[lk]) (by simp[lk]) (by simp[lk]) (by simp[lk]) (by simp[lk]) (by simp[lk]) (by simp[lk]) (by simp[lk]) (by simp[lk])
      ·have hu:(decide (y.jump=2) || decide (y.jump=3))=true:=(by simpa using h1);simp only[go_sem,Qjt,hu,hx8,hx6,Jp,Jr,Jw,Jad];refine Q7x hx5' (by omega) (by omega) ?_
       cases ho:decide (0≤y.on∧y.on≤q.regs-1)with
       |true=>
        simp only[go_sem,Qfj,hx8];refine Qa0v ?_;simp only[go_sem,Qfi,hu,hx8];exact rest2 false _ (by rw[hjG,if_neg h2,hn,ho];simp) (by simp[lk]) (by simp[lk]) (by simp[lk]) (by simp[lk]) (by simp[lk]) (by simp[lk]) (by simp[lk]) (by simp[lk]) (by simp[lk]) (by simp[lk])
       |false=>
        simp only[go_sem,Qfj,Qfi,hx8];exact rest2 true _ (by rw[hjG,if_neg h2,ho];simp) (by simp[lk]) (by simp[lk]) (by simp[lk]) (by simp[lk]) (by simp[lk]) (by simp[lk]) (by simp[lk]) (by simp[lk]) (by simp[lk]) (by simp[lk])
     ·simp only[go_sem,Qok,Qjt,Qfj,Qfi,hx8,Qt,hn,decide_false,Jn];exact rest2 true _ (by rw[hjG];simp[hn]) (by simp[lk]) (by simp[lk]) (by simp[lk]) (by simp[lk]) (by simp[lk]) (by simp[lk]) (by simp[lk]) (by simp[lk]) (by simp[lk]) (by simp[lk])
    ·rintro e2 H8 ⟨kn,hbg,l2,l3,l5,l6,l39,l40,l41⟩;refine Qp ?_;simp only[go_sem,X.next,l2,l3,l5,l6,l39,l40,l41];refine⟨Qm (by omega) (by omega),q.blocks.length-(j+1),by omega,j+1,rfl,by omega,fun i hi hij=>?_,kn,rfl⟩;by_cases h:i<j
     ·exact hdone i hi h
     ·have:i=j:=(by omega);subst this;exact hbg
   ·intro hc1;have hge:q.blocks.length≤j:=(by simpa using hc1);refine Q1 ?_;simp only[go_sem,X.next];refine Qa ?_;simp only[go_sem];refine Qi ?_;exact retf true _ _ _ (decide_eq_true (by rw[hP];exact⟨by rw[hb];rfl,fun b h=>hdone b h (by omega)⟩)) kn (by simp[lk])
 have hH:Qald q=(decide (0≤q.params∧q.params≤3)&&decide (q.params≤q.regs∧q.regs≤300)&&decide (1≤(q.blocks.length:Int)∧(q.blocks.length:Int)≤160)):=rfl;by_cases hr:0≤q.regs∧q.regs≤300
 ·have hr':(decide (0≤q.regs)&&decide (q.regs≤300))=true:=by simpa using hr
  simp only[go_sem,Qqm,hr',hx5];refine Qh8 ?_;by_cases hp:0≤q.params∧q.params≤3∧q.params≤q.regs
  ·have hp':(decide (0≤q.params)&&decide (q.params≤if q.regs<3 then q.regs else 3))=true:=by
    split <;> simp <;> omega
   simp only[go_sem,Qjs,hp',hx5,Qal];intro _;refine Qh8 ?_;simp only[go_sem,Qjr];refine rest0 _ _ ?_ (by simp[lk]) (by simp[lk]) (by simp[lk]) (by simp[lk];rfl);have a1:decide (0≤q.params∧q.params≤3)=true:=by simp;omega
   have a2:decide (q.params≤q.regs∧q.regs≤300)=true:=by simp;omega
   rw[hH,a1,a2];simp
  ·have hp':(decide (0≤q.params)&&decide (q.params≤if q.regs<3 then q.regs else 3))=false:=by
    split <;> simp <;> omega
   simp only[go_sem,Qjs,Qjr,hp',hx5];refine rest0 true _ ?_ (by simp[lk]) (by simp[lk]) (by simp[lk]) (by simp[lk]);rw[hH];simp;omega
 ·have hr':(decide (0≤q.regs)&&decide (q.regs≤300))=false:=by simpa using hr
  simp only[go_sem,Qqm,Qjs,Qjr,hr',hx5];refine rest0 true _ ?_ (by simp[lk]) (by simp[lk]) (by simp[lk]) (by simp[lk]);rw[hH];simp;omega
theorem Qax3 {cs:List CodeD}{fl:Bool}(hfit:∀c∈cs,c.fits)(hK:∀(H':Heap),Upd H H' []→K (.c (.bool (Qarx cs))) H') :
  Qj prog Qny [.ag [.sl fl 3 (Qy cs)]] H K:=by
 refine Qn ?_;refine Qb Qad Qar9 ?_;have retf:∀(b:Bool) (e:Env) (H':Heap) (L:List (Nat×Obj)),Qarx cs=b→Kn H H' [] L→lk 2 e=.c (.bool b)→Qq Qfh (unK H K) .ret e H':=by
  intro b e H' L hb kn h3;simp only[go_sem,Qq,Q7,Qfh,Ja,forall_eq,RS.op,h3];rw[←hb];exact⟨_,.c _ _ (Qd rfl),hK _ kn.fin⟩
 have kn:=Kn.start0 H;refine Qa ?_;simp only[go_sem];refine Q5 ?_;refine Qa ?_;simp only[go_sem,Qae];intro hcl;refine Qh8 ?_;simp only[go_sem,Qrn];refine Qg (Qc rfl ?_ ?_)
 ·intro hc;have hc':=Qk9 hc;refine Qa ?_;simp only[go_sem];refine Qi ?_;simp only[go_sem];exact retf false _ _ _ (Q31 fun hu=>by have h1:=hu.1;simp at hc';omega) kn (by simp[lk])
 intro hc;have hc':=Qeh hc;have hc4:1≤cs.length∧cs.length≤4:=by simp at hc';omega
 refine Qf ?_;simp only[go_sem];refine Qa ?_;simp only[go_sem];refine Q5 ?_;refine Qa ?_;simp only[go_sem,Qae];intro _;refine Qg (Qe (Q2 (fun m e1 H1=>∃(k:Nat),m=cs.length-k∧k≤cs.length∧Q7v cntQ (cs.take k)≤k * (160 * 549755813888)∧(∀(i:Nat) (hi:i<cs.length),i<k→Qar3 cs i hi)∧Kn H H1 [] []∧
  e1=[(1,.c (.pp [.sl fl 3 (Qy cs)])),(3,.c (.int .i64 (Q7v cntQ (cs.take k):Nat))),(12,.c (.sl fl 3 (Qy cs))),(13,.c (.int .i64 cs.length)),(14,.c (.int .i64 k))]) cs.length ?_ ?_))
 ·exact⟨0,by omega,by omega,by simp[Q7v],fun _ _ h=>by omega,kn,rfl⟩
 ·rintro m e1 H1 ⟨k,hm,hk,hsum,hdone,kn,rfl⟩;refine Qa ?_;simp only[go_sem];refine Qg (Qc rfl ?_ ?_)
  ·intro hc2;have hlt:k<cs.length:=by simpa using hc2
   have hss:=Qsv (f:=cntQ) hlt;refine Qf ?_;simp only[go_sem];refine Qg (Qe ?_);refine Qa ?_;simp only[go_sem,hlt,Qae,Qbe _ _ hlt,CodeD.cells];obtain⟨q,hq⟩:∃q,cs[k]=q:=⟨_,rfl⟩;have hqf:q.fits:=by subst hq;exact hfit _ (Jb hlt)
   rw[hq];intro x5 hx5 H2 h2;have kn:=kn.al hx5 h2;have hx5:=kn.l 0 rfl;simp only[go_sem,Qro,hx5];intro H3 h3;have kn:Kn H H3 [] ([]++[(x5,.st [.int .i64 q.params,.int .i64 q.regs,.sl false 5 (Qap q.blocks)])]):=kn.stL 0 rfl h3;refine Q5 ?_;refine Qa ?_;simp only[go_sem];refine Qblb hlt (by omega) (by rw[hq];exact hqf) fun H4 hu=>?_;have kn:=kn.call0 hu;have hx5:=kn.l 0 rfl;simp only[go_sem,Qrp];refine Qg (Qc rfl ?_ ?_)
   ·intro hc3;have hno:=of_decide_eq_false (Qk9 hc3);refine Qa ?_;simp only[go_sem];refine Qi ?_;simp only[go_sem,X.next];exact retf false _ _ _ (Q31 fun hu=>hno (hu.2.1 k hlt)) kn (by simp[lk])
   ·intro hc3;have hyes:=of_decide_eq_true (Qeh hc3);have hbl:q.blocks.length≤160:=by
     have:=hyes.1;rw[hq]at this;simp only[Qald,Jh,decide_eq_true_eq]at this;omega
    have hcq:cntQ q≤160 * 549755813888:=Jv (Qa5l hqf) (Jx _ hbl);have hk4:k * (160 * 549755813888)≤4 * (160 * 549755813888):=Jx _ (by omega);have hk1:(k+1) * (160 * 549755813888)=k * (160 * 549755813888)+160 * 549755813888:=Nat.succ_mul _ _;rw[hq]at hss;refine Qf ?_;simp only[go_sem];refine Qp ?_;simp only[go_sem,hx5];refine Qa5w hqf hbl fun H5 hu=>?_;have kn:=kn.call0 hu;simp only[go_sem,Qrq];refine⟨Qm (by omega) (by omega),?_⟩;refine Qp ?_;simp only[go_sem,X.next];refine⟨Qm (by omega) (by omega),cs.length-(k+1),by omega,k+1,rfl,by omega,by rw[hss,hk1];omega,fun i hi hik=>?_,kn.drop,?_⟩
    ·by_cases h:i<k
     ·exact hdone i hi h
     ·have:i=k:=(by omega);subst this;exact hyes
    ·rw[hss];rfl
  ·intro hc2;have hge:cs.length≤k:=by simpa using hc2
   rw[Je hge];refine Q1 ?_;simp only[go_sem,X.next];refine Qa ?_;simp only[go_sem];refine Qi ?_;refine retf (decide (((Q7v cntQ cs:Nat):Int)≤800)) _ _ _ ?_ kn (by simp[lk]);by_cases hs:Q7v cntQ cs≤800
   ·have h1:Qarx cs=true:=decide_eq_true ⟨by omega,fun i hi=>hdone i hi (by omega),hs⟩;rw[h1];simp;omega
   ·rw[Q31 fun hu=>hs hu.2.2];simp;omega
end Go.AE.Y
namespace Go.AE.Y
attribute [local go_sem] cond_true cond_false Bool.not_true Bool.not_false
attribute [local instance] Classical.propDecidable
open Go.Proofs.Tryz
variable {H:Heap}{K:V→Heap→Prop}{fns:List Fn}
theorem Qbqu {f:Fn}{fl:Bool}(hpl:f.params.length≤3)(hbo:Qcy f.body)(hbs:Qh f.body≤2^34)
  (hK:∀(H':Heap),Upd H H' []→(Qo6 0 fns f).fits→K (.ag (Qo6 0 fns f).cells) H'):Qj prog Qd8 [.ag f.cells,.c (.pp [.sl fl 3 (Q3 fns)])] H K:=by
 refine Qn ?_;refine Qb Qad Q4b ?_;refine Qa ?_;simp only[go_sem,Fn.cells];intro x3 hx3 H1 h1;have kn:=(Kn.start0 H).al hx3 h1;have hlf:=fun K=>Qbck (fns:=fns) (f:=f) (fl:=fl) (H:=H1) (K:=K) hpl hbo hbs;simp only[Fn.cells]at hlf;refine Qa ?_;simp only[go_sem];refine hlf _ fun H2 hu hfit=>?_;have kn:=kn.call0 hu;have g3:=kn.l 0 rfl;obtain⟨c,hc⟩:∃c,Qo6 0 fns f=c:=⟨_,rfl⟩;rw[hc]at hfit hK⊢;simp only[go_sem,Qhp,g3,CodeD.cells];intro H3 h3;have kn:=kn.stL 0 rfl h3;have g3:=kn.l 0 rfl;refine Qi ?_;simp only[go_sem,Qq,Q7,Qlh,Ja,forall_eq,RS.op,g3];exact⟨_,FrzL.ag (.cons (Qd rfl) (.cons (Qd rfl) (.cons (FrzR.same (Qakq _)).sl .nil))),hK _ kn.fin hfit⟩
theorem Qbq1 {g:Fn→CodeD}{f:Nat}{caps:List C}{l:List Fn}{fl:Bool}(hll:l.length≤4)
  (hf:∀x∈l,∀(H1:Heap) (K':V→Heap→Prop),(∀H2,Upd H1 H2 []→(g x).fits→K' (.ag (g x).cells) H2)→Qj prog f ([.ag x.cells]++caps.map .c) H1 K')
  (hK:∀H',Upd H H' []→(∀c∈l.map g,c.fits)→K (.c (.sl false 3 (Qy (l.map g)))) H'):Qj prog Qez [.c (.sl fl 3 (Q3 l)),.c (.fn f caps)] H K:=by
 refine Qn ?_;refine Qb Qad Q73 ?_;refine Qa ?_;simp only[go_sem];refine Qa ?_;simp only[go_sem];refine Q5 ?_;refine Qa ?_;simp only[go_sem,Qx];intro hl;simp only[LIM]at hl;refine Qg (Qe (Q2 (fun m e1 H1=>∃(i:Nat) (t:C) (Lg:List (Nat×Obj)),m=l.length-i∧i≤l.length∧Gr Lg 3 (Qy ((l.take i).map g)) t∧Kn H H1 [] Lg∧(∀c∈(l.take i).map g,c.fits)∧
  e1=[(1,.c (.fn f caps)),(5,.c t),(8,.c (.sl fl 3 (Q3 l))),(9,.c (.int .i64 l.length)),(10,.c (.int .i64 i))]) l.length ?_ ?_))
 ·exact⟨0,_,[],by omega,by omega,.nil 3,Kn.start0 H,by simp,rfl⟩
 ·rintro m e1 H1 ⟨i,t,Lg,hm,hi,hgr,kn,hfi,rfl⟩;have hto:=hgr.isOw;refine Qa ?_;simp only[go_sem,hto];refine Qg (Qc rfl ?_ ?_)
  ·intro hc;have hlt:i<l.length:=by simpa using hc
   obtain⟨x,hx⟩:∃x,l[i]=x:=⟨_,rfl⟩;have hxm:x∈l:=by rw[←hx];exact Jb hlt
   have htk0:(l.take (i+1)).map g=(l.take i).map g++[g x]:=by rw[Jc hlt,hx];simp
   have htk:Qy ((l.take (i+1)).map g)=Qy ((l.take i).map g)++[(g x).cells]:=by rw[Qaf1,htk0]
   refine Qf ?_;try simp only[go_sem]
   refine Qg (Qe ?_);refine Qa ?_;simp only[go_sem,hto,hlt,Qx,Qat _ _ hlt,hx,Fn.cells];intro x7 hx7 H3 h3;have kn:Kn H H3 [] ([(x7,.st [.str [],.sl true 1 [],.sl true 5 []])]++Lg):=(kn.al hx7 h3).perm Jg;have g7:=kn.l 0 rfl;simp only[go_sem,Qir,g7,hto];intro H4 h4;have kn:Kn H H4 [] ([(x7,.st [.str x.name,.sl false 1 (Q9 x.params),.sl false 5 (Qk x.body)])]++Lg):=kn.stL 0 rfl h4;have g7:=kn.l 0 rfl;refine Qp ?_;simp only[go_sem,g7,hto];have hfx:=hf x hxm H4;simp only[Fn.cells]at hfx;refine hfx _ fun H5 hu hft=>?_;have kn:=kn.call0 hu;obtain⟨gx,hgx⟩:∃gx,g x=gx:=⟨_,rfl⟩;rw[hgx]at htk htk0 hft;rw[hgx];simp only[go_sem,Qit,hto,CodeD.cells];refine kn.growR hgr (new:=[gx.cells]) (.mk' _ true 3 _) (by intro r hr;simp only[Ja]at hr;subst hr;rfl) (by simp only[Qae,Jo,Jab,Jk,Jq,LIM];omega) fun t2 Lg2 H6 hgr2 hto2 kn=>?_;simp only[go_sem,Qis,hto2];refine Qp ?_;simp only[go_sem,AE.X.next,hto2];exact⟨Qm (by omega) (by omega),l.length-(i+1),by omega,i+1,t2,Lg2,rfl,by omega,by rw[htk];exact hgr2,kn.sub (List.sublist_append_right _ _),fun c hc=>by
    rw[htk0]at hc;rcases Jj.1 hc with h|h
    ·exact hfi c h
    ·simp only[Ja]at h;subst h;exact hft,rfl⟩
  ·intro hc;have hge:l.length≤i:=by simpa using hc
   rw[Je hge]at hgr hfi;refine Q1 ?_;simp only[go_sem,AE.X.next];refine Qa ?_;simp only[go_sem,hto];refine Qi ?_;simp only[go_sem,Qq,Q7,Qpr,Ja,forall_eq,RS.op,hto];exact⟨_,.c _ _ (hgr.frz (B:=[]) kn (Qpc _)),hK _ kn.fin hfi⟩
theorem Qa1d {fl:Bool}(hf:Qs fns≤2^36)(g:GK H)(hK:∀H',Upd H H' []→(∀c∈lowP fns,c.fits)→K (.tup [.ag [.sl false 3 (Qy (lowP fns))],.c (.bool (lowB fns))]) H') :
  Qj prog Qdz [.ag [.sl fl 3 (Q3 fns)]] H K:=by
 refine Qn ?_;refine Qb Qad Qadh ?_;refine Qa ?_;simp only[go_sem];intro x2 hx2 H1 h1;have kn:=(Kn.start0 H).al hx2 h1;have g2:=kn.l 0 rfl;simp only[go_sem,Qlx];refine Q5 ?_;refine Qa ?_;simp only[go_sem];refine Qbav (by omega) (g.kn kn) fun H2 hu=>?_;have kn:=kn.call0 hu;have g2:=kn.l 0 rfl;simp only[go_sem,Qly];have bad:∀(e:Env) (H':Heap) (L:List (Nat×Obj)),lowB fns=false→Kn H H' [] ((x2,.st [.sl true 3 []])::L)→lk 2 e=.c (.ptr x2 0)→lk 3 e=.c (.bool false)→Qq Qet (unK H K) .ret e H':=by
  intro e H' L hb kn l2 l3;have g2:=kn.l 0 rfl;simp only[go_sem,Qq,Q7,Qet,J2,J4,or_false,forall_eq_or_imp,forall_eq,RS.op,g2,l2,l3];have:=hK _ kn.fin (by rw[lowP,hb];simp);rw[lowP,hb]at this;refine⟨_,Q38 (rows:=[]) (by simp) _,this⟩
 refine Qg (Qc rfl (fun hc=>?_) (fun hc=>?_))
 ·have hb:Qak3 fns=false:=by simpa using hc
  refine Qa ?_;simp only[go_sem,g2];intro H3 h3;have kn:=kn.stL 0 rfl h3;simp only[go_sem,Qlz];refine Qi ?_;exact bad _ _ _ (by rw[lowB,hb];rfl) kn rfl rfl
 have hb:Qak3 fns=true:=by simpa using hc
 have hp:=fine_iff.1 hb;have hdd:Qbd 0 fns=Qbd (-1) fns:=hp.low_dd 0 (-1);refine Qf ?_;try simp only[go_sem]
 refine Qa ?_;simp only[go_sem];refine Qbq1 (g:=Qo6 0 fns) hp.len.2 (fun x hx H3 K3 hK3=>?_) fun H3 hu hfit=>?_
 ·obtain⟨k,hk,rfl⟩:=J5.1 hx;obtain⟨z1,z2,z3⟩:=hp.sizes k hk;exact Qbqu z3 z2 (by omega) hK3
 have hfit:∀c∈Qbd (-1) fns,c.fits:=by rw[←hdd];exact hfit
 have hun:fns.map (Qo6 0 fns)=Qbd (-1) fns:=hdd;rw[hun];have kn:=kn.call0 hu;simp only[go_sem,Ql1];intro x4 hx4 H4 h4;have kn:=kn.al hx4 h4;have g4:=kn.l 1 rfl;simp only[go_sem,Ql0,g4];intro H5 h5;have kn:Kn H H5 [] [(x2,.st [.sl true 3 []]),(x4,.st [.sl false 3 (Qy (Qbd (-1) fns))])]:=kn.stL 1 rfl h5;have g4:=kn.l 1 rfl;refine Q5 ?_;refine Qa ?_;simp only[go_sem,g4];refine Qax3 hfit fun H6 hu=>?_;have kn:=kn.call0 hu;have g2:=kn.l 0 rfl;have g4:=kn.l 1 rfl;simp only[go_sem,Ql2];refine Qg (Qc rfl (fun hc=>?_) (fun hc=>?_))
 ·have hg:Qarx (Qbd (-1) fns)=false:=by simpa using hc
  refine Qa ?_;simp only[go_sem,g2];intro H7 h7;have kn:=kn.stL 0 rfl h7;simp only[go_sem,Ql3];refine Qi ?_;exact bad _ _ _ (by rw[lowB,hg,Jan]) kn rfl rfl
 have hg:Qarx (Qbd (-1) fns)=true:=by simpa using hc
 have hlow:lowB fns=true:=by rw[lowB,hb,hg];rfl
 have hP:lowP fns=Qbd (-1) fns:=by rw[lowP,if_pos hlow]
 refine Qf ?_;try simp only[go_sem]
 refine Qa ?_;simp only[go_sem,g2,g4];intro H7 h7;have kn:=kn.stL 0 rfl h7;have g2:=kn.l 0 rfl;simp only[go_sem,Ql4];refine Qi ?_;simp only[go_sem,Qq,Q7,Qet,J2,J4,or_false,forall_eq_or_imp,forall_eq,RS.op,g2];have:=hK _ kn.fin (by rw[hP];exact hfit);rw[hP,hlow]at this;exact⟨_,Q38 (Qpc _) _,this⟩
end Go.AE.Y
namespace Go.AE.Y
attribute [local go_sem] cond_true cond_false Bool.not_true Bool.not_false
attribute [local instance] Classical.propDecidable
open Go.Proofs.Tryz
variable {H H0 F:Heap}{K:V→Heap→Prop}{E B Lg:List (Nat×Obj)}{fns:List Fn}
theorem Gr.slc2 {sz:Nat}{rows:List (List C)}{c:C}(h:Gr Lg sz rows c)(kn:Kn H0 H E (B++Lg)):Slc H sz rows c:=⟨h.okSl kn,h.elemSz,h.rowsOf kn,h.lenC⟩
end Go.AE.Y
