/- Part 3 of the proof: the engine, codes, walks and plain laws, each named where it stands. -/
import Derived.Test.YtchjcdooknkfpaaGreatDoorZB
open Nat (reduceEqDiff reduceAdd reduceLeDiff reduceLT)
set_option linter.unusedVariables false
set_option linter.unusedSimpArgs false
set_option maxRecDepth 4000
set_option maxHeartbeats 4000000
open Bool renaming and_eq_true->Jp,not_false->Jaa
open Int renaming eq_ofNat_of_zero_le->Jr
open List renaming mem_singleton->Ja,getElem_mem->Jb,take_of_length_le->Jc,getD_eq_getElem?_getD->Jd,length_map->Jf,take_succ_eq_append_getElem->Jh,mem_append->Ji,length_cons->Jj,mem_append_right->Jk,perm_append_comm->Jl,length_nil->Jm,append_assoc->Jn,drop_zero->Jo,nil_append->Jq,cons_append->Js,flatMap_append->Jt,map_append->Ju,map_set->Jv,set_cons_zero->Jw,take_append_drop->Jx,mem_cons_of_mem->Jy,getElem_of_mem->Jz,all_eq_true->J0,getD_cons_zero->J1,length_set->J2,length_append->J5,mem_or_eq_of_mem_set->J6,length_take->J7,mem_flatMap->J8,contains_iff_mem->J9,getD_cons_succ->Jab,mem_cons_self->Jac,set_cons_succ->Jad,nodup_append->Jaf,filter_cons->Jah,all_append->Jai,filter_nil->Jaj,sum_append->Jak,map_cons->Jam,map_take->Jan,take_nil->Jao,map_nil->Jap,set_set->Jaq
open Nat renaming le_refl->Je,zero_add->Jg,lt_pow_self->J3,mul_le_mul_left->J4,one_le_two_pow->Jae,le_trans->Jag,le_succ->Jal,mul_succ->Jar
namespace Go.AE
variable{H H' H0:Heap}{K:Uk}{s:List UInt8}{b sz i N:Nat}{E:Ul}{bc cc:C}{nx:Nat->List Int}{fl:Bool}{cs:List Y.CodeD}{α:Type}{q:Y.CodeD}{R:Y.Rdr}{fns:List Fn}
namespace Y
open Go.Proofs.Tryz
theorem Dq {n lo hi:Int}(hK:K (.c (.bool (decide (lo<=n/\n<=hi)))) H):Qu prog KT [Uv n,Uv lo,Uv hi] H K:=by
 refine Qd Co Qa7e ?_;refine Wd ?_;refine Zd ?_;have:(bif decide (lo<=n)then decide (n<=hi)else false)=decide (lo<=n/\n<=hi):=by
  by_cases h:lo<=n <;> simp[h]
 rw[this];exact hK
theorem Yo {b:Bool}(hK:K (Uv (if b then 1 else 0)) H):Qu prog NG [.c (.bool b)] H K:=by
 refine Qd Co XM ?_;refine Wi ?_;refine Wt ?_ ?_
 ·intro hc;subst hc;refine Wj ?_;exact hK
 ·intro hc;subst hc;refine Ze ?_;refine Wj ?_;exact hK
theorem Yr{b:UInt8}(hK:∀n:Int,K (Uv n) H):Qu prog R8 [.c (.str s),.c (.int .u8 b.toNat)] H K:=by
 refine Qd Co Yz ?_;refine Wi ?_;refine Qh (Qe (Qy (λn e1 H1=>∃i:Nat,n=s.length-i/\i<=s.length/\H1=H/\e1=[(0,.c (.str s)),(1,.c (.int .u8 b.toNat)),(5,Uv i)]) s.length ?_ ?_))
 ·exact⟨0,ZA,ZA,Rf0⟩
 ·rintro n e1 H1 ⟨i,hn,hi,rfl,rfl⟩;refine Wa ?_;intro hl;simp only[LIM]at hl;refine Wt ?_ ?_
  ·intro hc;have af:i<s.length:=ZD
   refine Wm ?_;refine Zj af ?_;refine Wu ?_ ?_
   ·intro aC;refine Za ?_;refine Zx ?_;exact hK _
   ·intro aC;refine Wl ?_;exact⟨Qv,s.length-(i+1),ZA,i+1,rfl,ZA,rfl⟩
  ·intro hc;refine Wb ?_;refine Zd ?_;exact hK _
theorem Yt {b:UInt8}(hK:∀n:Int,K (Uv n) H):Qu prog R9 [.c (.int .u8 b.toNat)] H K:=by
 refine Qd Co Y1 ?_;refine Za ?_;refine We ?_;refine Wu ?_ ?_
 ·intro hc;refine Wj ?_;exact hK _
 intro hc;refine Za ?_;refine Wu ?_ ?_
 ·intro hc;refine Wj ?_;exact hK _
 intro hc;refine Za ?_;refine Yr λn=>?_;simp only[go_sem,Q2s];refine Wu ?_ ?_
 ·intro hc;refine Wj ?_;exact hK _
 intro hc;refine Za ?_;refine Wu ?_ ?_
 ·intro hc;refine Wj ?_;exact hK _
 intro hc;refine Ze ?_;refine Wj ?_;exact hK _
theorem Qa4f{k:Int}(hK:∀b:Bool,K (.c (.bool b)) H):Qu prog LE [.c (.str s),Uv k] H K:=by
 refine Qd Co Qa4r ?_;refine Wi ?_;refine Qh (Qe (Qy (λn e1 H1=>∃i:Nat,n=s.length-i/\i<=s.length/\H1=H/\e1=[(0,.c (.str s)),(1,Uv k),(5,Uv i)]) s.length ?_ ?_))
 ·exact⟨0,ZA,ZA,Rf0⟩
 ·rintro n e1 H1 ⟨i,hn,hi,rfl,rfl⟩;refine Wa ?_;intro hl;simp only[LIM]at hl;refine Wt ?_ ?_
  ·intro hc;have af:i<s.length:=ZD
   refine Wm ?_;refine Zj af ?_;refine Yt λcl=>?_;simp only[go_sem,Nz];refine Wu ?_ ?_
   ·intro aC;refine Za ?_;refine Zx ?_;exact hK _
   ·intro aC;refine Wl ?_;exact⟨Qv,s.length-(i+1),ZA,i+1,rfl,ZA,rfl⟩
  ·intro hc;refine Wb ?_;intro _;refine Zd ?_;exact hK _
theorem Qapx (hK:∀ss:List (List UInt8),K (.c (.sl true 1 (CO ss))) H):Qu prog S7 [] H K:=by
 refine Qd Co Qaff ?_;refine Wd ?_;refine Zd ?_;exact hK [[102,110],[108,101,116],[115,97,121],[112,117,116],[105,102],[101,108,115,101],[108,111,111,112],[98,97,99,107],[100,111]]
theorem Qa4g(hK:∀b:Bool,K (.c (.bool b)) H):Qu prog LD [.c (.str s)] H K:=by
 refine Qd Co Qa4s ?_;refine Wd ?_;refine Qapx λss=>?_;simp only[go_sem,I3];refine Wa ?_;refine Qh (Qe (Qy (λn e1 H1=>∃i:Nat,n=ss.length-i/\i<=ss.length/\H1=H/\e1=[(0,.c (.str s)),(3,.c (.sl true 1 (CO ss))),(4,Uv i)]) ss.length ?_ ?_))
 ·exact⟨0,ZA,ZA,Rf0⟩
 ·rintro n e1 H1 ⟨i,hn,hi,rfl,rfl⟩;refine Q1 (Qa ?_);simp only[go_sem,D1];intro hl;simp only[LIM]at hl;refine Wt ?_ ?_
  ·intro hc;have af:i<ss.length:=ZD
   refine Wo ?_;simp only[go_sem,af,D1,Kj _ _ af];refine Wu ?_ ?_
   ·intro aC;refine Za ?_;refine Zx ?_;exact hK _
   ·intro aC;refine Wl ?_;exact⟨Qv,ss.length-(i+1),ZA,i+1,rfl,ZA,rfl⟩
  ·intro hc;refine Wb ?_;refine Zd ?_;exact hK _
theorem Rv(hK:∀b:Bool,K (.c (.bool b)) H):Qu prog Q04 [.c (.str s)] H K:=by
 refine Qd Co Qaml ?_;refine Wd ?_;refine Qa4f λb=>?_;simp only[go_sem,Qvb];intro hl;refine⟨λhb=>?_,λhb=>?_⟩
 ·refine Qa4g λb2=>?_;simp only[go_sem,S6];refine Zd ?_;exact hK _
 ·simp only[go_sem,S6,hb];refine Zd ?_;exact hK _
theorem TF {op:Int}(hK:∀a b:Int,K (.tup [Uv a,Uv b]) H):Qu prog Q5n [Uv op] H K:=by
 refine Qd Co Tw ?_;refine Wi ?_;have ret:∀(a b:Int) (e:Env),lk 2 e=Uv a->lk 3 e=Uv b->Q5 IM K .ret e H:=by
  intro a b e h1 h2;simp only[go_sem,Q5,Cn,List.forall_mem_cons,RS.op,h1,h2];exact hK _ _
 refine Qh (Qe ?_);refine Wa ?_;have r5:∀(b:Bool),Cr prog Nx (X.inBlock 0 (X.sq prog Q0d (Q5 IM K))) [(4,Uv op),(5,.c (.bool b))] H:=by
  intro b;refine Wu ?_ ?_
  ·intro hc;refine Wf ?_;exact ret 0 0 _ ZB ZB
  intro hc;refine Wa ?_;have r8:∀(b:Bool),Cr prog Ny (X.inBlock 0 (X.sq prog Q0d (Q5 IM K))) [(4,Uv op),(8,.c (.bool b))] H:=by
   intro b;refine Wu ?_ ?_
   ·intro hc;refine Wf ?_;exact ret 1 1 _ ZB ZB
   intro hc;refine Za ?_;refine Wu ?_ ?_
   ·intro hc;refine Wf ?_;exact ret 0 3 _ ZB ZB
   ·intro hc;refine Ze ?_;refine Za ?_;refine Ql ?_;exact ret 2 2 _ ZB ZB
  refine Wt ?_ ?_
  ·intro hc;refine Ze ?_;exact r8 _
  ·intro hc;refine Zh ?_;exact r8 _
 refine Wt ?_ ?_
 ·intro hc;refine Ze ?_;exact r5 _
 ·intro hc;refine Zh ?_;exact r5 _
theorem TD {op:Int}(hK:K (Uv (if op=4 then 2 else 1)) H):Qu prog Q5p [Uv op] H K:=by
 refine Qd Co Tu ?_;refine Wi ?_;refine Wt ?_ ?_
 ·intro hc;refine Wj ?_;rw[if_pos ZD]at hK;exact hK
 ·intro hc;refine Ze ?_;refine Wj ?_;rw[if_neg ZD]at hK;exact hK
end Y
variable{s:Y.GS}
section
open Go.AE.Y
open Go.Proofs.Tryz
theorem Slc.keep{rows:List (List C)}{b:C}{L:Ul}(h:Slc H sz rows b)(kn:Kn H H' E L)(hE:∀l a c d,b=.ah l a c d->l∉E.map Prod.fst):Slc H' sz rows b:=by
 obtain⟨h1,h2,h3,h4⟩:=h
 cases b with
 |sl fl z rs=>exact⟨trivial,h2,h3,h4⟩
 |ah l z st n=>
  simp only[Go.AE.aZ]at h1
  cases ho:H l with
  |vec y rs=>
   have:=kn.chg l (by rw[ho];simp) (hE l z st n rfl);refine⟨?_,h2,?_,h4⟩
   ·simp only[Go.AE.aZ,this];exact h1
   ·simp only[Go.AE.rowsOf,this];exact h3
  |_=>rw[ho]at h1;exact h1.elim
 |_=>exact h1.elim
theorem Slc.keep0{rows:List (List C)}{b:C}{L:Ul}(h:Slc H sz rows b)(kn:Kn H H' [] L):Slc H' sz rows b:=h.keep kn ZC
end
namespace Y
open Go.Proofs.Tryz
def Qs (nx:Nat->List Int)(b:Int)(n:Nat):List Int:=((List.range n).filter λi=>(nx i).contains b).map Int.ofNat
theorem P8 (nx:Nat->List Int)(b:Int)(n:Nat):Qs nx b (n+1)=Qs nx b n++if (nx n).contains b then [(n:Int)]else []:=by
 simp only[Qs,List.range_succ,List.filter_append,Ju];congr 1;cases h:(nx n).contains b
 ·simp only[Jah,h,Jaj];rfl
 ·simp only[Jah,h,Jaj,if_true];rfl
theorem E3 (nx:Nat->List Int)(b:Int)(n:Nat):(Qs nx b n).length<=n:=by
 simp only[Qs,Jf];exact Jag (List.length_filter_le _ _) ZC
theorem N4 {p rg:Int}{rows:List (List C)}{b:Int}(hs:Slc H 5 rows bc)(bq:bc.ai=false)
  (hx:∀i,i<rows.length->∃a1 a2 a3 a4 a5,rows.getD i []=[a1,a2,a3,a4,a5]/\a5.ai=false/\Slc H 1 (Qb (nx i)) a5)
  (hK:∀H',Upd H H' []->K (.c (.sl false 1 (Qb (Qs nx b rows.length)))) H'):Qu prog R7 [.ag [Ui p,Ui rg,bc],Uv b] H K:=by
 refine Q0 ?_;refine Qd Co XI ?_;refine Wd ?_;refine Wa ?_;have ak:=hs.len;have jz:=hs.sz;refine Qh (Qe (Qy (λn e1 H1=>∃(i:Nat) (c:C) (Lg:Ul),n=rows.length-i/\i<=rows.length/\Gr Lg 1 (Qb (Qs nx b i)) c/\Kn H H1 [] ([]++Lg)/\
  e1=[(1,Uv b),(2,.c (.pp [Ui p,Ui rg,bc])),(5,.c c),(6,Uv i)]) rows.length ?_ ?_))
 ·exact⟨0,_,[],ZA,ZA,.nil 1,Kn.an H,rfl⟩
 ·rintro n e1 H1 ⟨i,c,Lg,dg,hi,ax,kn,rfl⟩;have cE:=hs.keep0 kn;have eK:=eq_true cE.ok;have jo:=cE.rows;refine Q1 (Qa ?_);simp only[go_sem,bq,eK,ak];intro hl;simp only[LIM]at hl;refine Wt ?_ ?_
  ·intro hc;have af:i<rows.length:=ZD
   obtain⟨a1,a2,a3,a4,a5,aD,o5,pL⟩:=hx i af;have pL:=pL.keep0 kn;have kf:=eq_true pL.ok;have qb:=pL.len;have xL:=pL.sz;have xS:=pL.rows;refine Ze ?_;have turn:∀(e:Env) (H2:Heap) (c':C) (Lg':Ul),lk 1 e=Uv b->lk 2 e=.c (.pp [Ui p,Ui rg,bc])->lk 5 e=.c c'->lk 6 e=Uv i->
     Gr Lg' 1 (Qb (Qs nx b (i+1))) c'->Kn H H2 [] ([]++Lg')->
     Cr prog Q9i (X.next (λe2 H2=>∃m,m<n/\∃(i:Nat) (c:C) (Lg:Ul),m=rows.length-i/\i<=rows.length/\Gr Lg 1 (Qb (Qs nx b i)) c/\Kn H H2 [] ([]++Lg)/\
      e2=[(1,Uv b),(2,.c (.pp [Ui p,Ui rg,bc])),(5,.c c),(6,Uv i)]) (X.inBlock 0 (X.sq prog Q9j (Q5 Cp (unK H K))))) e H2:=by
    intro e H2 c' Lg' l1 l2 l5 l6 nk kn';refine Qt ?_;simp only[go_sem,l1,l2,l5,l6,X.next];exact⟨Qv,rows.length-(i+1),ZA,i+1,c',Lg',rfl,ZA,nk,by simpa using kn',rfl⟩
   refine We ?_;refine Qe (Qy (λn e1 H2=>∃(k:Nat),n=(nx i).length-k/\k<=(nx i).length/\b∉(nx i).take k/\H2=H1/\e1=[(1,Uv b),(2,.c (.pp [Ui p,Ui rg,bc])),(5,.c c),(6,Uv i),(7,Uv k)]) (nx i).length ?_ ?_)
   ·exact⟨0,ZA,ZA,ZC,Rf0⟩
   ·rintro n e1 H2 ⟨k,fW,hk,b7,rfl,rfl⟩;refine Q1 (Qa ?_);simp only[go_sem,bq,eK,ak,jz,jo,af,aD,o5,kf,qb,Qc];intro kY;simp only[LIM]at kY;refine Wt ?_ ?_
    ·intro hc;have aP:k<(nx i).length:=ZD;have b8:(nx i).getD k 0=(nx i)[k]:=(by simp[Jd,aP]);refine Wo ?_;simp only[go_sem,bq,eK,ak,jz,jo,af,aD,o5,kf,qb,xL,xS,aP,Qc,Qk _ _ aP,b8];refine Wu ?_ ?_
     ·intro aC;have hb:(nx i)[k]=b:=ZG;have ig:(nx i).contains b=true:=(by rw[J9,<-hb];exact Jb aP);refine Za ?_;have db:=E3 nx b i;refine kn.grow (B:=[]) (new:=Qb [(i:Int)]) ax (.mk' _ _ _ _) (Qr _) ZaA λy' H3 kn=>?_;simp only[go_sem,Q3o];refine Qw ?_;have wx:((2:Nat) == 3)=false:=rfl;rw[HO wx];simp only[go_sem,X.next];refine turn _ _ _ _ ZB ZB ZJ ZB ?_ kn;rw[P8,ig,if_pos rfl,Ec];exact .mk _ _ _ ZC
     ·intro aC;have hb:¬(nx i)[k]=b:=ZG;refine Wl ?_;refine⟨Qv,(nx i).length-(k+1),ZA,k+1,rfl,ZA,?_,rfl⟩;rw[Jh aP];simp only[Ji,Ja,not_or];exact⟨b7,λh=>hb h.symm⟩
    ·intro hc;have bp:(nx i).length<=k:=ZD;rw[Jc bp]at b7;have ig:(nx i).contains b=false:=by
      cases fR:(nx i).contains b with
      |false=>rfl
      |true=>exact absurd (J9.1 fR) b7
     refine Zb ?_;refine turn _ _ _ _ ZB ZB ZJ ZB ?_ kn;rw[P8,ig];simpa using ax
  ·intro hc;have bp:i=rows.length:=by have:rows.length<=i:=ZD;omega
   subst bp;refine Wb ?_;refine Zd ?_;exact⟨_,.c _ _ (ax.frz kn (Qr _)),hK _ kn.fin⟩
theorem F6 {p rg:Int}{rows:List (List C)}{b:Int}(hs:Slc H 5 rows bc)(bq:bc.ai=false)
  (hx:∀i,i<rows.length->∃a1 a2 a3 a4 fl,rows.getD i []=[a1,a2,a3,a4,.sl fl 1 (Qb (nx i))])
  (hK:∀H',Upd H H' []->K (.c (.sl false 1 (Qb (Qs nx b rows.length)))) H'):Qu prog R7 [.ag [Ui p,Ui rg,bc],Uv b] H K:=
 N4 hs bq (λi hi=>by
  obtain⟨a1,a2,a3,a4,fl,h⟩:=hx i hi;exact⟨a1,a2,a3,a4,_,h,rfl,.mk' _ _ _ _⟩) hK
def Db (op:Int):Int:=if op=1 then 0 else if op=2\/op=10\/op=11\/op=13 then 1 else if (3<=op/\op<=9)\/op=12 then 2 else -1
theorem Lw {op:Int}(hK:K (Uv (Db op)) H):Qu prog Q5r [Uv op] H K:=by
 refine Qd Co TR ?_;have retf:∀(n:Int) (e:Env),Db op=n->lk 2 e=Uv n->Q5 Cq K .ret e H:=by
  intro b e h1 h3;simp only[go_sem,Q5,Cn,Ja,forall_eq,RS.op,h3];rw[<-h1];exact hK
 refine Za ?_;refine We ?_;refine Wu ?_ ?_
 ·intro hc;refine Wf ?_;exact retf 0 _ (by simp only[decide_eq_true_eq]at hc;simp[Db,hc]) ZB
 intro bN;refine Za ?_;refine Wu ?_ ?_
 ·intro hc;refine Wf ?_;exact retf 1 _ (by simp at bN hc;rw[Db,if_neg bN,if_pos (by omega)]) ZB
 intro aC;refine Za ?_;refine Dq ?_;simp only[go_sem,Q80];refine Wu ?_ ?_
 ·intro hc;refine Wf ?_;exact retf 2 _ (by simp at bN aC hc;rw[Db,if_neg bN,if_neg (by omega),if_pos (by omega)]) ZB
 ·intro hc;refine Ze ?_;refine Za ?_;refine Ql ?_;exact retf (-1) _ (by simp at bN aC hc;rw[Db,if_neg bN,if_neg (by omega),if_neg (by omega)]) ZB
theorem argsN_in {op:Int}:-1<=Db op/\Db op<=2:=by
 rw[Db];split
 ·omega
 ·split
  ·omega
  ·split <;> omega
theorem Yn {op:Int}(hK:∀n:Int,-1<=n->n<=2->K (Uv n) H):Qu prog Q5r [Uv op] H K:=Lw (hK _ argsN_in.1 argsN_in.2)
def D0 (op:Int):Bool:=decide (1<=op/\op<=14)&&!decide (op=12)&&!decide (op=13)
theorem IX {op:Int}(hK:K (.c (.bool (D0 op))) H):Qu prog NE [Uv op] H K:=by
 refine Qd Co XJ ?_;refine Wd ?_;refine Dq ?_;simp only[go_sem,Pw];refine Zd ?_;have:∀a b c:Bool,(bif bif a then b else false then c else false)=(a&&b&&c):=ZN
 rw[this];exact hK
def D3 (rg:Int)(l:List Int):Bool:=l.all λx=>decide (0<=x/\x<=rg-1)
theorem Qark {rg:Int}{l:List Int}(hi:i<l.length):D3 rg (l.take (i+1))=(D3 rg (l.take i)&&decide (0<=l.getD i 0/\l.getD i 0<=rg-1)):=by
 have e:l.getD i 0=l[i]:=by simp[Jd,hi]
 rw[D3,Jh hi,Jai,e];simp[D3]
theorem XX {rg:Int}{l:List Int}(hi:i<l.length)(h:decide (0<=l.getD i 0/\l.getD i 0<=rg-1)=false):D3 rg l=false:=by
 have e:l.getD i 0=l[i]:=by simp[Jd,hi]
 cases hc:D3 rg l with
 |false=>rfl
 |true=>
  rw[D3,J0]at hc;have:=hc _ (Jb hi);rw[e]at h;rw[h]at this;exact absurd this ZC
theorem Lv {p rg:Int}{l:List Int}(hr:-(2^62)<=rg)(eE:rg<=2^62)(hK:K (.c (.bool (D3 rg l))) H) :
  Qu prog MR [.ag [Ui p,Ui rg,bc],.c (.sl fl 1 (Qb l))] H K:=by
 refine Qd Co TN ?_;have retf:∀(b:Bool) (e:Env),D3 rg l=b->lk 4 e=.c (.bool b)->Q5 Cp K .ret e H:=by
  intro b e h1 h3;simp only[go_sem,Q5,Cn,Ja,forall_eq,RS.op,h3];rw[<-h1];exact hK
 refine Wi ?_;refine Qh (Qe (Qy (λn e1 H1=>∃(i:Nat),n=l.length-i/\i<=l.length/\H1=H/\D3 rg (l.take i)=true/\e1=[(1,.c (.sl fl 1 (Qb l))),(2,.c (.pp [Ui p,Ui rg,bc])),(5,Uv i)]) l.length ?_ ?_))
 ·exact⟨0,ZA,ZA,Rf0⟩
 ·rintro n e1 H1 ⟨i,dg,hi,rfl,cd,rfl⟩;refine Q1 (Qa ?_);simp only[go_sem,Qc];intro hl;simp only[LIM]at hl;refine Wt ?_ ?_
  ·intro hc;have af:i<l.length:=ZD
   refine Wm ?_;refine Cv ?_;simp only[go_sem,af,Qc,Qk _ _ af];refine⟨Qv,?_⟩;refine Dq ?_;simp only[go_sem,Q9k];refine Wu ?_ ?_
   ·intro aC;refine Wp ?_;exact retf false _ (XX af (DE aC)) ZB
   ·intro aC;refine Wl ?_;exact⟨Qv,l.length-(i+1),ZA,i+1,rfl,ZA,by rw[Qark af,cd,CS aC];rfl,rfl⟩
  ·intro hc;have bp:l.length<=i:=ZD
   rw[Jc bp]at cd;refine Wb ?_;refine Ql ?_;exact retf true _ cd ZB
def rgOf (cs:List CodeD)(k:Nat):Int:=(cs[k]?.map CodeD.ae).getD 0
def pmOf (cs:List CodeD)(k:Nat):Int:=(cs[k]?.map CodeD.params).getD 0
theorem Im{k:Nat}(h:k<cs.length):rgOf cs k=cs[k].ae:=by simp[rgOf,h]
theorem GJ{k:Nat}(h:k<cs.length):pmOf cs k=cs[k].params:=by simp[pmOf,h]
def insH (rg:Int)(x:InsD):Bool:=decide (1<=x.op/\x.op<=14)&&D3 rg x.args
def insT (rg:Int)(x:InsD):Bool:=if D0 x.op then decide (0<=x.to/\x.to<=rg-1)else decide (x.to=-1)
def insL (cs:List CodeD)(k:Nat)(x:InsD):Bool:=
 if x.op=14 then decide (0<=x.n/\x.n<=(k:Int)-1)&&decide ((x.args.length:Int)=pmOf cs x.n.toNat)
 else decide ((x.args.length:Int)=Db x.op)&&decide (0<=x.n/\x.n<=255)&&(decide (x.n=0) || decide (x.op=1))
def CG (cs:List CodeD)(k:Nat)(x:InsD):Bool:=insH (rgOf cs k) x&&insT (rgOf cs k) x&&insL cs k x
theorem Qa4i{k:Nat}{x:InsD}(hk:k<cs.length)(hr:0<=cs[k].ae)(eE:cs[k].ae<=300)(cL:cs.length<=100)(hK:∀(H':Heap),Upd H H' []->K (.c (.bool (CG cs k x))) H') :
  Qu prog LB [.ag [.sl fl 3 (Qm cs)],Uv k,.ag x.cells] H K:=by
 refine Q0 ?_;refine Qd Co Qa4u ?_;refine Zy ?_;refine Qa ?_;simp only[go_sem,hk,Q8,DP _ _ hk,CodeD.cells];intro x7 bz H1 h1;have kn:=(Kn.an H).al bz h1;have lW:=kn.l 0 rfl;simp only[go_sem,Nq,lW];intro H2 h2;have kn:=kn.az 0 rfl h2;have gN:=kn.l 0 rfl;have jq:=Im hk;have retf:∀(b:Bool) (e:Env),CG cs k x=b->lk 6 e=.c (.bool b)->Q5 Cx (unK H K) .ret e H2:=by
  intro b e h1 h3;simp only[go_sem,Q5,Cn,Ja,forall_eq,RS.op,h3];rw[<-h1];exact⟨_,.c _ _ (Qg rfl),hK _ kn.fin⟩
 refine Wa ?_;refine Dq ?_;simp only[go_sem,Np,gN];have rest:∀(E1:Env) (b:Bool),insH cs[k].ae x=(!b)->lk 1 E1=Uv k->lk 3 E1=.c (.pp [.sl fl 3 (Qm cs)])->lk 5 E1=.c (.pp [Ui x.op,Ui x.to,.sl false 1 (Qb x.args),Ui x.n])->lk 7 E1=Up x7->lk 23 E1=.c (.bool b)->
   Cr prog (s_l7Ins_3.seq Nr) (Q5 Cx (unK H K)) E1 H2:=by
  intro E1 b hb l1 l3 l5 l7 l23;refine Qh (Qf l23 ?_ ?_)
  ·intro hc;refine Wf ?_;exact retf false _ (by rw[CG,jq,hb,hc];rfl) ZB
  intro hc;rw[hc]at hb;refine Ze ?_;refine Q1 (Cv ?_);simp only[go_sem,l5,l7,gN];refine⟨Qv,?_⟩;refine IX ?_;simp only[go_sem,Nn,gN];refine Dq ?_;simp only[go_sem,No,l5];have rest2:∀(E1:Env) (b:Bool),insT cs[k].ae x=(!b)->lk 1 E1=Uv k->lk 3 E1=.c (.pp [.sl fl 3 (Qm cs)])->lk 5 E1=.c (.pp [Ui x.op,Ui x.to,.sl false 1 (Qb x.args),Ui x.n])->lk 44 E1=.c (.bool b)->
    Cr prog (s_l7Ins_7.seq Ns) (Q5 Cx (unK H K)) E1 H2:=by
   intro E1 b cC l1 l3 l5 l44;refine Qh (Qf l44 ?_ ?_)
   ·intro hc;refine Wf ?_;exact retf false _ (by rw[CG,jq,cC,hc];simp) ZB
   intro hc;rw[hc]at cC;have hG:CG cs k x=insL cs k x:=by rw[CG,jq,hb,cC];rfl
   refine Ze ?_;refine Q1 (Qa ?_);simp only[go_sem,l1,l3,l5];refine Wt ?_ ?_
   ·intro hc;have bB:x.op=14:=of_decide_eq_true hc;rw[insL,if_pos bB]at hG;refine Zu ?_;refine⟨Qv,?_⟩;refine Dq ?_;by_cases bT:0<=x.n/\x.n<=(k:Int)-1
    ·obtain⟨m,hm⟩:=Jr bT.1;have cU:m<cs.length:=ZA;have iL:(0<=(m:Int)/\(m:Int)<=(k:Int)-1)=True:=eq_true (by rw[<-hm];exact bT);simp only[go_sem,Pg,hm,cU,Q8,DP _ _ cU,CodeD.cells,Qc];refine Ql ?_;refine retf _ _ ?_ ZJ;rw[hG,hm,Int.toNat_natCast,GJ cU];simp only[iL,decide_true,Bool.true_and];simp[show ((m:Int)<=(k:Int)-1) from by omega]
    ·have iL:decide (0<=x.n/\x.n<=(k:Int)-1)=false:=(by simpa using bT);by_cases hm:x.n.toNat<cs.length
     ·simp only[go_sem,Pg,iL,DP _ _ hm,CodeD.cells];refine Ql ?_;exact retf false _ (by rw[hG,iL];rfl) ZB
     ·have b8:(Qm cs).getD x.n.toNat []=[]:=by
       rw[Jd,List.getElem?_eq_none (by rw[Q8];omega)];rfl
      simp only[go_sem,Pg,iL,b8,Jao,List.headD_nil];refine Ql ?_;exact retf false _ (by rw[hG,iL];rfl) ZB
   ·intro hc;have bB:¬x.op=14:=of_decide_eq_false hc;rw[insL,if_neg bB]at hG;refine Ze ?_;refine Zu ?_;refine Lw ?_;simp only[go_sem,Q9h];refine⟨λhb=>?_,λhb=>?_⟩
    ·refine Dq ?_;simp only[go_sem,RI];refine Ql ?_;refine retf _ _ ?_ ZJ;have aW:(x.args.length:Int)=Db x.op:=(by simpa[Qc]using hb);rw[hG];simp[aW,Qc]
    ·simp only[go_sem,RI,hb];refine Ql ?_;refine retf _ _ ?_ ZJ;have aW:¬(x.args.length:Int)=Db x.op:=(by simpa[Qc]using hb);rw[hG];simp[aW]
  refine⟨λhb=>?_,λhb=>?_⟩
  ·refine IX ?_;simp only[go_sem,Q0g,l1,l3,l5];refine rest2 _ _ ?_ ZB ZB ZB ZJ
   cases cU:D0 x.op with
   |true=>simp[insT,cU]
   |false=>by_cases h:x.to=-1 <;> simp[insT,cU,h]
  ·replace hb:=CS hb;simp only[go_sem,Q0g,l1,l3,l5,hb];refine rest2 _ true ?_ ZB ZB ZB ZB
   cases cU:D0 x.op with
   |true=>simp[cU]at hb;simp[insT,cU];omega
   |false=>simp[cU]at hb;simp[insT,cU];omega
 refine⟨λhb=>?_,λhb=>?_⟩
 ·refine Lv ZA ZA ?_;simp only[go_sem,Q0f];refine rest _ _ ?_ ZB ZB ZB ZB ZJ;simp[insH]
 ·replace hb:=CS hb;simp only[go_sem,Q0f,hb];refine rest _ true ?_ ZB ZB ZB ZB ZB;rw[insH,DE hb];rfl
theorem InsD.cG (x:InsD):x.cells.take 4=x.cells:=rfl
theorem InsD.b6 (x:InsD):(x.cells.all λc=>!c.ai)=true:=rfl
theorem InsD.len4 (x:InsD):x.cells.length=4:=rfl
theorem Qa25 (l:List BlkD)(i:Nat)(h:i<(Qo l).length):∃a1 a2 a3 a4 fl,(Qo l).getD i []=[a1,a2,a3,a4,.sl fl 1 (Qb ((l.map BlkD.next).getD i []))]:=by
 rw[Qn]at h;rw[CU _ _ h];have:(l.map BlkD.next).getD i []=l[i].next:=by simp[Jd,h]
 exact⟨.sl false 2 (Q3 l[i].ab),.sl false 4 (Cu l[i].ins),Ui l[i].jump,Ui l[i].on,false,by rw[this];rfl⟩
theorem Ru{p:α->Bool}{l:List α}(hi:i<l.length):(l.take (i+1)).all p=((l.take i).all p&&p l[i]):=by
 rw[Jh hi,Jai];simp
theorem Gu{p:α->Bool}{l:List α}(hi:i<l.length)(h:p l[i]=false):l.all p=false:=by
 cases hc:l.all p with
 |false=>rfl
 |true=>rw[J0.1 hc _ (Jb hi)]at h;exact absurd h ZC
def CM (j:Int):Int:=if j=1 then 1 else if j=2 then 2 else if j=3 then 0 else -1
def Dp (rg:Int)(y:BlkD):Bool:=decide ((y.next.length:Int)=CM y.jump)&&if y.jump=1 then decide (y.on=0)else decide (0<=y.on/\y.on<=rg-1)
def DV (n:Nat)(x:Int):Bool:=decide (1<=x/\x<=(n:Int)-1)
def phiG (rg:Int)(np b:Nat)(x:PhiD):Bool:=!decide (b=0)&&decide ((x.args.length:Int)=np)&&D3 rg x.args&&decide (0<=x.to/\x.to<=rg-1)
def CP (cs:List CodeD)(k b:Nat)(q:CodeD)(y:BlkD):Bool:=
 Dp q.ae y&&y.next.all (DV (Qo q.blocks).length)&&y.ins.all (CG cs k)&&y.ab.all (phiG q.ae (Qs (λi=>(q.blocks.map BlkD.next).getD i []) (b:Int) (Qo q.blocks).length).length b)
theorem MX{k:Nat}{y:BlkD}(h:CP cs k b q y=true):y.next.length<=2:=by
 simp only[CP,Dp,Jp,decide_eq_true_eq]at h;have:=h.1.1.1.1;rw[CM]at this;split at this
 ·omega
 ·split at this
  ·omega
  ·split at this <;> omega
theorem Ym{k:Nat}(hk:k<cs.length)(nW:b<cs[k].blocks.length)(hr:0<=cs[k].ae)(eE:cs[k].ae<=300)(cL:cs.length<=100)(bj:cs[k].blocks.length<=200)(hK:∀(H':Heap),Upd H H' []->K (.c (.bool (CP cs k b cs[k] cs[k].blocks[b]))) H') :
  Qu prog NF [.ag [.sl fl 3 (Qm cs)],Uv k,Uv b] H K:=by
 refine Q0 ?_;refine Qd Co XK ?_;have retf:∀(v:Bool) (e:Env) (H':Heap) (L:Ul),CP cs k b cs[k] cs[k].blocks[b]=v->Kn H H' [] L->lk 6 e=.c (.bool v)->Q5 Cx (unK H K) .ret e H':=by
  intro v e H' L hb kn h3;simp only[go_sem,Q5,Cn,Ja,forall_eq,RS.op,h3];rw[<-hb];exact⟨_,.c _ _ (Qg rfl),hK _ kn.fin⟩
 refine Wk ?_;simp only[go_sem,hk,Q8,DP _ _ hk,CodeD.cells];intro x7 bz H1 h1;have kn:=(Kn.an H).al bz h1;have lW:=kn.l 0 rfl;simp only[go_sem,P0,lW];intro H2 h2;have kn:=kn.az 0 rfl h2;have gN:=kn.l 0 rfl;refine Qa ?_;simp only[go_sem,gN,nW,Qn,CU _ _ nW,BlkD.cells];obtain⟨y,hy⟩:∃y,cs[k].blocks[b]=y:=⟨_,rfl⟩;rw[hy];intro x8 aV H3 h3;have kn:=kn.al aV h3;have wT:=kn.l 1 rfl;simp only[go_sem,Q3e,wT];intro H4 h4;have kn:Kn H H4 [] [(x7,.st [Ui cs[k].params,Ui cs[k].ae,.sl false 5 (Qo cs[k].blocks)]),(x8,.st [.sl false 2 (Q3 y.ab),.sl false 4 (Cu y.ins),Ui y.jump,Ui y.on,.sl false 1 (Qb y.next)])]:=kn.az 1 rfl h4;obtain⟨q,hq⟩:∃q,cs[k]=q:=⟨_,rfl⟩;have hGe:CP cs k b cs[k] cs[k].blocks[b]=CP cs k b q y:=by rw[hy,hq]
 rw[hGe]at retf;rw[hq]at kn hr eE nW bj;generalize mU:(Qs (λi=>(q.blocks.map BlkD.next).getD i []) (b:Int) (Qo q.blocks).length).length=np;have kM:CP cs k b q y=(Dp q.ae y&&y.next.all (DV (Qo q.blocks).length)&&y.ins.all (CG cs k)&&y.ab.all (phiG q.ae np b)):=by rw[CP,mU]
 refine Za ?_;have ol:=kn.l 0 rfl;have jP:=kn.l 1 rfl;refine Q1 (Qa ?_);simp only[go_sem,jP];have rest31:∀(want:Int) (E1:Env),CM y.jump=want->(y.jump=1->y.on=0)->lk 1 E1=Uv k->lk 2 E1=Uv b->lk 3 E1=.c (.pp [.sl fl 3 (Qm cs)])->lk 7 E1=Up x7->lk 8 E1=Up x8->lk 9 E1=Uv want->
   Cr prog Q3d (Q5 Cx (unK H K)) E1 H4:=by
  intro want E1 hw qh l1 l2 l3 l7 l8 l9;refine Q1 (Qa ?_);simp only[go_sem,l7,l8,l9,ol,jP,Qc];intro bF;simp only[LIM]at bF;refine⟨λ_=>Qv,?_⟩;have rest8:∀(b1:Bool) (E1:Env),Dp q.ae y=(!b1)->lk 1 E1=Uv k->lk 2 E1=Uv b->lk 3 E1=.c (.pp [.sl fl 3 (Qm cs)])->lk 7 E1=Up x7->lk 8 E1=Up x8->lk 53 E1=.c (.bool b1)->
    Cr prog (s_l7Block_8.seq Q3c) (Q5 Cx (unK H K)) E1 H4:=by
   intro b1 E1 fW l1 l2 l3 l7 l8 l53;refine Qh (Qf l53 ?_ ?_)
   ·intro hc;refine Wf ?_;exact retf false _ _ _ (by rw[kM,fW,hc];simp) kn ZB
   intro th;rw[th]at fW;refine Ze ?_;refine Q1 (Qa ?_);simp only[go_sem,l1,l2,l3,l7,l8];refine Qh (Qe (Qy (λn e1 H1=>∃(i:Nat),n=y.next.length-i/\i<=y.next.length/\H1=H4/\(y.next.take i).all (DV (Qo q.blocks).length)=true/\e1=[(1,Uv k),(2,Uv b),(3,.c (.pp [.sl fl 3 (Qm cs)])),(7,Up x7),(8,Up x8),(10,Uv i)]) y.next.length ?_ ?_))
   ·exact⟨0,ZA,ZA,Rf0⟩
   ·rintro n e1 H1 ⟨i,dg,hi,rfl,n9,rfl⟩;refine Q1 (Qa ?_);simp only[go_sem,jP,Qc];refine λ_=>?_;refine Wt ?_ ?_
    ·intro hc;have af:i<y.next.length:=ZD;have b8:y.next.getD i 0=y.next[i]:=(by simp[Jd,af]);have ta:DV (Qo q.blocks).length y.next[i]=decide (1<=y.next.getD i 0/\y.next.getD i 0<=(q.blocks.length:Int)-1):=(by rw[b8,DV,Qn]);refine Wm ?_;refine Cv ?_;simp only[go_sem,jP,ol,af,Qc,Qk _ _ af,Qn];refine⟨Qv,?_⟩;refine Dq ?_;simp only[go_sem,Q3f];refine Wu ?_ ?_
     ·intro aC;refine Wp ?_;exact retf false _ _ _ (by rw[kM,Gu af (by rw[ta];exact DE aC)];simp) kn ZB
     ·intro aC;refine Wl ?_;exact⟨Qv,y.next.length-(i+1),ZA,i+1,rfl,ZA,by rw[Ru af,<-Qn q.blocks,n9,ta,CS aC];rfl,rfl⟩
    ·intro hc;have bp:y.next.length<=i:=ZD;rw[Jc bp]at n9;refine Zb ?_;refine Wa ?_;refine Qh (Qe (Qy (λn e1 H1=>∃(i:Nat),n=y.ins.length-i/\i<=y.ins.length/\Kn H H1 [] [(x7,.st [Ui q.params,Ui q.ae,.sl false 5 (Qo q.blocks)]),(x8,.st [.sl false 2 (Q3 y.ab),.sl false 4 (Cu y.ins),Ui y.jump,Ui y.on,.sl false 1 (Qb y.next)])]/\(y.ins.take i).all (CG cs k)=true/\
      e1=[(1,Uv k),(2,Uv b),(3,.c (.pp [.sl fl 3 (Qm cs)])),(7,Up x7),(8,Up x8),(11,Uv i)]) y.ins.length ?_ ?_))
     ·exact⟨0,ZA,ZA,kn,Rf0⟩
     ·rintro n e1 H5 ⟨i,dg,hi,kn,gD,rfl⟩;have qG:=kn.l 0 rfl;have tI:=kn.l 1 rfl;refine Q1 (Qa ?_);simp only[go_sem,tI,CR];intro cK;simp only[LIM]at cK;refine Wt ?_ ?_
      ·intro hc;have af:i<y.ins.length:=ZD;refine Wm ?_;refine Cv ?_;simp only[go_sem,tI,af,CR,Fd _ _ af,InsD.cG,InsD.b6,InsD.len4];refine Qa4i hk (by rw[hq];omega) (by rw[hq];omega) cL λH6 hu=>?_;have kn:=kn.au hu;simp only[go_sem,Qy3];refine Wu ?_ ?_
       ·intro aC;refine Wp ?_;exact retf false _ _ _ (by rw[kM,Gu af (DE aC)];simp) kn ZB
       ·intro aC;refine Wl ?_;exact⟨Qv,y.ins.length-(i+1),ZA,i+1,rfl,ZA,kn,by rw[Ru af,gD,CS aC];rfl,rfl⟩
      ·intro hc;have bp:y.ins.length<=i:=ZD;rw[Jc bp]at gD;refine Zb ?_;refine Zj qG ?_;refine F6 (rows:=Qo q.blocks) (nx:=λi=>(q.blocks.map BlkD.next).getD i []) (.mk' _ _ _ _) rfl (Qa25 q.blocks) λH6 hu=>?_;have kn:=kn.au hu;simp only[go_sem,Qy4];refine Wa ?_;obtain⟨ps,fH⟩:∃ps,Qs (λi=>(q.blocks.map BlkD.next).getD i []) (b:Int) (Qo q.blocks).length=ps:=⟨_,rfl⟩;rw[fH];rw[fH]at mU;have qF:=kn.l 0 rfl;have oh:=kn.l 1 rfl;refine Qh (Qe (Qy (λn e1 H1=>∃(i:Nat),n=y.ab.length-i/\i<=y.ab.length/\H1=H6/\(y.ab.take i).all (phiG q.ae np b)=true/\
        e1=[(2,Uv b),(7,Up x7),(8,Up x8),(12,.c (.sl false 1 (Qb ps))),(13,Uv i)]) y.ab.length ?_ ?_))
       ·exact⟨0,ZA,ZA,Rf0⟩
       ·rintro n e1 H7 ⟨i,dg,hi,rfl,n7,rfl⟩;refine Q1 (Qa ?_);simp only[go_sem,oh,Qz];intro db;simp only[LIM]at db;refine Wt ?_ ?_
        ·intro hc;have af:i<y.ab.length:=ZD;refine Wm ?_;have fin:∀(b3:Bool) (E1:Env),phiG q.ae np b y.ab[i]=(!b3)->lk 2 E1=Uv b->lk 7 E1=Up x7->lk 8 E1=Up x8->lk 12 E1=.c (.sl false 1 (Qb ps))->lk 13 E1=Uv i->lk 135 E1=.c (.bool b3)->
           Cr prog Q29 (X.inBlock 6 (X.sq prog Q3a (X.next (λe2 H2=>∃m,m<n/\∃(i:Nat),m=y.ab.length-i/\i<=y.ab.length/\H2=H7/\(y.ab.take i).all (phiG q.ae np b)=true/\
            e2=[(2,Uv b),(7,Up x7),(8,Up x8),(12,.c (.sl false 1 (Qb ps))),(13,Uv i)]) (X.inBlock 5 (X.sq prog Q3b (Q5 Cx (unK H K))))))) E1 H7:=by
          intro b3 E1 fb l2 l7 l8 l12 l13 l135;refine Qf l135 ?_ ?_
          ·intro aC;refine Wp ?_;exact retf false _ _ _ (by rw[kM,Gu af (by rw[fb,aC];rfl)];simp) kn ZB
          ·intro aC;refine Ze ?_;refine Qt ?_;simp only[go_sem,X.next,l2,l7,l8,l12,l13];exact⟨Qv,y.ab.length-(i+1),ZA,i+1,rfl,ZA,by rw[Ru af,n7,fb,aC];rfl,rfl⟩
         refine Cv ?_;simp only[go_sem,oh,qF,af,Qz,D2 _ _ af,PhiD.cells,Qc];refine⟨λbm=>?_,λbm=>?_⟩
         ·refine Lv ZA ZA ?_;simp only[go_sem,Su,oh,qF,af,Qz,D2 _ _ af,PhiD.cells];refine⟨λ_=>Qv,?_⟩;refine⟨λcC=>?_,λcC=>?_⟩
          ·refine Dq ?_;simp only[go_sem,PC];refine fin _ _ ?_ ZB ZB ZB ZB ZB ZJ;simp[phiG,<-mU]
          ·replace cC:=CS cC;simp only[go_sem,PC,cC];refine fin true _ ?_ ZB ZB ZB ZB ZB ZB;subst mU;simp at cC;simp[phiG];intro h1 h2 h3;simp[h1,h2,h3]at cC
         ·replace bm:=CS bm;simp only[go_sem,Su,PC,bm,oh,qF,af,Qz,D2 _ _ af,PhiD.cells];refine fin true _ ?_ ZB ZB ZB ZB ZB ZB;subst mU;simp at bm;simp[phiG];intro h1 h2 h3;simp[h1,h2]at bm
        ·intro hc;have bp:y.ab.length<=i:=ZD;rw[Jc bp]at n7;refine Wb ?_;refine Ql ?_;exact retf true _ _ _ (by rw[kM,fW,n9,gD,n7];rfl) kn ZB
  refine⟨λbm=>?_,λbm=>?_⟩
  ·refine Dq ?_;simp only[go_sem,Py,bm,l1,l2,l3,l7,l8];refine rest8 _ _ ?_ ZB ZB ZB ZB ZB ZJ;by_cases mY:(y.next.length:Int)=want
   ·by_cases hj:y.jump=1
    ·simp[mY,hj]at bm
    ·simp[Dp,hw,mY,hj]
   ·simp[mY]at bm
  ·by_cases mY:(y.next.length:Int)=want
   ·by_cases hj:y.jump=1
    ·simp only[go_sem,Py,mY,hj,l1,l2,l3,l7,l8,decide_true,cond_false];have ir:CM 1=want:=(by rw[<-hj];exact hw);refine rest8 _ _ ?_ ZB ZB ZB ZB ZB ZJ;simp[Dp,ir,mY,hj,qh hj]
    ·simp[mY,hj]at bm
   ·simp only[go_sem,Py,mY,l1,l2,l3,l7,l8,decide_false,cond_true];by_cases hj:y.jump=1
    ·simp only[go_sem,hj,decide_true];exact rest8 true _ (by simp[Dp,hw,mY]) ZB ZB ZB ZB ZB ZB
    ·simp only[go_sem,hj,decide_false];exact rest8 true _ (by simp[Dp,hw,mY]) ZB ZB ZB ZB ZB ZB
 refine We ?_;refine Wu ?_ ?_
 ·intro hc;refine Zj jP ?_;refine Wu ?_ ?_
  ·intro aC;refine Wf ?_;exact retf false _ _ _ (by simp at hc aC;rw[kM];simp[Dp,hc,aC]) kn ZB
  ·intro aC;refine Ze ?_;exact rest31 1 _ Zah (λ_=>ZG) ZB ZB ZB ZB ZB ZB
 intro bN;refine Za ?_;refine Wu ?_ ?_
 ·intro hc;refine Zh ?_;exact rest31 2 _ Zah (λh=>by simp at bN;exact absurd h bN) ZB ZB ZB ZB ZB ZB
 intro aC;refine Za ?_;refine Wu ?_ ?_
 ·intro hc;refine Zh ?_;exact rest31 0 _ Zah (λh=>by simp at bN;exact absurd h bN) ZB ZB ZB ZB ZB ZB
 ·intro hc;refine Wf ?_;exact retf false _ _ _ (by simp at bN aC hc;rw[kM];simp[Dp,CM,bN,aC,hc]) kn ZB
theorem Qw7 {b:BlkD}(hb:b.sg)(hK:∀(o:OBlk) (H':Heap),Kn H H' [] o.lg->o.ok->o.d=b->(∀p∈o.ab,p.own)->K (.ag o.row) H'):Qu prog Qs2 [.ag b.cells] H K:=by
 have cB:=hb.n;have cP:=hb.i;have Ai:=hb.p;refine EB ?_;refine Qd Co Qae9 ?_;refine Qa ?_;simp only[go_sem,BlkD.cells];intro x2 aL H1 h1;have kn:=(Kn.an H).al aL h1;refine Cv ?_;simp only[go_sem,Qc,Jq,Jg];refine⟨.inl trivial,Qr _,by simp only[LIM];omega,λy hy H2 h2=>?_⟩;have kn:=kn.al hy h2;simp only[go_sem,Qnp];intro x3 aO H3 h3;have kn:=kn.al aO h3;have xj:=kn.l 2 rfl;simp only[go_sem,Qno,xj];intro H4 h4;have kn:=kn.az 2 rfl h4;obtain⟨nx,fd⟩:∃nx:OInts,nx=⟨b.next,y⟩:=⟨_,rfl⟩;have wq:C.ah y 1 0 b.next.length=nx.c:=by rw[fd];rfl
 have bF:[(y,Obj.vec 1 (Qb b.next))]=nx.lg:=by rw[fd];rfl
 rw[wq]at kn;have kn:Kn H H4 [] ([(x2,.st [.sl true 2 [],.sl true 4 [],Ui 0,Ui 0,.sl true 1 []]),(x3,.st [.sl true 2 [],.sl true 4 [],Ui b.jump,Ui b.on,nx.c])]++nx.lg):=kn.perm (by
  rw[<-bF];exact .cons _ (.swap _ _ _))
 refine Wa ?_;refine Qh (Qe (Qy (λn e1 H1=>∃(i:Nat) (ps:List OPhi) (pc:C) (pl:Ul),n=b.ab.length-i/\i<=b.ab.length/\ps.map OPhi.d=b.ab.take i/\(∀p∈ps,p.own)/\Gr pl 2 (ps.map OPhi.row) pc/\
  Kn H H1 [] (([(x2,.st [.sl true 2 [],.sl true 4 [],Ui 0,Ui 0,.sl true 1 []]),(x3,.st [pc,.sl true 4 [],Ui b.jump,Ui b.on,nx.c])]++(nx.lg++ps.flatMap OPhi.lg))++pl)/\
  e1=[(1,.c (.pp [.sl false 2 (Q3 b.ab),.sl false 4 (Cu b.ins),Ui b.jump,Ui b.on,.sl false 1 (Qb b.next)])),(2,Up x2),(3,Up x3),(4,Uv i)]) b.ab.length ?_ ?_))
 ·exact⟨0,[],_,[],ZA,ZA,rfl,ZC,.nil 2,ZL,rfl⟩
 ·rintro n e1 H1 ⟨i,ps,pc,pl,dg,hi,ru,mD,ax,kn,rfl⟩;have ul:ps.length=i:=by have:=congrArg List.length ru;rw[Jf,J7]at this;omega
  have fq:=ax.ai;refine Q1 (Qa ?_);simp only[go_sem,Qz];intro hl;refine Wt ?_ ?_
  ·intro hc;have af:i<b.ab.length:=ZD
   have Bk:=hb.pa _ (Jb af);have fP:=kn.l 1 rfl;refine Wn ?_;simp only[go_sem,fP,fq,af,Qz,D2 _ _ af,PhiD.cells,Qc,Jq,Jg];refine⟨.inl trivial,Qr _,by simp only[LIM];omega,λa ha H5 h5=>?_⟩;have kn:=kn.al ha h5;have jQ:=kn.l 1 rfl;simp only[go_sem,Qnr,jQ,fq,af,Qz,D2 _ _ af,PhiD.cells];obtain⟨o,ho⟩:∃o:OPhi,o=⟨b.ab[i].to,b.ab[i].args,.ah a 1 0 b.ab[i].args.length,[(a,.vec 1 (Qb b.ab[i].args))]⟩:=⟨_,rfl⟩;have oC:o.own:=by rw[ho];exact⟨a,Rf0⟩
   have kW:o.ok:=.inl oC;have ka:[C.int IntKind.i64 b.ab[i].to,C.ah a 1 0 b.ab[i].args.length]=o.row:=Zau
   have eJ:[(a,Obj.vec 1 (Qb b.ab[i].args))]=o.lg:=by rw[ho]
   rw[ka];rw[eJ]at kn;have kn:=kn.perm EM;refine kn.grow (new:=[o.row]) ax (.mk' _ _ _ _) (by intro r hr;simp only[Ja]at hr;subst hr;exact o.am kW) ZO λz H6 kn=>?_;have kn:Kn H H6 [] (([(x2,.st [.sl true 2 [],.sl true 4 [],Ui 0,Ui 0,.sl true 1 []]),(x3,.st [pc,.sl true 4 [],Ui b.jump,Ui b.on,nx.c])]++(nx.lg++(ps++[o]).flatMap OPhi.lg))++[(z,.vec 2 ((ps++[o]).map OPhi.row))]):=by
    simpa[Jt,Jn]using kn
   have qL:=kn.l 1 rfl;simp only[go_sem,Qnq,qL];intro H7 h7;have kn:=kn.az 1 rfl h7;refine Zg ?_;simp only[LIM]at hl;refine⟨Qv,b.ab.length-(i+1),ZA,i+1,ps++[o],_,_,rfl,ZA,by rw[Ju,ru,Jh af,ho];rfl,λp hp=>?_,?_,kn,rfl⟩
   ·rcases Ji.1 hp with h|h
    ·exact mD p h
    ·simp only[Ja]at h;subst h;exact oC
   ·exact .mk _ _ _ ZC
  ·intro hc;have um:ps.map OPhi.d=b.ab:=by rw[ru,Jc ZD]
   refine Zb ?_;refine Wa ?_;refine Qh (Qe (Qy (λn e1 H1=>∃(i:Nat) (is:List OIns) (ic:C) (il:Ul),n=b.ins.length-i/\i<=b.ins.length/\is.map OIns.d=b.ins.take i/\(∀x∈is,x.a.ns.length<=1000000)/\Gr il 4 (is.map OIns.row) ic/\
    Kn H H1 [] (([(x2,.st [.sl true 2 [],.sl true 4 [],Ui 0,Ui 0,.sl true 1 []]),(x3,.st [pc,ic,Ui b.jump,Ui b.on,nx.c])]++(nx.lg++(ps.flatMap OPhi.lg++(pl++is.flatMap OIns.lg))))++il)/\
    e1=[(1,.c (.pp [.sl false 2 (Q3 b.ab),.sl false 4 (Cu b.ins),Ui b.jump,Ui b.on,.sl false 1 (Qb b.next)])),(2,Up x2),(3,Up x3),(5,Uv i)]) b.ins.length ?_ ?_))
   ·exact⟨0,[],_,[],ZA,ZA,rfl,ZC,.nil 4,by simpa[Jn]using kn,rfl⟩
   ·rintro n e1 H1 ⟨i,is,ic,il,dg,hi,rU,zw,iz,kn,rfl⟩;have hisl:is.length=i:=(by have:=congrArg List.length rU;rw[Jf,J7]at this;omega);have dw:=iz.ai;refine Q1 (Qa ?_);simp only[go_sem,CR];intro hl;refine Wt ?_ ?_
    ·intro hc;have af:i<b.ins.length:=ZD;have z8:=hb.ia _ (Jb af);refine Wo ?_;simp only[go_sem,af,CR,Fd _ _ af,InsD.cells];intro x6 aY H5 h5;have kn:=kn.al aY h5;have kn:=kn.perm (Jl (l₁:=_) (l₂:=[(x6,_)]));have ma:=kn.l 0 rfl;simp only[go_sem,Qns,ma];intro H6 h6;have kn:=kn.az 0 rfl h6;have lZ:=kn.l 0 rfl;have qL:=kn.l 2 rfl;refine C7 ?_;simp only[go_sem,lZ,qL,dw,Qc,Jq,Jg];refine⟨.inl trivial,Qr _,by simp only[LIM];omega,λa ha H7 h7=>?_⟩;have kn:=kn.al ha h7;have kP:=kn.l 0 rfl;have xi:=kn.l 2 rfl;simp only[go_sem,Qnu,kP,xi,dw];obtain⟨o,ho⟩:∃o:OIns,o=⟨b.ins[i].op,b.ins[i].to,⟨b.ins[i].args,a⟩,b.ins[i].n⟩:=⟨_,rfl⟩;have ka:[C.int IntKind.i64 b.ins[i].op,C.int IntKind.i64 b.ins[i].to,C.ah a 1 0 b.ins[i].args.length,C.int IntKind.i64 b.ins[i].n]=o.row:=Zau;have eJ:[(a,Obj.vec 1 (Qb b.ins[i].args))]=o.lg:=Zau;rw[ka];rw[eJ]at kn;have kn:Kn H H7 [] ((([(x2,.st [.sl true 2 [],.sl true 4 [],Ui 0,Ui 0,.sl true 1 []]),(x3,.st [pc,ic,Ui b.jump,Ui b.on,nx.c])]++(nx.lg++(ps.flatMap OPhi.lg++(pl++is.flatMap OIns.lg))))++il)++o.lg):=by
      have kn:=kn.perm (Jl (l₁:=[(x6,_)]) (l₂:=_));exact kn.drop
     have kn:=kn.perm EM;refine kn.grow (new:=[o.row]) iz (.mk' _ _ _ _) (by simp[o.am]) ZO λz H8 kn=>?_;have kn:Kn H H8 [] (([(x2,.st [.sl true 2 [],.sl true 4 [],Ui 0,Ui 0,.sl true 1 []]),(x3,.st [pc,ic,Ui b.jump,Ui b.on,nx.c])]++(nx.lg++(ps.flatMap OPhi.lg++(pl++(is++[o]).flatMap OIns.lg))))++[(z,.vec 4 ((is++[o]).map OIns.row))]):=by
      simpa[Jt,Jn]using kn
     have xh:=kn.l 1 rfl;simp only[go_sem,Qnt,xh];intro H9 h9;have kn:=kn.az 1 rfl h9;refine Zg ?_;simp only[LIM]at hl;refine⟨Qv,b.ins.length-(i+1),ZA,i+1,is++[o],_,_,rfl,ZA,by rw[Ju,rU,Jh af,ho];rfl,λx hx=>?_,?_,kn,rfl⟩
     ·rcases Ji.1 hx with hx|hx
      ·exact zw x hx
      ·simp only[Ja]at hx;rw[hx,ho];exact z8
     ·exact .mk _ _ _ ZC
    ·intro hc;have uT:is.map OIns.d=b.ins:=(by rw[rU,Jc (by simpa using hc)]);have jS:=kn.l 0 rfl;have fP:=kn.l 1 rfl;refine Zb ?_;have rD:nx.c.ai=false:=rfl;refine Qa ?_;simp only[go_sem,jS,fP,fq,dw,rD];intro H5 h5;have kn:=kn.az 0 rfl h5;have xk:=kn.l 0 rfl;refine Ql ?_;simp only[go_sem,Q5,Cn,Ja,forall_eq,RS.op,xk,fq,dw,rD];obtain⟨o,ho⟩:∃o:OBlk,o=⟨ps,pc,pl,is,ic,il,b.jump,b.on,nx⟩:=⟨_,rfl⟩;have aq:o.ok:=(by rw[ho];exact⟨ax,iz,λp hp=>.inl (mD p hp)⟩);have gU:o.d=b:=by
      rw[ho];show BlkD.mk (ps.map OPhi.d) (is.map OIns.d) b.jump b.on nx.ns=b;rw[um,uT,fd]
     have kn:Kn H H5 [] ([(x2,.st [pc,ic,Ui b.jump,Ui b.on,nx.c]),(x3,.st [pc,ic,Ui b.jump,Ui b.on,nx.c])]++o.lg):=by
      rw[ho];simpa[OBlk.lg,Jn]using kn
     refine⟨unx H o.lg,.ag o.row,H5.frz (unx H o.lg),?_,E9 _ _,hK o _ kn.finK aq gU (by rw[ho];exact mD)⟩;rw[ho];exact FrzL.ag (.cons (.same _ fq) (.cons (.same _ dw) (.cons (Qg rfl) (.cons (Qg rfl) (.cons (.same _ rD) .nil)))))
theorem BlkD.take5 (x:BlkD):x.cells.take 5=x.cells:=rfl
theorem BlkD.b6 (x:BlkD):(x.cells.all λc=>!c.ai)=true:=rfl
theorem BlkD.len5 (x:BlkD):x.cells.length=5:=rfl
theorem CodeD.take3 (x:CodeD):x.cells.take 3=x.cells:=rfl
theorem CodeD.b6 (x:CodeD):(x.cells.all λc=>!c.ai)=true:=rfl
theorem CodeD.len3 (x:CodeD):x.cells.length=3:=rfl
theorem OBlk.len5 (x:OBlk):x.row.length=5:=rfl
theorem OCode.len3 (x:OCode):x.row.length=3:=rfl
theorem Rl(hq:q.sg)(hK:∀(o:OCode) (H':Heap),Kn H H' [] o.lg->o.ok->o.d=q->(∀b∈o.blocks,∀p∈b.ab,p.own)->K (.ag o.row) H'):Qu prog Pa [.ag q.cells] H K:=by
 have wi:=hq.b;refine EB ?_;refine Qd Co TO ?_;refine Qa ?_;simp only[go_sem,CodeD.cells];intro x2 aL H1 h1;have kn:=(Kn.an H).al aL h1;refine Za ?_;intro x3 aO H2 h2;have kn:=kn.al aO h2;have jR:=kn.l 1 rfl;simp only[go_sem,Po,jR];intro H3 h3;have kn:=kn.az 1 rfl h3;refine Wa ?_;refine Qh (Qe (Qy (λn e1 H1=>∃(i:Nat) (os:List OBlk) (bc:C) (bl:Ul),n=q.blocks.length-i/\i<=q.blocks.length/\os.map OBlk.d=q.blocks.take i/\(∀o∈os,o.ok/\∀p∈o.ab,p.own)/\Gr bl 5 (os.map OBlk.row) bc/\
  Kn H H1 [] (([(x2,.st [Ui 0,Ui 0,.sl true 5 []]),(x3,.st [Ui q.params,Ui q.ae,bc])]++os.flatMap OBlk.lg)++bl)/\
  e1=[(1,.c (.pp [Ui q.params,Ui q.ae,.sl false 5 (Qo q.blocks)])),(2,Up x2),(3,Up x3),(4,Uv i)]) q.blocks.length ?_ ?_))
 ·exact⟨0,[],_,[],ZA,ZA,rfl,ZC,.nil 5,ZL,rfl⟩
 ·rintro n e1 H1 ⟨i,os,bc,bl,dg,hi,gU,aq,ax,kn,rfl⟩;have eJ:os.length=i:=by have:=congrArg List.length gU;rw[Jf,J7]at this;omega
  have dm:=ax.ai;have fP:=kn.l 1 rfl;refine Q1 (Qa ?_);simp only[go_sem,Qn];intro hl;simp only[LIM]at hl;refine Wt ?_ ?_
  ·intro hc;have af:i<q.blocks.length:=ZD
   refine Wn ?_;simp only[go_sem,fP,dm,af,Qn,CU _ _ af,BlkD.take5,BlkD.b6,BlkD.len5];refine Qw7 (hq.bs _ (Jb af)) λo H4 k2 jr sy oC=>?_;have kn:=kn.comp0 k2;have me:=kn.l 1 rfl;simp only[go_sem,Q9g,me,dm,o.len5];have kn:=kn.perm EM;refine kn.grow (new:=[o.row]) ax (.mk' _ _ _ _) (by intro r hr;simp only[Ja]at hr;subst hr;exact o.am jr) ZO λz H5 kn=>?_;have kn:Kn H H5 [] (([(x2,.st [Ui 0,Ui 0,.sl true 5 []]),(x3,.st [Ui q.params,Ui q.ae,bc])]++(os++[o]).flatMap OBlk.lg)++[(z,.vec 5 ((os++[o]).map OBlk.row))]):=by
    simpa[Jt,Jn]using kn
   have jQ:=kn.l 1 rfl;simp only[go_sem,Q9f,jQ];intro H6 h6;have kn:=kn.az 1 rfl h6;refine Zg ?_;refine⟨Qv,q.blocks.length-(i+1),ZA,i+1,os++[o],_,_,rfl,ZA,by rw[Ju,gU,Jh af,Jam,Jap,sy],λo' fV=>?_,.mk _ _ _ ZC,kn,rfl⟩;rcases Ji.1 fV with h|h
   ·exact aq o' h
   ·simp at h;subst h;exact⟨jr,oC⟩
  ·intro hc;have bp:q.blocks.length<=i:=ZD
   have jS:=kn.l 0 rfl;refine Zb ?_;refine Zp fP jS dm ?_;intro H4 h4;have kn:=kn.az 0 rfl h4;have mf:=kn.l 0 rfl;refine Zm mf dm ?_;obtain⟨o,ho⟩:∃o:OCode,o=⟨q.params,q.ae,os,bc,bl⟩:=⟨_,rfl⟩;have gU:o.d=q:=by
    rw[ho];show CodeD.mk q.params q.ae (os.map OBlk.d)=q;rw[gU,Jc bp]
   have y6:∀b∈o.blocks,∀p∈b.ab,p.own:=by rw[ho];exact λb hb=>(aq b hb).2
   have aq:o.ok:=by rw[ho];exact⟨ax,λb hb=>(aq b hb).1⟩
   have kn:Kn H H4 [] ([(x2,.st [Ui q.params,Ui q.ae,bc]),(x3,.st [Ui q.params,Ui q.ae,bc])]++o.lg):=by
    rw[ho];simpa[OCode.lg,Jn]using kn
   refine⟨unx H o.lg,.ag o.row,H4.frz (unx H o.lg),?_,E9 _ _,hK o _ kn.finK aq gU y6⟩;rw[ho];exact FrzL.ag (.cons (Qg rfl) (.cons (Qg rfl) (.cons (.same _ dm) .nil)))
theorem T9(hq:q.sm)(hK:∀(o:OCode) (H':Heap),Kn H H' [] o.lg->o.ok->o.d=q->o.sm 1000->K (.ag o.row) H'):Qu prog Pa [.ag q.cells] H K:=
 Rl hq.sg λo H' k1 k2 k3 _=>hK o H' k1 k2 k3 (by rw[<-k3]at hq;exact hq.o)
theorem Qahw(hs:∀c∈cs,c.sm)(hl:cs.length<=1000000)
  (hK:∀(us:List OCode) (cc:C) (cl:Ul) (H':Heap),Kn H H' [] (us.flatMap OCode.lg++cl)->Gr cl 3 (us.map OCode.row) cc->(∀u∈us,u.ok/\u.sm 1000)->us.length=cs.length->K (.ag [cc]) H') :
  Qu prog Qwx [.ag [.sl fl 3 (Qm cs)]] H K:=by
 refine EB ?_;refine Qd Co Qaif ?_;refine Za ?_;intro x2 aL H1 h1;have kn:=(Kn.an H).al aL h1;refine Za ?_;intro x3 aO H2 h2;have kn:=kn.al aO h2;have jR:=kn.l 1 rfl;simp only[go_sem,PV,jR];intro H3 h3;have kn:=kn.az 1 rfl h3;refine Wa ?_;refine Qh (Qe (Qy (λn e1 H1=>∃(i:Nat) (os:List OCode) (bc:C) (bl:Ul),n=cs.length-i/\i<=cs.length/\os.length=i/\(∀o∈os,o.ok/\o.sm 1000)/\Gr bl 3 (os.map OCode.row) bc/\
  Kn H H1 [] (([(x2,.st [.sl true 3 []]),(x3,.st [bc])]++os.flatMap OCode.lg)++bl)/\
  e1=[(1,.c (.pp [.sl fl 3 (Qm cs)])),(2,Up x2),(3,Up x3),(4,Uv i)]) cs.length ?_ ?_))
 ·exact⟨0,[],_,[],ZA,ZA,rfl,ZC,.nil 3,ZL,rfl⟩
 ·rintro n e1 H1 ⟨i,os,bc,bl,dg,hi,eJ,aq,ax,kn,rfl⟩;have dm:=ax.ai;have fP:=kn.l 1 rfl;refine Q1 (Qa ?_);simp only[go_sem,Q8];intro _;refine Wt ?_ ?_
  ·intro hc;have af:i<cs.length:=ZD
   refine Wn ?_;simp only[go_sem,fP,dm,af,Q8,DP _ _ af,CodeD.take3,CodeD.b6,CodeD.len3];refine T9 (hs _ (Jb af)) λo H4 k2 jr _ bf=>?_;have kn:=kn.comp0 k2;have me:=kn.l 1 rfl;simp only[go_sem,Qrp,me,dm,o.len3];have kn:=kn.perm EM;refine kn.grow (new:=[o.row]) ax (.mk' _ _ _ _) (by intro r hr;simp only[Ja]at hr;subst hr;exact o.am jr) ZO λz H5 kn=>?_;have kn:Kn H H5 [] (([(x2,.st [.sl true 3 []]),(x3,.st [bc])]++(os++[o]).flatMap OCode.lg)++[(z,.vec 3 ((os++[o]).map OCode.row))]):=by
    simpa[Jt,Jn]using kn
   have jQ:=kn.l 1 rfl;simp only[go_sem,Qro,jQ];intro H6 h6;have kn:=kn.az 1 rfl h6;refine Zg ?_;refine⟨Qv,cs.length-(i+1),ZA,i+1,os++[o],_,_,rfl,ZA,by simp[eJ],λo' fV=>?_,.mk _ _ _ ZC,kn,rfl⟩;rcases Ji.1 fV with h|h
   ·exact aq o' h
   ·simp at h;subst h;exact⟨jr,bf⟩
  ·intro hc;have bp:cs.length<=i:=ZD
   have jS:=kn.l 0 rfl;refine Zb ?_;refine Zp fP jS dm ?_;intro H4 h4;have kn:=kn.az 0 rfl h4;have mf:=kn.l 0 rfl;refine Zm mf dm ?_;have kn:Kn H H4 [] ([(x2,.st [bc]),(x3,.st [bc])]++(os.flatMap OCode.lg++bl)):=by
    simpa[Jn]using kn
   exact⟨unx H _,.ag [bc],H4.frz (unx H _),FrzL.ag (.cons (.same _ dm) .nil),E9 _ _,hK os bc bl _ kn.finK ax aq ZA⟩
structure CRd (H:Heap)(R:Rdr)(cc:C)(rows:List (List C)):Prop where
 s:Slc H 3 rows cc
 ow:cc.ai=false
 ne:∀l a c d,cc=.ah l a c d->l≠R.l
 r:∀i,i<rows.length->∃(p:Int) (c1 c2:C),rows.getD i []=[Ui p,c1,c2]/\0<=p/\p<=3
theorem CRd.keep {R:Rdr}{cc:C}{rows:List (List C)}{o:Obj}{H':Heap}{L:Ul}(h:CRd H R cc rows)(kn:Kn H H' [(R.l,o)] L):CRd H' R cc rows:=
 ⟨h.s.keep kn (λl a c d hh=>by simpa using h.ne l a c d hh),h.ow,h.ne,h.r⟩
theorem Hf{k n:Nat}(hH:H R.l=R.o k)(hk:k+2<=2^40)(hb:b<=1000)(hn:n<=1000)
  (hK:∀(v:Int) (H':Heap) (k':Nat),k<k'->k'<=k+2->Upd H H' [(R.l,R.o k')]->K (Uv v) H') :
  Qu prog KQ [.c (.ptr R.l 0),Uv b,Uv n] H K:=by
 refine Q0 ?_;refine Qd Co Qa7g ?_;have kn:=Kn.start1 hH (R.ao k);refine Wi ?_;refine⟨Qv,?_⟩;have rest:∀(v:Bool) (H2:Heap) (k2:Nat),k<=k2->k2<=k+1->Kn H H2 [(R.l,R.o k2)] []->
   Cr prog (s_l7To_2.seq Lp) (Q5 Cx (unK H K)) [(0,.c (.ptr R.l 0)),(1,Uv b),(2,Uv n),(15,.c (.bool v))] H2:=by
  intro v H2 k2 iY fQ kn;have pv:∀m v:Int,m<=1000->(if m<1 then v=0 else 0<=v/\v<m)->0<=v/\v<=1000:=by
   intro m v hm hv;split at hv <;> omega
  refine Wt ?_ ?_
  ·intro hc;refine Za ?_;refine⟨Qv,Qv,Qv,?_⟩;refine CE (kn.e 0 rfl) ZA λv H3 hv hu=>?_;have kn:=kn.aw 0 rfl hu (R.ao _);have hv:=pv _ _ ZA hv;simp only[go_sem,Mp];refine⟨Qv,?_⟩;refine Zd ?_;exact⟨_,.c _ _ (Qg rfl),hK _ _ (k2+1) ZA ZA kn.fin⟩
  ·intro hc;refine Ze ?_;refine Za ?_;refine⟨Qv,?_⟩;refine CE (kn.e 0 rfl) ZA λv H3 hv hu=>?_;have kn:=kn.aw 0 rfl hu (R.ao _);have hv:=pv _ _ ZA hv;simp only[go_sem,Mo];refine⟨Qv,?_⟩;refine Zd ?_;exact⟨_,.c _ _ (Qg rfl),hK _ _ (k2+1) ZA ZA kn.fin⟩
 refine⟨λbm=>?_,λbm=>?_⟩
 ·refine CE (kn.e 0 rfl) ZA λv H3 hv hu=>?_;have kn:=kn.aw 0 rfl hu (R.ao _);simp only[go_sem,Q9t,bm];exact rest _ _ (k+1) ZA ZA kn
 ·simp only[go_sem,Q9t,bm];exact rest _ _ k ZA ZA kn
theorem T7{k:Nat}{rows:List (List C)}{ae:Int}(hH:H R.l=R.o k)(hk:k+9<=2^40)(hc:CRd H R cc rows)
  (hK:∀(x:InsD) (H':Heap) (k':Nat),k<k'->k'<=k+9->Upd H H' [(R.l,R.o k')]->x.args.length<=3->K (.ag x.cells) H') :
  Qu prog MQ [.c (.ptr R.l 0),.ag [cc],Uv ae] H K:=by
 refine Q0 ?_;refine Qd Co TM ?_;have bq:=hc.ow;have ak:=hc.s.len;have jz:=hc.s.sz;refine Za ?_;intro x6 aY H1 h1;have kn:=(Kn.start1 hH (R.ao k)).al aY h1;refine Za ?_;refine Dy (ns:=[1,1,2,3,4,5,8,9,10,13,3,6,7,11,12,14]) (kn.e 0 rfl) ZA ZC λop H2 bB hu=>?_;have kn:=kn.aw 0 rfl hu (R.ao _);simp only[go_sem,Q9o];refine Za ?_;refine CE (kn.e 0 rfl) ZA λto H3 mr hu=>?_;have kn:=kn.aw 0 rfl hu (R.ao _);simp only[go_sem,Q9q,Q9p];intro x8 aV H4 h4;have kn:=kn.al aV h4;have jP:=kn.l 1 rfl;simp only[go_sem,jP];intro H5 h5;have kn:=kn.az 1 rfl h5;refine Za ?_;refine Yn λmany te fz=>?_;simp only[go_sem,G8];have args:∀(many:Int) (to n:Int) (H6:Heap) (k6:Nat),many<=3->k<k6->k6<=k+4->Kn H H6 [(R.l,R.o k6)] [(x6,.st [Ui 0,Ui 0,.sl true 1 [],Ui 0]),(x8,.st [Ui op,Ui to,.sl true 1 [],Ui n])]->
   Cr prog Q9l (Q5 Fz (unK H K)) [(0,.c (.ptr R.l 0)),(2,Uv ae),(6,Up x6),(8,Up x8),(9,Uv many)] H6:=by
  intro many to n H6 k6 mX iY fQ kn;refine Wa ?_;refine Qh (Qe (Qy (λm e1 H1=>∃(i:Nat) (ns:List Int) (ac:C) (al:Ul),m=3-i/\i<=3/\ns.length=i/\Gr al 1 (Qb ns) ac/\
   Kn H H1 [(R.l,R.o (k6+i))] ([(x6,.st [Ui 0,Ui 0,.sl true 1 [],Ui 0]),(x8,.st [Ui op,Ui to,ac,Ui n])]++al)/\
   e1=[(0,.c (.ptr R.l 0)),(2,Uv ae),(6,Up x6),(8,Up x8),(9,Uv many),(10,Uv i)]) 3 ?_ ?_))
  ·exact⟨0,[],_,[],ZA,ZA,rfl,.nil 1,ZL,rfl⟩
  ·rintro m e1 H7 ⟨i,ns,ac,al,hm,hi,dT,ax,kn,rfl⟩;have fL:=ax.ai;have aV:=kn.l 1 rfl;refine Wa ?_;refine Wt ?_ ?_
   ·intro hc;have af:(i:Int)<many:=ZD;refine Wm ?_;refine C7 ?_;simp only[go_sem,aV,fL];refine CE (kn.e 0 rfl) ZA λv H8 hv hu=>?_;have kn:=kn.aw 0 rfl hu (R.ao _);have aV:=kn.l 1 rfl;simp only[go_sem,Q3s,aV,fL];refine kn.grow (new:=Qb [v]) ax (.mk' _ _ _ _) (Qr _) ZaA λy H9 kn=>?_;have aV:=kn.l 1 rfl;simp only[go_sem,Q3r,aV];intro H10 dh;have kn:=kn.az 1 rfl dh;refine Zg ?_;refine⟨Qv,3-(i+1),ZA,i+1,ns++[v],_,_,rfl,ZA,by simp[dT],?_,kn,rfl⟩;rw[<-Ec];exact .mk _ _ _ (by simp[Ec,Qc])
   ·intro hc;refine Zb ?_;have aY:=kn.l 0 rfl;refine Zp aV aY fL ?_;intro H8 h8;have kn:Kn H H8 [(R.l,R.o (k6+i))] ([(x6,.st [Ui op,Ui to,ac,Ui n]),(x8,.st [Ui op,Ui to,ac,Ui n])]++al):=kn.az 0 rfl h8;have aY:=kn.l 0 rfl;refine Zm aY fL ?_;exact⟨.ag (InsD.mk op to ns n).cells,FrzL.ag (.cons (Qg rfl) (.cons (Qg rfl) (.cons (ax.frz kn (Qr _)) (.cons (Qg rfl) .nil)))),hK ⟨op,to,ns,n⟩ _ (k6+i) ZA ZA kn.fin (by show ns.length<=3;omega)⟩
 have rest:∀(many n:Int) (H6:Heap) (k6:Nat) (E1:Env),lk 0 E1=.c (.ptr R.l 0)->lk 2 E1=Uv ae->lk 6 E1=Up x6->lk 7 E1=Uv op->lk 8 E1=Up x8->lk 9 E1=Uv many->many<=3->k<k6->k6<=k+3->Kn H H6 [(R.l,R.o k6)] [(x6,.st [Ui 0,Ui 0,.sl true 1 [],Ui 0]),(x8,.st [Ui op,Ui to,.sl true 1 [],Ui n])]->
   Cr prog Q9n (Q5 Fz (unK H K)) E1 H6:=by
  intro many n H6 k6 E1 l0 l2 l6 l7 l8 l9 mX iY fQ kn;have rest2:∀(n:Int) (H6:Heap) (k6:Nat) (E1:Env),lk 0 E1=.c (.ptr R.l 0)->lk 2 E1=Uv ae->lk 6 E1=Up x6->lk 7 E1=Uv op->lk 8 E1=Up x8->lk 9 E1=Uv many->k<k6->k6<=k+4->Kn H H6 [(R.l,R.o k6)] [(x6,.st [Ui 0,Ui 0,.sl true 1 [],Ui 0]),(x8,.st [Ui op,Ui to,.sl true 1 [],Ui n])]->
    Cr prog Q9m (Q5 Fz (unK H K)) E1 H6:=by
   intro n H6 k6 E1 l0 l2 l6 l7 l8 l9 iY fQ kn;refine Wa ?_;simp only[l7,true_and];refine IX ?_;simp only[go_sem,Q3q,l0,l2,l6,l8,l9];refine Wt ?_ ?_
   ·intro hc;have aV:=kn.l 1 rfl;refine Qt ?_;simp only[go_sem,aV];intro H7 h7;have kn:=kn.az 1 rfl h7;exact args many (-1) n H7 k6 mX iY fQ kn
   ·intro hc;refine Ze ?_;exact args many to n H6 k6 mX iY fQ kn
  refine Q1 (Qa ?_);simp only[go_sem,l0,l2,l6,l7,l8,l9];refine Wt ?_ ?_
  ·intro hc;refine Zh ?_;refine Dy (ns:=[0,1,2,3,15,16,255]) (kn.e 0 rfl) ZA ZC λn2 H7 fW hu=>?_;have kn:=kn.aw 0 rfl hu (R.ao _);have aV:=kn.l 1 rfl;simp only[go_sem,Q3p,aV];intro H8 h8;have kn:=kn.az 1 rfl h8;exact rest2 n2 H8 (k6+1) _ ZB ZB ZB ZB ZB ZB ZA ZA kn
  ·intro hc;refine Ze ?_;exact rest2 n H6 k6 _ ZB ZB ZB ZB ZB ZB ZA ZA kn
 refine Wa ?_;refine Wt ?_ ?_
 ·intro pQ;have fw:=hc.keep kn;have kf:=eq_true fw.s.ok;refine Q1 (Qa ?_);simp only[go_sem,bq,ak,kf];intro hl;refine Wt ?_ ?_
  ·intro h0;refine Za ?_;refine CE (kn.e 0 rfl) ZA λv H6 hv hu=>?_;have kn:=kn.aw 0 rfl hu (R.ao _);have aY:=kn.l 0 rfl;simp only[go_sem,Q9r,aY];intro H7 h7;have kn:=kn.az 0 rfl h7;have aY:=kn.l 0 rfl;refine Zi aY ?_;exact⟨.ag (InsD.mk 13 (-1) [v] 0).cells,FrzL.ag (.cons (Qg rfl) (.cons (Qg rfl) (.cons (FrzR.same (Qr [v])).sl (.cons (Qg rfl) .nil)))),hK ⟨13,-1,[v],0⟩ _ (k+3) ZA ZA kn.fin ZC⟩
  ·intro h0;have mL:0<rows.length:=by
    have:¬rows.length=0:=(by simpa using h0);omega
   refine Ze ?_;refine Zp bq ak kf ?_;intro _;refine CE (kn.e 0 rfl) ZA λv H6 hv hu=>?_;have kn:=kn.aw 0 rfl hu (R.ao _);rw[if_neg ZA]at hv;obtain⟨i,rfl⟩:=Jr hv.1;have hi:i<rows.length:=ZA
   obtain⟨p,c1,c2,aD,iG,hp3⟩:=hc.r i hi;have aV:=kn.l 1 rfl;simp only[go_sem,Q9s,aV];intro H7 h7;have kn:=kn.az 1 rfl h7;have aV:=kn.l 1 rfl;have BB:=hc.keep kn;have yE:=eq_true BB.s.ok;have xR:=BB.s.rows;refine Qt ?_;simp only[go_sem,bq,ak,yE,xR,jz,aV,hi,aD];exact rest p i H7 (k+3) _ ZB ZB ZB ZB ZB ZB ZA ZA ZA kn
 ·intro pQ;refine Ze ?_;exact rest many 0 H5 (k+2) _ ZB ZB ZB ZB ZB ZB ZA ZA ZA kn
theorem Qa43{a M b c:List α}:(a++(M++b)++c).Perm (((M++c)++b)++a):=by
 refine Jl.trans ?_;refine (List.Perm.append_left _ (Jl (l₁:=a))).trans ?_;rw[<-Jn];refine .append_right _ ?_;rw[<-Jn];exact .append_right _ Jl
def EnvA (R:Rdr)(cc:C)(x4 x5 x8 n b:Nat)(e:Env):Prop:=
 lk 0 e=.c (.ptr R.l 0)/\lk 3 e=.c (.pp [cc])/\lk 4 e=.c (.ptr x4 0)/\lk 5 e=.c (.ptr x5 0)/\lk 6 e=.c (.int .i64 n)/\lk 7 e=.c (.int .i64 b)/\lk 8 e=.c (.ptr x8 0)
theorem TA{k:Nat}{rows:List (List C)}(hH:H R.l=R.o k)(hk:k+1000<=2^40)(hc:CRd H R cc rows)
  (hK:∀(o:UCode) (H':Heap) (k':Nat),k<k'->k'<=k+1000->Kn H H' [(R.l,R.o k')] o.lg->o.ok->o.sm 0->K (.ag o.row) H') :
  Qu prog MS [.c (.ptr R.l 0),.ag [cc]] H K:=by
 refine EB ?_;refine Qd Co TP ?_;have bq:=hc.ow;refine Za ?_;intro x4 bh H1 h1;have kn:=(Kn.start1 hH (R.ao k)).al bh h1;refine Za ?_;refine Dy (ns:=[1,0,2,3]) (kn.e 0 rfl) ZA ZC λp H2 hp hu=>?_;have kn:=kn.aw 0 rfl hu (R.ao _);have hp:0<=p/\p<=3:=by simp at hp;omega
 simp only[go_sem,Q88];intro x5 bt H3 h3;have kn:=kn.al bt h3;have fm:=kn.l 1 rfl;simp only[go_sem,Pp,fm];intro H4 h4;have kn:=kn.az 1 rfl h4;have gO:=kn.l 1 rfl;refine Cv ?_;simp only[go_sem,gO];refine⟨Qv,?_⟩;refine CE (kn.e 0 rfl) ZA λq H5 hq hu=>?_;have kn:=kn.aw 0 rfl hu (R.ao _);have om:=kn.l 1 rfl;rw[if_neg ZA]at hq;simp only[go_sem,Q89,om];refine⟨Qv,?_⟩;intro H6 h6;have kn:=kn.az 1 rfl h6;obtain⟨rg,jq⟩:∃rg,p+2+q=rg:=⟨_,rfl⟩;rw[jq]at kn;refine Za ?_;refine Dy (ns:=[3,5,2,1,7,4]) (kn.e 0 rfl) ZA ZC λn0 H7 cq hu=>?_;have kn:=kn.aw 0 rfl hu (R.ao _);simp only[go_sem,Q9a];obtain⟨n,rfl,dg,hn7⟩:∃n:Nat,n0=n/\1<=n/\n<=7:=⟨n0.toNat,by simp at cq;omega⟩;refine Wa ?_;refine Qh (Qe (Qy (λm e1 H1=>∃(b k1:Nat) (bs:List UBlk) (bc:C) (bl:Ul),m=n-b/\b<=n/\bs.length=b/\k<k1/\k1<=k+3+50 * b/\(∀o∈bs,o.ok/\o.sm 0)/\Gr bl 5 (bs.map UBlk.row) bc/\
  Kn H H1 [(R.l,R.o k1)] (([(x4,.st [Ui 0,Ui 0,.sl true 5 []]),(x5,.st [Ui p,Ui rg,bc])]++bs.flatMap UBlk.lg)++bl)/\
  e1=[(0,.c (.ptr R.l 0)),(3,.c (.pp [cc])),(4,Up x4),(5,Up x5),(6,Uv n),(7,Uv b)]) n ?_ ?_))
 ·exact⟨0,k+1+1+1,[],_,[],ZA,ZA,rfl,ZA,ZA,ZC,.nil 5,ZL,rfl⟩
 ·rintro m e1 H8 ⟨b,k1,bs,bc,bl,hm,hb,lr,iY,fQ,aq,ax,kn,rfl⟩;have dm:=ax.ai;refine Wa ?_;refine Wt ?_ ?_
  ·intro bN;have af:b<n:=ZaZ
   refine Ze ?_;refine We ?_;intro x8 aV H9 h9;have kn:=kn.al aV h9;have kn:=kn.perm Jl;have wR:=kn.l 0 rfl;simp only[go_sem,Q9b,wR];intro H10 dh;have kn:=kn.az 0 rfl dh;refine Wa ?_;refine Dy (ns:=[1,2,0,3,4]) (kn.e 0 rfl) ZA ZC λi0 H11 lN hu=>?_;have kn:=kn.aw 0 rfl hu (R.ao _);simp only[go_sem,Q9c];obtain⟨i,rfl,hi4⟩:∃i:Nat,i0=i/\i<=4:=⟨i0.toNat,by simp at lN;omega⟩;refine Qh (Qe (Qy (λm e1 H1=>∃(t k2:Nat) (ds:List InsD) (ic:C) (il:Ul),m=t/\t+ds.length=i/\k1<k2/\k2<=k1+1+9 * ds.length/\(∀d∈ds,d.args.length<=3)/\Gr il 4 (Cu ds) ic/\
    Kn H H1 [(R.l,R.o k2)] (([(x8,.st [.sl true 2 [],ic,Ui 0,Ui 0,.sl true 1 []])]++(([(x4,.st [Ui 0,Ui 0,.sl true 5 []]),(x5,.st [Ui p,Ui rg,bc])]++bs.flatMap UBlk.lg)++bl))++il)/\
    e1=[(0,.c (.ptr R.l 0)),(3,.c (.pp [cc])),(4,Up x4),(5,Up x5),(6,Uv n),(7,Uv b),(8,Up x8),(9,Uv t)]) i ?_ ?_))
   ·refine⟨i,k1+1,[],_,[],rfl,rfl,ZA,ZC,ZC,.nil 4,ZL,rfl⟩
   ·rintro m2 e1 H12 ⟨t,k2,ds,ic,il,fz,ht,jw,jv,gB,iz,kn,rfl⟩;have dw:=iz.ai;have aV:=kn.l 0 rfl;have bt:=kn.l 2 rfl;refine Wa ?_;refine Wt ?_ ?_
    ·intro aC;have we:0<t:=ZG;refine Wm ?_;refine C7 ?_;simp only[go_sem,aV,bt,dw,bq];refine T7 (kn.e 0 rfl) ZA (hc.keep kn) λd H13 k3 zq Bu hu hd=>?_;have kn:=kn.aw 0 rfl hu (R.ao _);have aV:=kn.l 0 rfl;simp only[go_sem,Q9e,aV,dw,InsD.len4];refine kn.grow (new:=[d.cells]) iz (.mk' _ _ _ _) (by intro r hr;simp only[Ja]at hr;subst hr;rfl) (by simp only[CR,LIM,Jj,Jm];omega) λy H14 kn=>?_;have aV:=kn.l 0 rfl;simp only[go_sem,Q9d,aV];intro H15 vR;have kn:=kn.az 0 rfl vR;refine Zg ?_;refine⟨Qv,t-1,ZA,t-1,k3,ds++[d],_,_,rfl,by simp;omega,ZA,by simp;omega,λd' dj=>?_,?_,kn,?_⟩
     ·rcases Ji.1 dj with h|h
      ·exact gB _ h
      ·simp only[Ja]at h;subst h;exact hd
     ·rw[Qaqh];exact .mk _ _ _ (by simp[CR])
     ·have:(t:Int)-1=((t-1:Nat):Int):=ZA;rw[this]
    ·intro aC;have we:t=0:=(by have:¬0<t:=(by simpa using aC);omega);refine Zb ?_;refine Zj bt ?_;refine CE (kn.e 0 rfl) ZA λon H13 yC hu=>?_;have kn:=kn.aw 0 rfl hu (R.ao _);have aV:=kn.l 0 rfl;simp only[go_sem,Q3g,aV];intro H14 iP;have kn:=kn.az 0 rfl iP;refine Za ?_;refine Dy (ns:=[2,1,2,1,3]) (kn.e 0 rfl) ZA ZC λjump H15 Bv hu=>?_;have kn:=kn.aw 0 rfl hu (R.ao _);have aV:=kn.l 0 rfl;simp only[go_sem,Q3h,aV];intro H16 jM;have kn:=kn.az 0 rfl jM;refine CN (λe2 H2=>∃(k2:Nat) (jump:Int),k1<k2/\k2<=k1+40/\Kn H H2 [(R.l,R.o k2)] (([(x8,.st [.sl true 2 [],ic,Ui jump,Ui on,.sl true 1 []])]++(([(x4,.st [Ui 0,Ui 0,.sl true 5 []]),(x5,.st [Ui p,Ui rg,bc])]++bs.flatMap UBlk.lg)++bl))++il)/\EnvA R cc x4 x5 x8 n b e2) ?_ ?_
     ·intro Q hn _ _;have rest:∀(v:Bool) (H2:Heap) (k2:Nat),k1<k2->k2<=k1+40->Kn H H2 [(R.l,R.o k2)] (([(x8,.st [.sl true 2 [],ic,Ui jump,Ui on,.sl true 1 []])]++(([(x4,.st [Ui 0,Ui 0,.sl true 5 []]),(x5,.st [Ui p,Ui rg,bc])]++bs.flatMap UBlk.lg)++bl))++il)->
        Cr prog Q87 Q [(0,.c (.ptr R.l 0)),(3,.c (.pp [cc])),(4,Up x4),(5,Up x5),(6,Uv n),(7,Uv b),(8,Up x8),(68,.c (.bool v))] H2:=by
       intro v H2 k2 iY fQ kn;refine Wu ?_ ?_
       ·intro hc;have aV:=kn.l 0 rfl;refine Qt ?_;simp only[go_sem,aV];intro H3 h3;have kn:=kn.az 0 rfl h3;exact hn _ _ ⟨k2,3,iY,fQ,kn,Rf0⟩
       ·intro hc;refine Qj ?_;exact hn _ _ ⟨k2,jump,iY,fQ,kn,Rf0⟩
      refine Za ?_;refine⟨λ_=>Qv,?_⟩;refine⟨λbm=>?_,λbm=>?_⟩
      ·refine CE (kn.e 0 rfl) ZA λv H17 hv hu=>?_;have kn:=kn.aw 0 rfl hu (R.ao _);simp only[go_sem,Px,bm];exact rest _ _ _ ZA ZA kn
      ·by_cases h1:(n:Int)=1
       ·have hd:=decide_eq_true h1;have fi:decide ((b:Int)=n-1)=true:=decide_eq_true ZA;simp only[go_sem,Px,hd,fi,Bool.not_true];exact rest true _ _ ZA ZA kn
       ·have h2:¬(b:Int)=n-1:=(by simpa[h1]using bm);simp only[go_sem,Px,h1,h2,decide_false,Jaa,cond_false];exact rest false _ _ ZA ZA kn
     rintro e2 H17 ⟨k3,jump,zq,Bu,kn,l0,l3,l4,l5,l6,l7,l8⟩;refine CN (λe2 H2=>∃(k2:Nat) (jump on:Int) (nfl:Bool) (next:List Int),next.length<=2/\k1<k2/\k2<=k1+50/\Kn H H2 [(R.l,R.o k2)] (([(x8,.st [.sl true 2 [],ic,Ui jump,Ui on,.sl nfl 1 (Qb next)])]++(([(x4,.st [Ui 0,Ui 0,.sl true 5 []]),(x5,.st [Ui p,Ui rg,bc])]++bs.flatMap UBlk.lg)++bl))++il)/\EnvA R cc x4 x5 x8 n b e2) ?_ ?_
     ·intro Q hn _ _;have aV:=kn.l 0 rfl;refine Qa ?_;simp only[go_sem,aV,l0,l3,l4,l5,l6,l7,l8];refine Wr ?_;refine Wu ?_ ?_
      ·intro hc;refine Zj aV ?_;intro H18 vQ;have kn:=kn.az 0 rfl vQ;refine Zh ?_;refine Hf (kn.e 0 rfl) ZA ZA ZA λv1 H19 k4 Bt Bs hu=>?_;have kn:=kn.aw 0 rfl hu (R.ao _);have aV:=kn.l 0 rfl;simp only[go_sem,Q3i,aV];intro H20 tw;have kn:=kn.az 0 rfl tw;exact hn _ _ ⟨k4,jump,0,true,[v1],ZC,ZA,ZA,kn,Rf0⟩
      ·intro hc;refine Za ?_;refine Wu ?_ ?_
       ·intro hc;refine Zh ?_;refine Hf (kn.e 0 rfl) ZA ZA ZA λv1 H19 k4 Bt Bs hu=>?_;have kn:=kn.aw 0 rfl hu (R.ao _);simp only[go_sem,Q3k];refine Hf (kn.e 0 rfl) ZA ZA ZA λv2 H20 k5 hk9 hk10 hu=>?_;have kn:=kn.aw 0 rfl hu (R.ao _);have aV:=kn.l 0 rfl;simp only[go_sem,Q3j,aV];intro H21 h21;have kn:=kn.az 0 rfl h21;exact hn _ _ ⟨k5,jump,on,true,[v1,v2],ZC,ZA,ZA,kn,Rf0⟩
       ·intro hc;refine Qj ?_;exact hn _ _ ⟨k3,jump,on,true,[],ZC,ZA,ZA,kn,Rf0⟩
     rintro e3 H18 ⟨k4,jump,on,nfl,next,fd,Bt,Bs,kn,l0,l3,l4,l5,l6,l7,l8⟩;have aV:=kn.l 0 rfl;have bt:=kn.l 2 rfl;refine Qt ?_;simp only[go_sem,aV,bt,l5,l8,dw,dm];obtain⟨o,ho⟩:∃o:UBlk,o=⟨[],.sl true 2 [],[],ds,ic,il,jump,on,nfl,next⟩:=⟨_,rfl⟩;have ka:[C.sl true 2 [],ic,C.int IntKind.i64 jump,C.int IntKind.i64 on,C.sl nfl 1 (Qb next)]=o.row:=Zau;have eJ:o.lg=il:=(by rw[ho];simp[UBlk.lg]);have kW:o.ok:=(by rw[ho];exact⟨.nil 2,iz,ZC⟩);have mQ:o.sm 0:=(by rw[ho];exact⟨fd,by show ds.length<=_;omega,ZC,λd hd=>by have:=gB d hd;omega,ZC⟩);rw[ka];have kn:=(kn.perm Qa43).drop;refine kn.grow (new:=[o.row]) ax (.mk' _ _ _ _) (by intro r hr;simp only[Ja]at hr;subst hr;exact o.am kW) ZO λz H19 kn=>?_;have kn:Kn H H19 [(R.l,R.o k4)] (([(x4,.st [Ui 0,Ui 0,.sl true 5 []]),(x5,.st [Ui p,Ui rg,bc])]++(bs++[o]).flatMap UBlk.lg)++[(z,.vec 5 ((bs++[o]).map UBlk.row))]):=by
      simpa[Jt,Jn,eJ]using kn
     have bt:=kn.l 1 rfl;simp only[go_sem,Q3l,bt,l0,l3,l4,l5,l6,l7];intro H20 tw;have kn:=kn.az 1 rfl tw;refine Zg ?_;refine⟨Qv,n-(b+1),ZA,b+1,k4,bs++[o],_,_,rfl,ZA,by simp[lr],ZA,ZA,λo' fV=>?_,.mk _ _ _ ZC,kn,rfl⟩;rcases Ji.1 fV with h|h
     ·exact aq o' h
     ·simp only[Ja]at h;subst h;exact⟨kW,mQ⟩
  ·intro bN;have cB:b=n:=by have:¬b<n:=ZaZ;omega
   have bh:=kn.l 0 rfl;have bt:=kn.l 1 rfl;refine Zb ?_;refine Zp bt bh dm ?_;intro H9 h9;have kn:=kn.az 0 rfl h9;have bh:=kn.l 0 rfl;refine Zm bh dm ?_;obtain⟨o,ho⟩:∃o:UCode,o=⟨p,rg,bs,bc,bl⟩:=⟨_,rfl⟩;have kW:o.ok:=by rw[ho];exact⟨ax,λb hb=>(aq b hb).1,hp.1,hp.2⟩
   have mQ:o.sm 0:=by rw[ho];exact⟨by show 0<bs.length;omega,by show bs.length<=_;omega,λb hb=>(aq b hb).2⟩
   have kn:Kn H H9 [(R.l,R.o k1)] ([(x4,.st [Ui p,Ui rg,bc]),(x5,.st [Ui p,Ui rg,bc])]++o.lg):=by
    rw[ho];simpa[UCode.lg,Jn]using kn
   refine⟨unx H o.lg,.ag o.row,H9.frz (unx H o.lg),?_,E9 _ _,hK o _ k1 iY ZA kn.finK kW mQ⟩;rw[ho];exact FrzL.ag (.cons (Qg rfl) (.cons (Qg rfl) (.cons (.same _ dm) .nil)))
end Y
section
open Go.AE.Y
open Go.Proofs.Tryz
theorem Gr.slc{B Lg:Ul}{rows:List (List C)}{c:C}(h:Gr Lg sz rows c)(kn:Kn H0 H E (B++Lg)):Slc H sz rows c:=by
 obtain⟨h1,h2⟩:=h.get kn;exact⟨h1,h.aQ,h2,h.ay⟩
theorem Gr.ne{B Lg:Ul}{rows:List (List C)}{c:C}{r:Nat}{o:Obj}(h:Gr Lg sz rows c)(kn:Kn H0 H E (B++Lg))(hr:(r,o)∈E):∀l a d n,c=.ah l a d n->l≠r:=by
 intro l a d n hc hh;rcases h with ⟨h1,_⟩|⟨y,h1,h2⟩
 ·rw[h1]at hc;simp at hc
 ·rw[h1]at hc;have hy:y=l:=by injection hc
  have:=kn.loc (y,.vec sz rows) Zad;exact kn.ext (r,o) hr (by rw[<-hh,<-hy];exact this)
theorem Gr.slcM{L Lg:Ul}{rows:List (List C)}{c:C}(h:Gr Lg sz rows c)(kn:Kn H0 H E L)(hm:∀p∈Lg,p∈L):Slc H sz rows c:=by
 rcases h with ⟨h1,h2,h3⟩|⟨y,h1,h2⟩
 ·rw[h1,h2];exact .mk' _ _ _ _
 ·have hy:H y=.vec sz rows:=(kn.get (y,.vec sz rows) (Jk _ (hm _ Zad))).1;rw[h1];exact⟨by simp[Go.AE.aZ,hy],rfl,by simp[Go.AE.rowsOf,hy],rfl⟩
end
namespace Y
open Go.Proofs.Tryz
theorem Qa6j{B cl:Ul}{o:Obj}{us:List UCode}(hg:Gr cl 3 (us.map UCode.row) cc)(kn:Kn H0 H [(R.l,o)] (B++cl))(hu:∀u∈us,u.ok):CRd H R cc (us.map UCode.row):=by
 refine⟨hg.slc kn,hg.ai,hg.ne kn (o:=o) ZC,λi hi=>?_⟩;rw[Jf]at hi;refine⟨us[i].params,Ui us[i].ae,us[i].bc,by simp[Jd,hi,UCode.row],(hu _ (Jb hi)).p0,(hu _ (Jb hi)).p1⟩
theorem Lu{k:Nat}(hH:H R.l=R.o k)(hk:k+10000<=2^40)
  (hK:∀(cs:List CodeD) (H':Heap) (k':Nat),k<k'->k'<=k+10000->Upd H H' [(R.l,R.o k')]->0<cs.length->cs.length<=3->(∀c∈cs,c.sm)->K (.ag [.sl false 3 (Qm cs)]) H') :
  Qu prog MP [.c (.ptr R.l 0)] H K:=by
 refine Q0 ?_;refine Qd Co TL ?_;refine Za ?_;intro x2 aL H1 h1;have kn:=(Kn.start1 hH (R.ao k)).al aL h1;refine Za ?_;intro x3 aO H2 h2;have kn:=kn.al aO h2;have jR:=kn.l 1 rfl;simp only[go_sem,Kk,jR];intro H3 h3;have kn:=kn.az 1 rfl h3;refine Wa ?_;refine Dy (ns:=[1,2,1,3]) (kn.e 0 rfl) ZA ZC λi0 H4 lN hu=>?_;have kn:=kn.aw 0 rfl hu (R.ao _);simp only[go_sem,Q9u];obtain⟨i,rfl,rW,hi3⟩:∃i:Nat,i0=i/\1<=i/\i<=3:=⟨i0.toNat,by simp at lN;omega⟩;refine Qh (Qe (Qy (λm e1 H1=>∃(t k1:Nat) (us:List UCode) (cc:C) (cl:Ul),m=t/\t+us.length=i/\k<k1/\k1<=k+1+1000 * us.length/\(∀u∈us,u.ok/\u.sm 0)/\Gr cl 3 (us.map UCode.row) cc/\
  Kn H H1 [(R.l,R.o k1)] (([(x2,.st [.sl true 3 []]),(x3,.st [cc])]++us.flatMap UCode.lg)++cl)/\
  e1=[(0,.c (.ptr R.l 0)),(2,Up x2),(3,Up x3),(4,Uv t)]) i ?_ ?_))
 ·exact⟨i,k+1,[],_,[],rfl,rfl,ZA,ZC,ZC,.nil 3,ZL,rfl⟩
 ·rintro m e1 H5 ⟨t,k1,us,cc,cl,hm,ht,iY,fQ,aq,ax,kn,rfl⟩;have bM:=ax.ai;have aO:=kn.l 1 rfl;refine Wa ?_;refine Wt ?_ ?_
  ·intro hc;have we:0<t:=ZD
   refine Wn ?_;simp only[go_sem,aO,bM];refine TA (kn.e 0 rfl) ZA (Qa6j ax kn λu hu=>(aq u hu).1) λo H6 k2 jw jv kn2 jr jH=>?_;have kn:=kn.compE 0 rfl kn2;have aO:=kn.l 1 rfl;simp only[go_sem,Q9w,aO,bM,o.len3];have kn:=kn.perm EM;refine kn.grow (new:=[o.row]) ax (.mk' _ _ _ _) (by intro r hr;simp only[Ja]at hr;subst hr;exact o.am jr) ZO λz H7 kn=>?_;have kn:Kn H H7 [(R.l,R.o k2)] (([(x2,.st [.sl true 3 []]),(x3,.st [cc])]++(us++[o]).flatMap UCode.lg)++[(z,.vec 3 ((us++[o]).map UCode.row))]):=by
    simpa[Jt,Jn]using kn
   have aO:=kn.l 1 rfl;simp only[go_sem,Q9v,aO];intro H8 h8;have kn:=kn.az 1 rfl h8;refine Zg ?_;refine⟨Qv,t-1,ZA,t-1,k2,us++[o],_,_,rfl,by simp;omega,ZA,by simp;omega,λo' fV=>?_,.mk _ _ _ ZC,kn,?_⟩
   ·rcases Ji.1 fV with h|h
    ·exact aq o' h
    ·simp only[Ja]at h;subst h;exact⟨jr,jH⟩
   ·have:(t:Int)-1=((t-1:Nat):Int):=ZA;rw[this]
  ·intro hc;have we:t=0:=by have:¬0<t:=ZD;omega
   refine Zb ?_;refine Wa ?_;refine Dy (ns:=[0,0,1,3]) (kn.e 0 rfl) ZA ZC λj0 H6 lM hu=>?_;have kn:=kn.aw 0 rfl hu (R.ao _);simp only[go_sem,Q9x];obtain⟨j,rfl,qk⟩:∃j:Nat,j0=j/\j<=3:=⟨j0.toNat,by simp at lM;omega⟩;have cL:0<us.length:=ZA
   have hcl3:us.length<=3:=ZA
   refine Qh (Qe (Qy (λm e1 H1=>∃(t k2 N:Nat) (us:List UCode),m=t/\t+N=j/\us.length=i/\k<k2/\k2<=k1+1+200 * N/\(∀u∈us,u.ok/\u.sm N)/\Gr cl 3 (us.map UCode.row) cc/\
    Kn H H1 [(R.l,R.o k2)] (([(x2,.st [.sl true 3 []]),(x3,.st [cc])]++us.flatMap UCode.lg)++cl)/\
    e1=[(0,.c (.ptr R.l 0)),(2,Up x2),(3,Up x3),(5,Uv t)]) j ?_ ?_))
   ·exact⟨j,k1+1,0,us,rfl,rfl,ZA,ZA,ZA,aq,ax,kn,rfl⟩
   ·rintro m e1 H7 ⟨t,k2,N,us,hm,ht,vX,jw,jv,aq,ax,kn,rfl⟩;have aO:=kn.l 1 rfl;refine Wa ?_;refine Wt ?_ ?_
    ·intro hc;have we:0<t:=ZD;refine Ze ?_;have cr:∀p∈cl,p∈(([(x2,.st [.sl true 3 []]),(x3,.st [cc])]++us.flatMap UCode.lg)++cl):=λp hp=>Zay;refine CN (λe2 H2=>∃(k3:Nat) (us:List UCode),us.length=i/\k<k3/\k3<=k2+200/\(∀u∈us,u.ok/\u.sm (N+1))/\Gr cl 3 (us.map UCode.row) cc/\
      Kn H H2 [(R.l,R.o k3)] (([(x2,.st [.sl true 3 []]),(x3,.st [cc])]++us.flatMap UCode.lg)++cl)/\lk 0 e2=.c (.ptr R.l 0)/\lk 2 e2=Up x2/\lk 3 e2=Up x3/\lk 5 e2=Uv t) ?_ ?_
     ·intro Q hn _ _;have hs:=ax.slc kn;have aK:=eq_true hs.ok;have ak:=hs.len;have br:=hs.sz;rw[Jf]at ak;refine Qe (Cv ?_);simp only[go_sem,aO,bM,aK,ak];refine CE (kn.e 0 rfl) ZA λv H8 hv hu=>?_;have kn:=kn.aw 0 rfl hu (R.ao _);rw[if_neg ZA]at hv;obtain⟨ci,rfl⟩:=Jr hv.1;have dG:ci<us.length:=ZA;have aO:=kn.l 1 rfl;have hs:=ax.slc kn;have aK:=eq_true hs.ok;simp only[go_sem,Q9y,aO,bM,aK,ak,br,dG];obtain⟨u,hu⟩:∃u,us[ci]=u:=⟨_,rfl⟩;obtain⟨eU,ez⟩:=aq _ (Jb dG);rw[hu]at eU ez;have aD:(us.map UCode.row).getD ci []=[Ui u.params,Ui u.ae,u.bc]:=(by rw[<-hu];simp[Jd,dG,UCode.row]);have qT:=ez.b0;have xB:=ez.b;obtain⟨yb,dV,bj⟩:=UCode.bvec eU qT;have j7:=eU.b.ai;have kK:=eU.b.ay;rw[Jf]at kK;have em:=hs.rows;have pS:∀p∈u.bl,p∈(([(x2,.st [.sl true 3 []]),(x3,.st [cc])]++us.flatMap UCode.lg)++cl):=λp hp=>by
       have:p∈us.flatMap UCode.lg:=J8.2 ⟨u,by rw[<-hu];exact Jb dG,Jk _ hp⟩;simp[this]
      have bD:=eq_true (eU.b.slcM kn pS).ok;refine Qa ?_;simp only[go_sem,aK,ak,br,dG,em,aD,j7,kK,bD];intro _;refine CE (kn.e 0 rfl) ZA λv H9 hv xC=>?_;have kn:=kn.aw 0 rfl xC (R.ao _);rw[if_neg ZA]at hv;obtain⟨bi,rfl⟩:=Jr hv.1;have cP:bi<u.blocks.length:=ZA;have aK:=eq_true (ax.slcM kn cr).ok;have em:=(ax.slcM kn cr).rows;simp only[go_sem,Q9z];refine Qa ?_;simp only[go_sem,aK,ak,br,dG,em,aD];refine CE (kn.e 0 rfl) ZA λto H10 _ jT=>?_;have kn:=kn.aw 0 rfl jT (R.ao _);simp only[go_sem,Q3u];intro x8 aV H11 eC;have kn:=kn.al aV eC;have kn:=kn.perm Jl;have aV:=kn.l 0 rfl;simp only[go_sem,Q3t,aV];intro H12 jf;have kn:Kn H H12 [(R.l,R.o (k2+1+1+1))] ([(x8,.st [Ui to,.sl true 1 []])]++(([(x2,.st [.sl true 3 []]),(x3,.st [cc])]++us.flatMap UCode.lg)++cl)):=kn.az 0 rfl jf;have pY:∀p∈cl,p∈([(x8,Obj.st [Ui to,.sl true 1 []])]++(([(x2,.st [.sl true 3 []]),(x3,.st [cc])]++us.flatMap UCode.lg)++cl)):=λp hp=>Jk _ (cr p hp);have aK:=eq_true (ax.slcM kn pY).ok;have em:=(ax.slcM kn pY).rows;have lr:=eU.b.slcM kn (λp hp=>Jk _ (pS p hp));refine Q1 (Qa ?_);simp only[go_sem,aK,ak,br,dG,em,aD,j7];refine F6 (rows:=u.blocks.map UBlk.row) (nx:=λi=>(u.blocks.map UBlk.next).getD i []) lr j7 (λi hi=>?_) λH13 xE=>?_
      ·rw[Jf]at hi;refine⟨u.blocks[i].pc,u.blocks[i].ic,Ui u.blocks[i].jump,Ui u.blocks[i].on,u.blocks[i].nfl,?_⟩;simp[Jd,hi,UBlk.row]
      have kn:=kn.au xE;obtain⟨ps,fH⟩:∃ps,Qs (λi=>(u.blocks.map UBlk.next).getD i []) (bi:Int) (u.blocks.map UBlk.row).length=ps:=⟨_,rfl⟩;have ul:ps.length<=160:=by
       have:=E3 (λi=>(u.blocks.map UBlk.next).getD i []) (bi:Int) (u.blocks.map UBlk.row).length;rw[fH,Jf]at this;omega
      rw[fH];simp only[go_sem,Q3v,Qc];intro _;refine Qh (Qe (Qy (λm e1 H1=>∃(q:Nat) (ns:List Int) (ac:C) (al:Ul),m=ps.length-q/\q<=ps.length/\ns.length=q/\Gr al 1 (Qb ns) ac/\
       Kn H H1 [(R.l,R.o (k2+1+1+1+q))] (([(x8,.st [Ui to,ac])]++(([(x2,.st [.sl true 3 []]),(x3,.st [cc])]++us.flatMap UCode.lg)++cl))++al)/\
       e1=[(0,.c (.ptr R.l 0)),(2,Up x2),(3,Up x3),(5,Uv t),(6,.c (cc.ep 3 ci 0)),(7,Uv bi),(8,Up x8),(59,.c (Ui ps.length)),(60,Uv q)]) ps.length ?_ ?_))
      ·exact⟨0,[],_,[],ZA,ZA,rfl,.nil 1,ZL,rfl⟩
      ·rintro m2 e1 H14 ⟨q,ns,ac,al,fz,hq,dT,ve,kn,rfl⟩;have fL:=ve.ai;have aV:=kn.l 0 rfl;have pX:∀p∈cl,p∈(([(x8,Obj.st [Ui to,ac])]++(([(x2,.st [.sl true 3 []]),(x3,.st [cc])]++us.flatMap UCode.lg)++cl))++al):=λp hp=>List.mem_append_left _ (Jk _ (cr p hp));have aK:=eq_true (ax.slcM kn pX).ok;have em:=(ax.slcM kn pX).rows;refine Za ?_;refine Wt ?_ ?_
       ·intro hc;have af:q<ps.length:=ZD;refine Wn ?_;simp only[go_sem,aV,fL,aK,ak,br,dG,em,aD];refine CE (kn.e 0 rfl) ZA λv H15 _ xD=>?_;have kn:=kn.aw 0 rfl xD (R.ao _);have aV:=kn.l 0 rfl;simp only[go_sem,Q3x,aV,fL];refine kn.grow (new:=Qb [v]) ve (.mk' _ _ _ _) (Qr _) ZaA λy H16 kn=>?_;have aV:=kn.l 0 rfl;simp only[go_sem,Q3w,aV];intro H17 AO;have kn:=kn.az 0 rfl AO;refine Zg ?_;refine⟨Qv,ps.length-(q+1),ZA,q+1,ns++[v],_,_,rfl,ZA,by simp[dT],?_,kn,rfl⟩;rw[<-Ec];exact .mk _ _ _ (by simp[Ec,Qc])
       ·intro hc;have hqp:q=ps.length:=(by have:¬q<ps.length:=(by simpa using hc);omega);refine Wb ?_;refine Wu ?_ ?_
        ·intro hc;obtain⟨blk,bU⟩:∃blk,u.blocks[bi]=blk:=⟨_,rfl⟩;have j6:=eU.bs _ (Jb cP);have i7:=ez.bs _ (Jb cP);rw[bU]at j6 i7;have Ai:=i7.p;have gK:(u.blocks.map UBlk.row).getD bi []=[blk.pc,blk.ic,Ui blk.jump,Ui blk.on,.sl blk.nfl 1 (Qb blk.next)]:=(by rw[<-bU];simp[Jd,cP,UBlk.row]);have fq:=j6.p.ai;have dx:(u.blocks.map UBlk.row).length=u.blocks.length:=ZC;have kn:Kn H H14 [(R.l,R.o (k2+1+1+1+q))] (([(yb,.vec 5 (u.blocks.map UBlk.row))]++([(x8,.st [Ui to,ac])]++([(x2,.st [.sl true 3 []]),(x3,.st [cc])]++(blk.core++(al++(DU us ci bi dG++cl))))))++blk.pl):=kn.perm (Qi λf hf h0 bN hp=>by
          have h1:=hp _ _ (Qa14 us ci bi dG (by rw[hu];exact cP));subst hu;rw[bU,bj]at h1;simp only[Ui,hf]at h1⊢;omega)
         have cI:=kn.l 0 rfl;have aV:=kn.l 1 rfl;have pV:∀p∈cl,p∈(([(yb,Obj.vec 5 (u.blocks.map UBlk.row))]++([(x8,Obj.st [Ui to,ac])]++([(x2,Obj.st [.sl true 3 []]),(x3,Obj.st [cc])]++(blk.core++(al++(DU us ci bi dG++cl))))))++blk.pl):=λp hp=>Zay;have aK:=eq_true (ax.slcM kn pV).ok;have em:=(ax.slcM kn pV).rows;obtain⟨ph,fb⟩:∃ph:UPhi,ph=⟨to,ns,ac,al⟩:=⟨_,rfl⟩;have ry:[C.int IntKind.i64 to,ac]=ph.row:=(by rw[fb];rfl);have jW:ph.al=al:=(by rw[fb]);have uv:Gr ph.al 1 (Qb ph.ns) ph.ac:=(by rw[fb];exact ve);rw[dV]at aD j7 kK;have lO:=j6.p;have bQ:List.take u.blocks.length (u.blocks.map UBlk.row)=u.blocks.map UBlk.row:=Jc ZC;refine C7 ?_;simp only[go_sem,aV,fL,aK,ak,br,dG,em,aD,cI,cP,dx,bQ,gK,fq,Jo,Jg];rw[ry];refine kn.grow (new:=[ph.row]) lO (.mk' _ _ _ _) (by intro r hr;simp only[Ja]at hr;subst hr;exact ph.am uv) ZO λz H15 kn=>?_;have kn:Kn H H15 [(R.l,R.o (k2+1+1+1+q))] ([(yb,.vec 5 (u.blocks.map UBlk.row))]++(([(x8,.st [Ui to,ac])]++([(x2,.st [.sl true 3 []]),(x3,.st [cc])]++(blk.core++(al++(DU us ci bi dG++cl)))))++[(z,.vec 2 ((blk.ab++[ph]).map UPhi.row))])):=by
          simpa[Jn]using kn
         have cI:=kn.l 0 rfl;have pU:∀p∈cl,p∈([(yb,Obj.vec 5 (u.blocks.map UBlk.row))]++(([(x8,Obj.st [Ui to,ac])]++([(x2,Obj.st [.sl true 3 []]),(x3,Obj.st [cc])]++(blk.core++(al++(DU us ci bi dG++cl)))))++[(z,.vec 2 ((blk.ab++[ph]).map UPhi.row))])):=λp hp=>Zay;have aK:=eq_true (ax.slcM kn pU).ok;have em:=(ax.slcM kn pU).rows;simp only[go_sem,Q3y,aK,ak,br,dG,em,aD,cI,cP,dx,gK,Jo,Jg];intro H16 jM;obtain⟨b',aW⟩:∃b':UBlk,b'={ blk with ab:=blk.ab++[ph],pc:=.ah z 2 0 ((blk.ab.map UPhi.row).length+1),pl:=[(z,.vec 2 ((blk.ab++[ph]).map UPhi.row))] }:=⟨_,rfl⟩;have sv:[C.ah z 2 0 ((blk.ab.map UPhi.row).length+1),blk.ic,C.int IntKind.i64 blk.jump,C.int IntKind.i64 blk.on,C.sl blk.nfl 1 (Qb blk.next)]=b'.row:=(by rw[aW];rfl);have vx:(u.blocks.map UBlk.row).set bi b'.row=(u.blocks.set bi b').map UBlk.row:=(by rw[Jv]);rw[sv,vx]at jM;have kn:=kn.az 0 rfl jM;have ny:b'.ok:=by
          rw[aW];refine⟨.mk _ _ _ ZC,j6.i,λp hp=>?_⟩;rcases Ji.1 hp with h|h
          ·exact j6.a p h
          ·simp only[Ja]at h;subst h;exact uv
         have nw:b'.sm (N+1):=by
          rw[aW];refine⟨i7.n,i7.i,by simp;omega,i7.ia,λp hp=>?_⟩;rcases Ji.1 hp with h|h
          ·exact i7.pa p h
          ·simp only[Ja]at h;subst h;rw[fb];show ns.length<=1000;omega
         obtain⟨u',jk⟩:∃u',u'=u.put bi b' [(yb,.vec 5 ((u.blocks.set bi b').map UBlk.row))]:=⟨_,rfl⟩;have mo:u'.ok:=(by rw[jk];exact UCode.put_ok eU ny bj);have mj:u'.sm (N+1):=(by rw[jk];exact UCode.put_sm ez nw);have uM:Kn H H16 [(R.l,R.o (k2+1+1+1+q))] ((([(x2,.st [.sl true 3 []]),(x3,.st [cc])]++(us.set ci u').flatMap UCode.lg)++cl)++[(x8,.st [Ui to,ac])]):=kn.perm (Qi λf hf h0 bN hp=>by
          have h1:=hp _ _ (Qa52 us ci bi dG (by rw[hu];exact cP) b' [(yb,.vec 5 ((u.blocks.set bi b').map UBlk.row))]);rw[hu,<-jk]at h1;have h2:b'.core=blk.core++al:=(by rw[aW,UBlk.core_snoc,jW]);have h3:b'.pl=[(z,.vec 2 ((blk.ab++[ph]).map UPhi.row))]:=(by rw[aW]);rw[h2,h3]at h1;simp only[Ui,Js,Jq,Jw,hf,bN _ (_::_),bN _ (_++_)]at h1⊢;omega)
         refine hn _ _ ⟨k2+1+1+1+q,us.set ci u',by simpa using vX,ZA,ZA,λv hv=>?_,?_,uM.drop,Rf0⟩
         ·rcases J6 hv with hv|rfl
          ·exact⟨(aq v hv).1,(aq v hv).2.mono ZA⟩
          ·exact⟨mo,mj⟩
         ·rw[Qa53 us ci dG u' (by rw[jk,UCode.put_row,hu])];exact ax
        ·intro hc;refine Ze ?_;refine hn _ _ ⟨k2+1+1+1+q,us,vX,ZA,ZA,λu hu=>⟨(aq u hu).1,(aq u hu).2.mono ZA⟩,ax,?_,Rf0⟩;have kn:=kn.drop;exact (kn.perm Jl).drop
     rintro e2 H8 ⟨k3,us,vX,zq,Bu,aq,ax,kn,l0,l2,l3,l5⟩;refine Qt ?_;simp only[go_sem,X.next,l0,l2,l3,l5];refine⟨Qv,t-1,ZA,t-1,k3,N+1,us,rfl,ZA,vX,zq,ZA,aq,ax,kn,?_⟩;have:(t:Int)-1=((t-1:Nat):Int):=ZA;rw[this]
    ·intro hc;refine Zb ?_;have aL:=kn.l 0 rfl;refine Zp aL aO bM ?_;intro H8 h8;have kn:=kn.az 0 rfl h8;have aL:=kn.l 0 rfl;refine Zm aL bM ?_;have jx:Held H8 (un H) (us.flatMap UCode.lg++cl):=λp hp=>by
      have fy:p∈(([(x2,Obj.st [cc]),(x3,Obj.st [cc])]++us.flatMap UCode.lg)++cl):=by
       rcases Ji.1 hp with h|h
       ·simp[h]
       ·simp[h]
      exact⟨(kn.get p (Jk _ fy)).1,Ef (kn.loc p fy)⟩
     obtain⟨cs,hf,B8,lQ⟩:=UCodes.frz (N:=N) ZA ax aq jx;exact⟨_,FrzL.ag (.cons hf .nil),hK cs _ k2 jw ZA kn.fin ZA ZA lQ⟩
end Y
section
open Go.AE.Y
open Go.Proofs.Tryz
theorem Kn.lm{L:Ul}{x:Nat}{o:Obj}(kn:Kn H0 H E L)(h:(x,o)∈L):H x=o:=(kn.get (x,o) (Jk _ h)).1
end
namespace Y
open Go.Proofs.Tryz
theorem TB{k:Nat}(hH:H R.l=R.o k)(hk:k+20000<=2^40)
  (hK:∀(cs:List CodeD) (H':Heap) (k':Nat),k<k'->k'<=k+20000->Upd H H' [(R.l,R.o k')]->0<cs.length->cs.length<=3->(∀c∈cs,c.gd)->K (.ag [.sl false 3 (Qm cs)]) H') :
  Qu prog MT [.c (.ptr R.l 0)] H K:=by
 refine Q0 ?_;refine Qd Co TQ ?_;refine Za ?_;intro x2 aL H1 h1;have kn:=(Kn.start1 hH (R.ao k)).al aL h1;refine Za ?_;refine Lu (kn.e 0 rfl) ZA λcs H2 k1 iY fQ hu nt vp iu=>?_;have kn:=kn.aw 0 rfl hu (R.ao _);simp only[go_sem,Q81];refine Qahw iu ZA λus cc cl H3 k2 ax aq pH=>?_;have kn:=kn.comp0 k2;have bM:=ax.ai;simp only[go_sem,Pq];intro x3 aO H4 h4;have kn:=kn.al aO h4;have kn:=kn.perm Jl;have aO:=kn.l 0 rfl;simp only[go_sem,Kk,aO];intro H5 h5;have kn:=kn.az 0 rfl h5;have kn:Kn H H5 [(R.l,R.o k1)] (([(x2,.st [.sl true 3 []]),(x3,.st [cc])]++us.flatMap OCode.lg)++cl):=kn.perm (Qi λf hf h0 bN hp=>by
  simp only[Ui,Js,Jq,Jw,hf,bN _ (_::_),bN _ (_++_)];omega)
 have aO:=kn.l 1 rfl;have hs:=ax.slc kn;have aK:=eq_true hs.ok;have ak:=hs.len;have br:=hs.sz;rw[Jf]at ak;refine Cv ?_;simp only[go_sem,aO,bM,aK,ak];refine CE (kn.e 0 rfl) ZA λv H6 hv hu=>?_;have kn:=kn.aw 0 rfl hu (R.ao _);rw[if_neg ZA]at hv;obtain⟨ci,rfl⟩:=Jr hv.1;have dG:ci<us.length:=ZA
 have aO:=kn.l 1 rfl;have hs:=ax.slc kn;have aK:=eq_true hs.ok;have em:=hs.rows;simp only[go_sem,Q82,aO,bM,aK,ak,br,dG];obtain⟨u,hu⟩:∃u,us[ci]=u:=⟨_,rfl⟩;obtain⟨eU,ez⟩:=aq _ (Jb dG);rw[hu]at eU ez;have aD:(us.map OCode.row).getD ci []=[Ui u.params,Ui u.ae,u.bc]:=by rw[<-hu];simp[Jd,dG,OCode.row]
 have qT:=ez.b0;have xB:=ez.b;obtain⟨yb,dV,bj⟩:=OCode.bvec eU qT;have j7:(C.ah yb 5 0 u.blocks.length).ai=false:=rfl;have kK:ay (C.ah yb 5 0 u.blocks.length)=u.blocks.length:=rfl;rw[dV]at aD;have tD:(yb,Obj.vec 5 (u.blocks.map OBlk.row))∈(([(x2,Obj.st [.sl true 3 []]),(x3,.st [cc])]++us.flatMap OCode.lg)++cl):=by
  have:(yb,Obj.vec 5 (u.blocks.map OBlk.row))∈us.flatMap OCode.lg:=J8.2 ⟨u,by rw[<-hu];exact Jb dG,Jk _ (by rw[bj];simp)⟩;simp[this]
 have cI:=kn.lm tD;have dx:(u.blocks.map OBlk.row).length=u.blocks.length:=ZC
 have bQ:List.take u.blocks.length (u.blocks.map OBlk.row)=u.blocks.map OBlk.row:=Jc ZC;refine Cv ?_;simp only[go_sem,aK,ak,br,dG,em,aD,cI,dx,Jg,Je];refine CE (kn.e 0 rfl) ZA λv H7 hv hu7=>?_;have kn:=kn.aw 0 rfl hu7 (R.ao _);rw[if_neg ZA]at hv;obtain⟨bi,rfl⟩:=Jr hv.1;have cP:bi<u.blocks.length:=ZA
 have hs:=ax.slc kn;have aK:=eq_true hs.ok;have em:=hs.rows;have cI:=kn.lm tD;simp only[go_sem,Q83,aK,ak,br,dG,em,aD,cI,dx,cP,Jg,Je];refine Cv ?_;simp only[go_sem,aK,ak,br,dG,em,aD,cI,dx,Jg,Je];refine Dy (ns:=[-1,u.ae,u.blocks.length,0,1]) (kn.e 0 rfl) ZA ZC λbad H8 _ hu8=>?_;have kn:=kn.aw 0 rfl hu8 (R.ao _);simp only[go_sem,Q84];refine Wa ?_;refine CE (kn.e 0 rfl) ZA λkind H9 _ xC=>?_;have kn:=kn.aw 0 rfl xC (R.ao _);refine CN (λe2 H2=>∃(k3:Nat) (us:List OCode) (cl:Ul),us.length=cs.length/\k<k3/\k3<=k+20000/\(∀u∈us,u.ok/\u.sm 1001)/\Gr cl 3 (us.map OCode.row) cc/\
   Kn H H2 [(R.l,R.o k3)] (([(x2,.st [.sl true 3 []]),(x3,.st [cc])]++us.flatMap OCode.lg)++cl)/\lk 2 e2=Up x2/\lk 3 e2=Up x3) ?_ ?_
 ·intro Q hn _ _;have hull:us.length=cs.length:=pH;have knO:=kn;obtain⟨blk,bU⟩:∃blk,u.blocks[bi]=blk:=⟨_,rfl⟩;have bD:=eU.bs _ (Jb cP);have cD:=ez.bs _ (Jb cP);rw[bU]at bD cD;have gK:(u.blocks.map OBlk.row).getD bi []=[blk.pc,blk.ic,Ui blk.jump,Ui blk.on,.ah blk.nx.y 1 0 blk.nx.ns.length]:=by rw[<-bU];simp[Jd,cP,OBlk.row,OInts.c]
  have fq:=bD.p.ai;have dw:=bD.i.ai;have kn:=Qap2 kn dG hu cP bU bj;have bX:∀b':OBlk,(u.blocks.map OBlk.row).set bi b'.row=(u.blocks.set bi b').map OBlk.row:=λb'=>(Jv).symm;have da:∀(b':OBlk) (H2:Heap) (k3:Nat) (e2:Env),b'.ok->b'.sm 1001->k<k3->k3<=k+20000->Kn H H2 [(R.l,R.o k3)] ([(yb,.vec 5 ((u.blocks.set bi b').map OBlk.row))]++(b'.lg++(Du us ci bi dG++([(x2,Obj.st [.sl true 3 []]),(x3,.st [cc])]++cl))))->
    lk 2 e2=Up x2->lk 3 e2=Up x3->Q .nrm e2 H2:=by
   intro b' H2 k3 e2 h1 h2 h3 h4 kn l2 l3;obtain⟨us',g1,g2,g3,g4⟩:=Qasl (N:=1000) dG hu cP bj aq h1 h2 ax kn;exact hn _ _ ⟨k3,us',cl,ZA,h3,h4,g3,g2,g4,l2,l3⟩
  have gc:∀e2:Env,lk 2 e2=Up x2->lk 3 e2=Up x3->Q .nrm e2 H9:=λe2 l2 l3=>
   hn _ _ ⟨_,us,cl,pH,ZA,ZA,λu hu=>⟨(aq u hu).1,(aq u hu).2.mono ZA⟩,ax,knO,l2,l3⟩
  refine Wr ?_;have aK:=eq_true (ax.slcM kn (λp hp=>Zay)).ok;have em:=(ax.slcM kn (λp hp=>Zay)).rows;have cI:=kn.l 0 rfl;refine Wu ?_ ?_
  ·intro hc;refine Zh ?_;refine CE (kn.e 0 rfl) ZA λv H10 _ jT=>?_;have kn:=kn.aw 0 rfl jT (R.ao _);have cI:=kn.l 0 rfl;simp only[go_sem,Q85,cI,dx,cP,gK,Jo,Jg,Je];intro H11 eC;have aW:[blk.pc,blk.ic,C.int IntKind.i64 v,C.int IntKind.i64 blk.on,C.ah blk.nx.y 1 0 blk.nx.ns.length]=({ blk with jump:=v }:OBlk).row:=rfl;rw[aW,bX]at eC;exact da { blk with jump:=v } _ _ _ ⟨bD.p,bD.i,bD.a⟩ ⟨cD.n,cD.i,by have:=cD.p;show blk.ab.length<=_;omega,λx hx=>by have:=cD.ia x hx;omega,λx hx=>by have:=cD.pa x hx;omega⟩ ZA ZA (kn.az 0 rfl eC) ZB ZB
  intro dk;refine Za ?_;refine Wu ?_ ?_
  ·intro hc;have sZ:H9 blk.nx.y=.vec 1 (Qb blk.nx.ns):=kn.l 1 rfl;have gQ:List.take blk.nx.ns.length (Qb blk.nx.ns)=Qb blk.nx.ns:=Jc (by simp[Qc]);refine Qa ?_;simp only[go_sem,cI,dx,bQ,cP,gK,G1,Jo,Jg,Je,sZ,Qc];intro _;refine Wu ?_ ?_
   ·intro aC;have cq:0<blk.nx.ns.length:=ZG;have eY:=Qk blk.nx.ns 0 cq;refine Qt ?_;simp only[go_sem,cI,dx,bQ,cP,gK,G1,Jo,Jg,Je,sZ,cq,eY,Qc];refine⟨ZA,λH11 eC=>?_⟩;have cE:(Qb blk.nx.ns).set 0 [C.int IntKind.i64 bad]=Qb (blk.nx.ns.set 0 bad):=(by simp[Qb,Jv]);rw[cE]at eC;have kn:Kn H H11 [(R.l,R.o (k1+1+1+1+1))] ([(yb,.vec 5 (u.blocks.map OBlk.row))]++(OBlk.lg { blk with nx:=⟨blk.nx.ns.set 0 bad,blk.nx.y⟩ }++(Du us ci bi dG++([(x2,Obj.st [.sl true 3 []]),(x3,.st [cc])]++cl)))):=kn.az 1 rfl eC;refine da { blk with nx:=⟨blk.nx.ns.set 0 bad,blk.nx.y⟩ } _ (k1+1+1+1+1) _ ⟨bD.p,bD.i,bD.a⟩ ⟨by simpa using cD.n,cD.i,by have:=cD.p;show blk.ab.length<=_;omega,λx hx=>by have:=cD.ia x hx;omega,λx hx=>by have:=cD.pa x hx;omega⟩ ZA ZA ?_ ZB ZB;rw[Rt cP (by rw[bU];simp[OBlk.row,OInts.c])];exact kn
   ·intro aC;refine Qj ?_;exact gc _ ZB ZB
  intro bN;refine Za ?_;refine Wu ?_ ?_
  ·intro hc;refine Qt ?_;simp only[go_sem,cI,dx,cP,gK,Jo,Jg,Je];intro H11 eC;have aW:[blk.pc,blk.ic,C.int IntKind.i64 blk.jump,C.int IntKind.i64 bad,C.ah blk.nx.y 1 0 blk.nx.ns.length]=({ blk with on:=bad }:OBlk).row:=rfl;rw[aW,bX]at eC;exact da { blk with on:=bad } _ _ _ ⟨bD.p,bD.i,bD.a⟩ ⟨cD.n,cD.i,by have:=cD.p;show blk.ab.length<=_;omega,λx hx=>by have:=cD.ia x hx;omega,λx hx=>by have:=cD.pa x hx;omega⟩ ZA ZA (kn.az 0 rfl eC) ZB ZB
  intro aC;refine Za ?_;have iw:ay blk.ic=blk.ins.length:=by rw[bD.i.ay];simp
  have lc:aZ H9 blk.ic=True:=eq_true (bD.i.slcM kn (λp hp=>by simp[OBlk.lg,hp])).ok;refine Wu ?_ ?_
  ·intro hc;refine Qa ?_;simp only[go_sem,cI,dx,bQ,cP,gK,dw,Jo,Jg,Je,iw,lc];intro _;refine Wu ?_ ?_
   ·intro aC;have cq:0<blk.ins.length:=ZG;obtain⟨yi,ja,cK⟩:=OBlk.ivec bD cq;rw[ja]at gK;have knI:=HN kn cK;have jC:=knI.l 0 rfl;obtain⟨x,hx⟩:∃x,blk.ins[0]=x:=⟨_,rfl⟩;have sN:(blk.ins.map OIns.row).getD 0 []=[Ui x.op,Ui x.to,.ah x.a.y 1 0 x.a.ns.length,Ui x.n]:=Zar;have lh:(blk.ins.map OIns.row).length=blk.ins.length:=ZC;have qV:List.take blk.ins.length (blk.ins.map OIns.row)=blk.ins.map OIns.row:=Jc ZC;have nL:x.a.ns.length<=1000:=cD.ia x Za1;refine Qt ?_;simp only[go_sem,cI,dx,bQ,cP,gK,G1,Jo,Jg,Je,jC,cq,sN,lh];refine⟨ZA,λH12 jf=>?_⟩;have bd:[C.int IntKind.i64 x.op,C.int IntKind.i64 bad,C.ah x.a.y 1 0 x.a.ns.length,C.int IntKind.i64 x.n]=({ x with to:=bad }:OIns).row:=rfl;rw[bd,<-Jv]at jf;have knD:=KH (b:=blk) (is:=blk.ins.set 0 { x with to:=bad }) (knI.az 0 rfl jf) (Q06 cq (by rw[hx];rfl));refine da _ _ (k1+1+1+1+1) _ (OBlk.ins_ok (i:=0) (x':={ x with to:=bad }) bD ja) (OBlk.ins_sm (i:=0) (x':={ x with to:=bad }) cD (by show x.a.ns.length<=_;omega)) ZA ZA ?_ ZB ZB;rw[Rt cP (by rw[bU];rfl)];exact knD
   ·intro aC;refine Qj ?_;exact gc _ ZB ZB
  intro bv;refine Za ?_;refine Wu ?_ ?_
  ·intro hc;refine Qa ?_;simp only[go_sem,cI,dx,bQ,cP,gK,dw,Jo,Jg,Je,iw,lc];intro _;refine Wu ?_ ?_
   ·intro aC;have cq:0<blk.ins.length:=ZG;obtain⟨yi,ja,cK⟩:=OBlk.ivec bD cq;rw[ja]at gK;have knI:=HN kn cK;have jC:=knI.l 0 rfl;obtain⟨x,hx⟩:∃x,blk.ins[0]=x:=⟨_,rfl⟩;have sN:(blk.ins.map OIns.row).getD 0 []=[Ui x.op,Ui x.to,.ah x.a.y 1 0 x.a.ns.length,Ui x.n]:=Zar;have lh:(blk.ins.map OIns.row).length=blk.ins.length:=ZC;have qV:List.take blk.ins.length (blk.ins.map OIns.row)=blk.ins.map OIns.row:=Jc ZC;have nL:x.a.ns.length<=1000:=cD.ia x Za1;refine C7 ?_;have knA:Kn H H9 [(R.l,R.o (k1+1+1+1+1))] ([(x.a.y,.vec 1 (Qb x.a.ns))]++([(yi,.vec 4 (blk.ins.map OIns.row))]++([(yb,.vec 5 (u.blocks.map OBlk.row))]++(blk.nx.lg++(blk.ab.flatMap OPhi.lg++(blk.pl++((blk.ins.eraseIdx 0).flatMap OIns.lg++(Du us ci bi dG++([(x2,Obj.st [.sl true 3 []]),(x3,.st [cc])]++cl))))))))):=knI.perm (Qi λf hf h0 bN hp=>by
     have h1:=hp _ _ (F4 OIns.lg blk.ins 0 cq);rw[hx]at h1;have h2:x.lg=[(x.a.y,.vec 1 (Qb x.a.ns))]:=rfl;rw[h2]at h1;simp only[Ui,hf]at h1⊢;omega)
    have qB:=knA.l 0 rfl;have xH:List.take x.a.ns.length (Qb x.a.ns)=Qb x.a.ns:=Jc (by simp[Qc]);simp only[go_sem,cI,dx,bQ,cP,gK,G1,Jo,Jg,Je,jC,cq,sN,lh,qV,qB,Qc,xH];refine⟨ZA,by simp only[LIM];omega,λy' eQ H10 dh=>?_⟩;have knA:=knA.ap 0 rfl eQ dh;have jC:=knA.l 1 rfl;have cI:=knA.l 2 rfl;simp only[go_sem,Q86,cI,dx,bQ,cP,gK,G1,Jo,Jg,Je,jC,cq,sN,lh];refine⟨ZA,λH12 jf=>?_⟩;obtain⟨x',gP⟩:∃x':OIns,x'={ x with a:=⟨x.a.ns++[bad],y'⟩ }:=⟨_,rfl⟩;have bd:[C.int IntKind.i64 x.op,C.int IntKind.i64 x.to,C.ah y' 1 0 (x.a.ns.length+1),C.int IntKind.i64 x.n]=x'.row:=(by rw[gP];simp[OIns.row,OInts.c]);have dq:x'.lg=[(y',.vec 1 (Qb x.a.ns++[[Ui bad]]))]:=(by rw[gP];simp[OIns.lg,OInts.lg,Qb]);rw[bd,<-Jv]at jf;have knA:=knA.az 1 rfl jf;refine da _ _ (k1+1+1+1+1) _ (OBlk.ins_ok (i:=0) (x':=x') bD ja) (OBlk.ins_sm (i:=0) (x':=x') cD (by rw[gP];simp;omega)) ZA ZA ?_ ZB ZB;rw[Rt cP (by rw[bU];rfl)];refine knA.perm (Qi λf hf h0 bN hp=>?_);have h1:=hp _ _ (FF OIns.lg blk.ins 0 x' cq);rw[dq]at h1;simp only[Ui,OBlk.lg,Js,Jq,Jw,Jad,hf,bN _ (_::_),bN _ (_++_),bN _ (List.flatMap _ _)]at h1⊢;omega
   ·intro aC;refine Qj ?_;exact gc _ ZB ZB
  intro dz;refine Za ?_;refine Wu ?_ ?_
  ·intro hc;refine Qt ?_;simp only[go_sem,cI,dx,bQ,cP,gK,fq,Jo,Jg,Je];have knP:Kn H H9 [(R.l,R.o (k1+1+1+1+1))] (([(yb,.vec 5 (u.blocks.map OBlk.row))]++(blk.nx.lg++(blk.ab.flatMap OPhi.lg++(blk.ins.flatMap OIns.lg++(blk.il++(Du us ci bi dG++([(x2,Obj.st [.sl true 3 []]),(x3,.st [cc])]++cl)))))))++blk.pl):=kn.perm (Qi λf hf h0 bN hp=>by
    simp only[Ui,OBlk.lg,hf];omega)
   obtain⟨ph,fb⟩:∃ph:OPhi,ph=⟨0,[bad],.sl true 1 (Qb [bad]),[]⟩:=⟨_,rfl⟩;have ry:[C.int IntKind.i64 0,C.sl true 1 [[C.int IntKind.i64 bad]]]=ph.row:=by rw[fb];rfl
   have pP:ph.ok:=by rw[fb];exact .inr ⟨true,Rf0⟩
   have jW:ph.lg=[]:=by rw[fb]
   have db:=cD.p;rw[ry];refine knP.grow (new:=[ph.row]) bD.p (.mk' _ _ _ _) (by intro r hr;simp only[Ja]at hr;subst hr;exact ph.am pP) ZO λz H10 knP=>?_;have cI:=knP.l 0 rfl;simp only[go_sem,Q26,cI,dx,cP,gK,Jo,Jg,Je];intro H11 eC;obtain⟨b',aW⟩:∃b':OBlk,b'={ blk with ab:=blk.ab++[ph],pc:=.ah z 2 0 ((blk.ab.map OPhi.row).length+1),pl:=[(z,.vec 2 ((blk.ab++[ph]).map OPhi.row))] }:=⟨_,rfl⟩;have sv:[C.ah z 2 0 ((blk.ab.map OPhi.row).length+1),blk.ic,C.int IntKind.i64 blk.jump,C.int IntKind.i64 blk.on,C.ah blk.nx.y 1 0 blk.nx.ns.length]=b'.row:=by rw[aW];rfl
   rw[sv,bX]at eC;have knP:=knP.az 0 rfl eC;have ny:b'.ok:=by
    rw[aW];refine⟨.mk _ _ _ ZC,bD.i,λp hp=>?_⟩;rcases Ji.1 hp with h|h
    ·exact bD.a p h
    ·simp only[Ja]at h;subst h;exact pP
   have nw:b'.sm 1001:=by
    rw[aW];refine⟨cD.n,cD.i,by simp;omega,λx hx=>by have:=cD.ia x hx;omega,λx hx=>?_⟩;rcases Ji.1 hx with h|h
    ·have:=cD.pa x h;omega
    ·simp only[Ja]at h;rw[h,fb];simp
   refine da b' _ (k1+1+1+1+1) _ ny nw ZA ZA ?_ ZB ZB;have Ak:b'.lg=blk.nx.lg++(blk.ab.flatMap OPhi.lg++([(z,.vec 2 ((blk.ab++[ph]).map OPhi.row))]++(blk.ins.flatMap OIns.lg++blk.il))):=by
    rw[aW];simp[OBlk.lg,Jt,jW]
   rw[Ak];have eG:blk.ab.map OPhi.row++[ph.row]=(blk.ab++[ph]).map OPhi.row:=ZC
   rw[eG]at knP;refine knP.perm (Qi λf hf h0 bN hp=>?_);simp only[Ui,Js,Jq,Jw,hf,bN _ (_::_),bN _ (_++_)];omega
  intro fw;refine Za ?_;refine Wu ?_ ?_
  ·intro hc;refine C7 ?_;simp only[go_sem,aK,ak,br,dG,em,aD];refine CE (kn.e 0 rfl) ZA λv H10 hv jT=>?_;have knO:=knO.aw 0 rfl jT (R.ao _);obtain⟨yc,fR,cL⟩:∃yc,cc=.ah yc 3 0 us.length/\cl=[(yc,.vec 3 (us.map OCode.row))]:=by
    rcases ax with ⟨h1,h2,h3⟩|⟨y,h1,h2⟩
    ·rw[List.map_eq_nil_iff]at h2;rw[h2]at dG;simp at dG
    ·exact⟨y,by rw[h1];simp,h2⟩
   have ca:H10 yc=.vec 3 (us.map OCode.row):=knO.lm (by rw[cL];simp);have xz:(us.map OCode.row).length=us.length:=ZC
   have qW:List.take us.length (us.map OCode.row)=us.map OCode.row:=Jc ZC;have BE:=eU.b.ai;simp only[go_sem,Q27,fR,ca,xz,qW,dG,aD,Jo,Jg,Je];have iG:=ez.p0;have rz:=ez.p1;rw[if_neg ZA]at hv;refine⟨Qv,λH11 eC=>?_⟩;obtain⟨u',jk⟩:∃u':OCode,u'={ u with ae:=u.params+v }:=⟨_,rfl⟩;have hur:[C.int IntKind.i64 u.params,C.int IntKind.i64 (u.params+v),C.ah yb 5 0 u.blocks.length]=u'.row:=by rw[jk,<-dV];rfl
   have xA:u'.lg=u.lg:=by rw[jk];rfl
   have mo:u'.ok:=by rw[jk];exact⟨eU.b,eU.bs⟩
   have mj:u'.sm 1000:=by rw[jk];exact⟨ez.b0,ez.b,ez.bs,ez.p0,ez.p1⟩
   rw[hur,<-Jv]at eC;have knF:Kn H H10 [(R.l,R.o (k1+1+1+1+1+1))] ([(yc,.vec 3 (us.map OCode.row))]++([(x2,Obj.st [.sl true 3 []]),(x3,.st [cc])]++us.flatMap OCode.lg)):=by
    rw[cL]at knO;exact knO.perm Jl
   have knF:=knF.az 0 rfl eC;refine hn _ _ ⟨k1+1+1+1+1+1,us.set ci u',[(yc,.vec 3 ((us.set ci u').map OCode.row))],by simpa using pH,ZA,ZA,λw hw=>?_,?_,?_,ZB,ZB⟩
   ·rcases J6 hw with hw|rfl
    ·exact⟨(aq w hw).1,(aq w hw).2.mono ZA⟩
    ·exact⟨mo,mj.mono ZA⟩
   ·rw[fR];exact .mk _ _ _ ZC
   ·refine knF.perm (Qi λf hf h0 bN hp=>?_);have h1:=hp _ _ (FF OCode.lg us ci u' dG);have h2:=hp _ _ (F4 OCode.lg us ci dG);rw[xA]at h1;rw[hu]at h2;simp only[Ui,Js,Jq,Jw,hf,bN _ (_::_),bN _ (_++_),bN _ (List.flatMap _ _)]at h1 h2⊢;omega
  intro BC;refine Za ?_;refine Wu ?_ ?_
  ·intro hc;refine Qa ?_;simp only[go_sem,cI,dx,bQ,cP,gK,dw,Jo,Jg,Je,iw,lc];intro _;refine Wu ?_ ?_
   ·intro aC;have cq:0<blk.ins.length:=ZG;obtain⟨yi,ja,cK⟩:=OBlk.ivec bD cq;rw[ja]at gK;have knI:=HN kn cK;have jC:=knI.l 0 rfl;obtain⟨x,hx⟩:∃x,blk.ins[0]=x:=⟨_,rfl⟩;have sN:(blk.ins.map OIns.row).getD 0 []=[Ui x.op,Ui x.to,.ah x.a.y 1 0 x.a.ns.length,Ui x.n]:=Zar;have lh:(blk.ins.map OIns.row).length=blk.ins.length:=ZC;have qV:List.take blk.ins.length (blk.ins.map OIns.row)=blk.ins.map OIns.row:=Jc ZC;have nL:x.a.ns.length<=1000:=cD.ia x Za1;refine C7 ?_;simp only[go_sem,cI,dx,bQ,cP,gK,G1,Jo,Jg,Je];refine Dy (ns:=[256,-1,1]) (knI.e 0 rfl) ZA ZC λv H10 hv jT=>?_;have knI:=knI.aw 0 rfl jT (R.ao _);have jC:=knI.l 0 rfl;have cI:=knI.l 1 rfl;simp only[go_sem,Q28,cI,dx,bQ,cP,gK,G1,Jo,Jg,Je,jC,cq,sN,lh];refine⟨ZA,λH12 jf=>?_⟩;have bd:[C.int IntKind.i64 x.op,C.int IntKind.i64 x.to,C.ah x.a.y 1 0 x.a.ns.length,C.int IntKind.i64 v]=({ x with n:=v }:OIns).row:=rfl;rw[bd,<-Jv]at jf;have knD:=KH (b:=blk) (is:=blk.ins.set 0 { x with n:=v }) (knI.az 0 rfl jf) (Q06 cq (by rw[hx];rfl));refine da _ _ (k1+1+1+1+1+1) _ (OBlk.ins_ok (i:=0) (x':={ x with n:=v }) bD ja) (OBlk.ins_sm (i:=0) (x':={ x with n:=v }) cD (by show x.a.ns.length<=_;omega)) ZA ZA ?_ ZB ZB;rw[Rt cP (by rw[bU];rfl)];exact knD
   ·intro aC;refine Qj ?_;exact gc _ ZB ZB
  ·intro hc;refine Qj ?_;exact gc _ ZB ZB
 ·rintro e2 H10 ⟨k3,us,cl,pH,jw,jv,aq,ax,kn,l2,l3⟩;have aL:=kn.l 0 rfl;have aO:=kn.l 1 rfl;refine Qa ?_;simp only[go_sem,aL,aO,bM,l2,l3];intro H8 h8;have kn:=kn.az 0 rfl h8;have aL:=kn.l 0 rfl;refine Zm aL bM ?_;have jx:Held H8 (un H) (us.flatMap OCode.lg++cl):=λp hp=>by
   have fy:p∈(([(x2,Obj.st [cc]),(x3,Obj.st [cc])]++us.flatMap OCode.lg)++cl):=by
    rcases Ji.1 hp with h|h
    ·simp[h]
    ·simp[h]
   exact⟨(kn.get p (Jk _ fy)).1,Ef (kn.loc p fy)⟩
  obtain⟨cs,hf,B8,lQ⟩:=OCodes.frz (N:=1001) ZA ax aq jx;exact⟨_,FrzL.ag (.cons hf .nil),hK cs _ k3 jw ZA kn.fin ZA ZA lQ⟩
end Y
namespace Y
open Go.Proofs.Tryz
theorem HI {ss : List (List UInt8)} : ∀ (d : Nat) {k : Nat} {H : Heap} {K : V -> Heap -> Prop} (deep : Int), deep <= d -> H R.l = R.o k -> k + 6 * 2^d <= 2^40 ->
    (∀ (x : Ex) (H' : Heap) (k' : Nat), k < k' -> k' + 3 <= k + 6 * 2^d -> Upd H H' [(R.l, R.o k')] -> x.ok -> k + x.size <= k' -> K (.ag x.cells) H') ->
    Qu prog Nd [.c (.ptr R.l 0), .c (.sl fl 1 (CO ss)), Uv deep] H K := by
  intro d
  induction d using Nat.strongRecOn with
  | ind d ih =>
  intro k H K deep hd hH hk hK;have rz : 1 <= 2^d := Jae;have iG : d < 2^d := Nat.lt_two_pow_self;refine Q0 ?_;refine Qd Co Tz ?_;refine Qa ?_;simp only [go_sem];intro x hx H1 h1;have kn := (Kn.start1 hH (R.ao k)).al hx h1;refine Q1 (Qa ?_);simp only [go_sem];have rest : ∀ (b : Bool) (H2 : Heap) (k2 : Nat), k <= k2 -> k2 <= k + 1 -> Kn H H2 [(R.l, R.o k2)] [(x, .st [Ui 0, Ui 0, .str [], .sl true 4 []])] -> (b = false -> 2 <= deep) ->
      Cr prog (s_l2Expr_2.seq Q76) (Q5 Fz (unK H K))
       [(0, V.c (C.ptr R.l 0)), (1, V.c (C.sl fl 1 (CO ss))), (2, Uv deep), (6, V.c (C.ptr x 0)), (14, V.c (.bool b))] H2 := by
    intro b H2 k2 iY fQ kn hb;have fin : ∀ (op n : Int) (name : List UInt8) (fl : Bool) (kids : List Ex) (H3 : Heap) (k3 : Nat) (o : Obj), k < k3 -> k3 + 3 <= k + 6 * 2^d -> Kn H H3 [(R.l, R.o k3)] [(x, .st [Ui op, Ui n, .str name, .sl fl 4 (C5 kids)])] ->
        (op = 10 -> kids.length = 2) -> CT kids -> k + 1 + C8 kids <= k3 ->
        Cn Fz [(6, V.c (C.ptr x 0))] H3 (unK H K) := by
      intro op n name fl kids H3 k3 o g1 g2 kn g3 g4 g5;have aO := kn.l 0 rfl;simp only [go_sem, Cn, Fz, Ja, forall_eq, RS.op, aO];refine ⟨_, (Ex.mk op n name kids).frz, hK _ _ k3 g1 g2 kn.fin ?_ ?_⟩
      · simp only [Ex.ok]; exact ⟨g3, g4⟩
      · simp only [Ex.size]; omega
    refine Wt ?_ ?_
    · intro aW;refine Qa ?_;simp only [go_sem];refine TE (kn.e 0 rfl) ZA λy H3 k3 g1 g2 hu aq br => ?_;have kn := kn.aw 0 rfl hu (R.ao _);have aO := kn.l 0 rfl;simp only [go_sem, Q77, aO, y.aG];intro H4 h4;have kn := kn.az 0 rfl h4;refine Ql ?_;simp only [go_sem, Q5];refine fin _ _ _ _ _ _ k3 .none ZA ZA kn (Ex.ok_and aq) (Ex.ok_kids aq) ?_;have := y.size_kids; omega
    · intro aW;have kG := hb aW;have hp : 2^d = 2 * 2^(d-1) := (by rw [<- Nat.pow_succ']; congr 1; omega);have fy : 1 <= 2^(d-1) := Jae;have ihd := λ{k H K} => @ih (d-1) ZA k H K;generalize 2^(d-1) = e at *;refine Qj ?_;simp only [go_sem];refine Q1 (Qa ?_);simp only [go_sem];refine CE (kn.e 0 rfl) ZA λv H3 hv hu => ?_;have kn := kn.aw 0 rfl hu (R.ao _);simp only [go_sem, Q78];refine Wt ?_ ?_
      · intro hc;refine Qa ?_;simp only [go_sem];refine Dy (ns := [11, 12, 11]) (kn.e 0 rfl) ZA ZC λop H4 bB hu => ?_;have kn := kn.aw 0 rfl hu (R.ao _);simp only [go_sem, Q8a];refine ⟨Qv, ?_⟩;refine ihd (deep - 1) ZA (kn.e 0 rfl) ZA λy H5 k5 g1 g2 hu aq br => ?_;have kn := kn.aw 0 rfl hu (R.ao _);have bt := kn.l 0 rfl;simp only [go_sem, Q79, bt, y.aA];intro H6 h6;have kn := kn.az 0 rfl h6;refine Ql ?_;simp only [go_sem, Q5];refine fin op 0 [] true [y] _ k5 .none ZA ZA kn (λh => ?_) ⟨aq, trivial⟩ ?_
        · subst h; simp at bB
        · simp only [C8]; omega
      · intro hc;refine Qj ?_;simp only [go_sem];refine Qa ?_;simp only [go_sem];refine Dy (ns := [3, 3, 4, 5, 6, 7, 8, 9, 10]) (kn.e 0 rfl) ZA ZC λop H4 bB hu => ?_;have kn := kn.aw 0 rfl hu (R.ao _);simp only [go_sem, Q8b];refine Qa ?_;simp only [go_sem];refine ⟨Qv, ?_⟩;refine ihd (deep - 1) ZA (kn.e 0 rfl) ZA λy H5 k5 g1 g2 hu aq br => ?_;have kn := kn.aw 0 rfl hu (R.ao _);simp only [go_sem, Q8d];refine ⟨Qv, ?_⟩;refine ihd (deep - 1) ZA (kn.e 0 rfl) ZA λz H6 k6 g3 g4 hu fA hsz2 => ?_;have kn := kn.aw 0 rfl hu (R.ao _);have bt := kn.l 0 rfl;simp only [go_sem, Q8c, bt, y.aA, z.aA];intro H7 h7;have kn := kn.az 0 rfl h7;refine Ql ?_;simp only [go_sem, Q5];refine fin op 0 [] true [y, z] _ k6 .none ZA ZA kn (λh => rfl) ⟨aq, fA, trivial⟩ ?_;simp only [C8]; omega
  refine ⟨λhb => ?_, λhb => ?_⟩
  · refine CE (kn.e 0 rfl) ZA λv H2 hv hu => ?_;have kn := kn.aw 0 rfl hu (R.ao _);simp only [go_sem, RY];refine rest _ H2 (k + 1) ZA ZA kn ?_;intro h;have : ¬ deep < 2 := Zac;omega
  · have cC : decide (deep < 2) = true := Zac;simp only [go_sem, RY, cC];exact rest true H1 k ZA ZA kn (λh => by simp at h)
theorem Qaes{gl k:Nat}(hR:H R.l=R.o k)(hG:H gl=s.o R)(be:R.l≠gl)(hs:s.ok k)(hk:k+2<=2^30)
  (hK:∀(name:List UInt8) (H':Heap) (k':Nat),k+1<=k'->k'<=k+2->Upd H H' [(R.l,R.o k'),(gl,GS.o { s with next:=s.next+1 } R)]->K (.c (.str name)) H') :
  Qu prog S9 [Up gl] H K:=by
 have h0:=hs.n0;have p9:=hs.n1;refine Q0 ?_;refine Qd Co Qae8 ?_;refine Wk ?_;simp only[go_sem,hG,GS.o];refine⟨Qv,λH1 h1=>?_⟩;have kn:Kn H H1 [(R.l,R.o k),(gl,GS.o { s with next:=s.next+1 } R)] []:=(Kn.start2 hR (R.ao k) hG (s.ao R) be).stE 1 rfl h1;have jB:=kn.e 1 rfl;refine Q1 (Qa ?_);simp only[go_sem,jB,GS.o];refine CE (kn.e 0 rfl) ZA λv H2 hv hu=>?_;have kn:=kn.aw 0 rfl hu (R.ao _);have fM:=kn.e 1 rfl;simp only[go_sem,Qng,fM,GS.o];intro hl;refine Wt ?_ ?_
 ·intro hc;have ov:0<s.vars.length:=by
   rw[D1]at hc;cases h:decide (v=0) <;> rw[h]at hc <;> simp_all
  refine Cv ?_;simp only[go_sem,fM,GS.o];refine of_c (kn.e 0 rfl) ZA ov λname H3 hn hu=>?_;have kn:=kn.aw 0 rfl hu (R.ao _);simp only[go_sem,Qnh];refine Zd ?_;exact⟨_,.c _ _ (Qg rfl),hK _ _ (k+1+1) ZA ZA kn.fin⟩
 ·intro hc;refine Ze ?_;refine Cv ?_;have e1:0<=(s.next+1).tmod 24:=Int.tmod_nonneg _ ZA;have e2:(s.next+1).tmod 24<24:=Int.tmod_lt_of_pos _ ZA;simp only[go_sem,fM,GS.o];refine⟨ZA,ZA,Qv,ZA,?_⟩;refine Zd ?_;exact⟨_,.c _ _ (Qg rfl),hK _ _ (k+1) ZA ZA kn.fin⟩
theorem Q53{gl k:Nat}{x:Ex}(hR:H R.l=R.o k)(hG:H gl=s.o R)(be:R.l≠gl)(hs:s.ok k)(hk:k+2<=2^30)
  (hK:∀(name:List UInt8) (H':Heap) (k':Nat),k+1<=k'->k'<=k+2->Upd H H' [(R.l,R.o k'),(gl,GS.o { s with next:=s.next+1,vars:=s.vars++[name],vfl:=false } R)]->K (.ag (St.mk 1 name [x] [] []).cells) H') :
  Qu prog Q01 [Up gl,.ag [Ui x.op,Ui x.n,.str x.name,.sl fl 4 (C5 x.kids)]] H K:=by
 have hv:=hs.v;refine EB ?_;refine Qd Co Qamh ?_;refine Za ?_;intro y hy H1 h1;have kn:=(Kn.start2 hR (R.ao k) hG (s.ao R) be).al hy h1;refine Za ?_;refine Qaes (kn.e 0 rfl) (kn.e 1 rfl) be hs hk λname H2 k' g1 g2 hu=>?_;have kn:=kn.callEE 0 1 rfl rfl ZN hu (R.ao _) (GS.ao _ _);have fM:=kn.e 1 rfl;simp only[go_sem,Quz];refine Qa ?_;have hL:s.vars.length<=LIM:=ZW
 have hL1:s.vars.length+1<=LIM:=ZW
 simp only[go_sem,fM,GS.o,D1,Jg,Jq,hL];refine⟨.inl trivial,Pn _,?_⟩;intro z hz H3 h3;have kn:=kn.al hz h3;have wI:=kn.l 1 rfl;have qt:=kn.e 1 rfl;simp only[go_sem,Qu1,wI,D1,Qant,hL1,Jc];refine⟨ZA,λz' dt H4 h4=>?_⟩;have kn:=kn.ap 1 rfl dt h4;have vO:=kn.e 1 rfl;simp only[go_sem,Qu0,vO,GS.o];intro H5 h5;have kn:=kn.stE 1 rfl h5;have hy5:=kn.l 0 rfl;refine Zj hy5 ?_;intro H6 h6;have kn:=kn.az 0 rfl h6;have hy6:=kn.l 0 rfl;refine Zi hy6 ?_;refine⟨un H,(.ag (St.mk 1 name [x] [] []).cells),(H6.frz (un H)).set gl (GS.o { s with next:=s.next+1,vars:=s.vars++[name],vfl:=false } R),?_,?_,hK name _ k' g1 g2 (kn.fin.set2 be)⟩
 ·simp only[St.cells,C5,Cw,x.aG];exact (FrzL.cons (Qg rfl) (.cons (Qg rfl) (.cons (FrzR.cons (.cons (Qg rfl) (.cons (Qg rfl) (.cons (Qg rfl) (.cons (FrzR.same (Kh _)).sl .nil)))) .nil).sl (.cons (FrzR.nil).sl (.cons (FrzR.nil).sl .nil))))).ag
 ·refine (E9 _ _).set (Hn (kn.usedE 1 rfl)) ?_;rw[kn.e 1 rfl];refine FrzKL.st (.same (.same (.cons rfl ?_ (.same (.same .nil)))));exact HP (kn.un 1 rfl) (kn.l 1 rfl) (by simp[CO]) (noOw_mem (Pn _))
theorem G9 {gl k : Nat} {K : V -> Heap -> Prop} (deep : Int) (hd : deep <= 3) (hR : H R.l = R.o k) (hG : H gl = s.o R) (be : R.l ≠ gl) (hs : s.ok k) (hF : FnsOk H R gl s) (hk : k + 200 <= 2^30)
    (hK : ∀ (x : Ex) (H' : Heap) (k' : Nat), k < k' -> k' <= k + 200 -> Upd H H' [(R.l, R.o k')] -> x.ok -> k + x.size <= k' -> K (.ag x.cells) H') :
    Qu prog Qwt [Up gl, Uv deep] H K := by
  have je := hs.fn;refine Q0 ?_;refine Qd Co Qaic ?_;refine Qa ?_;simp only [go_sem];intro x4 bh H1 h1;have kn := (Kn.start2 hR (R.ao k) hG (s.ao R) be).al bh h1;have jB := kn.e 1 rfl;refine Cv ?_;simp only [go_sem, jB, GS.o];refine HI 3 deep ZA (kn.e 0 rfl) ZA λe H2 k2 g1 g2 hu sf jz => ?_;have kn := kn.aw 0 rfl hu (R.ao _);have fM := kn.e 1 rfl;simp only [go_sem, Qqz];intro x5 bt H3 h3;have kn := kn.al bt h3;have qt := kn.e 1 rfl;have fm := kn.l 1 rfl;simp only [go_sem, Qqy, qt, fm, GS.o, e.aG];intro H4 h4;have kn := kn.az 1 rfl h4;have vO := kn.e 1 rfl;refine Q1 (Qa ?_);simp only [go_sem, vO, GS.o, hF.ow, hF.ok kn, hF.len];intro hl;have fin : ∀ (op n : Int) (name : List UInt8) (c : C) (kids : List Ex) (H3 : Heap) (k3 : Nat) (L : List (Nat × Obj)), k < k3 -> k3 <= k + 200 -> Kn H H3 [(R.l, R.o k3), (gl, s.o R)] L ->
      L[0]? = some (x4, .st [Ui op, Ui n, .str name, c]) -> c.ai = false -> FrzC H3 (un H) c (.sl false 4 (C5 kids)) -> (Ex.mk op n name kids).ok -> k + (Ex.mk op n name kids).size <= k3 ->
      Cn G4 [(4, V.c (C.ptr x4 0))] H3 (unK H K) := by
    intro op n name c kids H3 k3 L g1 g2 kn g3 b7 g4 g5 g6;have aO := kn.l 0 g3;simp only [go_sem, Cn, G4, Ja, forall_eq, RS.op, aO, b7];refine ⟨(.ag (Ex.mk op n name kids).cells), ?_, hK _ _ k3 g1 g2 (kn.fin.drop2 hG) g5 g6⟩;rw [Ex.aG];exact (FrzL.cons (Qg rfl) (.cons (Qg rfl) (.cons (Qg rfl) (.cons g4 .nil)))).ag
  have rest : ∀ (b : Bool) (H2 : Heap) (k3 : Nat), k2 <= k3 -> k3 <= k2 + 1 -> Kn H H2 [(R.l, R.o k3), (gl, s.o R)] [(x4, .st [Ui 0, Ui 0, .str [], .sl true 4 []]), (x5, .st [Ui e.op, Ui e.n, .str e.name, .sl false 4 (C5 e.kids)])] ->
      (b = false -> 0 < s.fns.length) ->
      Cr prog (s_l3Gen_expr_3.seq Qqx) (Q5 G4 (unK H K))
       [(0, V.c (C.ptr gl 0)), (4, V.c (C.ptr x4 0)), (5, V.c (C.ptr x5 0)), (32, .c (.bool b))] H2 := by
    intro b H2 k3 g3 g4 kn hb;have mc := kn.l 1 rfl;have qK := kn.l 0 rfl;refine Wt ?_ ?_
    · intro aW;refine Qa ?_;simp only [go_sem, mc, qK];intro H3 h3;have kn := kn.az 0 rfl h3;refine Ql ?_;simp only [go_sem, Q5]
      cases e with
      | mk op n name kids => exact fin op n name _ kids H3 k3 _ ZA ZA kn rfl rfl (Gt (noOw_mem (Kh _))) sf ZA
    · intro aW;have ib := hb aW;refine Qj ?_;simp only [go_sem];have qt := kn.e 1 rfl;refine Cv ?_;simp only [go_sem, qt, GS.o, hF.ow, hF.ok kn, hF.len];refine CE (kn.e 0 rfl) ZA λv H3 hv hu => ?_;have kn := kn.aw 0 rfl hu (R.ao _);rw [if_neg ZA] at hv;obtain ⟨i, rfl⟩ := Jr hv.1;have hi : i < s.fns.length := ZA;have vO := kn.e 1 rfl;simp only [go_sem, Qq1, vO, GS.o, hF.ow, hF.ok kn, hF.len, hF.rows kn, hF.esz, hi, I5 _ _ hi, Fn.cells];intro x6 aY H4 h4;have kn := kn.al aY h4;have hG5 := kn.e 1 rfl;have wX := kn.l 2 rfl;simp only [go_sem, Qq0, hG5, wX, GS.o, hF.ow, hF.ok kn, hF.len, hF.rows kn, hF.esz, hi, I5 _ _ hi, Fn.cells];have gm := hs.f _ (Jb hi);generalize s.fns[i] = f at *;intro H5 h5;have kn := kn.az 2 rfl h5;have ma := kn.l 2 rfl;refine Qa ?_;simp only [go_sem, ma];intro x7 bz H6 h6;have kn := kn.al bz h6;have kP := kn.l 2 rfl;have qE := kn.l 3 rfl;simp only [go_sem, Qq2, qE];intro H7 h7;have kn := kn.az 3 rfl h7;refine Q1 (Qa ?_);simp only [go_sem];refine Qh (Qe (Qy (λn e1 H1 => ∃ (i k4 : Nat) (kids : List Ex) (c : C) (Lg : List (Nat × Obj)), n = f.params.length - i /\ i <= f.params.length /\ k4 <= k3 + 1 + 21 * i /\ k3 + 1 + C8 kids <= k4 /\ CT kids /\ kids.length = i /\
        Gr Lg 4 (C5 kids) c /\ Kn H H1 [(R.l, R.o k4), (gl, s.o R)] ([(x4, .st [Ui 0, Ui 0, .str [], .sl true 4 []]), (x5, .st [Ui e.op, Ui e.n, .str e.name, .sl false 4 (C5 e.kids)]),
          (x6, .st [.str f.name, .sl false 1 (CO f.params), .sl false 5 (Cw f.body)]), (x7, .st [Ui 13, Ui 0, .str f.name, c])] ++ Lg) /\
        e1 = [(0, V.c (C.ptr gl 0)), (4, V.c (C.ptr x4 0)), (6, V.c (C.ptr x6 0)), (7, V.c (C.ptr x7 0)), (8, V.c (C.int IntKind.i64 i))]) f.params.length ?_ ?_))
      · exact ⟨0, k3 + 1, [], _, [], by omega, by omega, by omega, by simp [C8], trivial, rfl, .nil 4, kn, rfl⟩
      · rintro n e1 H1 ⟨i, k4, kids, c, Lg, hn, rW, jv, hksz, gY, cz, ax, kn, rfl⟩;have wY := kn.l 2 rfl;have lW := kn.l 3 rfl;have jB := kn.e 1 rfl;refine Q1 (Qa ?_);simp only [go_sem, wY, D1];intro db;refine Wt ?_ ?_
        · intro hc;have af : i < f.params.length := ZD;refine Qj ?_;simp only [go_sem];refine Qh (Qe (C7 ?_));have bM := ax.ai;simp only [go_sem, lW, jB, GS.o, bM];refine HI 2 2 ZA (kn.e 0 rfl) ZA λz H2 k5 g5 g6 hu aq br => ?_;have kn := kn.aw 0 rfl hu (R.ao _);have gN := kn.l 3 rfl;simp only [go_sem, Qq4, gN, bM, z.aA];refine kn.grow (new := [z.cells]) ax (.mk' _ _ _ _) (by simp [z.am]) (by simp only [DC, Jj, Jm, LIM]; omega) λy' H3 kn => ?_;have qH := kn.l 3 rfl;simp only [go_sem, Qq3, qH];intro H4 h4;have kn := kn.az 3 rfl h4;refine Qt ?_;simp only [go_sem];refine ⟨Qv, ?_⟩;refine ⟨f.params.length - (i + 1), by omega, i + 1, k5, kids ++ [z], _, _, rfl, by omega, by omega, ?_, Qas1 gY ⟨aq, trivial⟩, by simp [cz], ?_, kn, ?_⟩
          · simp only [RT, C8]; omega
          · rw [<- Qaqf]; exact .mk _ _ _ ZC
          · simp
        · intro hc;have bp : f.params.length <= i := ZD;refine Qw ?_;simp only [go_sem, X.next];refine Q1 (Qa ?_);simp only [go_sem, jB, GS.o];refine CE (kn.e 0 rfl) ZA λv H2 hv hu => ?_;have kn := kn.aw 0 rfl hu (R.ao _);have gN := kn.l 3 rfl;have qK := kn.l 0 rfl;have bM := ax.ai;have fM := kn.e 1 rfl;simp only [go_sem, Qnd];refine Wt ?_ ?_
          · intro hc;refine Qa ?_;simp only [go_sem, gN, qK, bM];intro H3 h3;have kn := kn.az 0 rfl h3;refine Ql ?_;simp only [go_sem, Q5];refine fin 13 0 f.name c kids H3 (k4 + 1) _ ZA ZA kn rfl bM (ax.frz (B := [_, _, _, _]) kn (Kh _)) ?_ ?_
            · simp only [Ex.ok]; exact ⟨λh => by simp at h, gY⟩
            · simp only [Ex.size]; omega
          · intro hc;refine Qj ?_;simp only [go_sem];refine Cv ?_;simp only [go_sem, gN, fM, bM, GS.o];refine Dy (ns := [3, 4, 8, 10]) (kn.e 0 rfl) ZA ZC λop H3 bB hu => ?_;have kn := kn.aw 0 rfl hu (R.ao _);have qH := kn.l 3 rfl;have qt := kn.e 1 rfl;simp only [go_sem, Qnf, qH, qt, bM, GS.o];refine HI 2 2 ZA (kn.e 0 rfl) ZA λz H4 k5 g5 g6 hu aq br => ?_;have kn := kn.aw 0 rfl hu (R.ao _);have ol := kn.l 3 rfl;have xg := kn.l 0 rfl;simp only [go_sem, Qne, ol, xg, bM, z.aA];intro H5 h5;have kn := kn.az 0 rfl h5;refine Ql ?_;simp only [go_sem, Q5];refine fin op 0 [] _ [Ex.mk 13 0 f.name kids, z] H5 k5 _ ZA ZA kn rfl rfl ?_ ?_ ?_
            · refine FrzR.sl (.cons ?_ (.cons (.same z.am) .nil));rw [Ex.aG];exact .cons (Qg rfl) (.cons (Qg rfl) (.cons (Qg rfl) (.cons (ax.frz (B := [_, _, _, _]) kn (Kh _)) .nil)))
            · simp only [Ex.ok, CT]; exact ⟨λh => rfl, ⟨λh => by simp at h, gY⟩, aq, trivial⟩
            · simp only [Ex.size, C8]; omega
  refine ⟨λhb => ?_, λhb => ?_⟩
  · refine CE (kn.e 0 rfl) ZA λv H5 hv hu => ?_;have kn := kn.aw 0 rfl hu (R.ao _);simp only [go_sem, SK];refine rest _ H5 (k2 + 1) ZA ZA kn ?_;intro h;have : ¬ s.fns.length = 0 := Zac;omega
  · have cC : decide ((s.fns.length : Int) = 0) = true := Zac;simp only [go_sem, SK, cC];exact rest true H4 k2 ZA ZA kn (λh => by simp at h)
theorem Q07{gl k:Nat}(hR:H R.l=R.o k)(hG:H gl=s.o R)(be:R.l≠gl)(hs:s.ok k)(hF:FnsOk H R gl s)(hk:k+201<=2^30)
  (hK:∀(x:Ex) (H':Heap) (k':Nat),k<k'->k'<=k+201->Upd H H' [(R.l,R.o k')]->x.ok->2 * k+x.size<=2 * k'->K (.ag x.cells) H') :
  Qu prog Qws [Up gl] H K:=by
 refine Q0 ?_;refine Qd Co Qaib ?_;refine Za ?_;intro x2 aL H1 h1;have kn:=(Kn.start2 hR (R.ao k) hG (s.ao R) be).al aL h1;have jB:=kn.e 1 rfl;refine Cv ?_;simp only[go_sem,jB,GS.o];refine G9 2 ZA (kn.e 0 rfl) (kn.e 1 rfl) be hs (hF.keep kn rfl rfl) ZA λe H2 k2 g1 g2 hu sf jz=>?_;have kn:=kn.aw 0 rfl hu (R.ao _);have fM:=kn.e 1 rfl;simp only[go_sem,Qqw,fM,GS.o];refine Dy (ns:=[16,16,16,8,17,0]) (kn.e 0 rfl) ZA ZC λv H3 hv hu=>?_;have kn:=kn.aw 0 rfl hu (R.ao _);have xl:=kn.l 0 rfl;simp only[go_sem,Qqv,xl,e.aA];intro H4 h4;have kn:=kn.az 0 rfl h4;have mf:=kn.l 0 rfl;refine Zi mf ?_;refine⟨(.ag (Ex.mk 7 0 [] [e,Ex.mk 1 v [] []]).cells),?_,hK _ _ (k2+1) ZA ZA (kn.fin.drop2 hG) ?_ ?_⟩
 ·rw[Ex.aG (Ex.mk 7 0 [] _)];refine FrzL.ag ?_;refine .cons (Qg rfl) (.cons (Qg rfl) (.cons (Qg rfl) (.cons (FrzR.sl (.cons (.same e.am) (.cons ?_ .nil))) .nil)));simp only[Ex.cells,C5];exact .cons (Qg rfl) (.cons (Qg rfl) (.cons (Qg rfl) (.cons (FrzR.nil).sl .nil)))
 ·simp only[Ex.ok,CT];exact⟨λh=>rfl,sf,⟨λh=>ZH,trivial⟩,trivial⟩
 ·simp only[Ex.size,C8];omega
def Ic (d:Nat):Prop:=∀(R:Rdr) (gl k:Nat) (s:GS) (H:Heap) (K:V->Heap->Prop) (deep:Int),deep<=d->H R.l=R.o k->H gl=s.o R->R.l≠gl->s.ok k->FnsOk H R gl s->k+500 * 10^d<=2^30->
  (∀(l:List St) (s':GS) (H':Heap) (k':Nat),k<k'->k'<=k+500 * 10^d->Upd H H' [(R.l,R.o k'),(gl,s'.o R)]->s'.ok k'->s.left+4 * (k:Int)<=s'.left+4 * (k':Int)->s'.fns=s.fns->s'.ffl=s.ffl->l.length<=2->CJ l->4 * k+Q9 l<=4 * k'->K (.c (.sl false 5 (Cw l))) H')->
  Qu prog Qwv [.c (.ptr gl 0),.c (.int .i64 deep)] H K
def If (d:Nat):Prop:=∀(R:Rdr) (gl k:Nat) (s:GS) (H:Heap) (K:V->Heap->Prop) (deep:Int),deep<=d->H R.l=R.o k->H gl=s.o R->R.l≠gl->s.ok k->FnsOk H R gl s->k+2001 * 10^d<=2^30->
  (∀(l:List St) (c:C) (Lg:List (Nat×Obj)) (s':GS) (H':Heap) (k':Nat),k<k'->k'<=k+2001 * 10^d->Upd H H' [(R.l,R.o k'),(gl,s'.o R)]->Gr Lg 5 (Cw l) c->New H H' Lg->s'.ok k'->s.left+4 * (k:Int)<=s'.left+4 * (k':Int)->s'.fns=s.fns->s'.ffl=s.ffl->
   l.length<=8->CJ l->4 * k+Q9 l<=4 * k'->K (.c c) H')->
  Qu prog Qs1 [.c (.ptr gl 0),.c (.int .i64 deep)] H K
theorem LY {d:Nat}(hS:Ic d):If d:=by
 intro R gl k s H K deep hd hR hG be hs hF hk hK;have iG:d<10^d:=J3 ZA;generalize jX:10^d=e at *;have nE:=hS;simp only[Ic]at nE;rw[jX]at nE;generalize hM:500 * e=M at *;refine EB ?_;refine Qd Co Qae7 ?_;refine Wk ?_;simp only[go_sem,hG,GS.o];refine Wg ?_;simp only[go_sem,hG,GS.o];have kn:=Kn.start2 hR (R.ao k) hG (s.ao R) be;refine Dy (ns:=[2,3,1,4]) hR ZA ZC λv H1 hv hu=>?_;have kn:=kn.aw 0 rfl hu (R.ao _);simp only[go_sem,Qna];have hv4:1<=v/\v<=4:=by simp at hv;omega
 refine Qh (Qe (Qy (λn e1 H1=>∃(j k4:Nat) (l:List St) (c:C) (Lg:Ul) (s':GS),n=v.toNat-j/\(j:Int)<=v/\k+1<=k4/\k4<=k+1+M * j/\4 * k+Q9 l<=4 * k4/\CJ l/\l.length<=2 * j/\
    Gr Lg 5 (Cw l) c/\s'.ok k4/\s.left+4 * (k:Int)<=s'.left+4 * (k4:Int)/\s'.fns=s.fns/\s'.ffl=s.ffl/\Kn H H1 [(R.l,R.o k4),(gl,s'.o R)] ([]++Lg)/\
    e1=[(0,V.c (C.ptr gl 0)),(1,Uv deep),(5,.c (.sl s.vfl 1 (CO s.vars))),(6,.c c),(7,V.c (C.int IntKind.i64 (v-j)))]) v.toNat ?_ ?_))
 ·exact⟨0,k+1,[],_,[],s,ZA,ZA,ZA,ZA,by simp only[Q9];omega,trivial,ZC,.nil 5,hs.mono ZA,ZA,rfl,rfl,kn,ZC⟩
 ·rintro n e1 H1 ⟨j,k4,l,c,Lg,s',hn,hj,jv,zr,br,aq,jJ,ax,eD,hlf,nr,kE,kn,rfl⟩;have jB:=kn.e 1 rfl;have hMj:M * j<=M * 4:=J4 _ ZA;refine Q1 (Qa ?_);simp only[go_sem,jB,GS.o];refine Wt ?_ ?_
  ·intro hc;have hi:(j:Int)<v:=by
    cases h:decide (0<v-(j:Int))with
    |true=>have:0<v-(j:Int):=by simpa using h
           omega
    |false=>rw[h]at hc;simp at hc
   have BX:M * (j+1)=M * j+M:=Jar _ _;have wE:M * (j+1)<=M * 4:=J4 _ ZA;refine Ze ?_;refine Qh (Qe (Qt ?_));simp only[go_sem];refine nE _ _ _ _ _ _ deep hd (kn.e 0 rfl) (kn.e 1 rfl) be eD (hF.keep kn nr kE) ZA λl2 s2 H2 k5 g1 g2 hu g3 glf g4 g5 g6 g7 g8=>?_;have kn:=kn.callEE 0 1 rfl rfl ZN hu (R.ao _) (GS.ao _ _);simp only[go_sem,Qnc];refine kn.grow ax (.mk' _ _ _ (Cw l2)) (I2 _) (by simp only[DK,LIM];omega) λy' H3 kn=>?_;simp only[go_sem,Qnb];refine Zh ?_;refine⟨Qv,?_⟩;simp only[X.next];refine⟨v.toNat-(j+1),ZA,j+1,k5,l++l2,.ah y' 5 0 ((Cw l).length+(Cw l2).length),_,s2,rfl,ZA,ZA,ZA,?_,HS aq g7,by simp;omega,?_,g3,ZA,g4.trans nr,g5.trans kE,kn,?_⟩
   ·rw[Ki];omega
   ·rw[HT];exact .mk _ _ _ (by simp[DK])
   ·have:v-((j+1:Nat):Int)=v-j-1:=ZA;rw[this]
  ·intro hc;refine Zb ?_;refine Qa ?_;simp only[go_sem,jB,GS.o];intro H2 h2;have kn:Kn H H2 [(R.l,R.o k4),(gl,GS.o { s' with vars:=s.vars,vfl:=s.vfl } R)] ([]++Lg):=kn.stE 1 rfl h2;refine Wj ?_;refine⟨unx H Lg,_,H2.frz (unx H Lg),.c _ _ (.same _ ax.ai),E9 _ _,?_⟩;refine hK l c Lg _ _ k4 ZA ZA kn.finx.1 ax kn.finx.2 ⟨eD.n0,eD.n1,eD.l0,eD.l1,?_,eD.f,eD.fn⟩ (by show _<=s'.left+_;omega) nr kE ZA aq br;have:=hs.v;show s.vars.length<=_;omega
def Id (d:Nat):Prop:=∀(R:Rdr) (gl k:Nat) (s:GS) (H:Heap) (K:V->Heap->Prop) (deep:Int),deep<=d+1->2<=deep->H R.l=R.o k->H gl=s.o R->R.l≠gl->s.ok k->FnsOk H R gl s->k+2001 * 10^d+10<=2^30->
  (∀(l:List St) (s':GS) (H':Heap) (k':Nat),k+2<k'->k'<=k+2001 * 10^d+3->Upd H H' [(R.l,R.o k'),(gl,s'.o R)]->s'.ok k'->s.left+4 * (k:Int)<=s'.left+4 * (k':Int)->s'.fns=s.fns->s'.ffl=s.ffl->l.length<=2->CJ l->4 * k+Q9 l<=4 * k'->K (.c (.sl false 5 (Cw l))) H')->
  Qu prog Qwu [.c (.ptr gl 0),.c (.int .i64 deep)] H K
theorem Qa4l {d:Nat}(hB:If d):Id d:=by
 intro R gl k s H K deep hd fi hR hG be hs hF hk hK;have iG:d<10^d:=J3 ZA;have tv:=hB;simp only[If]at tv;generalize jX:10^d=e at *;refine Q0 ?_;refine Qd Co Qaid ?_;refine Wk ?_;simp only[go_sem,hG,GS.o];have kn:=Kn.start2 hR (R.ao k) hG (s.ao R) be;refine Dy (ns:=[2,3,1,0,5]) hR ZA ZC λv H1 hv hu=>?_;have kn:=kn.aw 0 rfl hu (R.ao _);simp only[go_sem,Qq8];refine Q53 (x:=Ex.mk 1 v [] []) (fl:=true) (kn.e 0 rfl) (kn.e 1 rfl) be (hs.mono (Jal k)) ZA λname H2 k2 g1 g2 hu=>?_;have kn:=kn.callEE 0 1 rfl rfl ZN hu (R.ao _) (GS.ao _ _);simp only[go_sem,Qq7];intro x5 bt H3 h3;have kn:=kn.al bt h3;have fm:=kn.l 0 rfl;simp only[go_sem,Qq6,fm,St.cells];intro H4 h4;have kn:=kn.az 0 rfl h4;have gO:=kn.l 0 rfl;refine Zj gO ?_;intro x6 aY H5 h5;have kn:=kn.al aY h5;have ma:=kn.l 1 rfl;simp only[go_sem,Qq9,ma];intro H6 h6;have kn:=kn.az 1 rfl h6;refine Za ?_;refine⟨Qv,?_⟩;have d9:GS.ok { s with next:=s.next+1,vars:=s.vars++[name],vfl:=false } k2:=by
  refine⟨?_,?_,?_,hs.l1,?_,hs.f,hs.fn⟩
  ·have:=hs.n0;show -1<=s.next+1;omega
  ·have:=hs.n1;show s.next+1<=_;omega
  ·have:=hs.l0;show _<=s.left;omega
  ·have:=hs.v;show (s.vars++[name]).length<=_;simp;omega
 refine tv _ _ _ _ _ _ (deep-1) ZA (kn.e 0 rfl) (kn.e 1 rfl) be d9 (hF.keep kn rfl rfl) ZA λl c Lg s3 H7 k3 g3 g4 hu ax eX kA glf g5 g6 g7 g8 g9=>?_;have kn0:=kn;have kn:=kn.callEE 0 1 rfl rfl ZN hu (R.ao _) (GS.ao _ _);have kn:=kn0.addGr kn rfl rfl ax eX;have qI:=kn.l 0 rfl;have kP:=kn.l 1 rfl;simp only[go_sem,ID];refine Zl qI kP ?_;intro x8 aV H8 h8;have kn:=kn.al aV h8;have kn:=kn.perm (L':=[(x5,_),(x6,_),(x8,_)]++Lg) (by
  simp only[List.set,Jq,Js];refine .cons _ (.cons _ ?_);exact Jl)
 have wS:=kn.l 2 rfl;simp only[go_sem,Qra,wS];intro H9 h9;have kn:=kn.az 2 rfl h9;have AH:=kn.e 1 rfl;refine Qa ?_;simp only[go_sem,AH,GS.o];have iX:=kA.l0;have rN:=kA.l1;refine⟨Qv,λH10 dh=>?_⟩;have kn:Kn H H10 [(R.l,R.o k3),(gl,GS.o { s3 with left:=s3.left-2 } R)] ([(x5,_),(x6,_),(x8,_)]++Lg):=kn.stE 1 rfl dh;have xb:=kn.l 0 rfl;have lX:=kn.l 1 rfl;have wQ:=kn.l 2 rfl;refine Cv ?_;simp only[go_sem,xb,lX,wQ];refine kn.grow ax (.mk' _ _ _ _) (by intro r hr;simp only[Ja]at hr;subst hr;rfl) (by simp only[DK,LIM,Jj,Jm];omega) λy' H11 kn=>?_;have wZ:=kn.l 0 rfl;have iC:=kn.l 1 rfl;have cI:=kn.l 3 rfl;simp only[go_sem,Qrb,wZ,iC];refine Zd ?_;have eK:GS.ok { s3 with left:=s3.left-2 } k3:=⟨kA.n0,kA.n1,by show _<=s3.left-2;have:=hs.l0;simp only at glf;omega,by show s3.left-2<=100;omega,kA.v,kA.f,kA.fn⟩;refine⟨.c (.sl false 5 (Cw [St.mk 1 name [Ex.mk 1 v [] []] [] [],St.mk 6 [] [Ex.mk 2 0 name []] (l++[St.mk 2 name [Ex.mk 4 0 [] [Ex.mk 2 0 name [],Ex.mk 1 1 [] []]] [] []]) []])),.c _ _ ?_,hK _ _ _ k3 ZA ZA kn.fin eK (by show _<=s3.left-2+_;simp only at glf;omega) g5 g6 ZC ?_ ?_⟩
 ·simp only[Cw,St.cells,C5,Ex.cells,<-HT]
  repeat' first|exact FrzL.nil|exact FrzR.nil|exact Qg rfl|exact FrzL.same (Ex.am _)|exact FrzL.same (St.am _)|refine FrzL.cons ?_ ?_|refine FrzR.cons ?_ ?_|refine FrzR.sl ?_
  refine FrzR.ah (kn.un 3 rfl) cI ZC (.app (.same (I2 _)) ?_)
  repeat' first|exact FrzL.nil|exact FrzR.nil|exact Qg rfl|exact FrzL.same (Ex.am _)|exact FrzL.same (St.am _)|refine FrzL.cons ?_ ?_|refine FrzR.cons ?_ ?_|refine FrzR.sl ?_
 ·simp only[CJ,St.ok,CT,Ex.ok];refine⟨⟨ZC,⟨⟨λh=>ZH,trivial⟩,trivial⟩,trivial,trivial⟩,⟨ZC,⟨⟨λh=>ZH,trivial⟩,trivial⟩,HS g8 ?_,trivial⟩,trivial⟩;simp[CJ,St.ok,CT,Ex.ok]
 ·simp only[Q9,St.size,Ki,C8,Ex.size];omega
theorem Ow {A L1 L2:Ul}:(A++L1++L2).Perm (A++L2++L1):=by
 rw[Jn,Jn];exact .append_left _ Jl
theorem K5 {d : Nat} (hB : ∀ d', d = d' + 1 -> If d') : Ic d := by
  intro R gl k s H K deep hd hR hG be hs hF hk hK;have iG : d < 10^d := J3 ZA;have kF : ∃ e, 10^d = e /\ ∀ d', d = d' + 1 -> 10 * 10^d' = e := ⟨10^d, rfl, λd' h => by rw [h, Nat.pow_succ]; omega⟩;obtain ⟨e, jX, he'⟩ := kF;rw [jX] at iG hk hK;have iX := hs.l0;have rN := hs.l1;refine Q0 ?_;refine Qd Co Qaie ?_;refine Qa ?_;simp only [go_sem];refine Qa ?_;simp only [go_sem, hG, GS.o];refine ⟨Qv, λH1 h1 => ?_⟩;have kn : Kn H H1 [(R.l, R.o k), (gl, GS.o { s with left := s.left - 1 } R)] [] := (Kn.start2 hR (R.ao k) hG (s.ao R) be).stE 1 rfl h1;have cE : GS.ok { s with left := s.left - 1 } (k + 1) := ⟨hs.n0, by have := hs.n1; show s.next <= _; omega, by show _ <= s.left - 1; omega, by show s.left - 1 <= 100; omega, by have := hs.v; show s.vars.length <= _; omega, hs.f, hs.fn⟩;have Bp : s.left <= ({ s with left := s.left - 1 } : GS).left + 1 := by show s.left <= s.left - 1 + 1; omega
  have ib : ({ s with left := s.left - 1 } : GS).fns = s.fns := rfl;have oY : ({ s with left := s.left - 1 } : GS).ffl = s.ffl := rfl;have kN : FnsOk H R gl { s with left := s.left - 1 } := ⟨hF.1, hF.2⟩;generalize ({ s with left := s.left - 1 } : GS) = s1 at *;have jB := kn.e 1 rfl;refine Qa ?_;simp only [go_sem, jB, GS.o];refine CE (kn.e 0 rfl) ZA λv H2 hv hu => ?_;have kn : Kn H H2 [(R.l, R.o (k + 1)), (gl, s1.o R)] [] := kn.aw 0 rfl hu (R.ao _);have fM := kn.e 1 rfl;simp only [go_sem, EK];have fin : ∀ (l : List St) (c : C) (s' : GS) (H3 : Heap) (k3 : Nat) (L : List (Nat × Obj)), k < k3 -> k3 <= k + 500 * e -> Kn H H3 [(R.l, R.o k3), (gl, s'.o R)] L -> FrzC H3 (un H) c (.sl false 5 (Cw l)) ->
      s'.ok k3 -> s1.left + 4 * ((k + 1 : Nat) : Int) <= s'.left + 4 * (k3 : Int) -> s'.fns = s1.fns -> s'.ffl = s1.ffl -> l.length <= 2 -> CJ l -> 4 * k + Q9 l <= 4 * k3 -> ∃ x', FrzV H3 (un H) (.c c) x' /\ K x' (H3.frz (un H)) := by
    intro l c s' H3 k3 L g1 g2 kn g3 g4 g5 g6 g7 g8 g9 g10;exact ⟨_, .c _ _ g3, hK l s' _ k3 g1 g2 kn.fin g4 ZA (g6.trans ib) (g7.trans oY) g8 g9 g10⟩
  refine Wc ?_;simp only [go_sem, fM, GS.o, D1];intro bH;refine Wu ?_ ?_
  ·
    intro hc;have ov : 0 < s1.vars.length := by
      cases h : decide (v < 3) with
      | true => rw [h] at hc; simp at hc; omega
      | false => rw [h] at hc; simp at hc
    refine Cv ?_;simp only [go_sem, fM, GS.o];refine of_c (kn.e 0 rfl) ZA ov λname H3 hn hu => ?_;have kn := kn.aw 0 rfl hu (R.ao _);simp only [go_sem, Qrf];refine G9 3 ZA (kn.e 0 rfl) (kn.e 1 rfl) be (cE.mono ZA) (kN.keep kn rfl rfl) ZA λx H4 k4 g1 g2 hu g3 g4 => ?_;have kn := kn.aw 0 rfl hu (R.ao _);simp only [go_sem, Qre, x.aA];refine Ql ?_;simp only [go_sem, Q5, Cn, Cp, Ja, forall_eq, RS.op];refine fin [St.mk 2 name [x] [] []] _ s1 H4 k4 _ ZA ZA kn ?_ (cE.mono ZA) ZA rfl rfl ZC ?_ ?_
    · simp only [Cw, St.cells, C5]
      repeat' first | exact FrzL.nil | exact FrzR.nil | exact Qg rfl | exact FrzL.same (Ex.am _) | exact FrzL.same (St.am _) | refine FrzL.cons ?_ ?_ | refine FrzR.cons ?_ ?_ | refine FrzR.sl ?_
    · simp only [CJ, St.ok, CT]; exact ⟨⟨ZC, ⟨g3, trivial⟩, trivial, trivial⟩, trivial⟩
    · simp only [Q9, St.size, C8]; omega
  intro dk;refine Qa ?_;simp only [go_sem];refine Wu ?_ ?_
  ·
    intro hc;refine Qa ?_;simp only [go_sem];refine G9 3 ZA (kn.e 0 rfl) (kn.e 1 rfl) be (cE.mono ZA) (kN.keep kn rfl rfl) ZA λx H4 k4 g1 g2 hu g3 g4 => ?_;have kn := kn.aw 0 rfl hu (R.ao _);simp only [go_sem, Qrh, x.aG];refine Q53 (x := x) (kn.e 0 rfl) (kn.e 1 rfl) be (cE.mono ZA) ZA λname H5 k5 g5 g6 hu => ?_;have kn := kn.callEE 0 1 rfl rfl ZN hu (R.ao _) (GS.ao _ _);simp only [go_sem, Qrg, St.aA];refine Ql ?_;simp only [go_sem, Q5, Cn, Cp, Ja, forall_eq, RS.op];have h0 := cE.n0;have h1 := cE.n1;have h2 := cE.l0;have h3 := cE.v;refine fin [St.mk 1 name [x] [] []] _ _ H5 k5 _ ZA ZA kn ?_ ⟨?_, ?_, ?_, cE.l1, ?_, cE.f, cE.fn⟩ (by show _ <= s1.left + _; omega) rfl rfl ZC ?_ ?_
    · simp only [Cw]
      repeat' first | exact FrzL.nil | exact FrzR.nil | exact Qg rfl | exact FrzL.same (Ex.am _) | exact FrzL.same (St.am _) | refine FrzL.cons ?_ ?_ | refine FrzR.cons ?_ ?_ | refine FrzR.sl ?_
    · show -1 <= s1.next + 1; omega
    · show s1.next + 1 <= _; omega
    · show _ <= s1.left; omega
    · show (s1.vars ++ [name]).length <= _; simp; omega
    · simp only [CJ, St.ok, CT]; exact ⟨⟨ZC, ⟨g3, trivial⟩, trivial, trivial⟩, trivial⟩
    · simp only [Q9, St.size, C8]; omega
  intro bN;refine Qa ?_;simp only [go_sem];refine Wu ?_ ?_
  ·
    intro hc;refine Qa ?_;simp only [go_sem];refine G9 3 ZA (kn.e 0 rfl) (kn.e 1 rfl) be (cE.mono ZA) (kN.keep kn rfl rfl) ZA λx H4 k4 g1 g2 hu g3 g4 => ?_;have kn := kn.aw 0 rfl hu (R.ao _);simp only [go_sem, Qri, x.aA];refine Ql ?_;simp only [go_sem, Q5, Cn, Cp, Ja, forall_eq, RS.op];refine fin [St.mk 3 [] [x] [] []] _ s1 H4 k4 _ ZA ZA kn ?_ (cE.mono ZA) ZA rfl rfl ZC ?_ ?_
    · simp only [Cw, St.cells, C5]
      repeat' first | exact FrzL.nil | exact FrzR.nil | exact Qg rfl | exact FrzL.same (Ex.am _) | exact FrzL.same (St.am _) | refine FrzL.cons ?_ ?_ | refine FrzR.cons ?_ ?_ | refine FrzR.sl ?_
    · simp only [CJ, St.ok, CT]; exact ⟨⟨ZC, ⟨g3, trivial⟩, trivial, trivial⟩, trivial⟩
    · simp only [Q9, St.size, C8]; omega
  intro aC;have kG : 2 <= deep := by
    cases h : decide (v < 7) with
    | true => rw [h] at aC; simp at aC
    | false => rw [h] at aC; simp at aC; omega
  obtain ⟨d', B5⟩ : ∃ d', d = d' + 1 := ⟨d - 1, by omega⟩;have Cj : If d' := hB d' B5;have hL0 : Id d' := Qa4l Cj;have tv := Cj;have Cb := hL0;simp only [If, Id] at tv Cb;have w5 := he' d' B5;have rz : d' < 10^d' := J3 ZA;generalize 10^d' = e1 at *;refine Qa ?_;simp only [go_sem];refine Wu ?_ ?_
  ·
    intro hc;refine Qa ?_;simp only [go_sem];refine Q07 (kn.e 0 rfl) (kn.e 1 rfl) be (cE.mono ZA) (kN.keep kn rfl rfl) ZA λx H4 k4 g1 g2 hu g3 g4 => ?_;have kn := kn.aw 0 rfl hu (R.ao _);simp only [go_sem, Qrk];refine G9 2 ZA (kn.e 0 rfl) (kn.e 1 rfl) be (cE.mono ZA) (kN.keep kn rfl rfl) ZA λy H5 k5 g5 g6 hu g7 g8 => ?_;have kn := kn.aw 0 rfl hu (R.ao _);simp only [go_sem, Qrj, x.aA, y.aA];refine Ql ?_;simp only [go_sem, Q5, Cn, Cp, Ja, forall_eq, RS.op];refine fin [St.mk 4 [] [x, y] [] []] _ s1 H5 k5 _ ZA ZA kn ?_ (cE.mono ZA) ZA rfl rfl ZC ?_ ?_
    · simp only [Cw, St.cells, C5]
      repeat' first | exact FrzL.nil | exact FrzR.nil | exact Qg rfl | exact FrzL.same (Ex.am _) | exact FrzL.same (St.am _) | refine FrzL.cons ?_ ?_ | refine FrzR.cons ?_ ?_ | refine FrzR.sl ?_
    · simp only [CJ, St.ok, CT]; exact ⟨⟨ZC, ⟨g3, g7, trivial⟩, trivial, trivial⟩, trivial⟩
    · simp only [Q9, St.size, C8]; omega
  intro bv;refine Qa ?_;simp only [go_sem];refine Wu ?_ ?_
  ·
    intro hc;refine Qa ?_;simp only [go_sem];refine Q07 (kn.e 0 rfl) (kn.e 1 rfl) be (cE.mono ZA) (kN.keep kn rfl rfl) ZA λx H4 k4 g1 g2 hu g3 g4 => ?_;have kn := kn.aw 0 rfl hu (R.ao _);simp only [go_sem, Qrl, x.aA];refine Ql ?_;simp only [go_sem, Q5, Cn, Cp, Ja, forall_eq, RS.op];refine fin [St.mk 3 [] [Ex.mk 12 0 [] [x]] [] []] _ s1 H4 k4 _ ZA ZA kn ?_ (cE.mono ZA) ZA rfl rfl ZC ?_ ?_
    · rw [Cw, Cw, St.cells, C5, C5, Ex.aG (Ex.mk 12 0 [] _)];simp only [Cw, C5, Ex.kids, Ex.op, Ex.n, Ex.name]
      repeat' first | exact FrzL.nil | exact FrzR.nil | exact Qg rfl | exact FrzL.same (Ex.am _) | exact FrzL.same (St.am _) | refine FrzL.cons ?_ ?_ | refine FrzR.cons ?_ ?_ | refine FrzR.sl ?_
    · simp only [CJ, St.ok, CT, Ex.ok]; exact ⟨⟨ZC, ⟨⟨λh => by simp at h, g3, trivial⟩, trivial⟩, trivial, trivial⟩, trivial⟩
    · simp only [Q9, St.size, C8, Ex.size]; omega
  intro dz;refine Qa ?_;simp only [go_sem];refine Wu ?_ ?_
  ·
    intro hc;refine Qa ?_;simp only [go_sem];refine G9 3 ZA (kn.e 0 rfl) (kn.e 1 rfl) be (cE.mono ZA) (kN.keep kn rfl rfl) ZA λx H4 k4 g1 g2 hu g3 g4 => ?_;have kn := kn.aw 0 rfl hu (R.ao _);simp only [go_sem, Qnj, x.aA];refine ⟨Qv, ?_⟩;refine tv _ _ _ _ _ _ (deep - 1) ZA (kn.e 0 rfl) (kn.e 1 rfl) be (cE.mono ZA) (kN.keep kn rfl rfl) ZA λb1 c1 L1 s2 H5 k5 g5 g6 hu eY eX d9 glf g7 g8 g9 g10 g11 => ?_;have kn0 := kn;have kn := kn.callEE 0 1 rfl rfl ZN hu (R.ao _) (GS.ao _ _);have kn := kn0.addGr kn rfl rfl eY eX;have vw := eY.ai;simp only [go_sem, Qni];intro x6 aY H6 h6;have kn := kn.al aY h6;have kn := kn.perm (L' := [(x6, _)] ++ L1) Jl;have lZ := kn.l 0 rfl;simp only [go_sem, Qrm, lZ];intro H7 h7;have kn : Kn H H7 [(R.l, R.o k5), (gl, s2.o R)] ([(x6, _)] ++ L1) := kn.az 0 rfl h7;have vN := kn.e 1 rfl;refine Q1 (Qa ?_);simp only [go_sem, vN, GS.o];refine CE (kn.e 0 rfl) ZA λv2 H8 ji hu => ?_;have kn : Kn H H8 [(R.l, R.o (k5 + 1)), (gl, s2.o R)] ([(x6, _)] ++ L1) := kn.aw 0 rfl hu (R.ao _);simp only [go_sem, Qnk];have rest : ∀ (E1 : Env) (hE : lk 6 E1 = V.c (C.ptr x6 0)) (c2 : C) (b2 : List St) (L2 : List (Nat × Obj)) (s3 : GS) (H9 : Heap) (k6 : Nat), k5 + 1 <= k6 -> k6 <= k5 + 1 + 2001 * e1 -> Gr L2 5 (Cw b2) c2 ->
        Kn H H9 [(R.l, R.o k6), (gl, s3.o R)] ([(x6, .st [Ui 5, .str [], .sl true 4 [x.cells], c1, c2])] ++ L1 ++ L2) -> s3.ok k6 -> s2.left + 4 * ((k5 + 1 : Nat) : Int) <= s3.left + 4 * (k6 : Int) -> s3.fns = s2.fns -> s3.ffl = s2.ffl -> CJ b2 -> 4 * (k5 + 1) + Q9 b2 <= 4 * k6 ->
        Cr prog Qrc (X.inBlock 0 (X.sq prog SJ (Q5 Cp (unK H K)))) E1 H9 := by
      intro E1 hE c2 b2 L2 s3 H9 k6 e1 e2 cS kn e3 e4 e5 e6 e7 e8;have lY := kn.l 0 rfl;have vu := cS.ai;refine Qa ?_;simp only [go_sem, hE, lY, vw, vu];refine Ql ?_;simp only [go_sem, Q5, Cn, Cp, Ja, forall_eq, RS.op];refine fin [St.mk 5 [] [x] b1 b2] _ s3 H9 k6 _ ZA ZA kn ?_ e3 ZA (e5.trans g7) (e6.trans g8) ZC ?_ ?_
      · simp only [Cw, St.cells, C5]
        repeat' first | exact FrzL.nil | exact FrzR.nil | exact Qg rfl | exact FrzL.same (Ex.am _) | exact FrzL.same (St.am _) | refine FrzL.cons ?_ ?_ | refine FrzR.cons ?_ ?_ | refine FrzR.sl ?_
        · exact eY.frz (kn.perm Ow) (I2 _)
        · exact cS.frz kn (I2 _)
      · simp only [CJ, St.ok, CT]; exact ⟨⟨ZC, ⟨g3, trivial⟩, g10, e7⟩, trivial⟩
      · simp only [Q9, St.size, C8]; omega
    refine Wt ?_ ?_
    · intro cA;refine Qt ?_;simp only [go_sem];refine ⟨Qv, ?_⟩;refine tv _ _ _ _ _ _ (deep - 1) ZA (kn.e 0 rfl) (kn.e 1 rfl) be (d9.mono ZA) (kN.keep kn g7 g8) ZA λb2 c2 L2 s3 H9 k6 q1 q2 hu cS eX kA q3 q4 q5 q6 q7 q8 => ?_;have kn0 := kn;have kn := kn.callEE 0 1 rfl rfl ZN hu (R.ao _) (GS.ao _ _);have kn := kn0.addGr kn rfl rfl cS eX;have lY := kn.l 0 rfl;simp only [go_sem, Qnl, lY];intro H10 dh;have kn : Kn H H10 [(R.l, R.o k6), (gl, s3.o R)] ([(x6, _)] ++ L1 ++ L2) := kn.az 0 rfl dh;exact rest _ (by simp [lk]) c2 b2 L2 s3 H10 k6 ZA ZA cS kn kA ZA q4 q5 q7 ZA
    · intro cA;refine Qj ?_;simp only [go_sem];exact rest _ (by simp [lk]) _ [] [] s2 H8 (k5 + 1) ZA ZA (.nil 5) (by rw [List.append_nil]; exact kn) (d9.mono ZA) ZA rfl rfl trivial (by simp only [Q9]; omega)
  · intro fw;refine Qa ?_;simp only [go_sem, fM, GS.o];have rest : ∀ (b : Bool) (H3 : Heap) (k3 : Nat), k + 1 <= k3 -> k3 <= k + 2 -> Kn H H3 [(R.l, R.o k3), (gl, s1.o R)] [] ->
        Cr prog Qrd (X.inBlock 0 (X.sq prog SJ (Q5 Cp (unK H K))))
         [(0, V.c (C.ptr gl 0)), (1, Uv deep), (109, .c (.bool b))] H3 := by
      intro b H3 k3 e3 e4 kn;refine Wu ?_ ?_
      · intro hb;refine Qa ?_;simp only [go_sem];refine G9 2 ZA (kn.e 0 rfl) (kn.e 1 rfl) be (cE.mono ZA) (kN.keep kn rfl rfl) ZA λx H4 k4 g1 g2 hu g3 g4 => ?_;have kn := kn.aw 0 rfl hu (R.ao _);simp only [go_sem, Qnm, x.aA];refine Ql ?_;simp only [go_sem, Q5, Cn, Cp, Ja, forall_eq, RS.op];refine fin [St.mk 7 [] [x] [] []] _ s1 H4 k4 _ ZA ZA kn ?_ (cE.mono ZA) ZA rfl rfl ZC ?_ ?_
        · simp only [Cw, St.cells, C5]
          repeat' first | exact FrzL.nil | exact FrzR.nil | exact Qg rfl | exact FrzL.same (Ex.am _) | exact FrzL.same (St.am _) | refine FrzL.cons ?_ ?_ | refine FrzR.cons ?_ ?_ | refine FrzR.sl ?_
        · simp only [CJ, St.ok, CT]; exact ⟨⟨ZC, ⟨g3, trivial⟩, trivial, trivial⟩, trivial⟩
        · simp only [Q9, St.size, C8]; omega
      · intro hb;refine Qj ?_;simp only [go_sem];refine Qa ?_;simp only [go_sem];refine Cb _ _ _ _ _ _ deep ZA kG (kn.e 0 rfl) (kn.e 1 rfl) be (cE.mono ZA) (kN.keep kn rfl rfl) ZA λl s2 H4 k4 g1 g2 hu g3 g4 g5 g6 g7 g8 g9 => ?_;have kn := kn.callEE 0 1 rfl rfl ZN hu (R.ao _) (GS.ao _ _);simp only [go_sem, Qnn];refine Ql ?_;simp only [go_sem, Q5, Cn, Cp, Ja, forall_eq, RS.op];exact fin l _ s2 H4 k4 _ ZA ZA kn (Qg rfl) g3 ZA g5 g6 g7 g8 ZA
    refine ⟨λhb => ?_, λhb => ?_⟩
    · refine CE (kn.e 0 rfl) ZA λv2 H3 ji hu => ?_;have kn := kn.aw 0 rfl hu (R.ao _);simp only [go_sem, SV];exact rest _ H3 (k + 1 + 1) ZA ZA kn
    · simp only [go_sem, SV, hb];exact rest _ H2 (k + 1) ZA ZA kn
theorem Qa26 (d:Nat):If d:=by
 induction d with
 |zero=>exact LY (K5 (λd' h=>absurd h ZA))
 |succ d ih=>exact LY (K5 (λd' h=>by
   have:d'=d:=ZA
   rw[this];exact ih))
theorem N5{gl k:Nat}{name:List UInt8}{params:Int}(iG:0<=params)(hp3:params<=3)(hR:H R.l=R.o k)(hG:H gl=s.o R)(be:R.l≠gl)(hs:s.ok k)(hF:FnsOk H R gl s)(hk:k+2001300<=2^30)
  (hK:∀(f:Fn) (s':GS) (H':Heap) (k':Nat),k<k'->k'<=k+2001300->Upd H H' [(R.l,R.o k'),(gl,s'.o R)]->s'.ok k'->s'.fns=s.fns->s'.ffl=s.ffl->f.params.length<=3->CJ f.body->4 * k+Q9 f.body<=4 * k'->K (.ag f.cells) H') :
  Qu prog RN [Up gl,.c (.str name),Uv params] H K:=by
 obtain⟨np,rfl⟩:=Jr iG;refine Q0 ?_;refine Qd Co Qaq6 ?_;refine Za ?_;intro x6 aY H1 h1;have kn:=(Kn.start2 hR (R.ao k) hG (s.ao R) be).al aY h1;have jB:=kn.e 1 rfl;refine Qa ?_;have etk:List.take np [[C.str [97]],[C.str [98]],[C.str [99]]]=CO (List.take np [[97],[98],[99]]):=by simp[CO,Jan]
 simp only[go_sem,jB,GS.o,etk];refine⟨⟨ZA,ZA⟩,λH2 h2=>?_⟩;have kn:Kn H H2 [(R.l,R.o k),(gl,GS.o { s with vars:=List.take np [[97],[98],[99]],vfl:=false } R)] [(x6,_)]:=kn.stE 1 rfl h2;have fM:=kn.e 1 rfl;refine Qa ?_;simp only[go_sem,fM,GS.o];refine⟨Qv,λH3 h3=>?_⟩;have kn:Kn H H3 [(R.l,R.o k),(gl,GS.o { s with vars:=List.take np [[97],[98],[99]],vfl:=false,next:=(np:Int)-1 } R)] [(x6,_)]:=kn.stE 1 rfl h3;have cE:GS.ok { s with vars:=List.take np [[97],[98],[99]],vfl:=false,next:=(np:Int)-1 } k:=
  ⟨by show -1<=(np:Int)-1;omega,by show (np:Int)-1<=_;omega,hs.l0,hs.l1,by show (List.take np _).length<=_;simp;omega,hs.f,hs.fn⟩
 have bH:(List.take np [[97],[98],[99]]:List (List UInt8)).length<=3:=ZF
 have ib:GS.fns { s with vars:=List.take np [[97],[98],[99]],vfl:=false,next:=(np:Int)-1 }=s.fns:=rfl;have oY:GS.ffl { s with vars:=List.take np [[97],[98],[99]],vfl:=false,next:=(np:Int)-1 }=s.ffl:=rfl;have jE:GS.vars { s with vars:=List.take np [[97],[98],[99]],vfl:=false,next:=(np:Int)-1 }=List.take np [[97],[98],[99]]:=rfl;rw[<-jE]at bH;have kN:FnsOk H R gl { s with vars:=List.take np [[97],[98],[99]],vfl:=false,next:=(np:Int)-1 }:=⟨hF.1,hF.2⟩;generalize ({ s with vars:=List.take np [[97],[98],[99]],vfl:=false,next:=(np:Int)-1 }:GS)=s1 at *;have qt:=kn.e 1 rfl;refine Qa ?_;have hL:s1.vars.length<=LIM:=ZW
 simp only[go_sem,qt,GS.o,D1,Jg,Jq,hL];refine⟨.inl trivial,Pn _,λy hy H4 h4=>?_⟩;have kn:=kn.al hy h4;simp only[go_sem,Qyz];intro x7 bz H5 h5;have kn:=kn.al bz h5;have qG:=kn.l 2 rfl;simp only[go_sem,Qyy,qG];intro H6 h6;have kn:Kn H H6 [(R.l,R.o k),(gl,s1.o R)] [(x6,_),(y,_),(x7,_)]:=kn.az 2 rfl h6;refine Za ?_;refine Qa26 3 _ _ _ _ _ _ 3 ZA (kn.e 0 rfl) (kn.e 1 rfl) be cE (kN.keep kn rfl rfl) ZA λl c Lg s2 H7 k2 g1 g2 hu ax eX d9 glf g3 g4 g5 g6 g7=>?_;have kn0:=kn;have kn:=kn.callEE 0 1 rfl rfl ZN hu (R.ao _) (GS.ao _ _);have kn:=kn0.addGr kn rfl rfl ax eX;have qE:=kn.l 2 rfl;simp only[go_sem,Qy0,qE];intro H8 h8;have kn:Kn H H8 [(R.l,R.o k2),(gl,s2.o R)] ([(x6,.st [.str [],.sl true 1 [],.sl true 5 []]),(y,.vec 1 (CO s1.vars)),(x7,.st [.str name,.ah y 1 0 s1.vars.length,c])]++Lg):=kn.az 2 rfl h8;have AI:=kn.e 1 rfl;refine Q1 (Qa ?_);simp only[go_sem,AI,GS.o];have bM:=ax.ai;have rest:∀(E1:Env) (Ch:lk 6 E1=V.c (C.ptr x6 0)) (Cg:lk 7 E1=V.c (C.ptr x7 0)) (l2:List St) (c2:C) (rws:List (List C)) (L2:Ul) (s3:GS) (H9:Heap) (k3:Nat),k<k3->k3<=k+2001300->
   Kn H H9 [(R.l,R.o k3),(gl,s3.o R)] ([(x6,.st [.str [],.sl true 1 [],.sl true 5 []]),(y,.vec 1 (CO s1.vars)),(x7,.st [.str name,.ah y 1 0 s1.vars.length,c2])]++L2)->Gr L2 5 rws c2->(∀H',FrzR H' (un H) rws (Cw l2))->
   s3.ok k3->s3.fns=s1.fns->s3.ffl=s1.ffl->CJ l2->4 * k+Q9 l2<=4 * k3->Cr prog Sh (Q5 Ip (unK H K)) E1 H9:=by
  intro E1 Ch Cg l2 c2 rws L2 s3 H9 k3 e1 e2 kn cS ew e3 e4 e5 e6 e7;have lY:=kn.l 0 rfl;have wV:=kn.l 2 rfl;have bM:=cS.ai;refine Qa ?_;simp only[go_sem,Ch,Cg,lY,wV,bM];intro H10 dh;have kn:=kn.az 0 rfl dh;have lX:=kn.l 0 rfl;have fX:=kn.l 1 rfl;refine Zm lX bM ?_;refine⟨(.ag (Fn.mk name s1.vars l2).cells),?_,hK _ s3 _ k3 e1 e2 kn.fin e3 (e4.trans ib) (e5.trans oY) bH e6 e7⟩;refine FrzL.ag (.cons (Qg rfl) (.cons ?_ (.cons ?_ .nil)))
  ·exact HP (kn.un 1 rfl) fX (by simp[CO]) (noOw_mem (Pn _))
  ·exact cS.frzR (B:=[_,_,_]) kn (ew _)
 have tl:∀(b:Bool) (H9:Heap) (k3:Nat),k2<=k3->k3<=k2+1->(b=true->0<s2.left)->Kn H H9 [(R.l,R.o k3),(gl,s2.o R)] ([(x6,.st [.str [],.sl true 1 [],.sl true 5 []]),(y,.vec 1 (CO s1.vars)),(x7,.st [.str name,.ah y 1 0 s1.vars.length,c])]++Lg)->
   Cr prog (s_l3Gen_fn_7.seq Sh) (Q5 Ip (unK H K)) [(0,V.c (C.ptr gl 0)),(6,V.c (C.ptr x6 0)),(7,V.c (C.ptr x7 0)),(42,.c (.bool b))] H9:=by
  intro b H9 k3 e1 e2 hb kn;have AH:=kn.e 1 rfl;refine Wt ?_ ?_
  ·intro hc;have Bq:=hb hc;have rN:=d9.l1;refine Qa ?_;simp only[go_sem,AH,GS.o];refine⟨Qv,λH10 dh=>?_⟩;have kn:Kn H H10 [(R.l,R.o k3),(gl,GS.o { s2 with left:=s2.left-1 } R)] ([(x6,_),(y,_),(x7,_)]++Lg):=kn.stE 1 rfl dh;have kA:GS.ok { s2 with left:=s2.left-1 } k3:=⟨d9.n0,by have:=d9.n1;show s2.next<=_;omega,by show _<=s2.left-1;omega,by show s2.left-1<=100;omega,by have:=d9.v;show s2.vars.length<=_;omega,d9.f,d9.fn⟩;have qD:=kn.l 2 rfl;refine C7 ?_;simp only[go_sem,qD,bM];refine G9 2 ZA (kn.e 0 rfl) (kn.e 1 rfl) be kA (kN.keep kn g3 g4) ZA λx H11 k4 q1 q2 hu q3 q4=>?_;have kn:=kn.aw 0 rfl hu (R.ao _);have oi:=kn.l 2 rfl;simp only[go_sem,Qy2,oi,bM,x.aA];refine kn.grow (B:=[_,_,_]) ax (.mk' _ _ _ _) (by intro r hr;simp only[Ja]at hr;subst hr;rfl) (by simp only[DK,LIM,Jj,Jm];omega) λy' H12 kn=>?_;have wU:=kn.l 2 rfl;simp only[go_sem,Qy1,wU];intro H13 nI;have kn:=kn.az 2 rfl nI;refine rest _ ZB ZB (l++[St.mk 7 [] [x] [] []]) _ _ _ _ H13 k4 ZA ZA kn (.mk _ _ _ (by simp[DK])) (λH'=>?_) (kA.mono ZA) g3 g4 (HS g6 ?_) ?_
   ·rw[<-HT];refine .app (.same (I2 _)) ?_;simp only[Cw,St.cells,C5]
    repeat' first|exact FrzL.nil|exact FrzR.nil|exact Qg rfl|exact FrzL.same (Ex.am _)|exact FrzL.same (St.am _)|refine FrzL.cons ?_ ?_|refine FrzR.cons ?_ ?_|refine FrzR.sl ?_
   ·simp only[CJ,St.ok,CT];exact⟨⟨ZC,⟨q3,trivial⟩,trivial,trivial⟩,trivial⟩
   ·simp only[Ki,Q9,St.size,C8];omega
  ·intro hc;refine Ze ?_;exact rest _ ZB ZB l c _ Lg s2 H9 k3 ZA ZA kn ax (λH'=>.same (I2 _)) (d9.mono ZA) g3 g4 g6 ZA
 refine⟨λhb=>?_,λhb=>?_⟩
 ·refine CE (kn.e 0 rfl) ZA λv H9 hv hu=>?_;have kn:=kn.aw 0 rfl hu (R.ao _);simp only[go_sem,Sz,hb];exact tl _ H9 (k2+1) ZA ZA (λ_=>Zac) kn
 ·simp only[go_sem,Sz,hb];exact tl false H8 k2 ZA ZA (λh=>ZH) kn
theorem Sl {l:List Ex}(h:i<l.length):C8 (l.take (i+1))=C8 (l.take i)+(l[i]'h).size:=by
 rw[Jh h,RT];simp[C8]
theorem Sb {l:List St}(h:i<l.length):Q9 (l.take (i+1))=Q9 (l.take i)+(l[i]'h).size:=by
 rw[Jh h,Ki];simp[Q9]
theorem SP (l:List Ex)(i:Nat):C8 (l.take i)<=C8 l:=by
 conv=>rhs;rw[<-Jx i l,RT]
 omega
theorem SI (l:List St)(i:Nat):Q9 (l.take i)<=Q9 l:=by
 conv=>rhs;rw[<-Jx i l,Ki]
 omega
theorem St.size_pos (x:St):1<=x.size:=by rw[x.size_eq];omega
theorem Oq (l:List St):l.length<=Q9 l:=by
 induction l with
 |nil=>simp
 |cons x r ih=>simp only[Jj,Q9];have:=x.size_pos;omega
theorem Ys:∀(n:Nat) (x:Ex) {H:Heap} {K:Uk},x.size<=n->x.size<=2^40->K (.c (Ui x.size)) H->Qu prog Pj [.ag x.cells] H K:=by
 intro n
 induction n with
 |zero=>intro x _ _ h;have:=x.size_pos;omega
 |succ n ih=>
 intro x H K hn hb hK;have br:=x.size_kids;refine Qd Co Y0 ?_;refine Zv ?_;refine Wi ?_;refine Qh (Qe (Qy (λn e1 H1=>∃i:Nat,n=x.kids.length-i/\i<=x.kids.length/\H1=H/\e1=[(1,.c (.pp [Ui x.op,Ui x.n,.str x.name,.sl false 4 (C5 x.kids)])),(3,.c (Ui ((1+C8 (x.kids.take i):Nat):Int))),(4,Uv i)]) x.kids.length ?_ ?_))
 ·exact⟨0,ZA,ZA,rfl,by simp[C8]⟩
 ·rintro n e1 H1 ⟨i,hn,hi,rfl,rfl⟩;refine Q1 (Qa ?_);simp only[go_sem,DC];intro hl;simp only[LIM]at hl;refine Wt ?_ ?_
  ·intro hc;have af:i<x.kids.length:=ZD
   have hm:=I7 (Jb af);have bQ:=Sl af;have oz:=SP x.kids (i+1);refine Ze ?_;refine Qh (Qe (Qt ?_));simp only[go_sem,af,DC,GU _ _ af,Ex.cG,Ex.b6,Ex.aA];refine ih _ ZA ZA ?_;simp only[go_sem,Q2t];refine⟨Qv,?_⟩;refine Zg ?_;refine⟨Qv,x.kids.length-(i+1),ZA,i+1,rfl,ZA,?_⟩;rw[bQ];simp;omega
  ·intro hc;have bp:x.kids.length<=i:=ZD
   refine Wb ?_;refine Zd ?_;rw[Jc bp,<-br];exact hK
theorem TG:∀(n:Nat) (x:Ex) {H:Heap} {K:Uk} (deep:Int),x.size<=n->deep<=100->(∀b:Bool,K (.c (.bool b)) H)->Qu prog Pb [.ag x.cells,Uv deep] H K:=by
 intro n
 induction n with
 |zero=>intro x _ _ _ h;have:=x.size_pos;omega
 |succ n ih=>
 intro x H K deep hn hd hK;have br:=x.size_kids;refine Qd Co Tx ?_;refine Zv ?_;refine Za ?_;refine TF λlo hi=>?_;simp only[go_sem,Q8g,J1,Jab];refine Wa ?_;have retf:∀(b:Bool) (e:Env),lk 4 e=.c (.bool b)->Q5 Cp K .ret e H:=by
  intro b e h1;simp only[go_sem,Q5,Cn,Ja,forall_eq,RS.op,h1];exact hK _
 have rest:∀b:Bool,(b=false->1<=deep)->Cr prog (s_l2Form_3.seq Q8f) (Q5 Cp K)
   [(1,Uv deep),(2,.c (.pp [Ui x.op,Ui x.n,.str x.name,.sl false 4 (C5 x.kids)])),(31,.c (.bool b))] H:=by
  intro b hb;refine Wt ?_ ?_
  ·intro hc;refine Wf ?_;exact retf false _ ZB
  intro hc;have kG:=hb hc;refine Ze ?_;refine Wi ?_;refine Rv λb1=>?_;simp only[go_sem,Q8h];have rest2:∀b:Bool,Cr prog (s_l2Form_6.seq Q8e) (Q5 Cp K)
    [(1,Uv deep),(2,.c (.pp [Ui x.op,Ui x.n,.str x.name,.sl false 4 (C5 x.kids)])),(69,.c (.bool b))] H:=by
   intro b;refine Wt ?_ ?_
   ·intro hc;refine Wf ?_;exact retf false _ ZB
   intro hc;refine Ze ?_;refine Wa ?_;refine Qh (Qe (Qy (λn e1 H1=>∃i:Nat,n=x.kids.length-i/\i<=x.kids.length/\H1=H/\e1=[(1,Uv deep),(2,.c (.pp [Ui x.op,Ui x.n,.str x.name,.sl false 4 (C5 x.kids)])),(8,Uv i)]) x.kids.length ?_ ?_))
   ·exact⟨0,ZA,ZA,Rf0⟩
   ·rintro n e1 H1 ⟨i,hn,hi,rfl,rfl⟩;refine Q1 (Qa ?_);simp only[go_sem,DC];intro hl;simp only[LIM]at hl;refine Wt ?_ ?_
    ·intro hc;have af:i<x.kids.length:=ZD;have hm:=I7 (Jb af);refine Wo ?_;simp only[go_sem,af,DC,GU _ _ af,Ex.cG,Ex.b6,Ex.aA];refine⟨Qv,?_⟩;refine ih _ (deep-1) ZA ZA λb2=>?_;simp only[go_sem,Q8i];refine Wu ?_ ?_
     ·intro aC;refine Wp ?_;exact retf false _ ZB
     ·intro aC;refine Wl ?_;exact⟨Qv,x.kids.length-(i+1),ZA,i+1,rfl,ZA,rfl⟩
    ·intro hc;refine Wb ?_;refine Ql ?_;exact retf true _ ZB
  refine⟨λbm=>?_,λbm=>?_⟩
  ·refine Dq ?_;simp only[go_sem,RL];exact rest2 _
  ·replace bm:=CS bm;simp only[go_sem,RL,bm];exact rest2 _
 refine⟨λbm=>?_,λbm=>?_⟩
 ·replace bm:=DE bm;have kG:1<=deep:=by simp at bm;omega
  refine Dq ?_;simp only[go_sem,RX,bm,DC,cond_false];intro hl;refine⟨λcC=>?_,λcC=>?_⟩
  ·refine Dq ?_;simp only[go_sem,Pu];exact rest _ (λ_=>kG)
  ·replace cC:=CS cC;simp only[go_sem,Pu,cC];exact rest _ (λ_=>kG)
 ·replace bm:=CS bm;simp only[go_sem,RX,Pu,bm,DC,cond_true];exact rest _ (λh=>ZH)
theorem Qala {x:Ex}(hx:x.size<=2^40)(hK:∀b:Bool,K (.c (.bool b)) H):Qu prog SN [.ag x.cells] H K:=by
 refine Qd Co Qaa5 ?_;refine Qa ?_;simp only[go_sem,Ex.ne_nil];refine Qa ?_;simp only[go_sem,Ex.cG,Ex.b6,Ex.aA];refine TG x.size x 6 (Je _) ZA λb=>?_;simp only[go_sem,Qlb,Ex.cG,Ex.b6,Ex.aA];refine⟨λhb=>?_,λhb=>?_⟩
 ·refine Ys x.size x (Je _) hx ?_;simp only[go_sem,Tg];refine Zd ?_;exact hK _
 ·simp only[go_sem,Tg,hb];refine Zd ?_;exact hK _
def St.raw (x:St):List C:=[.int .i64 x.op,.str x.name,.sl false 4 (C5 x.args),.sl false 5 (Cw x.body),.sl false 5 (Cw x.els)]
theorem Yp:∀(n:Nat) (l:List St) {fl:Bool} {H:Heap} {K:Uk},Q9 l<=n->Q9 l<=2^40->(∀v:Nat,v<=Q9 l->K (Uv v) H)->Qu prog NI [.c (.sl fl 5 (Cw l))] H K:=by
 intro n
 induction n using Nat.strongRecOn with
 |ind n ih=>
 intro l fl H K hn hb hK;have ak:=Oq l;refine Qd Co Yx ?_;refine Wk ?_;simp only[go_sem,DK];intro hl;refine Wa ?_;refine Qh (Qe (Qy (λn e1 H1=>∃(i v:Nat),n=l.length-i/\i<=l.length/\v<=(l.length-i)+Q9 (l.take i)/\H1=H/\e1=[(0,.c (.sl fl 5 (Cw l))),(3,Uv v),(4,Uv i)]) l.length ?_ ?_))
 ·exact⟨0,l.length,ZA,ZA,ZA,Rf0⟩
 ·rintro n e1 H1 ⟨i,v,dg,hi,hv,rfl,rfl⟩;refine Q1 (Qa ?_);simp only[go_sem,DK];simp only[LIM]at hl;refine λ_=>?_;refine Wt ?_ ?_
  ·intro hc;have af:i<l.length:=ZD
   have hm:=Pm (Jb af);have bQ:=Sb af;have oz:=SI l (i+1);have sU:=(l[i]'af).size_eq;refine Wn ?_;simp only[go_sem,af,DK,GR _ _ af,St.aG];refine ih (Q9 l[i].body) ZA l[i].body (Je _) ZA λa ha=>?_;simp only[go_sem,Q2w,af,DK,GR _ _ af,St.aG];refine⟨Qv,?_⟩;refine ih (Q9 l[i].els) ZA l[i].els (Je _) ZA λc hc=>?_;simp only[go_sem,Q2v];refine⟨Qv,?_⟩;refine Zg ?_;refine⟨Qv,l.length-(i+1),ZA,i+1,v+a+c,rfl,ZA,ZA,rfl⟩
  ·intro hc;have bp:l.length<=i:=ZD
   refine Wb ?_;refine Zd ?_;rw[Jc bp]at hv;exact hK v ZA
def O4 (n:Nat):Prop:=∀(x:St) (deep:Int) (H:Heap) (K:V->Heap->Prop),x.size<=n->x.size<=2^40->deep<=100->(∀b:Bool,K (.c (.bool b)) H)->Qu prog Q5q [.ag x.cells,.c (.int .i64 deep)] H K
def Hl (n:Nat):Prop:=∀(l:List St) (deep:Int) (fl:Bool) (H:Heap) (K:V->Heap->Prop),Q9 l<=n->Q9 l<=2^40->deep<=100->(∀b:Bool,K (.c (.bool b)) H)->Qu prog NH [.c (.sl fl 5 (Cw l)),.c (.int .i64 deep)] H K
theorem Qa1p {n:Nat}(hS:O4 n):Hl n:=by
 intro l deep fl H K hn hb hd hK;refine Qd Co XN ?_;have retf:∀(b:Bool) (e:Env),lk 4 e=.c (.bool b)->Q5 Cp K .ret e H:=by
  intro b e h1;simp only[go_sem,Q5,Cn,Ja,forall_eq,RS.op,h1];exact hK _
 refine Wi ?_;refine Qh (Qe (Qy (λn e1 H1=>∃(i:Nat),n=l.length-i/\i<=l.length/\H1=H/\e1=[(0,.c (.sl fl 5 (Cw l))),(1,Uv deep),(5,Uv i)]) l.length ?_ ?_))
 ·exact⟨0,ZA,ZA,Rf0⟩
 ·rintro n e1 H1 ⟨i,dg,hi,rfl,rfl⟩;refine Q1 (Qa ?_);simp only[go_sem,DK];intro hl;simp only[LIM]at hl;refine Wt ?_ ?_
  ·intro hc;have af:i<l.length:=ZD
   have hm:=Pm (Jb af);refine Wo ?_;simp only[go_sem,af,DK,GR _ _ af,St.take5,St.b6,St.aA];refine hS _ deep _ _ ZA ZA hd λb=>?_;simp only[go_sem,Q25];refine Wu ?_ ?_
   ·intro aC;refine Wp ?_;exact retf false _ ZB
   ·intro aC;refine Wl ?_;exact⟨Qv,l.length-(i+1),ZA,i+1,rfl,ZA,rfl⟩
  ·intro hc;refine Wb ?_;refine Ql ?_;exact retf true _ ZB
theorem Qa5r {n:Nat}(hS:∀m,m<n->Hl m):O4 n:=by
 intro x deep H K hn hb hd hK;have br:=x.size_eq;refine Qd Co Ts ?_;have retf:∀(b:Bool) (e:Env),lk 4 e=.c (.bool b)->Q5 Cp K .ret e H:=by
  intro b e h1;simp only[go_sem,Q5,Cn,Ja,forall_eq,RS.op,h1];exact hK _
 refine Zv ?_;refine Q1 (Cv ?_);simp only[go_sem];have rest:∀b:Bool,(b=false->1<=deep/\x.args.length=if x.op=4 then 2 else 1)->Cr prog (s_l3Stmt_2.seq Q8w) (Q5 Cp K)
   [(1,Uv deep),(2,.c (.pp [Ui x.op,.str x.name,.sl false 4 (C5 x.args),.sl false 5 (Cw x.body),.sl false 5 (Cw x.els)])),(23,.c (.bool b))] H:=by
  intro b hb;refine Wt ?_ ?_
  ·intro hc;refine Wf ?_;exact retf false _ ZB
  intro hc;obtain⟨kG,ee⟩:=hb hc;have lx:0<x.args.length:=by rw[ee];split <;> omega
  refine Ze ?_;refine Wi ?_;refine Rv λb1=>?_;simp only[go_sem,Q8x];refine Wt ?_ ?_
  ·intro hc;refine Wf ?_;exact retf false _ ZB
  intro hc;refine Ze ?_;refine Wa ?_;refine Qh (Qe (Qy (λn e1 H1=>∃(i:Nat),n=x.args.length-i/\i<=x.args.length/\H1=H/\e1=[(1,Uv deep),(2,.c (.pp [Ui x.op,.str x.name,.sl false 4 (C5 x.args),.sl false 5 (Cw x.body),.sl false 5 (Cw x.els)])),(6,Uv i)]) x.args.length ?_ ?_))
  ·exact⟨0,ZA,ZA,Rf0⟩
  ·rintro n e1 H1 ⟨i,dg,hi,rfl,rfl⟩;refine Q1 (Qa ?_);simp only[go_sem,DC];intro hl;simp only[LIM]at hl;refine Wt ?_ ?_
   ·intro hc;have af:i<x.args.length:=ZD;have hm:=I7 (Jb af);refine Wo ?_;simp only[go_sem,af,DC,GU _ _ af,Ex.cG,Ex.b6,Ex.aA];refine Qala ZA λb=>?_;simp only[go_sem,Q8y];refine Wu ?_ ?_
    ·intro aC;refine Wp ?_;exact retf false _ ZB
    ·intro aC;refine Wl ?_;exact⟨Qv,x.args.length-(i+1),ZA,i+1,rfl,ZA,rfl⟩
   ·intro hc;refine Zb ?_;refine Q1 (Qa ?_);simp only[go_sem,lx,DC,GU _ _ lx,Ex.aG];refine⟨λ_=>Int.le_refl _,?_⟩;refine Wt ?_ ?_
    ·intro hc;refine Wf ?_;exact retf false _ ZB
    intro hc;refine Ze ?_;refine Q1 (Qa ?_);simp only[go_sem,DK]
    intros
    refine Wt ?_ ?_
    ·intro hc;refine Wf ?_;exact retf false _ ZB
    intro hc;refine Ze ?_;refine Za ?_;refine⟨Qv,?_⟩;refine hS (Q9 x.body) ZA _ _ _ _ _ (Je _) ZA ZA λb1=>?_;simp only[go_sem,Q24];refine⟨λ_=>Qv,?_⟩;refine⟨λbm=>?_,λbm=>?_⟩
    ·refine hS (Q9 x.els) ZA _ _ _ _ _ (Je _) ZA ZA λb2=>?_;simp only[go_sem,Sa];refine Ql ?_;exact retf _ _ ZJ
    ·simp only[go_sem,Sa,bm];refine Ql ?_;exact retf false _ ZB
 refine⟨λbm=>?_,λbm=>?_⟩
 ·replace bm:=DE bm;have kG:1<=deep:=by simp at bm;omega
  refine Dq ?_;simp only[go_sem,RJ,bm,DC,cond_false];refine⟨λcC=>?_,λcC=>?_⟩
  ·refine TD ?_;simp only[go_sem,Ps,DC];refine rest _ (λh=>⟨kG,?_⟩);have h1:(x.args.length:Int)=if x.op=4 then 2 else 1:=by
    cases h2:decide (1<=x.op/\x.op<=8) <;> rw[h2]at h <;> simp_all
   by_cases h4:x.op=4
   ·rw[if_pos h4]at h1⊢;omega
   ·rw[if_neg h4]at h1⊢;omega
  ·replace cC:=CS cC;simp only[go_sem,Ps,cC,DC];exact rest _ (λh=>ZH)
 ·replace bm:=CS bm;simp only[go_sem,RJ,Ps,bm,DC,cond_true];exact rest _ (λh=>ZH)
theorem Qa5s (n:Nat):Hl n:=by
 induction n using Nat.strongRecOn with
 |ind n ih=>exact Qa1p (Qa5r ih)
theorem Qa7a {f:Fn}(hf:Q9 f.body<=2^40)(hK:∀b:Bool,K (.c (.bool b)) H):Qu prog KS [.ag f.cells] H K:=by
 refine Qd Co Qa7f ?_;have retf:∀(b:Bool) (e:Env),lk 2 e=.c (.bool b)->Q5 Cq K .ret e H:=by
  intro b e h1;simp only[go_sem,Q5,Cn,Ja,forall_eq,RS.op,h1];exact hK _
 refine Qa ?_;simp only[go_sem,Fn.cells];refine Wa ?_;refine Qh (Qe (Qy (λn e1 H1=>∃(i:Nat),n=f.params.length-i/\i<=f.params.length/\H1=H/\e1=[(1,.c (.pp [.str f.name,.sl false 1 (CO f.params),.sl false 5 (Cw f.body)])),(3,Uv i)]) f.params.length ?_ ?_))
 ·exact⟨0,ZA,ZA,Rf0⟩
 ·rintro n e1 H1 ⟨i,dg,hi,rfl,rfl⟩;refine Q1 (Qa ?_);simp only[go_sem,D1];intro hl;simp only[LIM]at hl;refine Wt ?_ ?_
  ·intro hc;have af:i<f.params.length:=ZD
   refine Wo ?_;simp only[go_sem,af,D1,Kj _ _ af];refine Rv λb=>?_;simp only[go_sem,M4];refine Wu ?_ ?_
   ·intro aC;refine Wp ?_;exact retf false _ ZB
   ·intro aC;refine Wl ?_;exact⟨Qv,f.params.length-(i+1),ZA,i+1,rfl,ZA,rfl⟩
  ·intro hc;refine Wb ?_;refine Rv λb=>?_;simp only[go_sem,M3,D1]
   intros
   refine⟨λbm=>?_,λbm=>?_⟩
   ·refine Qa5s _ _ _ _ _ _ (Je _) hf ZA λb2=>?_;simp only[go_sem,Q8m];refine Ql ?_;exact retf _ _ ZJ
   ·simp only[go_sem,Q8m,bm];refine Ql ?_;exact retf false _ ZB
def Dk:List Fn->Nat
 |[]=>0
 |f::r=>Q9 f.body+Dk r
theorem Sj {l:List Fn}{f:Fn}(h:f∈l):Q9 f.body<=Dk l:=by
 induction l with
 |nil=>simp at h
 |cons g r ih=>
  simp only[Dk];rcases List.mem_cons.1 h with rfl|h
  ·omega
  ·have:=ih h;omega
theorem PB (a b:List Fn):Dk (a++b)=Dk a+Dk b:=by
 induction a with
 |nil=>simp[Dk]
 |cons x r ih=>simp only[Js,Dk,ih];omega
theorem Qafi {l:List Fn}(h:i<l.length):Dk (l.take (i+1))=Dk (l.take i)+Q9 (l[i]'h).body:=by
 rw[Jh h,PB];simp[Dk]
theorem Q4b (l:List Fn)(i:Nat):Dk (l.take i)<=Dk l:=by
 conv=>rhs;rw[<-Jx i l,PB]
 omega
theorem Qa4h {l:List Fn}(hf:Dk l<=2^40)(hK:∀n:Int,K (Uv n) H):Qu prog LC [.ag [.sl fl 3 (CC l)]] H K:=by
 refine Qd Co Qa4t ?_;refine Wd ?_;refine Wa ?_;refine Qh (Qe (Qy (λn e1 H1=>∃(i v:Nat),n=l.length-i/\i<=l.length/\v<=Dk (l.take i)/\H1=H/\e1=[(1,.c (.pp [.sl fl 3 (CC l)])),(3,Uv v),(4,Uv i)]) l.length ?_ ?_))
 ·exact⟨0,0,ZA,ZA,ZA,Rf0⟩
 ·rintro n e1 H1 ⟨i,v,dg,hi,hv,rfl,rfl⟩;refine Q1 (Qa ?_);simp only[go_sem,Eb];intro hl;simp only[LIM]at hl;refine Wt ?_ ?_
  ·intro hc;have af:i<l.length:=ZD
   have hm:=Sj (Jb af);have bQ:=Qafi af;have oz:=Q4b l (i+1);refine Ze ?_;refine Qh (Qe (Qt ?_));simp only[go_sem,af,Eb,I5 _ _ af,Fn.cells];refine Yp _ _ (Je _) ZA λc hc=>?_;simp only[go_sem,Nv];refine⟨Qv,?_⟩;refine Zg ?_;exact⟨Qv,l.length-(i+1),ZA,i+1,v+c,rfl,ZA,ZA,rfl⟩
  ·intro hc;refine Wb ?_;refine Zd ?_;exact hK _
theorem Qaam {l:List Fn}(hf:Dk l<=2^40)(hK:∀b:Bool,K (.c (.bool b)) H):Qu prog Qiv [.ag [.sl fl 3 (CC l)]] H K:=by
 refine Qd Co Qzz ?_;have retf:∀(b:Bool) (e:Env),lk 2 e=.c (.bool b)->Q5 Cq K .ret e H:=by
  intro b e h1;simp only[go_sem,Q5,Cn,Ja,forall_eq,RS.op,h1];exact hK _
 refine Wg ?_;simp only[go_sem,Eb];intro hl;simp only[LIM]at hl;refine Dq ?_;simp only[go_sem,Rh];refine Wt ?_ ?_
 ·intro hc;refine Wf ?_;exact retf false _ ZB
 intro hc;refine Ze ?_;refine Wa ?_;refine Qh (Qe (Qy (λn e1 H1=>∃(i:Nat),n=l.length-i/\i<=l.length/\H1=H/\e1=[(1,.c (.pp [.sl fl 3 (CC l)])),(3,Uv i)]) l.length ?_ ?_))
 ·exact⟨0,ZA,ZA,Rf0⟩
 ·rintro n e1 H1 ⟨i,dg,hi,rfl,rfl⟩;refine Q1 (Qa ?_);simp only[go_sem,Eb];refine λ_=>?_;refine Wt ?_ ?_
  ·intro hc;have af:i<l.length:=ZD
   have hm:=Sj (Jb af);refine Wo ?_;simp only[go_sem,af,Eb,I5 _ _ af,Fn.take3,Fn.b6,Fn.aA];refine Qa7a ZA λb=>?_;simp only[go_sem,Rc];refine Wu ?_ ?_
   ·intro aC;refine Wp ?_;exact retf false _ ZB
   ·intro aC;refine Wl ?_;exact⟨Qv,l.length-(i+1),ZA,i+1,rfl,ZA,rfl⟩
  ·intro hc;refine Wb ?_;refine Qa4h hf λn=>?_;simp only[go_sem,Qgy];refine Ql ?_;exact retf _ _ ZJ
end Y
namespace Y
open Go.Proofs.Tryz
structure PrOk (l:List Fn):Prop where
 pos:0<l.length
 par:∀f∈l,f.params.length<=3
 ok:∀f∈l,CJ f.body
 size:Dk l<=2^34
 len:l.length<=4
end Y
section
open Go.AE.Y
open Go.Proofs.Tryz
theorem Kn.perm4{a b c d:Nat×Obj}(kn:Kn H0 H E [a,b,c,d]):Kn H0 H E [a,b,d]:=
 Kn.drop (A:=[a,b,d]) (B:=[c]) (kn.perm (.cons _ (.cons _ (.swap _ _ _))))
end
namespace Y
open Go.Proofs.Tryz
theorem TC{k:Nat}(hR:H R.l=R.o k)(hk:k+7000000<=2^30)
  (hK:∀(l:List Fn) (H':Heap) (k':Nat),k<k'->k'<=k+7000000->Upd H H' [(R.l,R.o k')]->PrOk l->K (.ag [.sl false 3 (CC l)]) H') :
  Qu prog Nb [.c (.ptr R.l 0)] H K:=by
 refine Q0 ?_;refine Qd Co Tt ?_;refine Za ?_;intro x2 aL H1 h1;have kn:=(Kn.start1 hR (R.ao k)).al aL h1;refine Za ?_;refine Dy (ns:=[14,20,8,26]) (kn.e 0 rfl) ZA ZC λv H2 hv hu=>?_;have kn:=kn.aw 0 rfl hu (R.ao _);simp only[go_sem,Q8r];intro gl cW H3 h3;have kn:Kn H H3 [(R.l,R.o (k+1))] [(x2,.st [.sl true 3 []]),(gl,GS.o ⟨[],(.sl true 3 [],[]),[],true,0,v⟩ R)]:=kn.al cW h3;have hv26:0<=v/\v<=26:=by simp at hv;omega
 simp only[go_sem,Q8q];have be:R.l≠gl:=kn.ne 0 1 rfl rfl;refine Wa ?_;refine Dy (ns:=[0,1,1,2]) (kn.e 0 rfl) ZA ZC λcnt H4 Ac hu=>?_;have kn:=kn.aw 0 rfl hu (R.ao _);have aC:0<=cnt/\cnt<=2:=by simp at Ac;omega
 simp only[go_sem,Pt];obtain⟨M,hM⟩:∃M:Nat,M=2001301:=⟨_,rfl⟩;refine Qh (Qe (Qy (λn e1 H1=>∃(j k4:Nat) (s:GS),n=cnt.toNat-j/\(j:Int)<=cnt/\s.fns.length=j/\k+2<=k4/\k4<=k+2+M * j/\s.ok k4/\(∀f∈s.fns,CJ f.body)/\4 * k+Dk s.fns<=4 * k4/\
   Gr s.ffl.2 3 (CC s.fns) s.ffl.1/\Kn H H1 [(R.l,R.o k4)] ([(x2,.st [.sl true 3 []]),(gl,s.o R)]++s.ffl.2)/\
   e1=[(0,.c (.ptr R.l 0)),(2,Up x2),(3,Up gl),(4,Uv (cnt-j))]) cnt.toNat ?_ ?_))
 ·refine⟨0,k+2,⟨[],(.sl true 3 [],[]),[],true,0,v⟩,ZA,ZA,rfl,ZA,ZA,⟨?_,?_,?_,?_,ZC,ZC,ZC⟩,ZC,by simp only[Dk];omega,.nil 3,kn,ZC⟩
  ·show -1<=(0:Int);omega
  ·show (0:Int)<=_;omega
  ·show _<=v;omega
  ·show v<=100;omega
 ·rintro n e1 H1 ⟨j,k4,s,hn,hj,je,jv,zr,hs,vk,br,ax,kn,rfl⟩;have hMj:M * j<=M * 2:=J4 _ ZA;have BX:M * (j+1)=M * j+M:=Jar _ _;have jB:=kn.l 1 rfl;have ll:=ax.ai;have jy:=ax.ay;rw[Eb]at jy;refine Wa ?_;refine Wt ?_ ?_
  ·intro hc;have hi:(j:Int)<cnt:=by simp at hc;omega
   refine Wm ?_;have vj:=(ax.aZ (B:=[_,_]) kn);have eg:List.getD [[C.str [102]],[C.str [103]],[C.str [104]]] s.fns.length []=[.str (List.getD [[102],[103],[104]] s.fns.length [])]:=Kj [[102],[103],[104]] _ ZF;have zd:s.fns.length<3:=ZA
   refine Cv ?_;simp only[go_sem,jB,GS.o,ll,jy,eq_true vj,eg,zd];refine CE (kn.e 0 rfl) ZA λp H2 hp hu=>?_;have kn:Kn H H2 [(R.l,R.o (k4+1))] ([(x2,.st [.sl true 3 []]),(gl,s.o R)]++s.ffl.2):=kn.aw 0 rfl hu (R.ao _);rw[if_neg ZA]at hp;have fM:=kn.l 1 rfl;have vi:=(ax.aZ (B:=[_,_]) kn);simp only[go_sem,Q8u,fM,GS.o,ll,jy,eq_true vi,eg,zd];have hF:FnsOk H2 R gl s:=⟨ax,λq hq=>by
    have h1:=kn.get q (Jk _ (Jk _ hq));refine⟨h1.1,λhh=>?_,λhh=>?_⟩
    ·exact kn.usedE 0 rfl (hh▸kn.loc q (Jk _ hq))
    ·have:=kn.dL;rw[Ju]at this;exact (Jaf.1 this).2.2 gl ZC q.1 (CD hq) hh.symm⟩
   refine N5 hp.1 ZA (kn.e 0 rfl) (kn.l 1 rfl) be (hs.mono (Jal k4)) hF ZA λf s2 H5 k5 g1 g2 hu d9 g3 g4 g5 g6 g7=>?_;have kn:=kn.callEL 0 1 rfl rfl hu (R.ao _) (GS.ao _ _);have kn:Kn H H5 [(R.l,R.o k5)] ([(x2,.st [.sl true 3 []]),(gl,s2.o R)]++s.ffl.2):=kn;simp only[go_sem,Q8t];intro x5 bt H6 h6;have kn:=kn.al bt h6;have kn:=kn.perm (L':=[(x2,_),(gl,_),(x5,_)]++s.ffl.2) (by
    simp only[Js,Jq];exact .cons _ (.cons _ Jl))
   have hG6:=kn.l 1 rfl;have xc:=kn.l 2 rfl;have vh:=(ax.aZ (B:=[_,_,_]) kn);simp only[go_sem,Q8s,hG6,xc,GS.o,g4,ll,jy,eq_true vh,eg,zd,Fn.cells];intro H7 h7;have kn:Kn H H7 [(R.l,R.o k5)] ([(x2,_),(gl,_),(x5,_)]++s.ffl.2):=kn.az 2 rfl h7;have vN:=kn.l 1 rfl;have qI:=kn.l 2 rfl;refine C7 ?_;simp only[go_sem,vN,qI,GS.o,g4,ll];refine kn.grow (B:=[_,_,_]) (new:=[f.cells]) ax (.mk' _ _ _ _) (by simp[f.am]) (by simp only[Eb,LIM,Jj,Jm];omega) λz H8 kn=>?_;have AI:=kn.l 1 rfl;simp only[go_sem,Q8v,AI,GS.o];intro H9 h9;have kn:=kn.az 1 rfl h9;obtain⟨s9,rf⟩:∃s9:GS,s9=GS.mk (s.fns++[f]) (C.ah z 3 0 ((CC s.fns).length+1),[(z,Obj.vec 3 (CC s.fns++[f.cells]))]) s2.vars s2.vfl s2.next s2.left:=⟨_,rfl⟩;have wn:s9.o R=.st [C.ptr R.l 0,C.ah z 3 0 ((CC s.fns).length+1),C.sl s2.vfl 1 (CO s2.vars),C.int IntKind.i64 s2.next,C.int IntKind.i64 s2.left]:=by rw[rf];rfl
   rw[<-wn]at kn;have kn:Kn H H9 [(R.l,R.o k5)] [(x2,_),(gl,s9.o R),(x5,_),(z,_)]:=kn;have kn:=kn.perm4;refine Zg ?_;have dy:k5<=k+2+M * (j+1):=by rw[BX];omega
   refine⟨Qv,cnt.toNat-(j+1),ZA,j+1,k5,s9,rfl,ZA,by simp[rf,je],ZA,dy,?_,?_,?_,?_,by rw[rf]at kn⊢;exact kn,?_⟩
   ·subst rf;refine⟨d9.n0,d9.n1,d9.l0,d9.l1,d9.v,λf' sb=>?_,by simp;omega⟩;rcases Ji.1 sb with h|h
    ·exact hs.f f' h
    ·simp at h;subst h;exact g5
   ·subst rf;intro f' sb;rcases Ji.1 sb with h|h
    ·exact vk f' h
    ·simp at h;subst h;exact g6
   ·subst rf;simp only[PB,Dk];omega
   ·subst rf;show Gr [(z,Obj.vec 3 (CC s.fns++[f.cells]))] 3 (CC (s.fns++[f])) _;rw[NB];exact .mk _ _ _ (by simp[Eb])
   ·have:cnt-((j+1:Nat):Int)=cnt-j-1:=ZA;rw[this]
  ·intro hc;refine Zb ?_;have hkE:k4<=k+4002604:=ZA
   refine Za ?_;refine Dy (ns:=[0,1,2,1]) (kn.e 0 rfl) ZA ZC λp H2 hp hu=>?_;have kn:Kn H H2 [(R.l,R.o (k4+1))] ([(x2,.st [.sl true 3 []]),(gl,s.o R)]++s.ffl.2):=kn.aw 0 rfl hu (R.ao _);have fy:0<=p/\p<=3:=by simp at hp;omega
   simp only[go_sem,Q2z];have hF:FnsOk H2 R gl s:=⟨ax,λq hq=>by
    have h1:=kn.get q (Jk _ (Jk _ hq));refine⟨h1.1,λhh=>?_,λhh=>?_⟩
    ·exact kn.usedE 0 rfl (hh▸kn.loc q (Jk _ hq))
    ·have:=kn.dL;rw[Ju]at this;exact (Jaf.1 this).2.2 gl ZC q.1 (CD hq) hh.symm⟩
   refine N5 fy.1 fy.2 (kn.e 0 rfl) (kn.l 1 rfl) be (hs.mono (Jal k4)) hF ZA λf s2 H5 k5 g1 g2 hu d9 g3 g4 g5 g6 g7=>?_;have kn:=kn.callEL 0 1 rfl rfl hu (R.ao _) (GS.ao _ _);have kn:Kn H H5 [(R.l,R.o k5)] ([(x2,.st [.sl true 3 []]),(gl,s2.o R)]++s.ffl.2):=kn;simp only[go_sem,Q2y];intro x6 aY H6 h6;have kn:=kn.al aY h6;have kn:=kn.perm (L':=[(x2,_),(gl,_),(x6,_)]++s.ffl.2) (by
    simp only[Js,Jq];exact .cons _ (.cons _ Jl))
   have lZ:=kn.l 2 rfl;simp only[go_sem,Q2x,lZ,Fn.cells];intro H7 h7;have kn:Kn H H7 [(R.l,R.o k5)] ([(x2,_),(gl,_),(x6,_)]++s.ffl.2):=kn.az 2 rfl h7;have vN:=kn.l 1 rfl;have kP:=kn.l 2 rfl;have vg:=ax.aZ (B:=[_,_,_]) kn;have rj:=ax.rowsOf (B:=[_,_,_]) kn;have jz:=ax.aQ;have hL:s.fns.length<=LIM:=ZW
   refine Cv ?_;simp only[go_sem,vN,kP,GS.o,g4,ll,jy,eq_true vg,rj,jz,hL,Jg];refine⟨.inl trivial,ND _,λy hy H8 h8=>?_⟩;have kn:=kn.al hy h8;have kn:=kn.perm (L':=([(x2,_),(gl,_),(x6,_)]++[(y,_)])++s.ffl.2) Ow;have kn:=kn.drop;have wW:=kn.l 2 rfl;have kn:Kn H H8 [(R.l,R.o k5)] [(x2,_),(gl,_),(x6,_),(y,_)]:=kn;have hy8:=kn.l 3 rfl;have etk:List.take s.fns.length (CC s.fns)=CC s.fns:=Jc (by rw[Eb];omega);simp only[go_sem,Q22,wW,hy8,Eb,etk];refine⟨ZA,by simp only[LIM];omega,λz hz H9 h9=>?_⟩;have kn:Kn H H9 [(R.l,R.o k5)] [(x2,_),(gl,_),(x6,_),(z,.vec 3 (CC s.fns++[f.cells]))]:=kn.ap 3 rfl hz h9;simp only[go_sem,Q21];intro x7 bz H10 dh;have kn:=kn.al bz dh;have AJ:=kn.l 1 rfl;have lX:=kn.l 2 rfl;have qD:=kn.l 4 rfl;have kn:Kn H H10 [(R.l,R.o k5)] [(x2,_),(gl,_),(x6,_),(z,_),(x7,_)]:=kn;simp only[go_sem,Q20,AJ,lX,qD,GS.o,g4,ll];intro H11 eC;have kn:=kn.az 4 rfl eC;have kn:Kn H H11 [(R.l,R.o k5)] ([(x2,.st [.sl true 3 []]),(x7,.st [.ah z 3 0 (s.fns.length+1)])]++[(z,.vec 3 (CC s.fns++[f.cells]))]):=
    (kn.perm (L':=([(x2,_),(x7,_)]++[(z,_)])++[(gl,_),(x6,_)]) (by
     simp only[List.set,Js,Jq];refine .cons _ ?_;refine .trans (.cons _ (.cons _ (.swap _ _ _))) ?_;refine .trans (.cons _ (.swap _ _ _)) ?_;refine .trans (.swap _ _ _) ?_;refine .cons _ ?_;refine .trans (.cons _ (.swap _ _ _)) ?_;exact .swap _ _ _)).drop
   have wJ:=kn.l 2 rfl;have AT:=kn.l 1 rfl;obtain⟨fh,kn⟩:=kn.freeze 1 rfl (og':=.st [.sl false 3 (CC (s.fns++[f]))]) (FrzKL.st (.cons rfl (by
    rw[<-NB];exact HP ZC wJ (by simp[Eb]) (noOw_mem (Qa0e (ND _) (by simp[f.am])))) .nil)) ZC
   refine Q1 (c_gh (Fe _ (λt=>?_) fh) (e':=[(2,V.c (C.ptr x2 0)),(7,V.c (C.ptr x7 0))]) ?_)
   ·simp only[lk];split
    ·exact .c _ _ (.same _ rfl)
    ·split
     ·exact .c _ _ (.same _ rfl)
     ·exact .unk _
   generalize ((H11.frz λm=>m == z).set x7 (Obj.st [C.sl false 3 (CC (s.fns++[f]))]))=H12 at *;have oi:=kn.l 1 rfl;have tL:=kn.l 0 rfl;have lH:Dk (s.fns++[f])<=2^34:=by rw[PB];simp only[Dk];omega
   refine Zj oi ?_;refine Qaam ZA λb=>?_;simp only[go_sem,Q23];refine Wt ?_ ?_
   ·intro hc;refine Zj tL ?_;intro H13 nI;have kn:=kn.az 0 rfl nI;have qM:=kn.l 0 rfl;refine Zi qM ?_;refine⟨.ag [.sl false 3 (CC [Fn.mk [109] [] [St.mk 3 [] [Ex.mk 1 1 [] []] [] []]])],FrzL.ag ?_,hK _ _ k5 ZA ZA kn.fin ⟨ZC,ZC,?_,?_,ZC⟩⟩
    ·simp only[CC,Jam,Jap,Fn.cells,Qar6,Cw,St.cells,C5,Ex.cells]
     repeat' first|exact FrzL.nil|exact FrzR.nil|exact Qg rfl|exact FrzL.same (Ex.am _)|exact FrzL.same (St.am _)|refine FrzL.cons ?_ ?_|refine FrzR.cons ?_ ?_|refine FrzR.sl ?_
    ·intro f hf;simp at hf;subst hf;simp[CJ,St.ok,CT,Ex.ok]
    ·simp[Dk,Q9,St.size,C8,Ex.size]
   ·intro hc;refine Ze ?_;refine Zl tL oi ?_;intro H13 nI;have kn:=kn.az 0 rfl nI;have qM:=kn.l 0 rfl;refine Zi qM ?_;refine⟨.ag [.sl false 3 (CC (s.fns++[f]))],FrzL.ag (.cons (Qg rfl) .nil),hK _ _ k5 ZA ZA kn.fin ⟨ZC,?_,?_,lH,by simp;omega⟩⟩
    ·intro f' sb;rcases Ji.1 sb with h|h
     ·exact hs.f f' h
     ·simp at h;subst h;exact g5
    ·intro f' sb;rcases Ji.1 sb with h|h
     ·exact vk f' h
     ·simp at h;subst h;exact g6
variable{F:Heap}{w:Nat}{s:LS}
structure LStep (s s':LS)(d:Nat):Prop where
 bl:s.blocks.length<=s'.blocks.length
 ok:∀N,s.ok N->s'.ok (N+d)
 vl:s.vars.length<=s'.vars.length
 at_:s.at_<s.blocks.length->s'.at_<s'.blocks.length
 fn:s'.fns=s.fns/\s'.pfl=s.pfl
theorem LStep.trans {s s' s'':LS}{d e:Nat}(h:LStep s s' d)(k:LStep s' s'' e):LStep s s'' (d+e):=
 ⟨Jag h.bl k.bl,λN hN=>by rw[<-Nat.add_assoc];exact k.ok _ (h.ok N hN),Jag h.vl k.vl,λha=>k.at_ (h.at_ ha),k.fn.1.trans h.fn.1,k.fn.2.trans h.fn.2⟩
theorem LStep.refl (s:LS):LStep s s 0:=⟨Je _,λN h=>h,Je _,λh=>h,Rf0⟩
theorem LStep.mono {s s':LS}{d e:Nat}(h:LStep s s' d)(hd:d<=e):LStep s s' e:=⟨h.bl,λN hN=>(h.ok N hN).mono ZA,h.vl,h.at_,h.fn⟩
theorem Gz(h:LInv F H w s)(aq:s.ok N)(hN:N+1<=2^38)(hK:∀(s':LS) (H':Heap),LInv F H' w s'->LStep s s' 1->K (.c (Ui s.ae)) H') :
  Qu prog Qs4 [Up w] H K:=by
 have hw:=h.hw;have h0:=aq.r0;have h1:=aq.r1;refine Qd Co Qafc ?_;refine Wk ?_;simp only[go_sem,hw,LS.o];refine⟨Qv,λH1 p9=>?_⟩;have h':LInv F H1 w { s with ae:=s.ae+1 }:=h.setw p9 rfl rfl rfl rfl h.gv h.rv;have ir:=h'.hw;refine Qa ?_;simp only[go_sem,ir,LS.o];refine⟨Qv,?_⟩;refine Zd ?_;refine hK _ H1 h' ⟨Je _,λM hM=>⟨?_,?_,hM.n0,?_,?_,?_,?_⟩,Je _,λh=>h,Rf0⟩
 ·have:=hM.r0;show 0<=s.ae+1;omega
 ·have:=hM.r1;show s.ae+1<=_;omega
 ·have:=hM.n1;show s.next<=_;omega
 ·have:=hM.b1;show s.blocks.length<=_;omega
 ·intro b hb;have:=hM.i1 b hb;omega
 ·have:=hM.v1;show s.vars.length<=_;omega
theorem MW(h:LInv F H w s)(aq:s.ok N)(hN:N+1<=2^38)(hK:∀(s':LS) (H':Heap),LInv F H' w s'->LStep s s' 1->s.blocks.length<s'.blocks.length->s'.at_=s.at_->K (.c (Ui s.blocks.length)) H') :
  Qu prog S8 [Up w] H K:=by
 have hw:=h.hw;have bm:=aq.b1;have dm:=h.gb.ai;refine Qd Co Qafb ?_;refine Wk ?_;simp only[go_sem,hw,LS.o,dm];refine h.addBlk (b:=⟨.sl true 4 [],[],[],0,0,true,[]⟩) ZW rfl rfl rfl λy H1 ir cont=>?_;simp only[go_sem,Qn0,ir,LS.o];intro H2 h2;have h':=cont H2 h2;have ot:=h'.hw;obtain⟨y2,ou,ji,hv3⟩:=h'.bvec ZC;simp only[C.ah.injEq]at ou;obtain⟨rfl,_⟩:=ou;refine Qa ?_;simp only[go_sem,ot,LS.o,hv3,Jf,J5];refine⟨ZA,λhl=>⟨Qv,?_⟩⟩;refine Zd ?_;have e1:(((s.blocks.length+1:Nat):Int)-1)=s.blocks.length:=ZA
 rw[e1];refine hK _ H2 h' ⟨ZC,λM hM=>⟨hM.r0,?_,hM.n0,?_,?_,?_,?_⟩,Je _,λha=>by simp;show s.at_<_;omega,Rf0⟩ ZC rfl
 ·have:=hM.r1;show s.ae<=_;omega
 ·have:=hM.n1;show s.next<=_;omega
 ·have:=hM.b1;simp;omega
 ·intro b hb;rcases Ji.1 hb with hb|hb
  ·have:=hM.i1 b hb;omega
  ·simp at hb;subst hb;simp
 ·have:=hM.v1;show s.vars.length<=_;omega
theorem FD(h:LInv F H w s)(aq:s.ok N)(hN:N+1<=2^38)(hK:∀(s':LS) (H':Heap),LInv F H' w s'->LStep s s' 1->s.blocks.length<s'.blocks.length->K (.c (Ui s.blocks.length)) H') :
  Qu prog S8 [Up w] H K:=MW h aq hN λs' H' a b c _=>hK s' H' a b c
theorem E7{op to n:Int}{args:List Int}(h:LInv F H w s)(bu:s.at_<s.blocks.length)(aq:s.ok N)(hN:N+1<=2^38)
  (hK:∀(s':LS) (H':Heap),LInv F H' w s'->LStep s s' 1->K (Uv to) H') :
  Qu prog Q02 [Up w,Uv op,Uv to,Uv n,.c (.sl fl 1 (Qb args))] H K:=by
 have hw:=h.hw;obtain⟨y,dV,qe,hy⟩:=h.bvec ZA;have hm:=Jb bu;have rW:=aq.i1 _ hm;have zy:=(h.gi _ hm).ai;have eY:List.getD (List.map Blk.row s.blocks) s.at_ []=s.blocks[s.at_].row:=Zbj
 have cS:List.getD (List.take s.blocks.length (List.map Blk.row s.blocks)) s.at_ []=s.blocks[s.at_].row:=by
  rw[Jc ZC];exact eY
 refine Qd Co Qamj ?_;refine Za ?_;refine Cv ?_;simp only[go_sem,hw,LS.o,dV,hy,bu,Jg,Jf];refine Qa ?_;simp only[go_sem,hy,bu,cS,Blk.row,zy,Jg,Jf];refine h.addIns bu dV qe ⟨op,to,n,fl,args,rfl⟩ ZW λz H1 ir tG cont=>?_;simp only[go_sem,Qva,tG,eY,bu,Blk.row,Jg,Jf];intro H2 h2;obtain⟨b',aW,h'⟩:=cont H2 h2;refine Wj ?_;refine hK _ H2 h' ⟨ZC,λM hM=>⟨hM.r0,?_,hM.n0,?_,?_,?_,?_⟩,Je _,λha=>by simp;show s.at_<_;omega,Rf0⟩
 ·have:=hM.r1;show s.ae<=_;omega
 ·have:=hM.n1;show s.next<=_;omega
 ·have:=hM.b1;simp;omega
 ·intro b hb;rcases I9 hb with rfl|hb
  ·have:=hM.i1 _ hm;omega
  ·have:=hM.i1 b hb;omega
 ·have:=hM.v1;show s.vars.length<=_;omega
theorem F1 {N:Nat}{kind on:Int}{at':Nat}{next:List Int}(h:LInv F H w s)(bu:s.at_<s.blocks.length)(Aq:at'<s.blocks.length)
  (hK:∀(s':LS) (H':Heap),LInv F H' w s'->LStep s s' 0->K (.tup []) H') :
  Qu prog Qw0 [Up w,Uv kind,Uv on,.c (.sl fl 1 (Qb next)),Uv at'] H K:=by
 have hw:=h.hw;obtain⟨y,dV,qe,hy⟩:=h.bvec ZA;have hm:=Jb bu;have eY:List.getD (List.map Blk.row s.blocks) s.at_ []=s.blocks[s.at_].row:=Zbj
 refine Qd Co Qaii ?_;refine Cv ?_;simp only[go_sem,hw,LS.o,dV,hy,bu,Jg,Jf];refine Qa ?_;simp only[go_sem,hy,eY,bu,Blk.row,Jg,Jf];intro H1 h1;have h1:H1=H.set y (.vec 5 ((s.blocks.set s.at_ { s.blocks[s.at_]with jump:=kind }).map Blk.row)):=by rw[h1,<-Q6f];rfl
 have hv:=h.setBlk bu dV qe h1 rfl rfl rfl;obtain⟨b1,bm,iO,hb1i⟩:∃b1:Blk,b1={ s.blocks[s.at_]with jump:=kind }/\b1.aX=s.blocks[s.at_].aX/\b1.ic=s.blocks[s.at_].ic:=⟨_,Rf0⟩;rw[<-bm]at hv h1;have tG:H1 y=.vec 5 ((s.blocks.set s.at_ b1).map Blk.row):=by rw[h1];exact Heap.aF _ _ _
 have cS:List.getD ((s.blocks.set s.at_ b1).map Blk.row) s.at_ []=b1.row:=Zbj
 refine Qa ?_;simp only[go_sem,tG,cS,bu,Blk.row,Jg,Jf,J2];intro H2 h2;have h2:H2=H1.set y (.vec 5 (((s.blocks.set s.at_ b1).set s.at_ { b1 with on:=on }).map Blk.row)):=by rw[h2];simp only[Jv];rfl
 have hv:=hv.setBlk (i:=s.at_) (b':={ b1 with on:=on }) (by simpa using bu) (by simpa using dV) (by rfl) h2 ZC ZC ZC;simp only[Jaq]at hv h2;obtain⟨b2,cC,Ap⟩:∃b2:Blk,b2={ b1 with on:=on }/\b2.aX=b1.aX:=⟨_,Rf0⟩;rw[<-cC]at hv h2;have lC:H2 y=.vec 5 ((s.blocks.set s.at_ b2).map Blk.row):=by rw[h2];exact Heap.aF _ _ _
 have zL:List.getD ((s.blocks.set s.at_ b2).map Blk.row) s.at_ []=b2.row:=Zbj
 refine Qa ?_;simp only[go_sem,lC,zL,bu,Blk.row,Jg,Jf,J2];intro H3 h3;have h3:H3=H2.set y (.vec 5 (((s.blocks.set s.at_ b2).set s.at_ { b2 with next:=next,nfl:=fl }).map Blk.row)):=by rw[h3];simp only[Jv];rfl
 have hv:=hv.setBlk (i:=s.at_) (b':={ b2 with next:=next,nfl:=fl }) (by simpa using bu) (by simpa using dV) (by rfl) h3 ZC ZC ZC;simp only[Jaq]at hv;have tN:=hv.hw;refine Qt ?_;simp only[go_sem,tN,LS.o];intro H4 h4;have h':=hv.setw (s':={ s with lb:=[(y,.vec 5 ((s.blocks.set s.at_ { b2 with next:=next,nfl:=fl }).map Blk.row))],blocks:=s.blocks.set s.at_ { b2 with next:=next,nfl:=fl },at_:=at' }) h4 rfl rfl rfl rfl hv.gv hv.rv;simp only[Q5,Cn,CQ];refine⟨ZC,hK _ H4 h' ⟨ZC,λM hM=>⟨hM.r0,hM.r1,hM.n0,hM.n1,?_,?_,hM.v1⟩,Je _,λha=>by simpa using Aq,Rf0⟩⟩
 ·have:=hM.b1;simpa using this
 ·intro b hb;rcases I9 hb with rfl|hb
  ·show b2.aX.length<=_;rw[Ap,iO];exact hM.i1 _ hm
  ·exact hM.i1 b hb
theorem Qa6c {l:List Fn}{name:List UInt8}(hK:∀n:Int,K (Uv n) H):Qu prog R5 [.ag [.sl fl 3 (CC l)],.c (.str name)] H K:=by
 refine Qd Co XG ?_;have retf:∀(n:Int) (e:Env),lk 4 e=Uv n->Q5 Cp K .ret e H:=by
  intro b e h1;simp only[go_sem,Q5,Cn,Ja,forall_eq,RS.op,h1];exact hK _
 refine Wi ?_;refine Qh (Qe (Qy (λn e1 H1=>∃(i:Nat),n=l.length-i/\i<=l.length/\H1=H/\e1=[(1,.c (.str name)),(2,.c (.pp [.sl fl 3 (CC l)])),(5,Uv i)]) l.length ?_ ?_))
 ·exact⟨0,ZA,ZA,Rf0⟩
 ·rintro n e1 H1 ⟨i,dg,hi,rfl,rfl⟩;refine Q1 (Qa ?_);simp only[go_sem,Eb];intro hl;simp only[LIM]at hl;refine Wt ?_ ?_
  ·intro hc;have af:i<l.length:=ZD
   refine Wo ?_;simp only[go_sem,af,Eb,I5 _ _ af,Fn.cells];refine Wu ?_ ?_
   ·intro aC;refine Wp ?_;exact retf _ _ ZJ
   ·intro aC;refine Wl ?_;exact⟨Qv,l.length-(i+1),ZA,i+1,rfl,ZA,rfl⟩
  ·intro hc;refine Wb ?_;refine Ql ?_;exact retf _ _ ZJ
theorem Ov {name:List UInt8}(h:LInv F H w s)(hK:∀n:Int,K (Uv n) H):Qu prog Q03 [Up w,.c (.str name)] H K:=by
 have hw:=h.hw;obtain⟨ou,ji⟩:=h.vget;have bH:=h.gv.ay;have vW:=h.gv.aQ;have mi:=h.gv.ai;refine Qd Co Qamk ?_;have retf:∀(n:Int) (e:Env),lk 4 e=Uv n->Q5 Cp K .ret e H:=by
  intro b e h1;simp only[go_sem,Q5,Cn,Ja,forall_eq,RS.op,h1];exact hK _
 refine Wg ?_;simp only[go_sem,hw,LS.o,ou,bH,mi];intro hl;simp only[LIM]at hl;refine⟨Qv,?_⟩;refine Qh (Qe (Qy (λn e1 H1=>∃(j:Nat),n=j/\j<=s.vars.length/\H1=H/\e1=[(0,Up w),(1,.c (.str name)),(5,Uv ((j:Int)-1))]) s.vars.length ?_ ?_))
 ·exact⟨s.vars.length,rfl,ZA,Rf0⟩
 ·rintro n e1 H1 ⟨j,yJ,hj,rfl,rfl⟩;refine Wa ?_;refine Wt ?_ ?_
  ·intro hc;have tf:1<=j:=by simp at hc;omega
   obtain⟨i,rfl⟩:∃i,j=i+1:=⟨j-1,ZA⟩;have e1:(((i+1:Nat):Int)-1)=(i:Int):=ZA
   have af:i<s.vars.length:=ZA
   obtain⟨nm,a,b,hr⟩:=h.rv _ (Jb af);have bd:List.getD s.vars i []=[.str nm,Ui a,Ui b]:=by rw[<-hr];simp[Jd,af]
   rw[e1]at hc⊢;refine Wo ?_;simp only[go_sem,hw,LS.o,ou,ji,bH,mi,vW,af,bd];refine Wu ?_ ?_
   ·intro aC;refine Qa ?_;simp only[go_sem,hw,LS.o,ou,ji,bH,mi,vW,af,bd];refine Zn ?_;exact retf _ _ ZJ
   ·intro aC;refine Wl ?_;exact⟨Qv,i,ZA,i,rfl,ZA,rfl⟩
  ·intro hc;refine Wb ?_;refine Ql ?_;exact retf _ _ ZJ
def FP (n:Nat):Prop:=∀(x:Ex) (F H:Heap) (w:Nat) (s:LS) (N:Nat) (K:V->Heap->Prop),x.size<=n->x.ok->LInv F H w s->s.at_<s.blocks.length->s.ok N->N+10 * x.size<=2^38->
  (∀(v:Int) (s':LS) (H':Heap),LInv F H' w s'->LStep s s' (10 * x.size)->K (.c (.int .i64 v)) H')->Qu prog Qwz [.c (.ptr w 0),.ag x.cells] H K
def AndL (n:Nat):Prop:=∀(x:Ex) (F H:Heap) (w:Nat) (s:LS) (N:Nat) (K:V->Heap->Prop),x.size<=n->x.ok->x.op=10->LInv F H w s->s.at_<s.blocks.length->s.ok N->N+10 * x.size<=2^38->
  (∀(v:Int) (s':LS) (H':Heap),LInv F H' w s'->LStep s s' (10 * x.size)->K (.c (.int .i64 v)) H')->Qu prog Sn [.c (.ptr w 0),.ag x.cells] H K
theorem Qa6g {n:Nat}(hE:∀m,m<n->FP m):AndL n:=by
 intro x F H w s N K hn aq bB h bu aK hN hK;have br:=x.size_kids;have fQ:=Ex.ok_and aq bB;have gY:=Ex.ok_kids aq;obtain⟨a,b,eP⟩:∃a b,x.kids=[a,b]:=by
  match hx:x.kids,fQ with
  |[a,b],_=>exact⟨a,b,rfl⟩
 rw[eP]at br gY;simp only[C8,CT]at br gY;refine Qd Co Qami ?_;refine Zv ?_;refine Qa ?_;simp only[go_sem,eP,C5,Ex.cG,Ex.b6,Ex.aA,J1];refine⟨ZA,?_⟩;refine hE a.size ZA a F H w s N _ (Je _) gY.1 h bu aK ZA λva s1 H1 h1 st1=>?_;simp only[go_sem,Qu3];refine Za ?_;refine Gz h1 (st1.ok _ aK) ZA λs2 H2 h2 st2=>?_;have st2:=st1.trans st2;simp only[go_sem,Qu5];refine E7 (args:=[]) h2 (st2.at_ bu) (st2.ok _ aK) ZA λs3 H3 h3 st3=>?_;have st3:=st2.trans st3;simp only[go_sem,Qu4];refine Za ?_;refine FD h3 (st3.ok _ aK) ZA λs4 H4 h4 st4 BI=>?_;have st4':=st4;have st4:=st3.trans st4;simp only[go_sem,Qu6];refine Za ?_;refine FD h4 (st4.ok _ aK) ZA λs5 H5 h5 st5 BH=>?_;have st5:=st4.trans st5;simp only[go_sem,Qu7];refine Za ?_;refine F1 (next:=[(s3.blocks.length:Int),(s4.blocks.length:Int)]) (N:=0) h5 (st5.at_ bu) ZA λs6 H6 h6 st6=>?_;have BG:=st6.bl;have st6:=st5.trans st6;refine Qa ?_;simp only[go_sem,Ex.cG,Ex.b6,Ex.aA,J1,Jab];refine⟨ZA,?_⟩;refine hE b.size ZA b F H6 w s6 _ _ (Je _) gY.2.1 h6 (st6.at_ bu) (st6.ok _ aK) ZA λvb s7 H7 h7 st7=>?_;have BF:=st7.bl;have st7:=st6.trans st7;simp only[go_sem,Qu8];refine Za ?_;refine Gz h7 (st7.ok _ aK) ZA λs8 H8 h8 st8=>?_;have hb8:=st8.bl;have st8:=st7.trans st8;simp only[go_sem,Qu9];refine E7 (args:=[vb]) h8 (st8.at_ bu) (st8.ok _ aK) ZA λs9 H9 h9 st9=>?_;have hb9:=st9.bl;have st9:=st8.trans st9;simp only[go_sem,PK];refine Za ?_;refine E7 (args:=[s7.ae]) h9 (st9.at_ bu) (st9.ok _ aK) ZA λs10 H10 dh st10=>?_;have hb10:=st10.bl;have st10:=st9.trans st10;refine Za ?_;refine F1 (next:=[(s4.blocks.length:Int)]) (N:=0) dh (st10.at_ bu) ZA λs11 H11 eC st11=>?_;have st11:=st10.trans st11;refine Wj ?_;exact hK _ s11 H11 eC (st11.mono ZA)
theorem Qa3r {n:Nat}(hA:AndL n)(hE:∀m,m<n->FP m):FP n:=by
 intro x F H w s N K hn aq h bu aK hN hK;have br:=x.size_kids;have gY:=Ex.ok_kids aq;refine Qd Co Qaih ?_;have retf:∀(v:Int) (e:Env) (s':LS) (H':Heap),LInv F H' w s'->LStep s s' (10 * x.size)->lk 4 e=Uv v->Q5 Cp K .ret e H':=by
  intro v e s' H' a1 a2 h1;simp only[go_sem,Q5,Cn,Ja,forall_eq,RS.op,h1];exact hK _ _ _ a1 a2
 refine Zv ?_;refine Wa ?_;refine We ?_;refine Wu ?_ ?_
 ·intro hc;refine Zu ?_;refine Gz h aK ZA λs1 H1 h1 st1=>?_;simp only[go_sem,Qrs];refine E7 (args:=[]) h1 (st1.at_ bu) (st1.ok _ aK) ZA λs2 H2 h2 st2=>?_;simp only[go_sem,Qrr];refine Zk ?_;exact retf _ _ s2 H2 h2 ((st1.trans st2).mono ZA) ZJ
 intro bN;refine Za ?_;refine Wu ?_ ?_
 ·intro hc;refine Za ?_;refine Ov h λv=>?_;simp only[go_sem,Qrt];refine Zk ?_;exact retf _ _ s H h ((LStep.refl s).mono ZA) ZJ
 intro aC;refine Za ?_;refine Wu ?_ ?_
 ·intro hc;have bB:x.op=10:=ZD
  refine Za ?_;rw[<-x.aG];refine hA x F H w s N _ hn aq bB h bu aK hN λv s1 H1 h1 st1=>?_;simp only[go_sem,Qru];refine Zk ?_;exact retf _ _ s1 H1 h1 st1 ZJ
 intro bv;refine Ze ?_;refine Wi ?_;refine Qh (Qe (Qy (λn e1 H1=>∃(i:Nat) (ars:List Int) (c:C) (Lg:Ul) (s':LS),n=x.kids.length-i/\i<=x.kids.length/\ars.length=i/\Gr Lg 1 (Qb ars) c/\LInv F H1 w s'/\Kn F H1 [] (s'.L w++Lg)/\
  LStep s s' (10 * C8 (x.kids.take i))/\e1=[(0,Up w),(3,.c (.pp [Ui x.op,Ui x.n,.str x.name,.sl false 4 (C5 x.kids)])),(5,.c c),(6,Uv i)]) x.kids.length ?_ ?_))
 ·exact⟨0,[],_,[],s,ZA,ZA,rfl,.nil 1,h,by simpa using h.kn,(LStep.refl s).mono ZA,rfl⟩
 ·rintro n e1 H1 ⟨i,ars,c,Lg,s1,dg,hi,pk,ax,h1,kn,st1,rfl⟩;refine Q1 (Qa ?_);simp only[go_sem,DC];intro hl;simp only[LIM]at hl;refine Wt ?_ ?_
  ·intro hc;have af:i<x.kids.length:=ZD
   have hm:=I7 (Jb af);have bQ:=Sl af;have oz:=SP x.kids (i+1);refine Ze ?_;refine Qh (Qe (Qt ?_));simp only[go_sem,af,DC,GU _ _ af,Ex.cG,Ex.b6,Ex.aA];obtain⟨F',hf,back⟩:=h1.beside kn ax;refine hE x.kids[i].size ZA _ F' H1 w s1 _ _ (Je _) (Q5d gY _ (Jb af)) hf (st1.at_ bu) (st1.ok _ aK) ZA λv s2 H2 h2 st2=>?_;obtain⟨h2,kn⟩:=back s2 H2 h2;simp only[go_sem,Qrw];refine kn.grow (new:=Qb [v]) ax (.mk' _ _ _ _) (Qr _) (by simp only[Qc,pk,Jj,Jm,LIM];omega) λy' H3 kn=>?_;simp only[go_sem,Qrv];refine Zg ?_;refine⟨Qv,x.kids.length-(i+1),ZA,i+1,ars++[v],_,_,s2,rfl,ZA,by simp[pk],.mk y' 1 (Qb (ars++[v])) (n:=(Qb ars).length+(Qb [v]).length) Zap,h2.re kn.drop,by rw[Ec];exact kn,(st1.trans st2).mono (by rw[bQ];omega),Zap⟩
  ·intro hc;have bp:x.kids.length<=i:=ZD
   rw[Jc bp]at st1;refine Zb ?_;refine Q1 (Q1 ?_);obtain⟨S,H2,f1,f2,kn2⟩:=ax.freeze kn (Qr _);have h2:=h1.re kn2;refine c_gh (Fe S (λt=>?_) f2) (e':=[(0,Up w),(3,.c (.pp [Ui x.op,Ui x.n,.str x.name,.sl false 4 (C5 x.kids)])),(5,.c (.sl false 1 (Qb ars)))]) ?_
   ·simp only[lk];split
    ·exact .c _ _ (.same _ rfl)
    ·split
     ·exact .c _ _ (.same _ rfl)
     ·split
      ·exact .c _ _ f1
      ·exact .unk _
   refine Za ?_;refine We ?_;refine Wu ?_ ?_
   ·intro hc;refine Za ?_;refine Gz h2 (st1.ok _ aK) ZA λs3 H3 h3 st3=>?_;have st3:=st1.trans st3;simp only[go_sem,Qn2];refine E7 h3 (st3.at_ bu) (st3.ok _ aK) ZA λs4 H4 h4 st4=>?_;simp only[go_sem,Qn1];refine Zk ?_;exact retf _ _ s4 H4 h4 ((st3.trans st4).mono ZA) ZJ
   intro dz;refine Za ?_;refine Wu ?_ ?_
   ·intro hc;refine Za ?_;refine Gz h2 (st1.ok _ aK) ZA λs3 H3 h3 st3=>?_;have st3:=st1.trans st3;simp only[go_sem,Qn4];refine E7 h3 (st3.at_ bu) (st3.ok _ aK) ZA λs4 H4 h4 st4=>?_;simp only[go_sem,Qn3];refine Zk ?_;exact retf _ _ s4 H4 h4 ((st3.trans st4).mono ZA) ZJ
   intro fw;refine Za ?_;refine Wu ?_ ?_
   ·intro hc;have ot:=h2.hw;refine Cv ?_;simp only[go_sem,ot,LS.o];refine Gz h2 (st1.ok _ aK) ZA λs3 H3 h3 st3=>?_;have tN:=h3.hw;have ib:=st3.fn;have st3:=st1.trans st3;simp only[go_sem,Qn7,tN,LS.o,ib.1,ib.2];refine Qa6c λq=>?_;simp only[go_sem,Qn6];refine E7 h3 (st3.at_ bu) (st3.ok _ aK) ZA λs4 H4 h4 st4=>?_;simp only[go_sem,Qn5];refine Zk ?_;exact retf _ _ s4 H4 h4 ((st3.trans st4).mono ZA) ZJ
   intro BC;refine Ze ?_;refine Zu ?_;refine Gz h2 (st1.ok _ aK) ZA λs3 H3 h3 st3=>?_;have st3:=st1.trans st3;simp only[go_sem,Qn9];refine E7 h3 (st3.at_ bu) (st3.ok _ aK) ZA λs4 H4 h4 st4=>?_;simp only[go_sem,Qn8];refine Ql ?_;exact retf _ _ s4 H4 h4 ((st3.trans st4).mono ZA) ZJ
theorem O0 (n:Nat):FP n:=by
 induction n using Nat.strongRecOn with
 |ind n ih=>exact Qa3r (Qa6g ih) ih
theorem T6:∀(n:Nat) (l:List St) {fl:Bool} {H:Heap} {K:Uk},Q9 l<=n->Q9 l<=2^40->(∀v:Nat,v<=Q9 l->K (Uv v) H)->Qu prog MO [.c (.sl fl 5 (Cw l))] H K:=by
 intro n
 induction n using Nat.strongRecOn with
 |ind n ih=>
 intro l fl H K hn hb hK;have ak:=Oq l;refine Qd Co TK ?_;refine Wd ?_;refine Wa ?_;refine Qh (Qe (Qy (λn e1 H1=>∃(i v:Nat),n=l.length-i/\i<=l.length/\v<=Q9 (l.take i)/\H1=H/\e1=[(0,.c (.sl fl 5 (Cw l))),(3,Uv v),(4,Uv i)]) l.length ?_ ?_))
 ·exact⟨0,0,ZA,ZA,ZA,Rf0⟩
 ·rintro n e1 H1 ⟨i,v,dg,hi,hv,rfl,rfl⟩;refine Q1 (Qa ?_);simp only[go_sem,DK];intro hl;simp only[LIM]at hl;refine Wt ?_ ?_
  ·intro hc;have af:i<l.length:=ZD
   have hm:=Pm (Jb af);have bQ:=Sb af;have oz:=SI l (i+1);have sU:=(l[i]'af).size_eq;refine Wn ?_;simp only[go_sem,af,DK,GR _ _ af,St.aG];refine Yo ?_;obtain⟨t,ht,wb⟩:∃t:Nat,(if decide (l[i].op=1)=true then (1:Int)else 0)=t/\t<=1:=by
    by_cases h:l[i].op=1
    ·exact⟨1,Zbd,Je _⟩
    ·exact⟨0,Zbd,ZA⟩
   simp only[go_sem,Q92,af,DK,GR _ _ af,St.aG,ht];refine⟨Qv,?_⟩;refine ih (Q9 l[i].body) ZA l[i].body (Je _) ZA λa ha=>?_;simp only[go_sem,Q91,af,DK,GR _ _ af,St.aG];refine⟨Qv,?_⟩;refine ih (Q9 l[i].els) ZA l[i].els (Je _) ZA λc hc=>?_;simp only[go_sem,Q90];refine⟨Qv,?_⟩;refine Zg ?_;refine⟨Qv,l.length-(i+1),ZA,i+1,v+t+a+c,rfl,ZA,ZA,rfl⟩
  ·intro hc;have bp:l.length<=i:=ZD
   refine Wb ?_;refine Zd ?_;rw[Jc bp]at hv;exact hK v ZA
def O5 (n:Nat):Prop:=∀(x:St) (F H:Heap) (w:Nat) (s:LS) (N:Nat) (K:V->Heap->Prop),x.size<=n->x.ok->LInv F H w s->s.at_<s.blocks.length->s.ok N->N+10 * x.size<=2^38->
  (∀(s':LS) (H':Heap),LInv F H' w s'->LStep s s' (10 * x.size)->K (.tup []) H')->Qu prog Qw2 [.c (.ptr w 0),.ag x.cells] H K
def Qa8h (n:Nat):Prop:=∀(x:St) (F H:Heap) (w:Nat) (s:LS) (N:Nat) (K:V->Heap->Prop),x.size<=n->x.ok->LInv F H w s->s.at_<s.blocks.length->s.ok N->N+10 * x.size<=2^38->
  (∀(s':LS) (H':Heap),LInv F H' w s'->LStep s s' (10 * x.size)->K (.tup []) H')->Qu prog Qw1 [.c (.ptr w 0),.ag x.cells] H K
def FY (n:Nat):Prop:=∀(l:List St) (fl:Bool) (F H:Heap) (w:Nat) (s:LS) (N:Nat) (K:V->Heap->Prop),Q9 l<=n->CJ l->LInv F H w s->s.at_<s.blocks.length->s.ok N->N+10 * Q9 l<=2^38->
  (∀(s':LS) (H':Heap),LInv F H' w s'->LStep s s' (10 * Q9 l)->K (.tup []) H')->Qu prog Qs5 [.c (.ptr w 0),.c (.sl fl 5 (Cw l))] H K
theorem Xt {n:Nat}(hS:O5 n):FY n:=by
 intro l fl F H w s N K hn aq h bu aK hN hK;have hw:=h.hw;obtain⟨ou,ji⟩:=h.vget;have bH:=h.gv.ay;have mi:=h.gv.ai;refine Qd Co Qafd ?_;refine Qa ?_;simp only[go_sem,hw,LS.o,ou,bH,mi];intro Ba;refine Wa ?_;refine Qh (Qe (Qy (λn e1 H1=>∃(i:Nat) (s':LS),n=l.length-i/\i<=l.length/\LInv F H1 w s'/\LStep s s' (10 * Q9 (l.take i))/\e1=[(0,Up w),(1,.c (.sl fl 5 (Cw l))),(4,.c (Ui s.vars.length)),(5,Uv i)]) l.length ?_ ?_))
 ·exact⟨0,s,ZA,ZA,h,(LStep.refl s).mono ZA,rfl⟩
 ·rintro n e1 H1 ⟨i,s1,dg,hi,h1,st1,rfl⟩;refine Q1 (Qa ?_);simp only[go_sem,DK];intro hl;simp only[LIM]at hl;refine Wt ?_ ?_
  ·intro hc;have af:i<l.length:=ZD
   have hm:=Pm (Jb af);have bQ:=Sb af;have oz:=SI l (i+1);refine Ze ?_;refine Qh (Qe (Qt ?_));simp only[go_sem,af,DK,GR _ _ af,St.take5,St.b6,St.aA];refine hS l[i] F H1 w s1 _ _ ZA (VF aq _ (Jb af)) h1 (st1.at_ bu) (st1.ok _ aK) ZA λs2 H2 h2 st2=>?_;refine Zg ?_;exact⟨Qv,l.length-(i+1),ZA,i+1,s2,rfl,ZA,h2,(st1.trans st2).mono (by rw[bQ];omega),rfl⟩
  ·intro hc;have bp:l.length<=i:=ZD
   rw[Jc bp]at st1;have ir:=h1.hw;obtain⟨qR,hv2'⟩:=h1.vget;have f9:=h1.gv.ay;have hvo':=h1.gv.ai;have hve':=h1.gv.aQ;have tR:=st1.vl;have xT:∀r∈s1.vars.take s.vars.length,VarRow r:=λr hr=>h1.rv r (List.mem_of_mem_take hr);have fin:∀(H2:Heap) (c:C),H2=H1.set w (LS.o { s1 with vc:=c })->VGr s1.lv (s1.vars.take s.vars.length) c->Q5 CQ K .nrm [] H2:=by
    intro H2 c h2 hg;simp only[Q5,Cn,CQ];refine⟨ZC,hK { s1 with vc:=c,vars:=s1.vars.take s.vars.length } H2 (h1.setw h2 rfl rfl rfl rfl hg xT) ⟨st1.bl,λM hM=>?_,by simp;omega,st1.at_,st1.fn⟩⟩;have:=st1.ok M hM;exact⟨this.r0,this.r1,this.n0,this.n1,this.b1,this.i1,by have:=this.v1;simp;omega⟩
   refine Zb ?_;refine Qt ?_;rcases h1.gv with ⟨g1,g2,g3⟩|⟨y,all,k,g1,g2,g3,g4⟩
   ·have hz:s.vars.length=0:=(by rw[g2]at tR;simpa using tR);simp only[go_sem,ir,LS.o,g1,hz,Jao,List.drop_nil];refine⟨⟨ZA,ZA⟩,λH2 h2=>?_⟩;refine fin H2 (.sl true 3 []) h2 (.inl ⟨rfl,by rw[g2];simp,g3⟩)
   ·rw[g1]at qR f9;have hk:k=s1.vars.length:=(by simpa[ay]using f9);simp only[go_sem]at qR;simp only[go_sem,ir,LS.o,g1,qR];refine⟨⟨ZA,ZA⟩,λH2 h2=>?_⟩;refine fin H2 (.ah y 3 0 (s.vars.length-0)) h2 (.inr ⟨y,all,s.vars.length-0,rfl,ZA,?_,g4⟩);rw[g3,List.take_take];congr 1;omega
theorem T3 {n:Nat}(hS:∀m,m<n->FY m):Qa8h n:=by
 intro x F H w s N K hn aq h bu aK hN hK;have br:=x.size_eq;rw[St.ok_eq]at aq;obtain⟨lx,As,ck,B4⟩:=aq;have BJ:=I7 (Jb lx);refine Qd Co Qaij ?_;refine Zv ?_;refine Za ?_;refine FD h aK ZA λs1 H1 h1 st1 bm=>?_;simp only[go_sem,Qrx];refine Za ?_;refine FD h1 (st1.ok _ aK) ZA λs2 H2 h2 st2 cC=>?_;have st2:=st1.trans st2;simp only[go_sem,Qry];refine Za ?_;refine FD h2 (st2.ok _ aK) ZA λs3 H3 h3 st3 pg=>?_;have st3:=st2.trans st3;simp only[go_sem,Qrz];refine Za ?_;refine F1 (next:=[(s.blocks.length:Int)]) (N:=0) h3 (st3.at_ bu) ZA λs4 H4 h4 st4=>?_;have BI:=st4.bl;have st4:=st3.trans st4;refine Qa ?_;simp only[go_sem,lx,DC,GU _ _ lx,Ex.cG,Ex.b6,Ex.aA];refine⟨ZA,?_⟩;refine O0 _ x.args[0] F H4 w s4 _ _ (Je _) (Q5d As _ (Jb lx)) h4 (st4.at_ bu) (st4.ok _ aK) ZA λv s5 H5 h5 st5=>?_;have BH:=st5.bl;have st5:=st4.trans st5;simp only[go_sem,ID];refine Za ?_;refine F1 (next:=[(s1.blocks.length:Int),(s2.blocks.length:Int)]) (N:=0) h5 (st5.at_ bu) ZA λs6 H6 h6 st6=>?_;have BG:=st6.bl;have st6:=st5.trans st6;refine Za ?_;refine hS (Q9 x.body) ZA x.body _ F H6 w s6 _ _ (Je _) ck h6 (st6.at_ bu) (st6.ok _ aK) ZA λs7 H7 h7 st7=>?_;have BF:=st7.bl;have st7:=st6.trans st7;refine Zh ?_;refine F1 (next:=[(s.blocks.length:Int)]) (N:=0) h7 (st7.at_ bu) ZA λs8 H8 h8 st8=>?_;have st8:=st7.trans st8;simp only[Q5,Cn,CQ];exact⟨ZC,hK s8 H8 h8 (st8.mono ZA)⟩
theorem Qa1o {n:Nat}(hS:∀m,m<n->FY m):O5 n:=by
 intro x F H w s N K hn aq h bu aK hN hK;have rB:=aq;have br:=x.size_eq;rw[St.ok_eq]at aq;obtain⟨lx,As,ck,B4⟩:=aq;refine Qd Co Qaik ?_;have retn:∀(e:Env) (s':LS) (H':Heap) (q:X),(q=.nrm\/q=.ret)->LInv F H' w s'->LStep s s' (10 * x.size)->Q5 CQ K q e H':=by
  intro e s' H' q hq a1 a2;rcases hq with rfl|rfl <;> exact⟨by simp[CQ],hK s' H' a1 a2⟩
 refine Zv ?_;refine Wa ?_;refine Wt ?_ ?_
 ·intro hc;refine Za ?_;rw[<-x.aG];refine T3 hS x F H w s N _ hn rB h bu aK hN λs1 H1 h1 st1=>?_;simp only[HU];refine Zk ?_;exact retn _ s1 H1 _ (.inr rfl) h1 st1
 intro dk;refine Ze ?_;refine Wi ?_;refine Qh (Qe (Qy (λn e1 H1=>∃(i:Nat) (ars:List Int) (c:C) (Lg:Ul) (s':LS),n=x.args.length-i/\i<=x.args.length/\ars.length=i/\Gr Lg 1 (Qb ars) c/\LInv F H1 w s'/\Kn F H1 [] (s'.L w++Lg)/\
  LStep s s' (10 * C8 (x.args.take i))/\e1=[(0,Up w),(3,.c (.pp [Ui x.op,.str x.name,.sl false 4 (C5 x.args),.sl false 5 (Cw x.body),.sl false 5 (Cw x.els)])),(4,.c c),(5,Uv i)]) x.args.length ?_ ?_))
 ·exact⟨0,[],_,[],s,ZA,ZA,rfl,.nil 1,h,by simpa using h.kn,(LStep.refl s).mono ZA,rfl⟩
 ·rintro n e1 H1 ⟨i,ars,c,Lg,s1,dg,hi,v8,ax,h1,kn,st1,rfl⟩;refine Q1 (Qa ?_);simp only[go_sem,DC];intro hl;simp only[LIM]at hl;refine Wt ?_ ?_
  ·intro hc;have af:i<x.args.length:=ZD
   have hm:=I7 (Jb af);have bQ:=Sl af;have oz:=SP x.args (i+1);refine Ze ?_;refine Qh (Qe (Qt ?_));simp only[go_sem,af,DC,GU _ _ af,Ex.cG,Ex.b6,Ex.aA];obtain⟨F',hf,back⟩:=h1.beside kn ax;refine O0 _ _ F' H1 w s1 _ _ (Je _) (Q5d As _ (Jb af)) hf (st1.at_ bu) (st1.ok _ aK) ZA λv s2 H2 h2 st2=>?_;obtain⟨h2,kn⟩:=back s2 H2 h2;simp only[go_sem,Qr1];refine kn.grow (new:=Qb [v]) ax (.mk' _ _ _ _) (Qr _) (by simp only[Qc,v8,Jj,Jm,LIM];omega) λy' H3 kn=>?_;simp only[go_sem,Qr0];refine Zg ?_;refine⟨Qv,x.args.length-(i+1),ZA,i+1,ars++[v],_,_,s2,rfl,ZA,by simp[v8],.mk y' 1 (Qb (ars++[v])) (n:=(Qb ars).length+(Qb [v]).length) Zap,h2.re kn.drop,by rw[Ec];exact kn,(st1.trans st2).mono (by rw[bQ];omega),Zap⟩
  ·intro hc;have bp:x.args.length<=i:=ZD
   have cK:i=x.args.length:=ZA
   rw[Jc bp]at st1;have lw:0<ars.length:=ZA
   refine Zb ?_;refine Q1 ?_;obtain⟨S,H2,f1,f2,kn2⟩:=ax.freeze kn (Qr _);have h2:=h1.re kn2;refine c_gh (Fe S (λt=>?_) f2) (e':=[(0,Up w),(3,.c (.pp [Ui x.op,.str x.name,.sl false 4 (C5 x.args),.sl false 5 (Cw x.body),.sl false 5 (Cw x.els)])),(4,.c (.sl false 1 (Qb ars)))]) ?_
   ·simp only[lk];split
    ·exact .c _ _ (.same _ rfl)
    ·split
     ·exact .c _ _ (.same _ rfl)
     ·split
      ·exact .c _ _ f1
      ·exact .unk _
   have dH:=st1.ok _ aK;have lu:=st1.at_ bu;have ot:=h2.hw;refine Za ?_;refine Wr ?_;refine Wu ?_ ?_
   ·
    intro hc;refine Qa ?_;simp only[go_sem,ot,LS.o];refine E7 h2 lu dH ZA λs3 H3 h3 st3=>?_;have tN:=h3.hw;have mi:=h3.gv.ai;have mw:=st3.ok _ dH;have st3:=st1.trans st3;simp only[go_sem];refine Cv ?_;simp only[go_sem,tN,LS.o,mi];refine h3.addVar ⟨x.name,s3.next,0,rfl⟩ (by have:=mw.v1;simp only[LIM];omega) λy H4 tM cont=>?_;simp only[go_sem,Qr2,tM,LS.o];intro H5 h5;have wF:=cont H5 h5;have xq:=wF.hw;refine Qt ?_;have cq:=mw.n0;have dg:=mw.n1;simp only[go_sem,xq,LS.o];refine⟨Qv,λH6 h6=>?_⟩;have h6':=wF.setw (s':={ s3 with vc:=.ah y 3 0 (s3.vars.length+1),lv:=[(y,.vec 3 (s3.vars++[[C.str x.name,C.int IntKind.i64 s3.next,C.int IntKind.i64 0]]))],vars:=s3.vars++[[C.str x.name,C.int IntKind.i64 s3.next,C.int IntKind.i64 0]],next:=s3.next+1 }) h6 rfl rfl rfl rfl wF.gv wF.rv;refine retn _ _ H6 _ (.inl rfl) h6' ⟨st3.bl,λM hM=>?_,?_,st3.at_,st3.fn⟩
    ·have q:=st3.ok M hM;refine⟨q.r0,?_,?_,?_,?_,λb hb=>?_,?_⟩
     ·have:=q.r1;show s3.ae<=_;omega
     ·have:=q.n0;show 0<=s3.next+1;omega
     ·have:=q.n1;show s3.next+1<=_;omega
     ·have:=q.b1;show s3.blocks.length<=_;omega
     ·have:=q.i1 b hb;omega
     ·have:=q.v1;simp;omega
    ·have:=st3.vl;simp;omega
   intro bN;refine Za ?_;refine Wu ?_ ?_
   ·
    intro hc;refine Zh ?_;refine Ov h2 λv=>?_;simp only[go_sem,Qr3];refine E7 h2 lu dH ZA λs3 H3 h3 st3=>?_;exact retn _ _ H3 _ (.inl rfl) h3 ((st1.trans st3).mono ZA)
   intro aC;refine Za ?_;refine Wu ?_ ?_
   ·intro hc;refine Zh ?_;refine E7 h2 lu dH ZA λs3 H3 h3 st3=>?_;exact retn _ _ H3 _ (.inl rfl) h3 ((st1.trans st3).mono ZA)
   intro bv;refine Za ?_;refine Wu ?_ ?_
   ·intro hc;refine Zh ?_;refine E7 h2 lu dH ZA λs3 H3 h3 st3=>?_;exact retn _ _ H3 _ (.inl rfl) h3 ((st1.trans st3).mono ZA)
   intro dz;refine Za ?_;refine Wu ?_ ?_
   ·
    intro hc;refine C7 ?_;simp only[go_sem,lw,Qc,Qk _ _ lw];refine⟨ZA,?_⟩;refine FD h2 dH ZA λs3 H3 h3 st3 pg=>?_;have st3:=st1.trans st3;simp only[go_sem,Qoa,lw,Qc,Qk _ _ lw];refine⟨ZA,?_⟩;refine F1 (next:=[]) (N:=0) h3 (st3.at_ bu) ZA λs4 H4 h4 st4=>?_;exact retn _ _ H4 _ (.inl rfl) h4 ((st3.trans st4).mono ZA)
   intro fw;refine Za ?_;refine Wu ?_ ?_
   ·
    intro hc;refine Za ?_;refine FD h2 dH ZA λs3 H3 h3 st3 pg=>?_;have st3:=st1.trans st3;simp only[go_sem,Qob];refine Za ?_;refine FD h3 (st3.ok _ aK) ZA λs4 H4 h4 st4 BI=>?_;have st4:=st3.trans st4;simp only[go_sem,Qoc];refine Za ?_;refine FD h4 (st4.ok _ aK) ZA λs5 H5 h5 st5 BH=>?_;have st5:=st4.trans st5;simp only[go_sem,Qod];refine Qa ?_;simp only[go_sem,lw,Qc,Qk _ _ lw];refine⟨ZA,?_⟩;refine F1 (next:=[(s1.blocks.length:Int),(s3.blocks.length:Int)]) (N:=0) h5 (st5.at_ bu) ZA λs6 H6 h6 st6=>?_;have BG:=st6.bl;have st6:=st5.trans st6;refine Za ?_;refine hS (Q9 x.body) ZA x.body _ F H6 w s6 _ _ (Je _) ck h6 (st6.at_ bu) (st6.ok _ aK) ZA λs7 H7 h7 st7=>?_;have BF:=st7.bl;have st7:=st6.trans st7;refine Za ?_;refine F1 (next:=[(s4.blocks.length:Int)]) (N:=0) h7 (st7.at_ bu) ZA λs8 H8 h8 st8=>?_;have hb8:=st8.bl;have st8:=st7.trans st8;refine Za ?_;refine hS (Q9 x.els) ZA x.els _ F H8 w s8 _ _ (Je _) B4 h8 (st8.at_ bu) (st8.ok _ aK) ZA λs9 H9 h9 st9=>?_;have hb9:=st9.bl;have st9:=st8.trans st9;refine Zh ?_;refine F1 (next:=[(s4.blocks.length:Int)]) (N:=0) h9 (st9.at_ bu) ZA λs10 H10 dh st10=>?_;exact retn _ _ H10 _ (.inl rfl) dh ((st9.trans st10).mono ZA)
   ·intro BC;refine Ze ?_;exact retn _ _ H2 _ (.inl rfl) h2 (st1.mono ZA)
theorem Qa78 (n:Nat):FY n:=by
 induction n using Nat.strongRecOn with
 |ind n ih=>exact Xt (Qa1o ih)
end Y
namespace Y
open Go.Proofs.Tryz
theorem Qa7b{k:Nat}(hk:k<fns.length)(db:fns[k].params.length<=3)(ck:CJ fns[k].body)(lr:Q9 fns[k].body<=2^34)
  (hK:∀(c:CodeD) (H':Heap),Upd H H' []->c.fits->K (.ag c.cells) H'):Qu prog KO [.ag [.sl fl 3 (CC fns)],Uv k] H K:=by
 refine Q0 ?_;refine Qd Co Qa7h ?_;refine Za ?_;intro x4 bh H1 h1;have kn:=(Kn.an H).al bh h1;refine Qa ?_;simp only[go_sem,hk,Eb,I5 _ _ hk,Fn.take3,Fn.b6,Fn.aA];generalize fns[k]=f at *;intro x5 bt H2 h2;have kn:=kn.al bt h2;have mc:=kn.l 1 rfl;simp only[go_sem,Pp,mc,Fn.cells];intro H3 h3;have kn:Kn H H3 [] [(x4,.st [Ui 0,Ui 0,.sl true 5 []]),(x5,.st [.str f.name,.sl false 1 (CO f.params),.sl false 5 (Cw f.body)])]:=kn.az 1 rfl h3;have qJ:=kn.l 0 rfl;have fm:=kn.l 1 rfl;have h45:=kn.neL 0 1 rfl rfl ZN;refine Qa ?_;simp only[go_sem,fm,D1];intro rx w hw H4 h4;have h:LInv H3 H4 w ⟨fns,fl,0,0,.sl true 5 [],[],[],0,.sl true 3 [],[],[],f.params.length⟩:=
  ⟨(Kn.an H3).al hw h4,.nil 5,.inl ⟨rfl,Rf0⟩,ZC,ZC,ZC⟩
 have ew:∀(s:LS) (H':Heap),LInv H3 H' w s->H' x4=.st [Ui 0,Ui 0,.sl true 5 []]/\H' x5=.st [.str f.name,.sl false 1 (CO f.params),.sl false 5 (Cw f.body)]:=λs H' h'=>
  ⟨by rw[h'.kn.chg x4 (by rw[qJ];simp) ZC,qJ],by rw[h'.kn.chg x5 (by rw[fm];simp) ZC,fm]⟩
 have gO:=(ew _ _ h).2;have tM:=h.hw;simp only[go_sem,Mn];refine Qa ?_;simp only[go_sem,gO,tM,LS.o,D1];intro _ H5 h5;have h:=h.setw (s':=⟨fns,fl,f.params.length,0,.sl true 5 [],[],[],0,.sl true 3 [],[],[],f.params.length⟩) h5 rfl rfl rfl rfl h.gv h.rv;have om:=(ew _ _ h).2;refine Cv ?_;simp only[go_sem,om,D1];refine T6 _ f.body (Je _) ZA λv hv=>?_;have xq:=h.hw;simp only[go_sem,Mm,om,xq,LS.o,D1];refine⟨Qv,λH6 h6=>?_⟩;have h:=h.setw (s':=⟨fns,fl,f.params.length,(f.params.length:Int)+v,.sl true 5 [],[],[],0,.sl true 3 [],[],[],f.params.length⟩) h6 rfl rfl rfl rfl h.gv h.rv;refine Wa ?_;refine Qh (Qe (Qy (λn e1 H1=>∃(i:Nat) (s':LS),n=f.params.length-i/\i<=f.params.length/\LInv H3 H1 w s'/\s'.blocks=[]/\s'.at_=0/\s'.ae=(f.params.length:Int)+v/\s'.next=f.params.length/\s'.vars.length=i/\
  e1=[(4,Up x4),(5,Up x5),(6,Up w),(7,Uv i)]) f.params.length ?_ ?_))
 ·exact⟨0,_,ZA,ZA,h,Rf0⟩
 ·rintro n e1 H1 ⟨i,s,dg,hi,h,eB,vB,bI,cq,bH,rfl⟩;have tK:=(ew _ _ h).2;have ir:=h.hw;have mi:=h.gv.ai;refine Q1 (Qa ?_);simp only[go_sem,tK,D1];intro _;refine Wt ?_ ?_
  ·intro hc;have af:i<f.params.length:=ZD
   refine Wn ?_;simp only[go_sem,tK,ir,LS.o,mi,af,D1,Kj _ _ af];refine h.addVar ⟨_,_,_,rfl⟩ ZW λy H4 tM cont=>?_;simp only[go_sem,Ml,tM,LS.o];intro H5 h5;have h':=cont H5 h5;refine Zg ?_;exact⟨Qv,f.params.length-(i+1),ZA,i+1,_,rfl,ZA,h',eB,vB,bI,cq,by simp[bH],rfl⟩
  ·intro hc;refine Zb ?_;have aK:s.ok (3+v):=⟨by rw[bI];omega,by rw[bI];omega,by rw[cq];omega,by rw[cq];omega,by simp[eB],by simp[eB],ZA⟩;refine Za ?_;refine MW h aK ZA λs1 H4 h1 st1 bm lu=>?_;have bu:s1.at_<s1.blocks.length:=by rw[lu,vB];omega
   have dH:=st1.ok _ aK;refine Qa ?_;have gO:=(ew _ _ h1).2;simp only[go_sem,gO];refine Qa78 _ f.body _ H3 H4 w s1 _ _ (Je _) ck h1 bu dH ZA λs2 H5 h2 st2=>?_;refine Za ?_;refine Gz h2 (st2.ok _ dH) ZA λs3 H6 h3 st3=>?_;have st3:=st2.trans st3;simp only[go_sem,Mk];refine E7 (args:=[]) h3 (st3.at_ bu) (st3.ok _ dH) ZA λs4 H7 h4 st4=>?_;have st4:=st3.trans st4;simp only[go_sem,OU];have hbl4:=st4.bl;refine Za ?_;refine F1 (at':=0) (next:=[]) (N:=0) h4 (st4.at_ bu) ZA λs5 H8 h5 st5=>?_;have AX:=h5.hw;obtain⟨xf,hx58⟩:=ew _ _ h5;have dm:=h5.gb.ai;refine Qa ?_;simp only[go_sem,AX,xf,LS.o,dm];intro H9 h9;have xd:H9 x4=.st [Ui s5.params,Ui s5.ae,s5.bc]:=by rw[h9];exact Heap.aF _ _ _
   have wn:∀m,m≠x4->H9 m=H8 m:=λm hm=>by rw[h9];exact Heap.aj _ _ hm
   have xy:∀m,H m≠.none->H9 m=H m:=λm hm=>by
    have e1:=kn.chg m hm ZC;have e2:=h5.kn.chg m (by rw[e1];exact hm) ZC;rw[wn m (λhh=>by subst hh;exact hm (kn.free 0 rfl)),e2,e1]
   have qS:∀p∈s5.L w,H9 p.1=p.2/\un H p.1=true:=λp hp=>by
    have e1:=(h5.kn.get p (by simpa using hp)).1;have e2:=h5.kn.loc p hp;have be:p.1≠x4:=λhh=>(by rw[hh,qJ]at e2;simp at e2);refine⟨by rw[wn _ be,e1],Ef ?_⟩
    cases hh:H p.1 with
    |none=>rfl
    |_=>have:=kn.chg p.1 (by rw[hh];simp) ZC;rw[e2,hh]at this;simp at this
   refine Zm xd dm ?_;have kf:=(st4.trans st5).ok _ dH;obtain⟨bs,Ah,hbs2,Ag⟩:=LZ (H:=H9) (S:=un H) s5.blocks λb hb=>⟨h5.gi b hb,h5.ri b hb,λp hp=>qS p (by
    simp only[LS.L,Ji,J8];exact .inr (.inr (.inr ⟨b,hb,hp⟩))),by have:=kf.i1 b hb;omega⟩
   refine⟨.ag (CodeD.mk s5.params s5.ae bs).cells,FrzL.ag (.cons (Qg rfl) (.cons (Qg rfl) (.cons (Gr.frzM h5.gb (λp hp=>qS p (by
    simp only[LS.L,Ji];exact .inr (.inl hp))) Ah) .nil))),hK _ _ ⟨ZC,λm hm _=>?_⟩ Ag⟩
   rw[Hh hm];exact xy m hm
theorem T5(hp:PrOk fns)(hK:∀(cs:List CodeD) (H':Heap),Upd H H' []->0<cs.length->(∀c∈cs,c.fits)->K (.ag [.sl false 3 (Qm cs)]) H') :
  Qu prog MN [.ag [.sl fl 3 (CC fns)]] H K:=by
 refine Q0 ?_;refine Qd Co TJ ?_;refine Za ?_;intro x2 aL H1 h1;have kn:=(Kn.an H).al aL h1;refine Za ?_;intro x3 aO H2 h2;have kn:=kn.al aO h2;have jR:=kn.l 1 rfl;simp only[go_sem,PV,jR];intro H3 h3;have kn:Kn H H3 [] [(x2,.st [.sl true 3 []]),(x3,.st [.sl true 3 []])]:=kn.az 1 rfl h3;refine Wa ?_;refine Qh (Qe (Qy (λn e1 H1=>∃(i:Nat) (cs:List CodeD) (c:C) (Lg:Ul),n=fns.length-i/\i<=fns.length/\cs.length=i/\(∀c∈cs,c.fits)/\Gr Lg 3 (Qm cs) c/\Kn H H1 [] ([(x2,.st [.sl true 3 []]),(x3,.st [c])]++Lg)/\
  e1=[(1,.c (.pp [.sl fl 3 (CC fns)])),(2,Up x2),(3,Up x3),(4,Uv i)]) fns.length ?_ ?_))
 ·exact⟨0,[],_,[],ZA,ZA,rfl,ZC,.nil 3,kn,rfl⟩
 ·rintro n e1 H1 ⟨i,cs,c,Lg,dg,hi,cL,aT,ax,kn,rfl⟩;refine Q1 (Qa ?_);simp only[go_sem,Eb];intro hl;simp only[LIM]at hl;have bM:=ax.ai;have fP:=kn.l 1 rfl;refine Wt ?_ ?_
  ·intro hc;have af:i<fns.length:=ZD
   have hm:=Jb af;refine Wn ?_;simp only[go_sem,fP,bM];refine Qa7b af (hp.par _ hm) (hp.ok _ hm) (by have:=Sj hm;have:=hp.size;omega) λx H4 hu hxf=>?_;have kn:=kn.au hu;have me:=kn.l 1 rfl;simp only[go_sem,Q97,me,bM,CodeD.cells];refine kn.grow (B:=[_,_]) (new:=[x.cells]) ax (.mk' _ _ _ _) (by intro r hr;simp only[Ja]at hr;subst hr;rfl) (by simp only[Q8,LIM,Jj,Jm];omega) λy' H5 kn=>?_;have jQ:=kn.l 1 rfl;simp only[go_sem,Q96,jQ];intro H6 h6;have kn:=kn.az 1 rfl h6;refine Zg ?_;refine⟨Qv,fns.length-(i+1),ZA,i+1,cs++[x],_,_,rfl,ZA,by simp[cL],λc' cA=>by
    rcases Ji.1 cA with h|h
    ·exact aT c' h
    ·simp at h;subst h;exact hxf,?_,kn,rfl⟩
   rw[Qag1];exact .mk _ _ _ (by simp[Q8])
  ·intro hc;have bp:fns.length<=i:=ZD
   have jS:=kn.l 0 rfl;refine Zb ?_;refine Zp fP jS bM ?_;intro H2 h2;have kn:=kn.az 0 rfl h2;have xn:=kn.l 0 rfl;refine Zm xn bM ?_;exact⟨.ag [.sl false 3 (Qm cs)],FrzL.ag (.cons (ax.frz (B:=[_,_]) kn (EV _)) .nil),hK _ _ kn.fin (by have:=hp.pos;omega) aT⟩
attribute [local instance] Classical.propDecidable
def Dz (q:CodeD):Bool:=decide (0<=q.params/\q.params<=3)&&decide (q.params<=q.ae/\q.ae<=300)&&decide (1<=(q.blocks.length:Int)/\(q.blocks.length:Int)<=160)
def CA (y:BlkD):Nat:=y.ins.length+y.ab.length
def C2(f:α->Nat)(l:List α):Nat:=(l.map f).sum
theorem FG{f:α->Nat}{l:List α}(h:i<l.length):C2 f (l.take (i+1))=C2 f (l.take i)+f l[i]:=by
 rw[C2,C2,Jh h,Ju,Jak];simp
theorem Gc{f:α->Nat}{l:List α}(i:Nat):C2 f (l.take i)<=C2 f l:=by
 have:C2 f l=C2 f (l.take i)+C2 f (l.drop i):=by rw[C2,C2,C2,<-Jak,<-Ju,Jx]
 omega
def CB (q:CodeD):Nat:=C2 CA q.blocks
def Dt (cs:List CodeD)(k:Nat)(hk:k<cs.length):Prop:=Dz cs[k]=true/\∀(b:Nat) (h:b<cs[k].blocks.length),CP cs k b cs[k] cs[k].blocks[b]=true
def HW (cs:List CodeD):Prop:=(1<=(cs.length:Int)/\(cs.length:Int)<=4)/\(∀(k:Nat) (h:k<cs.length),Dt cs k h)/\C2 CB cs<=800
noncomputable def C0 (cs:List CodeD):Bool:=decide (HW cs)
theorem M9{f:α->Nat}{l:List α}{x:α}(h:x∈l):f x<=C2 f l:=by
 obtain⟨i,hi,rfl⟩:=Jz h;have h1:=Gc (f:=f) (l:=l) (i+1);rw[FG hi]at h1;omega
theorem Qa12(h:C0 cs=true){k:Nat}(hk:k<cs.length):cs[k].sg:=by
 obtain⟨_,h2,h3⟩:=of_decide_eq_true h;obtain⟨g1,g2⟩:=h2 k hk;have hq:CB cs[k]<=C2 CB cs:=M9 (Jb hk);simp only[Dz,Jp,decide_eq_true_eq]at g1;refine⟨ZA,λy hy=>?_⟩;have lC:CA y<=C2 CA cs[k].blocks:=M9 hy;simp only[CB]at hq;simp only[CA]at lC;obtain⟨b,hb,rfl⟩:=Jz hy;have g:=g2 b hb;have hn:=MX g;simp only[CP,Jp]at g;obtain⟨⟨_,ins⟩,ph⟩:=g;rw[J0]at ins ph;refine⟨ZA,ZA,ZA,λx hx=>?_,λx hx=>?_⟩
 ·have:=ins x hx;simp only[CG,Jp]at this;have h3:=this.2;rw[insL]at h3;split at h3
  ·simp only[Jp,decide_eq_true_eq]at h3;have hn:x.n.toNat<cs.length:=ZA
   have:=(h2 x.n.toNat hn).1;simp only[Dz,Jp,decide_eq_true_eq]at this;rw[GJ hn]at h3;omega
  ·simp only[Jp,decide_eq_true_eq]at h3;have:Db x.op<=2:=by rw[Db];split <;> (try split) <;> (try split) <;> omega
   omega
 ·have:=ph x hx;simp only[phiG,Jp,decide_eq_true_eq,Qn]at this;obtain⟨⟨⟨_,a1⟩,_⟩,_⟩:=this;have a3:=E3 (λi=>(cs[k].blocks.map BlkD.next).getD i []) (b:Int) cs[k].blocks.length;omega
theorem Rw(aT:∀c∈cs,c.fits)(h:C0 cs=true):cs.length<=4/\0<cs.length/\∀c∈cs,c.gd:=by
 obtain⟨h1,h2,_⟩:=of_decide_eq_true h;refine⟨ZA,ZA,λc hc=>?_⟩;obtain⟨k,hk,rfl⟩:=Jz hc;obtain⟨g1,g2⟩:=h2 k hk;simp only[Dz,Jp,decide_eq_true_eq]at g1;refine⟨ZA,ZA,λb hb=>?_,λb hb=>aT _ (Jb hk) b hb,Qa12 h hk⟩;obtain⟨i,hi,rfl⟩:=Jz hb;exact MX (g2 i hi)
theorem Ir(h:¬HW cs):C0 cs=false:=decide_eq_false h
theorem Qa1v{k j:Nat}(hk:k<cs.length)(hj:j<cs[k].blocks.length)(h:800<C2 CB (cs.take k)+C2 CA (cs[k].blocks.take j)+CA cs[k].blocks[j]):¬HW cs:=by
 rintro⟨_,_,h3⟩;have a1:=Gc (f:=CB) (l:=cs) (k+1);rw[FG hk]at a1;have a2:=Gc (f:=CA) (l:=cs[k].blocks) (j+1);rw[FG hj]at a2;simp only[CB]at *;omega
theorem Kp(aT:∀c∈cs,c.fits)(hK:∀(H':Heap),Upd H H' []->K (.c (.bool (C0 cs))) H') :
  Qu prog SM [.ag [.sl fl 3 (Qm cs)]] H K:=by
 refine Q0 ?_;refine Qd Co Qaa8 ?_;have retf:∀(b:Bool) (e:Env) (H':Heap) (L:Ul),C0 cs=b->Kn H H' [] L->lk 2 e=.c (.bool b)->Q5 Cq (unK H K) .ret e H':=by
  intro b e H' L hb kn h3;simp only[go_sem,Q5,Cn,Ja,forall_eq,RS.op,h3];rw[<-hb];exact⟨_,.c _ _ (Qg rfl),hK _ kn.fin⟩
 have kn:=Kn.an H;refine Wg ?_;simp only[go_sem,Q8];intro cL;refine Dq ?_;simp only[go_sem,Qlg];refine Wt ?_ ?_
 ·intro hc;refine Wf ?_;exact retf false _ _ _ (Ir λhu=>by have:=of_decide_eq_false (DE hc);exact this hu.1) kn ZB
 intro hc;have dz:cs.length<=4/\0<cs.length:=by
  have:1<=(cs.length:Int)/\(cs.length:Int)<=4:=ZD
  omega
 refine Ze ?_;refine Wi ?_;refine Qh (Qe (Qy (λm e1 H1=>∃(k n:Nat),m=cs.length-k/\k<=cs.length/\n=C2 CB (cs.take k)/\n<=800/\(∀(i:Nat) (hi:i<cs.length),i<k->Dt cs i hi)/\Kn H H1 [] []/\e1=[(1,.c (.pp [.sl fl 3 (Qm cs)])),(3,Uv n),(4,Uv k)]) cs.length ?_ ?_))
 ·exact⟨0,0,ZA,ZA,rfl,ZA,λ_ _ h=>ZA,kn,rfl⟩
 ·rintro m e1 H1 ⟨k,n,hm,hk,dT,hn,b8,kn,rfl⟩;refine Q1 (Qa ?_);simp only[go_sem,Q8];intro cL;refine Wt ?_ ?_
  ·intro hc;have af:k<cs.length:=ZD
   refine Wo ?_;simp only[go_sem,af,Q8,DP _ _ af,CodeD.cells];obtain⟨q,hq⟩:∃q,cs[k]=q:=⟨_,rfl⟩;rw[hq];intro x5 bt H2 h2;have kn:=kn.al bt h2;have mc:=kn.l 0 rfl;simp only[go_sem,Qlh,mc];intro H3 h3;have kn:Kn H H3 [] [(x5,.st [Ui q.params,Ui q.ae,.sl false 5 (Qo q.blocks)])]:=kn.az 0 rfl h3;have fm:=kn.l 0 rfl;refine Q1 (Qa ?_);simp only[go_sem,fm];refine Dq ?_;simp only[go_sem,Qli,fm];have rest:∀(b:Bool) (E1:Env),lk 1 E1=.c (.pp [.sl fl 3 (Qm cs)])->lk 3 E1=Uv n->lk 4 E1=Uv k->lk 5 E1=Up x5->lk 42 E1=.c (.bool b)->Dz q=(!b)->
     Cr prog (s_sp_UnitValid_6.seq Qlf) (X.inBlock 1 (X.sq prog Re (X.next (λe2 H2=>∃m_1,m_1<m/\∃(k n:Nat),m_1=cs.length-k/\k<=cs.length/\n=C2 CB (cs.take k)/\n<=800/\(∀(i:Nat) (hi:i<cs.length),i<k->Dt cs i hi)/\Kn H H2 [] []/\e2=[(1,.c (.pp [.sl fl 3 (Qm cs)])),(3,Uv n),(4,Uv k)])
      (X.inBlock 0 (X.sq prog Tf (Q5 Cq (unK H K))))))) E1 H3:=by
    intro b E1 l1 l3 l4 l5 l42 hb;refine Qh (Qf l42 ?_ ?_)
    ·intro aC;refine Wp ?_;exact retf false _ _ _ (Ir λhu=>by have:=(hu.2.1 k af).1;rw[hq,hb,aC]at this;simp at this) kn ZB
    intro aC;rw[aC]at hb;have aW:=hb;simp only[Dz,Jaa,Jp,decide_eq_true_eq]at aW;obtain⟨bI,cN,eB,bj⟩:0<=q.ae/\q.ae<=300/\0<q.blocks.length/\q.blocks.length<=160:=ZA;refine Ze ?_;refine Qa ?_;simp only[go_sem,l1,l3,l4,l5];refine Qe (Qy (λm e1 H1=>∃(j n2:Nat),m=q.blocks.length-j/\j<=q.blocks.length/\n2=n+C2 CA (q.blocks.take j)/\n2<=800/\(∀(i:Nat) (hi:i<q.blocks.length),i<j->CP cs k i q q.blocks[i]=true)/\Kn H H1 [] [(x5,.st [Ui q.params,Ui q.ae,.sl false 5 (Qo q.blocks)])]/\
     e1=[(1,.c (.pp [.sl fl 3 (Qm cs)])),(3,Uv n2),(4,Uv k),(5,Up x5),(6,Uv j)]) q.blocks.length ?_ ?_)
    ·exact⟨0,n,ZA,ZA,rfl,hn,λ_ _ h=>ZA,kn,rfl⟩
    ·rintro m2 e1 H4 ⟨j,n2,fz,hj,yM,fW,fd,kn,rfl⟩;have gO:=kn.l 0 rfl;refine Q1 (Qa ?_);simp only[go_sem,gO,Qn];intro vz;refine Wt ?_ ?_
     ·intro bv;have dU:j<q.blocks.length:=ZT;refine Wm ?_;have sW:=aT _ (Jb af);rw[hq]at sW;have th:=sW _ (Jb dU);have rb:=FG (f:=CA) dU;have ie:CA q.blocks[j]=q.blocks[j].ins.length+q.blocks[j].ab.length:=rfl;refine Cv ?_;simp only[go_sem,gO,dU,Qn,CU _ _ dU,BlkD.cells,CR,Qz];refine⟨Qv,Qv,?_⟩;refine Za ?_;have fin:∀(b3:Bool) (E1:Env) (H5:Heap),(decide (n2+CA q.blocks[j]<=800)&&CP cs k j q q.blocks[j])=(!b3)->Kn H H5 [] [(x5,.st [Ui q.params,Ui q.ae,.sl false 5 (Qo q.blocks)])]->lk 1 E1=.c (.pp [.sl fl 3 (Qm cs)])->
        lk 3 E1=Uv ((n2+q.blocks[j].ins.length+q.blocks[j].ab.length:Nat):Int)->lk 4 E1=Uv k->lk 5 E1=Up x5->lk 6 E1=Uv j->lk 75 E1=.c (.bool b3)->
        Cr prog Qoe (X.inBlock 3 (X.sq prog Qle (X.next (λe2 H2=>∃m,m<m2/\∃(j n2:Nat),m=q.blocks.length-j/\j<=q.blocks.length/\n2=n+C2 CA (q.blocks.take j)/\n2<=800/\(∀(i:Nat) (hi:i<q.blocks.length),i<j->CP cs k i q q.blocks[i]=true)/\Kn H H2 [] [(x5,.st [Ui q.params,Ui q.ae,.sl false 5 (Qo q.blocks)])]/\
         e2=[(1,.c (.pp [.sl fl 3 (Qm cs)])),(3,Uv n2),(4,Uv k),(5,Up x5),(6,Uv j)])
         (X.inBlock 2 (X.inBlock 1 (X.sq prog Re (X.next (λe2 H2=>∃m_1,m_1<m/\∃(k n:Nat),m_1=cs.length-k/\k<=cs.length/\n=C2 CB (cs.take k)/\n<=800/\(∀(i:Nat) (hi:i<cs.length),i<k->Dt cs i hi)/\Kn H H2 [] []/\e2=[(1,.c (.pp [.sl fl 3 (Qm cs)])),(3,Uv n),(4,Uv k)])
         (X.inBlock 0 (X.sq prog Tf (Q5 Cq (unK H K))))))))))) E1 H5:=by
       intro b3 E1 H5 pg kn l1 l3 l4 l5 l6 l75;refine Qf l75 ?_ ?_
       ·intro dz;refine Wp ?_;refine retf false _ _ _ (Ir λhu=>?_) kn ZB;rw[dz]at pg;have bU:=(hu.2.1 k af).2 j (by rw[hq];exact dU);subst hq;have ux:¬800<n2+CA cs[k].blocks[j]:=λho=>Qa1v af dU ZA hu;rw[bU]at pg;simp at pg;omega
       ·intro dz;rw[dz]at pg;simp only[Jaa,Jp,decide_eq_true_eq]at pg;refine Ze ?_;refine Qt ?_;simp only[go_sem,X.next,l1,l3,l4,l5,l6];refine⟨Qv,q.blocks.length-(j+1),ZA,j+1,_,rfl,ZA,?_,?_,?_,kn,rfl⟩
        ·rw[rb];omega
        ·omega
        ·intro i hi hY;by_cases z7:i<j
         ·exact fd i hi z7
         ·have:i=j:=ZA;subst this;exact pg.2
      refine⟨λbm=>?_,λbm=>?_⟩
      ·refine Ym af (by rw[hq];exact dU) (by rw[hq];exact bI) (by rw[hq];exact cN) ZA (by rw[hq];omega) λH5 hu=>?_;have kn:=kn.au hu;simp only[go_sem,Td];refine fin _ _ _ ?_ kn ZB ZB ZB ZB ZB ZJ;subst hq;by_cases ho:n2+CA cs[k].blocks[j]<=800
       ·have fV:¬800<(n2:Int)+cs[k].blocks[j].ins.length+cs[k].blocks[j].ab.length:=(by simp only[CA]at ho;omega);simp[ho,fV]
       ·have fV:800<(n2:Int)+cs[k].blocks[j].ins.length+cs[k].blocks[j].ab.length:=(by simp only[CA]at ho;omega);simp[ho,fV]
      ·replace bm:=CS bm;simp only[go_sem,Td,bm];exact fin true _ _ (by simp at bm;simp[ie];omega) kn ZB ZB ZB ZB ZB ZB
     ·intro bv;refine Zb ?_;refine Zg ?_;have Bw:q.blocks.length<=j:=ZT;have Bw:j=q.blocks.length:=ZA;refine⟨Qv,cs.length-(k+1),ZA,k+1,n2,rfl,ZA,?_,fW,?_,kn.drop (A:=[]),rfl⟩
      ·rw[FG af,hq,yM,dT,Bw,List.take_length];rfl
      ·intro i hi Bz;by_cases z6:i<k
       ·exact b8 i hi z6
       ·have:i=k:=ZA;subst this;subst hq;exact⟨by rw[hb];rfl,λb bj=>fd b bj ZA⟩
   refine⟨λbm=>?_,λbm=>?_⟩
   ·refine Dq ?_;simp only[go_sem,Te,fm,Qn];intro BD;refine⟨λcC=>?_,λcC=>?_⟩
    ·replace cC:=DE cC;refine Dq ?_;simp only[go_sem,Rd];refine rest _ _ ZB ZB ZB ZB ZJ ?_;simp[Dz]
    ·replace cC:=CS cC;simp only[go_sem,Rd,cC];exact rest true _ ZB ZB ZB ZB ZB (by simp at cC;simp[Dz];omega)
   ·replace bm:=CS bm;simp only[go_sem,Te,Rd,bm,fm,Qn,cond_true];exact rest true _ ZB ZB ZB ZB ZB (by simp at bm;simp[Dz];omega)
  ·intro hc;refine Wb ?_;refine Ql ?_;have oS:cs.length<=k:=ZD
   refine retf true _ _ _ (decide_eq_true ⟨ZA,λi hi=>b8 i hi ZA,?_⟩) kn ZB;rw[Jc oS]at dT;omega
theorem Qale(aT:∀c∈cs,c.fits)(hK:∀(b:Bool) (H':Heap),(b=true->cs.length<=4/\0<cs.length/\∀c∈cs,c.gd)->Upd H H' []->K (.c (.bool b)) H') :
  Qu prog SM [.ag [.sl fl 3 (Qm cs)]] H K:=Kp aT λH' hu=>hK _ H' (Rw aT) hu
end Y
namespace Y
open Go.Proofs.Tryz
def UnitOk (cs:List CodeD):Prop:=0<cs.length/\cs.length<=4/\∀c∈cs,c.gd
theorem ME{k:Nat}(hH:H R.l=R.o k)(hk:k+7100000<=2^30)
  (hK:∀(cs:List CodeD) (H':Heap) (k':Nat),k<k'->k'<=k+7050000->Upd H H' [(R.l,R.o k')]->UnitOk cs->K (.ag [.sl false 3 (Qm cs)]) H') :
  Qu prog Oe [.c (.ptr R.l 0)] H K:=by
 refine Q0 ?_;refine Qd Co Yf ?_;refine Za ?_;intro x2 aL H1 h1;have kn:=(Kn.start1 hH (R.ao k)).al aL h1;have tail:∀(E1:Env) (H2:Heap) (k1:Nat) (L:Ul),k<k1->k1<=k+7000500->Kn H H2 [(R.l,R.o k1)] ([(x2,.st [.sl true 3 []])]++L)->lk 0 E1=.c (.ptr R.l 0)->lk 2 E1=Up x2->
   Cr prog Q7s (Q5 CV (unK H K)) E1 H2:=by
  intro E1 H2 k1 L iY fQ kn l0 l2;refine Zj l0 ?_;refine Lu (kn.e 0 rfl) ZA λcs H3 k2 jw jv hu nt vp iu=>?_;have kn:=kn.aw 0 rfl hu (R.ao _);have aL:=kn.l 0 rfl;simp only[go_sem,Q1w,aL,l2];intro H4 h4;have kn:=kn.az 0 rfl h4;have aL:=kn.l 0 rfl;refine Zi aL ?_;exact⟨_,FrzL.ag (.cons (FrzR.same (EV cs)).sl .nil),hK cs _ k2 ZA ZA kn.fin ⟨nt,ZA,λc hc=>(iu c hc).gd⟩⟩
 refine Wa ?_;refine CE (kn.e 0 rfl) ZA λv H2 hv hu=>?_;have kn:=kn.aw 0 rfl hu (R.ao _);simp only[go_sem,Q1u];refine Wt ?_ ?_
 ·intro hc;refine Za ?_;refine TC (kn.e 0 rfl) ZA λl H3 k1 iY fQ hu hp=>?_;have kn:=kn.aw 0 rfl hu (R.ao _);simp only[go_sem,Q1v];refine T5 hp λcs H4 hu nt aT=>?_;have kn:=kn.au hu;simp only[go_sem,Pq];intro x3 aO H5 h5;have kn:=kn.al aO h5;have aO:=kn.l 1 rfl;simp only[go_sem,Kk,aO];intro H6 h6;have kn:=kn.az 1 rfl h6;have aO:=kn.l 1 rfl;refine Zj aO ?_;refine Qale aT λb H7 hb hu=>?_;have kn:=kn.au hu;have aO:=kn.l 1 rfl;have aL:=kn.l 0 rfl;refine Wu ?_ ?_
  ·intro bm;refine Zl aO aL ?_;intro H8 h8;have kn:=kn.az 0 rfl h8;have aL:=kn.l 0 rfl;refine Zi aL ?_;obtain⟨g1,g2,g3⟩:=hb bm;exact⟨_,FrzL.ag (.cons (FrzR.same (EV cs)).sl .nil),hK cs _ k1 ZA ZA kn.fin ⟨g2,g1,g3⟩⟩
  ·intro bm;refine Ze ?_;exact tail _ _ k1 [(x3,.st [.sl false 3 (Qm cs)])] ZA ZA kn ZB ZB
 ·intro hc;refine Ze ?_;exact tail _ _ (k+1) [] ZA ZA kn ZB ZB
theorem MF{k:Nat}(hH:H R.l=R.o k)(hk:k+7200000<=2^30)
  (hK:∀(cs:List CodeD) (H':Heap) (k':Nat),k<k'->k'<=k+7100000->Upd H H' [(R.l,R.o k')]->UnitOk cs->K (.ag [.sl false 3 (Qm cs)]) H') :
  Qu prog Oh [.c (.ptr R.l 0)] H K:=by
 refine Q0 ?_;refine Qd Co Yj ?_;refine Za ?_;intro x2 aL H1 h1;have kn:=(Kn.start1 hH (R.ao k)).al aL h1;refine Wa ?_;refine CE (kn.e 0 rfl) ZA λv H2 hv hu=>?_;have kn:=kn.aw 0 rfl hu (R.ao _);simp only[go_sem,P7];refine Wt ?_ ?_
 ·intro hc;refine Za ?_;refine TB (kn.e 0 rfl) ZA λcs H3 k2 jw jv hu nt vp b8=>?_;have kn:=kn.aw 0 rfl hu (R.ao _);have aL:=kn.l 0 rfl;simp only[go_sem,P6,aL];intro H4 h4;have kn:=kn.az 0 rfl h4;have aL:=kn.l 0 rfl;refine Zi aL ?_;exact⟨_,FrzL.ag (.cons (FrzR.same (EV cs)).sl .nil),hK cs _ k2 ZA ZA kn.fin ⟨nt,ZA,b8⟩⟩
 ·intro hc;refine Ze ?_;refine Za ?_;refine ME (kn.e 0 rfl) ZA λcs H3 k2 jw jv hu aq=>?_;have kn:=kn.aw 0 rfl hu (R.ao _);have aL:=kn.l 0 rfl;simp only[go_sem,P5,aL];intro H4 h4;have kn:=kn.az 0 rfl h4;have aL:=kn.l 0 rfl;refine Zi aL ?_;exact⟨_,FrzL.ag (.cons (FrzR.same (EV cs)).sl .nil),hK cs _ k2 ZA ZA kn.fin aq⟩
theorem Yq{bs:List UInt8}(hK:∀(R:Rdr) (H':Heap),H R.l=.none->H'=H.set R.l (R.o 0)->K (.c (.ptr R.l 0)) H'):Qu prog NJ [.c (.sl fl 1 (Di bs))] H K:=by
 refine Qd Co Yy ?_;refine Wg ?_;simp only[go_sem,Fg];intro _;have tail:∀(fl:Bool) (bs:List UInt8) (E1:Env),lk 0 E1=.c (.sl fl 1 (Di bs))->Cr prog Q8l (Q5 Cq K) E1 H:=by
  intro fl bs E1 l0;refine Zj l0 ?_;intro l hl H' h';simp only[go_sem,Q2u];refine Zd ?_;exact hK ⟨l,fl,bs⟩ H' hl h'
 refine Wt ?_ ?_
 ·intro hc;have h2:(2000:Int)<bs.length:=ZD
  refine Qt ?_;simp only[go_sem,Fg];refine⟨⟨ZA,ZA,ZA⟩,?_⟩;have ht:List.take 2000 (Di bs)=Di (bs.take 2000):=by simp[Di,Jan]
  rw[ht];exact tail _ (bs.take 2000) _ ZJ
 ·intro hc;refine Qj ?_;exact tail fl bs _ ZB
end Y
namespace Y
def CX (n:Nat)(nx:Nat->List Int):Bool:=(List.range n).all (λi=>(nx i).all λx=>decide (0<=x/\x<=(n:Int)-1))&&decide (0<n)
def nxN (nx:Nat->List Int)(b:Nat):List Nat:=(nx b).map Int.toNat
theorem Pd {n:Nat}(h:CX n nx=true)(hb:b<n){x:Int}(hx:x∈nx b):0<=x/\x<=(n:Int)-1:=by
 simp only[CX,Jp,J0,List.mem_range,decide_eq_true_eq]at h;exact h.1 b hb x hx
theorem GQ {n:Nat}(h:CX n nx=true):0<n:=by
 simp only[CX,Jp,decide_eq_true_eq]at h;exact h.2
theorem F0 {n:Nat}(h:CX n nx=true)(hb:b<n){x:Nat}(hx:x∈nxN nx b):x<n:=by
 obtain⟨y,hy,rfl⟩:=List.mem_map.1 hx;have:=Pd h hb hy;omega
inductive Dfs (g:Nat->List Nat):List Nat->List Bool->List Nat->List Bool->List Nat->Prop
 |nil (S:List Bool) (o:List Nat):Dfs g [] S o S o
 |skip {x:Nat} {xs:List Nat} {S S':List Bool} {o o':List Nat}:S.getD x false=true->Dfs g xs S o S' o'->Dfs g (x::xs) S o S' o'
 |go {x:Nat} {xs:List Nat} {S S1 S':List Bool} {o o1 o':List Nat}:S.getD x false=false->Dfs g (g x) (S.set x true) o S1 o1->Dfs g xs S1 (o1++[x]) S' o'->Dfs g (x::xs) S o S' o'
variable{g:Nat->List Nat}{xs:List Nat}{S S' S1:List Bool}{o o' o1:List Nat}
theorem Dfs.app (h:Dfs g xs S o S1 o1):∀{ys:List Nat},Dfs g ys S1 o1 S' o'->Dfs g (xs++ys) S o S' o':=by
 induction h with
 |nil S o=>exact λh=>h
 |skip h1 h2 ih=>exact λh=>.skip h1 (ih h)
 |go h1 h2 h3 ih1 ih2=>exact λh=>.go h1 h2 (ih2 h)
theorem Dfs.one {x:Nat}(h1:S.getD x false=false)(h:Dfs g (g x) (S.set x true) o S1 o1):Dfs g [x] S o S1 (o1++[x]):=.go h1 h (.nil _ _)
theorem Dfs.len (h:Dfs g xs S o S' o'):S'.length=S.length:=by
 induction h with
 |nil=>rfl
 |skip _ _ ih=>exact ih
 |go _ _ _ ih1 ih2=>rw[ih2,ih1,J2]
theorem GO (S:List Bool)(x y:Nat):(S.set x true).getD y false=(if y=x/\x<S.length then true else S.getD y false):=by
 simp only[Jd,List.getElem?_set];by_cases h:x=y
 ·subst h;by_cases h2:x<S.length
  ·simp[h2]
  ·simp[h2]
 ·have h':¬y=x:=λhh=>h hh.symm;simp[h,h']
theorem Dfs.mono (h:Dfs g xs S o S' o'):∀x,S.getD x false=true->S'.getD x false=true:=by
 induction h with
 |nil=>exact λ_ h=>h
 |skip _ _ ih=>exact ih
 |go _ _ _ ih1 ih2=>
  intro x hx;refine ih2 x (ih1 x ?_);rw[GO];split
  ·rfl
  ·exact hx
def cnt (S:List Bool):Nat:=S.count true
theorem Ii {x:Nat}(hx:x<S.length)(h:S.getD x false=false):cnt (S.set x true)=cnt S+1:=by
 induction S generalizing x with
 |nil=>simp at hx
 |cons a S ih=>
  cases x with
  |zero=>
   simp at h;subst h;simp[cnt]
  |succ x=>
   have:=ih (x:=x) ZaY ZI;simp only[cnt,Jad,List.count_cons]at this⊢;omega
theorem GG (S:List Bool):cnt S<=S.length:=List.count_le_length
theorem Dfs.count (h:Dfs g xs S o S' o'):(∀x,x<S.length->∀y∈g x,y<S.length)->(∀x∈xs,x<S.length)->o'.length+cnt S=o.length+cnt S':=by
 induction h with
 |nil=>intros;rfl
 |skip _ _ ih=>exact λh1 h2=>ih h1 λx hx=>h2 x (Jy _ hx)
 |@go x xs S S1 S' o o1 o' h1 h2 h3 ih1 ih2=>
  intro hg lD;have hx:=lD x Jac;have e1:=ih1 Zak (by simpa using hg x hx);have hl:=h2.len;rw[J2]at hl;have e2:=ih2 (by rw[hl];exact hg) (by rw[hl];exact λy hy=>lD y (Jy _ hy));rw[Ii hx h1]at e1;simp only[J5,Jj,Jm]at e2;omega
theorem Dfs.olen (h:Dfs g xs S o S' o'):o.length<=o'.length:=by
 induction h with
 |nil=>exact Je _
 |skip _ _ ih=>exact ih
 |go _ _ _ ih1 ih2=>rw[J5]at ih2;omega
theorem Dfs.all (h:Dfs g xs S o S' o'):∀P:Nat->Prop,(∀x,P x->∀y∈g x,P y)->(∀x∈xs,P x)->(∀x∈o,P x)->∀x∈o',P x:=by
 induction h with
 |nil=>exact λP _ _ h=>h
 |skip _ _ ih=>exact λP h1 h2 h3=>ih P h1 (λx hx=>h2 x (Jy _ hx)) h3
 |go h1 h2 h3 ih1 ih2=>
  intro P hg lD ho;have hx:=lD _ Jac;refine ih2 P hg (λy hy=>lD y (Jy _ hy)) λy hy=>?_;rcases Ji.1 hy with hy|hy
  ·exact ih1 P hg (hg _ hx) ho y hy
  ·simp at hy;subst hy;exact hx
end Y
end Go.AE
