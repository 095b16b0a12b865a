/- Part 7 of the proof: the engine, codes, walks and plain laws, each named where it stands. -/
import Derived.Test.YtchjcdooknkfpaaGreatZF
import Derived.Below
import Derived.OpenShut
import Derived.ProofKit
open Nat (reduceEqDiff reduceAdd reduceLeDiff reduceLT)
set_option linter.unusedVariables false
set_option linter.unusedSimpArgs false
set_option maxRecDepth 4000
set_option maxHeartbeats 8000000
open Int renaming le_refl->Jh
open List renaming getElem?_eq_none->Ja,getD_eq_getElem?_getD->Jb,getElem?_eq_getElem->Jc,getD_cons_succ->Jd,getD_cons_zero->Je,getElem_mem->Jg
open Nat renaming eq_zero_or_pos->Jf,lt_or_ge->Ji
open Option.some renaming injEq->Jj
namespace Go.AE.Y
attribute [local go_sem] cond_true cond_false Bool.not_true Bool.not_false
attribute [local instance] Classical.propDecidable
open Go.Proofs.Tryz
variable {H:Heap}{K:Uk}{cs:List CodeD}
theorem FnJoinedNone_c {bs:List UInt8}(hK:∀H',K (.c (.bool true)) H'):Qv prog Qg8 [.c (.sl false 1 (B3 bs))] H K:=by
 refine Qd A6 Q07 ?_;have retT':∀(e:Env) (H':Heap),lk 2 e=.c (.bool true)->Q7 A8 K .ret e H':=by
  intro e H' h2;simp only[go_sem,Q7,A5,List.mem_singleton,forall_eq,RS.op,h2];exact hK H'
 refine Wg ?_;simp only[go_sem,Dr];intro _;refine Qh (Qf rfl (λhc=>?_) (λhc=>?_))
 ·refine Za ?_;refine Qk ?_;exact retT' _ _ rfl
 refine Zd ?_
 refine Za ?_;refine Q6j λcs H1 hu aw=>?_;have aU:=aw.fits;have uR:=Il cs;obtain⟨ds,fD⟩:∃ds,Bu jnD cs=ds:=⟨_,rfl⟩;rw[fD]at uR;have kn:=(Kn.ao H).au hu;simp only[go_sem,Qfg];intro x3 aK H2 h2;have kn:=kn.al aK h2;have aK:=kn.l 0 rfl;simp only[go_sem,Qff,aK];intro H3 h3;have kn:Kn H H3 [] [(x3,.st [.sl false 3 (Qn cs)])]:=kn.aA 0 rfl h3;have aK:=kn.l 0 rfl;refine Zi aK ?_;refine Qail aU λH4 hu=>?_;rw[fD];have kn:=kn.au hu;simp only[go_sem,Qfj,Je,Jd];intro x4 aY H5 h5;have kn:=kn.al aY h5;have aY:=kn.l 1 rfl;simp only[go_sem,Qfi,aY];intro H6 h6;have kn:Kn H H6 [] [(x3,.st [.sl false 3 (Qn cs)]),(x4,.st [.sl false 3 (Qn ds)])]:=kn.aA 1 rfl h6;have aK:=kn.l 0 rfl;simp only[go_sem,Qfh];refine Zi aK ?_;refine Qan1 aU λH7 hu=>?_;rw[fD];have kn:=kn.au hu;simp only[go_sem,Qfm,Je,Jd];intro x6 aZ H8 h8;have kn:=kn.al aZ h8;have aZ:=kn.l 2 rfl;simp only[go_sem,Qfl,aZ];intro H9 h9;have kn:Kn H H9 [] [(x3,.st [.sl false 3 (Qn cs)]),(x4,.st [.sl false 3 (Qn ds)]),(x6,.st [.sl false 3 (Qn ds)])]:=kn.aA 2 rfl h9;have aY:=kn.l 1 rfl;have aZ:=kn.l 2 rfl;simp only[go_sem,P3];refine Q1 ?_
 cases hg:AN cs with
 |false=>
  refine Qa ?_;simp only[go_sem,hg,aY,aZ,decide_true];refine Rg λH10 hu=>?_;have kn:=kn.au hu;have aY:=kn.l 1 rfl;have aZ:=kn.l 2 rfl;simp only[go_sem,RH];refine Wu ?_ ?_
  ·intro _;refine Qa ?_;simp only[go_sem,aY,aZ,decide_true];refine Rg λH11 hu=>?_;simp only[go_sem,Qew];refine Qk ?_;exact retT' _ _ rfl
  ·intro h;simp at h
 |true=>
  obtain⟨uV,b6,oh,dT⟩:=Qbp2 hg;rw[fD]at uV oh;rw[<-uV]at b6;have hgc:=hg;have hcd:decide (D8 ds<=D8 cs)=true:=decide_eq_true oh;have mr:ds.length=cs.length:=by rw[uV,List.length_map]
  have lp:=(of_decide_eq_true b6).1;refine Qa ?_;simp only[go_sem,hg,aY,aZ,decide_true];refine Rg λH10 hu=>?_;have kn:=kn.au hu;simp only[go_sem,RH];refine Wu ?_ ?_
  ·intro h;simp at h
  intro _;refine Zd ?_
  have kn:Kn H H10 [] [(x3,.st [.sl false 3 (Qn cs)]),(x4,.st [.sl false 3 (Qn ds)])]:=Kn.drop (A:=[_,_]) (B:=[_]) kn;have aY:=kn.l 1 rfl;refine Q1 (Qa ?_);simp only[go_sem,aY,Q5];try intro _
  refine Qh (Qe (Qx (λmm e1 H1=>∃(i:Nat),mm=ds.length-i/\i<=ds.length/\Kn H H1 [] [(x3,.st [.sl false 3 (Qn cs)]),(x4,.st [.sl false 3 (Qn ds)])]/\
   lk 3 e1=Up x3/\lk 4 e1=Up x4/\lk 49 e1=.c (.sl false 3 (Qn ds))/\lk 50 e1=.c (Ui ds.length)/\lk 51 e1=Uv i) ds.length ?_ ?_))
  ·exact⟨0,ZA,ZA,kn,rfl,rfl,rfl,rfl,rfl⟩
  ·clear kn aK aY aZ;rintro mm e1 H14 ⟨i,dm,hi,kn,l3,l4,l49,l50,l51⟩;have aK:=kn.l 0 rfl;have aY:=kn.l 1 rfl;refine Qa ?_;simp only[go_sem,l3,l4,l49,l50,l51];refine Wu ?_ ?_
   ·intro bB;have af:i<ds.length:=Zar;have xi:i<cs.length:=ZA;obtain⟨d,hd⟩:∃d,ds[i]=d:=⟨_,rfl⟩;have kF:d.ok:=(by rw[<-hd];exact CE b6 af);have zR:∀b,b<d.blocks.length->((Qt d b).next.length:Int)=Bd (Qt d b).jump:=λb hb=>by
     have:=(F2 b6).jn i b af (by rw[EC af,hd];exact hb);rw[EC af,hd]at this;exact this
    have zQ:∀j m,¬JnP d j m:=by
     have:=dT i xi;have e:ds[i]=jnD cs[i]:=(by subst uV;rw[List.getElem_map]);rw[<-e,hd]at this;exact this
    have bg:=kF.b1;refine Zd ?_
    refine Wb ?_;simp only[go_sem,l3,l4,l49,l50,l51,af,Q5,Cg _ _ af,CodeD.cells,hd];intro x9 gc H15 ru;have kn:=kn.al gc ru;have gc:=kn.l 2 rfl;simp only[go_sem,Qex,gc];intro H16 rZ;have kn:Kn H H16 [] [(x3,.st [.sl false 3 (Qn cs)]),(x4,.st [.sl false 3 (Qn ds)]),(x9,.st [Ui d.params,Ui d.ae,.sl false 5 (Qm d.blocks)])]:=kn.aA 2 rfl rZ;have gc:=kn.l 2 rfl;refine Qa ?_;simp only[go_sem,gc,Ql];try intro _
    refine Qe (Qx (λmm e1 H1=>∃(b:Nat),mm=d.blocks.length-b/\b<=d.blocks.length/\Kn H H1 [] [(x3,.st [.sl false 3 (Qn cs)]),(x4,.st [.sl false 3 (Qn ds)]),(x9,.st [Ui d.params,Ui d.ae,.sl false 5 (Qm d.blocks)])]/\
     lk 3 e1=Up x3/\lk 4 e1=Up x4/\lk 9 e1=Up x9/\lk 49 e1=.c (.sl false 3 (Qn ds))/\lk 50 e1=.c (Ui ds.length)/\lk 51 e1=Uv i/\
     lk 56 e1=.c (.sl false 5 (Qm d.blocks))/\lk 57 e1=.c (Ui d.blocks.length)/\lk 58 e1=Uv b) d.blocks.length ?_ ?_)
    ·exact⟨0,ZA,ZA,kn,rfl,rfl,rfl,rfl,rfl,rfl,rfl,rfl,rfl⟩
    ·clear kn aK aY gc l3 l4 l49 l50 l51;rintro mm2 e2 H17 ⟨b,eW,hb,kn,l3,l4,l9,l49,l50,l51,l56,l57,l58⟩;refine Qa ?_;simp only[go_sem,l3,l4,l9,l49,l50,l51,l56,l57,l58];refine Wu ?_ ?_
     ·intro a7;have bk:b<d.blocks.length:=ZF;have f0:=AP bk;refine Zd ?_
      refine Wb ?_;simp only[go_sem,bk,Ql,Q9 _ _ bk,BlkD.cells,<-f0];intro x11 eD H18 u4;have kn:=kn.al eD u4;have eD:=kn.l 3 rfl;simp only[go_sem,Qey,eD];intro H19 yV;have kn:Kn H H19 [] [(x3,.st [.sl false 3 (Qn cs)]),(x4,.st [.sl false 3 (Qn ds)]),(x9,.st [.int .i64 d.params,.int .i64 d.ae,.sl false 5 (Qm d.blocks)]),(x11,.st (Qt d b).cells)]:=kn.aA 3 rfl yV;have gc:=kn.l 2 rfl;have eD:=kn.l 3 rfl;have fin:∀(H':Heap),Kn H H' [] [(x3,.st [.sl false 3 (Qn cs)]),(x4,.st [.sl false 3 (Qn ds)]),(x9,.st [.int .i64 d.params,.int .i64 d.ae,.sl false 5 (Qm d.blocks)]),(x11,.st (Qt d b).cells)]->Kn H H' [] [(x3,.st [.sl false 3 (Qn cs)]),(x4,.st [.sl false 3 (Qn ds)]),(x9,.st [.int .i64 d.params,.int .i64 d.ae,.sl false 5 (Qm d.blocks)])]:=λH' kn=>Kn.drop (A:=[_,_,_]) (B:=[_]) kn;by_cases pw:0<(Qt d b).next.length
      ·have nX:=Qo (Qt d b).next 0 pw;have sM:(Qt d b).next.getD 0 0=skT d b:=rfl;rw[sM]at nX;have eC:=(kF.bs b bk).nx (skT d b) (by rw[<-AP bk,skT,Jb,Jc pw];exact Jg _);obtain⟨m,hm⟩:∃m:Nat,skT d b=m:=⟨(skT d b).toNat,ZA⟩;have dy:m<d.blocks.length:=ZA;rw[hm]at nX;have z8:=AP dy;by_cases kB:(Qt d b).jump=1
       ·have cN:(Qt d b).next.length=1:=by
         have:=zR b bk;rw[kB]at this;simp[Bd]at this;omega
        have kx:(Qt d b).next=[(m:Int)]:=by
         obtain⟨x,hx⟩:=List.length_eq_one_iff.1 cN;rw[skT,hx]at hm;rw[hx,<-hm];rfl
        have ka:(m:Int)∈gnx d b:=(by rw[Bq bk,kx];simp);have dj:decide ((Qt d b).jump=1)=true:=decide_eq_true kB;refine AC ?_;simp only[go_sem,gc,eD,BlkD.cells,dj,cN,Qb,nX,dy,Ql,Q9 _ _ dy,<-z8,Qy];refine⟨Jh 0,λ_=>Jh 0,λ_=>Jh 0,λbn=>?_,λbn=>?_⟩
        ·refine Q9w (rows:=Qm d.blocks) (nx:=gnx d) (Dl _ d false) λfp H20 hu=>?_;have kn:=kn.au hu;have sY:Db (gnx d) (m:Int) (Qm d.blocks).length=Qp (gnx d) (m:Int) d.blocks.length:=by
          rw[Ql,Db,decide_eq_true (Int.natCast_nonneg m),decide_eq_true (show (m:Int)<=(d.blocks.length:Int)-1 by omega)];rfl
         rw[sY];have bx:decide (((Qp (gnx d) (m:Int) d.blocks.length).length:Int)=1)=false:=decide_eq_false λh=>by
          simp only[Bool.cond_eq_ite]at bn;have fC:¬(m:Int)=(b:Int):=λh1=>(by simp[h1]at bn);simp[decide_eq_false fC]at bn;exact zQ b m ⟨bk,dy,ZA,ZA,kB,kx,bn,(GZ bk ka).1 ZA⟩
         simp only[go_sem,IZ,bn,bx,Qb];try intro _
         refine Wv ?_ ?_
         ·intro h;simp at h
         intro _;refine Zd ?_
         refine Zh ?_;refine⟨Qr,?_⟩;show ∃m,_;exact⟨d.blocks.length-(b+1),ZA,b+1,rfl,ZA,fin _ kn,rfl,rfl,rfl,rfl,rfl,rfl,rfl,rfl,rfl⟩
        ·simp only[go_sem,IZ,bn,Qb];try intro _
         refine Wv ?_ ?_
         ·intro h;simp at h
         intro _;refine Zd ?_
         refine Zh ?_;refine⟨Qr,?_⟩;show ∃m,_;exact⟨d.blocks.length-(b+1),ZA,b+1,rfl,ZA,fin _ kn,rfl,rfl,rfl,rfl,rfl,rfl,rfl,rfl,rfl⟩
       ·have dj:decide ((Qt d b).jump=1)=false:=decide_eq_false kB;refine AC ?_;simp only[go_sem,gc,eD,BlkD.cells,dj,Qb,nX,dy,Ql,Q9 _ _ dy,<-z8,Qy];simp only[go_sem,IZ];refine Wv ?_ ?_
        ·intro h;simp at h
        intro _;refine Zd ?_
        refine Zh ?_;refine⟨Qr,?_⟩;show ∃m,_;exact⟨d.blocks.length-(b+1),ZA,b+1,rfl,ZA,fin _ kn,rfl,rfl,rfl,rfl,rfl,rfl,rfl,rfl,rfl⟩
      ·have ky:(Qt d b).next=[]:=List.eq_nil_of_length_eq_zero ZA;have kB:¬(Qt d b).jump=1:=λh=>by
        have:=zR b bk;rw[h,ky]at this;simp[Bd]at this
       have dj:decide ((Qt d b).jump=1)=false:=decide_eq_false kB;refine AC ?_;simp only[go_sem,gc,eD,BlkD.cells,dj,ky,Qc,List.map_nil,List.getD_nil,List.take_nil,List.headD_nil];simp only[go_sem,IZ];refine Wv ?_ ?_
       ·intro h;simp at h
       intro _;refine Zd ?_
       refine Zh ?_;refine⟨Qr,?_⟩;show ∃m,_;exact⟨d.blocks.length-(b+1),ZA,b+1,rfl,ZA,fin _ kn,rfl,rfl,rfl,rfl,rfl,rfl,rfl,rfl,rfl⟩
     ·intro a7;refine Zb ?_;refine Qq ?_;simp only[go_sem,l3,l4,l9,l49,l50,l51];refine⟨Qr,?_⟩;show ∃m,_;exact⟨ds.length-(i+1),ZA,i+1,rfl,ZA,Kn.drop (A:=[_,_]) (B:=[_]) kn,rfl,rfl,rfl,rfl,rfl⟩
   ·intro bB;refine Zb ?_;refine AC ?_;simp only[go_sem,l3,l4,aK,aY];refine Ma uR λH16 hu=>?_;have kn:=kn.au hu;have aK:=kn.l 0 rfl;simp only[go_sem,Qe0,aK];refine Ma aU λH17 hu=>?_;have kn:=kn.au hu;simp only[go_sem,Qez,hcd,decide_true];try intro _
    refine Qk ?_;exact retT' _ _ rfl
end Go.AE.Y
namespace Go.AE.Y
open Go.ChangeShapes Go.WideShapes Go.ChangeAt Go.RowKit
def Fg (w:World)(a:Option Addr)(len cap:Nat)(zs:List Int):Prop:=
 (a=none/\len=0/\cap=0/\zs=[])\/
 ∃x,a=some x/\len<=cap/\zs.length=cap/\(∀i,i<zs.length->w.cell? (x.add i)=some (.int .u8 (zs.getD i 0)))/\∀n∈zs,(Lit.int .u8 n).wf=true
theorem Qboa (w:World):Sat (λ_=>.none) ⟨λb=>decide (b<w.heap.size),λ_=>none,λ_=>none⟩ w:=by
 refine⟨λb hb=>⟨by simp;omega,rfl⟩,⟨0,λ_ _=>rfl⟩,λb x h=>ZH,λb l p h=>ZH,λl=>trivial⟩
theorem Xd {n:Int}(h:(Lit.int .u8 n).wf=true):((UInt8.ofNat n.toNat).toNat:Int)=n:=by
 simp only[Lit.wf,Bool.and_eq_true,decide_eq_true_eq]at h;have a1:IntKind.min .u8=0:=ZN
 have a2:IntKind.max .u8=255:=ZN
 rw[a1,a2]at h;rw[UInt8.toNat_ofNat'];omega
theorem calls_of_acall {P:Program}{f:Nat}(h:∀bs:List UInt8,bs.length<=1048576->Qv P f [.c (.sl false 1 (B3 bs))] (λ_=>.none) λv _=>v=.c (.bool true))
  {a0:Option Addr} {len0 cap0:Nat} {z0:List Int} {w:World} (hr:Fg w a0 len0 cap0 z0) (hl:len0<=1048576) :
  Calls P f #[.slice a0 len0 cap0] w λe w'=>e=.returned (.bool true)/\Below w.heap.size w w':=by
 have key:∃bs:List UInt8,bs.length=len0/\RepC w ⟨λb=>decide (b<w.heap.size),λ_=>none,λ_=>none⟩ (.sl false 1 (B3 bs)) (.slice a0 len0 cap0):=by
  rcases hr with ⟨rfl,rfl,rfl,rfl⟩|⟨x,rfl,uP,hz,bX,hwf⟩
  ·exact⟨[],rfl,.bT _ _ _⟩
  ·obtain⟨b,off,spot⟩:=x;have bk:((z0.take len0).map λn=>UInt8.ofNat n.toNat).length=len0:=ZG
   by_cases h0:cap0=0
   ·subst h0;have:len0=0:=ZA;subst this;exact⟨[],rfl,.bT _ _ _⟩
   have dg:=bX 0 ZA;have sD:spot=none:=by simpa[Addr.add]using World.cell?_spot dg
   subst sD;have yz:∀i,(⟨b,off,none⟩:Addr).add i=⟨b,off+i,none⟩:=by
    intro i;by_cases h:i=0 <;> simp[Addr.add,h]
   have hb:b<w.heap.size:=by
    rcases Ji b w.heap.size with h|h
    ·exact h
    ·simp[World.cell?,Addr.add,Array.getElem?_eq_none h]at dg
   refine⟨_,bk,?_⟩;have b8:∀(i:Nat) (row:List C),(B3 ((z0.take len0).map λn=>UInt8.ofNat n.toNat))[i]? = some row->i<len0/\row=[.int .u8 (z0.getD i 0)]:=by
    intro i row hi;have af:i<len0:=by
     rcases Ji i len0 with h|h
     ·exact h
     ·rw[Ja (by rw[Dr];omega)]at hi;simp at hi
    have rz:i<z0.length:=ZA;refine⟨af,?_⟩;simp only[B3,List.getElem?_map,List.getElem?_take,if_pos af,Jc rz,Option.map_some,Jj]at hi;rw[<-hi,Xd (hwf _ (Jg rz))];simp[Jb,rz]
   have:=RepC.sl (w:=w) (g:=⟨λb=>decide (b<w.heap.size),λ_=>none,λ_=>none⟩) false 1 (B3 ((z0.take len0).map λn=>UInt8.ofNat n.toNat)) b off cap0 (λi _=>.int .u8 (z0.getD i 0))
    (by rw[Dr,bk];simp only[LIM];omega) ZC (by rw[Dr,bk];exact uP) ZX
    (λi row hi=>by rw[(b8 i row hi).2];rfl)
    (λi row j c hi hj=>by
     obtain⟨h1,rfl⟩:=b8 i row hi;have kX:j=0:=by
      rcases Jf j with h|h
      ·exact h
      ·rw[Ja ZG]at hj;simp at hj
     subst kX;have:=bX i ZA;rw[yz]at this;simpa using this)
    (λi row j c hi hj=>by
     obtain⟨h1,rfl⟩:=b8 i row hi;have kX:j=0:=by
      rcases Jf j with h|h
      ·exact h
      ·rw[Ja ZG]at hj;simp at hj
     subst kX;simp at hj;subst hj;exact .int _ _)
   rw[Dr,bk]at this;exact this
 obtain⟨bs,bk,dl⟩:=key;have hc:=(h bs ZA).2 _ w [.slice a0 len0 cap0] (Qboa w) rfl (λj x u hj hu=>by
  cases j with
  |zero=>simp at hj hu;subst hj;subst hu;exact .c _ _ dl
  |succ j=>simp at hj)
 refine hc.mono λe w'=>?_;rintro (⟨v,x,H',g',rfl,rfl,aQ,hv⟩|⟨v,H',g',_,h,_⟩)
 rotate_left
 ·cases h
 have:v=.bool true:=by cases hv with|c _ _ h=>cases h;rfl
 subst this;exact⟨rfl,aQ.le.os,aQ.le.tape,aQ.le.output,aQ.le.size,λk hk=>(aQ.le.per k (by simpa using hk)).2⟩
end Go.AE.Y
