/- Part 7 of the proof: the engine, codes, walks and plain laws, each named where it stands. -/
import Derived.Test.YtlfdcfggpccakaaGreatDoorZF
import Derived.Below
import Derived.OpenShut
import Derived.ProofKit
open Nat (reduceEqDiff reduceAdd reduceLeDiff reduceLT)
set_option linter.unusedVariables false
set_option linter.unusedSimpArgs false
set_option maxRecDepth 4000
open Array renaming getElem?_eq_none->Je
open List renaming getD_eq_getElem?_getD->Ja,getElem?_eq_getElem->Jb,getElem?_eq_none->Jc,getElem?_map->Jf
open Nat renaming eq_zero_or_pos->Jd,lt_or_ge->Jg
open Option.some renaming injEq->Jh
namespace Go.AE.Y
attribute [local instance] Classical.propDecidable
open Go.Proofs.Tryz
variable {H:Heap}{K:V→Heap→Prop}{cs ds:List CodeD}{bs:List UInt8}
theorem XO (hg:Ah cs=true):AW (Ar cs (As cs))=AW cs:=by
 have h1:=(Rm hg).n;obtain⟨a1,a2⟩:=Hw hg;have a3:=a2 Zx;rw[AW,AW,By];have ae:(As cs).length-1<(Ar cs (As cs)).length:=by rw[By];omega
 rw[Cc ae,Ed ae];have aT:cs.length-1<cs.length:=Zx
 rw[Cc aT];have e:∀k,k=cs.length-1→(rnC (As cs) (A3 cs k)).params=cs[cs.length-1].params:=fun k hk=>by
  subst hk;simp[rnC,A3,Ja,aT]
 exact e _ a3
theorem FnDropCodesRuns_c (dX:H 0=.gl 0 tryC)(hK:∀H',K (.c (.bool true)) H'):Qs prog Qs1 [.c (.sl false 1 (AT bs))] H K:=
 Qbqa (dr:=V1) (im:=TX) (sp:=TN) (P:=fun cs ds=>ds=AY cs) (G:=Ah) ZB (fun bs H K h=>Qagg h)
  (fun cs H K hf h=>Qauk hf fun H' hu=>h _ H' rfl hu) (fun cs H K hf h=>Qay0 hf fun H' hu=>h _ H' rfl hu) (fun cs a b h1 h2=>h1.trans h2.symm) (fun cs ds hf h=>by rw[h];exact Qbip cs)
  (fun cs ds h hg=>by
   have e:AY cs=Ar cs (As cs):=by rw[AY,if_pos hg]
   rw[h,e];exact⟨hg,FY hg rfl,XO hg,fun l=>X7 hg rfl l Zx⟩) dX hK
end Go.AE.Y
namespace Go.AE.Y
open Go.ChangeShapes Go.WideShapes Go.ChangeAt Go.RowKit
def ED (w:World)(a:Option Addr)(len cap:Nat)(zs:List Int):Prop:=
 (a=none∧len=0∧cap=0∧zs=[])∨
 ∃x,a=some x∧len≤cap∧zs.length=cap∧(∀i,i<zs.length→w.cell? (x.add i)=some (.int .u8 (zs.getD i 0)))∧∀n∈zs,(Lit.int .u8 n).wf=true
def gh3 (w:World):G:=⟨fun b=>decide (b<w.heap.size),fun _=>none,fun l=>if l=0 then some (0,9,0)else none⟩
def hp3:Heap:=fun l=>if l=0 then .gl 0 tryC else .none
def tryZ:List Int:=[0,0,0,1,2,3,255,16,7]
theorem Qbl8 (w:World)(ht:∀j,j<9→w.cell? ⟨0,j,none⟩=some (.int .i64 (tryZ.getD j 0))):Sat hp3 (gh3 w) w:=by
 have h0:0<w.heap.size:=by
  have:=ht 0 Zx;rcases Jd w.heap.size with h|h
  ·simp[World.cell?,Je (show w.heap.size≤0 by omega)]at this
  ·exact h
 have hz:∀(j:Nat) (c:C),tryC[j]? = some c→j<9∧c=.int .i64 (tryZ.getD j 0):=by
  intro j c h;have hj:j<9:=(List.getElem?_eq_some_iff.1 h).1;refine⟨hj,?_⟩;have e:tryC=Ao tryZ:=rfl;rw[e,Ao,Jf]at h;have hl:j<tryZ.length:=hj;rw[Jb hl]at h;simp at h;rw[←h,Ja,Jb hl];rfl
 refine⟨fun b hb=>⟨by simp[gh3];omega,rfl⟩,⟨1,fun l hl=>by simp[gh3];omega⟩,fun b x h=>by simp[gh3]at h,fun b l p h=>by simp[gh3]at h,fun l=>?_⟩;by_cases hl:l=0
 ·subst hl;refine⟨9,fun j=>.int .i64 (tryZ.getD j 0),by simp[gh3],by simpa[gh3]using h0,fun j c h=>?_,fun j c h=>?_⟩
  ·exact ht j (hz j c h).1
  ·rw[(hz j c h).2];exact .int _ _
 ·rw[hp3,if_neg hl];trivial
theorem XV {n:Int}(h:(Lit.int .u8 n).wf=true):((UInt8.ofNat n.toNat).toNat:Int)=n:=by
 simp only[Lit.wf,Bool.and_eq_true,decide_eq_true_eq]at h;have a1:IntKind.min .u8=0:=ZK
 have a2:IntKind.max .u8=255:=ZK
 rw[a1,a2]at h;rw[UInt8.toNat_ofNat'];omega
theorem calls_of_acall3 {P:Program}{f:Nat}(h:∀bs:List UInt8,bs.length≤1048576→Qs P f [.c (.sl false 1 (AT bs))] hp3 fun v _=>v=.c (.bool true))
  {a0:Option Addr} {len0 cap0:Nat} {z0:List Int} {w:World} (ht:∀j,j<9→w.cell? ⟨0,j,none⟩=some (.int .i64 (tryZ.getD j 0))) (hr:ED w a0 len0 cap0 z0) (hl:len0≤1048576) :
  Calls P f #[.slice a0 len0 cap0] w fun e w'=>e=.returned (.bool true)∧Below w.heap.size w w':=by
 have key:∃bs:List UInt8,bs.length=len0∧RepC w (gh3 w) (.sl false 1 (AT bs)) (.slice a0 len0 cap0):=by
  rcases hr with ⟨rfl,rfl,rfl,rfl⟩|⟨x,rfl,tF,hz,bW,hwf⟩
  ·exact⟨[],rfl,.bP _ _ _⟩
  ·obtain⟨b,off,spot⟩:=x;have bB:((z0.take len0).map fun n=>UInt8.ofNat n.toNat).length=len0:=ZD
   by_cases h0:cap0=0
   ·subst h0;have:len0=0:=Zx;subst this;exact⟨[],rfl,.bP _ _ _⟩
   have cR:=bW 0 Zx;have qW:spot=none:=by simpa[Addr.add]using World.cell?_spot cR
   subst qW;have xn:∀i,(⟨b,off,none⟩:Addr).add i=⟨b,off+i,none⟩:=by
    intro i;by_cases h:i=0 <;> simp[Addr.add,h]
   have hb:b<w.heap.size:=by
    rcases Jg b w.heap.size with h|h
    ·exact h
    ·simp[World.cell?,Addr.add,Je h]at cR
   refine⟨_,bB,?_⟩;have bE:∀(i:Nat) (row:List C),(AT ((z0.take len0).map fun n=>UInt8.ofNat n.toNat))[i]? = some row→i<len0∧row=[.int .u8 (z0.getD i 0)]:=by
    intro i row hi;have ae:i<len0:=by
     rcases Jg i len0 with h|h
     ·exact h
     ·rw[Jc (by rw[C9];omega)]at hi;simp at hi
    have pZ:i<z0.length:=Zx;refine⟨ae,?_⟩;simp only[AT,Jf,List.getElem?_take,if_pos ae,Jb pZ,Option.map_some,Jh]at hi;rw[←hi,XV (hwf _ (List.getElem_mem pZ))];simp[Ja,pZ]
   have:=RepC.sl (w:=w) (g:=(gh3 w)) false 1 (AT ((z0.take len0).map fun n=>UInt8.ofNat n.toNat)) b off cap0 (fun i _=>.int .u8 (z0.getD i 0))
    (by rw[C9,bB];simp only[LIM];omega) Zz (by rw[C9,bB];exact tF) (by simpa[gh3]using hb)
    (fun i row hi=>by rw[(bE i row hi).2];rfl)
    (fun i row j c hi hj=>by
     obtain⟨h1,rfl⟩:=bE i row hi;have jB:j=0:=by
      rcases Jd j with h|h
      ·exact h
      ·rw[Jc ZD]at hj;simp at hj
     subst jB;have:=bW i Zx;rw[xn]at this;simpa using this)
    (fun i row j c hi hj=>by
     obtain⟨h1,rfl⟩:=bE i row hi;have jB:j=0:=by
      rcases Jd j with h|h
      ·exact h
      ·rw[Jc ZD]at hj;simp at hj
     subst jB;simp at hj;subst hj;exact .int _ _)
   rw[C9,bB]at this;exact this
 obtain⟨bs,bB,dc⟩:=key;have hc:=(h bs Zx).2 _ w [.slice a0 len0 cap0] (Qbl8 w ht) rfl (fun j x u hj hu=>by
  cases j with
  |zero=>simp at hj hu;subst hj;subst hu;exact .c _ _ dc
  |succ j=>simp at hj)
 refine hc.mono fun e w'=>?_;rintro (⟨v,x,H',g',rfl,rfl,aL,hv⟩|⟨v,H',g',_,h,_⟩)
 rotate_left
 ·cases h
 have:v=.bool true:=by cases hv with|c _ _ h=>cases h;rfl
 subst this;exact⟨rfl,aL.le.os,aL.le.tape,aL.le.output,aL.le.size,fun k hk=>(aL.le.per k (by simpa[gh3]using hk)).2⟩
end Go.AE.Y
