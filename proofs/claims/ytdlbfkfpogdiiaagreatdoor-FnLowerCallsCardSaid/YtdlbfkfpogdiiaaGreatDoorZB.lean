/- Part 2 of the proof: the engine, codes, walks and plain laws, each named where it stands. -/
import Derived.Test.YtdlbfkfpogdiiaaGreatDoorZA
import Derived.Test.YtdlbfkfpogdiiaaGreatDoorProg
open Nat (reduceEqDiff reduceAdd reduceLeDiff reduceLT)
set_option linter.unusedVariables false
set_option linter.unusedSimpArgs false
set_option maxRecDepth 4000
open Array renaming getD_eq_getD_getElem?->Jc,getElem?_eq_some_iff->Ji,getElem?_eq_getElem->Jj,getElem?_setIfInBounds_self_of_lt->Jp,getElem?_setIfInBounds_ne->Jy
open Bool renaming and_eq_true->Ja,not_eq_true'->Jz,or_eq_true->J3,false_and->Jam
open Iff renaming rfl->Jag
open Int renaming eq_ofNat_of_zero_le->J7
open List renaming mem_of_getElem?->Jb,mem_append->Je,mem_cons->Jf,mem_append_left->Jg,mem_append_right->Jh,getElem?_eq_none->Jk,length_eq_zero_iff->Jl,getD_eq_getElem?_getD->Jm,getElem?_eq_some_iff->Jo,getElem?_eq_getElem->Jq,map_cons->Jr,mem_map->Jt,map_congr_left->Ju,append_of_mem->Jv,getElem?_set->J0,all_eq_true->J1,not_mem_nil->J2,getElem?_drop->J5,pairwise_iff_getElem->J6,any_eq_true->J8,length_cons->J9,length_eq_one_iff->Jaa,length_nil->Jab,getElem?_take->Jaf,append_assoc->Jah,map_nil->Jai,countP_cons->Jaj,mem_range->Jan,take_zero->Jao,map_set->Jap
open Nat renaming add_mul->Jn,mul_le_mul_right->Jw,lt_or_ge->Jx,zero_add->Jac,mul_le_mul_left->Jad,le_refl->Jak,add_zero->Jaq,zero_le->Jar
open Ne renaming symm->Jae
open Option renaming map_some->Jal
open Option.some renaming injEq->Jd,inj->J4
open Prod.mk renaming injEq->Js
namespace Go.AE
variable {P:Program}{H:Heap}{g:G}{w:World}{e:Env}{a:Act}{o:Oper}{p:Bool}
def Qrc (z:Value)(sz:Nat)(q:Nat):Value:=z.cells[q % sz]!
theorem Qz4 {z:Value}{sz:Nat}(hzs:z.cells.size=sz)(m:Nat):Builtin.zeroCells z.cells m=((List.range (m * sz)).map (Qrc z sz)).toArray:=by
 subst hzs;apply Array.ext';simp[Builtin.zeroCells,Qrc,Array.toList_range]
theorem Qbhk {el:TypeId}{i:TypeInfo}{z:Value}{sz:Nat}(hi:P.info? el=some i)(hzero:i.zero=some z)(hzs:z.cells.size=sz)(m:Nat)(w:World) :
  (if m * sz=0 then (pure #[]:Sem (Array Value))else do pure (Builtin.zeroCells (←zeroValue el).cells m)).run P w=.ok ((List.range (m * sz)).map (Qrc z sz)).toArray w:=by
 split
 ·rename_i h;rw[h];simp
 ·simp[Qgn hi hzero,Qz4 hzs]
theorem Q9y {ats:Array TypeId}{ty t t2 el:TypeId}{i:TypeInfo}{z:Value}{sz:Nat}(h0:ats[0]? = some t)(h1:ats[1]? = some t2)(hu:P.underlying t=some (.slice el))(hu2:P.underlying t2=some (.int .i64))
  (hi:P.info? el=some i) (hz:i.size=sz) (hzero:i.zero=some z) (hzs:z.cells.size=sz) (hby:i.bytes≤128) {base:Option Addr} {n cap m:Nat} (hm:m≤LIM) (hroom:n+m≤cap)
  {w':World} (hst:∀x,base=some x→(storeCells (x.add (n * sz)) ((List.range (m * sz)).map (Qrc z sz))).run P w=.ok () w') (hnone:base=none→w'=w) :
  (Builtin.append_ ats ty #[.slice base n cap,.int .i64 m]).run P w=.ok (.slice base (n+m) cap) w':=by
 rw[Qgj]at hm;have hmul:m * i.bytes≤m * 128:=Jad _ hby;have hw:IntKind.i64.wrap (m:Int)=m:=by simp[IntKind.wrap,IntKind.signed,IntKind.bits];omega
 have hmi:¬(281474976710656<(m:Int) * (i.bytes:Int)):=by
  have:((m * i.bytes:Nat):Int)≤((m * 128:Nat):Int):=by exact_mod_cast hmul
  push_cast at this
  omega
 have hzm:=fun w=>Qbhk (P:=P) hi hzero hzs m w;simp only[Builtin.append_,h0,h1];simp[Q3 hu,Q3 hu2,Qa5 hi,hz,asInt,asIntOf,hw,Qhl hi,hmi,hroom];rw[if_neg (by omega)];split
 ·rename_i h
  rw[h]at hst
  cases base with
  |none=>simp[hnone rfl]
  |some x=>have:=hst x rfl;simp at this;simp[this]
 ·simp only[Qgn hi hzero,Result.andThen,Qz4 hzs]
  cases base with
  |none=>simp[hnone rfl]
  |some x=>simp[hst x rfl]
theorem Qas1 {ats:Array TypeId}{ty t t2 el:TypeId}{i:TypeInfo}{z:Value}{sz:Nat}(h0:ats[0]? = some t)(h1:ats[1]? = some t2)(hu:P.underlying t=some (.slice el))(hu2:P.underlying t2=some (.int .i64))
  (hi:P.info? el=some i) (hz:i.size=sz) (hzero:i.zero=some z) (hzs:z.cells.size=sz) (hby:i.bytes≤128) (hby0:i.bytes≠0) {base:Option Addr} {n cap m:Nat} {f1:Nat→Value} (hroom:¬n+m≤cap) (hlim:n+m≤LIM)
  (hf1:(Builtin.firstCells sz n (.slice base n cap)).run P w.drew=.ok ((List.range (n * sz)).map f1).toArray w.drew) :
  ∃(newCap:Nat) (rest:Array Value),n+m≤newCap∧rest.size=(newCap-(n+m)) * sz∧
   (Builtin.append_ ats ty #[.slice base n cap,.int .i64 m]).run P w=.ok (.slice (some ⟨w.heap.size,0,none⟩) (n+m) newCap)
    (w.drew.alloc (.cells (((List.range (n * sz)).map f1).toArray++((List.range (m * sz)).map (Qrc z sz)).toArray++rest) el)):=by
 rw[Qgj]at hlim;have hnc:=Qasz (Nat.lt_of_not_le hroom);have hmul:Builtin.nextslicecap (n+m) cap * i.bytes≤(2 * (n+m)+512) * 128:=Nat.mul_le_mul hnc hby;have hmul2:m * i.bytes≤m * 128:=Jad _ hby;have hw:IntKind.i64.wrap (m:Int)=m:=by simp[IntKind.wrap,IntKind.signed,IntKind.bits];omega
 have hmi:¬(281474976710656<(m:Int) * (i.bytes:Int)):=by
  have:((m * i.bytes:Nat):Int)≤((m * 128:Nat):Int):=by exact_mod_cast hmul2
  push_cast at this
  omega
 have hgr:¬(281474976710656<Builtin.nextslicecap (n+m) cap * i.bytes):=by omega
 have hmax:¬(9223372036854775807<(n:Int)+(m:Int)):=by omega
 generalize hnew:(Question.appendCap (n+m) cap el).cut (w.tape w.drawn (.appendCap (n+m) cap el))=newCap;refine⟨newCap,Builtin.zeroCells z.cells (newCap-(n+m)),?_,?_,?_⟩
 ·rw[←hnew];simp[Question.cut]
 ·simp[Builtin.zeroCells,hzs]
 ·simp only[Builtin.append_,h0,h1];simp[Q3 hu,Q3 hu2,Qa5 hi,hz,asInt,asIntOf,hw,Qhl hi,hmi,hroom,hby0];rw[if_neg (by omega),if_neg (by omega),if_neg hgr];simp[Question.forced,hnew,hf1];split
  ·rename_i h
   rw[h];simp[Qgn hi hzero,newRow]
  ·simp only[Qgn hi hzero,Result.andThen,Qz4 hzs];rw[←Array.append_assoc];simp[newRow]
theorem Qbql {sz m:Nat}{zr:List C}{A:C}{x' y':Operand}{ats:Array TypeId}{t t2 el:TypeId}{i:TypeInfo}{z:Value}{K:V→Heap→Prop}
  (hm:o.op=.call { callee:=.builtin .append,args:=#[x',y'],argTypes:=ats }) (h0:ats[0]? = some t) (h1:ats[1]? = some t2) (hu:P.underlying t=some (.slice el)) (hu2:P.underlying t2=some (.int .i64))
  (hi:P.info? el=some i) (hz:i.size=sz) (hzero:i.zero=some z) (hzs:z.cells.size=sz) (hby:i.bytes≤128) (hby0:i.bytes≠0) (hzl:Qase zr z=true)
  (hcx:RepC w g A (a.eval x')) (hqy:a.eval y'=.int .i64 m) (hml:m≤LIM) (hs:Sat H g w) (q5:appT H sz A (.sl false sz (List.replicate m zr)) K):EOk P H g w a o K:=by
 generalize hqx:a.eval x'=xv at hcx;have hexec:(execOp a.eval o).run P w=((Builtin.append_ ats o.type #[xv,.int .i64 m]).run P w).andThen fun v w'=>.ok (.value v) w':=by
  simp[execOp,hm,resolve,invoke,builtin,hqx,hqy]
 have hzr:=fun (w:World) (g:G)=>Qmo (w:=w) (g:=g) hzl;have hzrl:zr.length=sz:=by
  have:=(hzr w g).1;omega
 obtain⟨R,hR⟩:∃R,List.replicate m zr=R:=⟨_,rfl⟩;rw[hR]at q5;have hRl:R.length=m:=by rw[←hR];simp
 have hRm:∀(i:Nat) (row:List C),R[i]? = some row→i<m∧row=zr:=by
  intro i row h;rw[←hR,List.getElem?_replicate]at h;split at h
  ·exact⟨‹_›,(J4 h).symm⟩
  ·cases h
 have by3:∀(i:Nat) (row:List C),R[i]? = some row→row.length=sz:=fun i row h=>by rw[(hRm i row h).2,hzrl]
 have fz:∀(w:World) (g:G) (j:Nat) (c:C),zr[j]? = some c→∀i,RepC w g c (Qrc z sz (i * sz+j)):=by
  intro w g j c hj i;have hjs:j<sz:=by
   rw[←hzrl];exact (Jo.1 hj).1
  have e:(i * sz+j) % sz=j:=by rw[Nat.add_comm,Nat.add_mul_mod_self_right,Nat.mod_eq_of_lt hjs]
  have hg:z.cells[j]? = some z.cells[j]!:=by
   rw[getElem!_pos z.cells j (by omega)];exact Jj (by omega)
  rw[Qrc,e];exact (hzr w g).2 j c _ hj hg
 have f3:∀(w:World) (g:G) (i:Nat) (row:List C) (j:Nat) (c:C),R[i]? = some row→row[j]? = some c→RepC w g c (Qrc z sz (i * sz+j)):=by
  intro w g i row j c h1 h2;rw[(hRm i row h1).2]at h2;exact fz w g j c h2 i
 have f2:∀q,q<m * sz→(Qrc z sz q).oneCell'=true:=by
  intro q hq;obtain⟨a1,a2,a3⟩:=Qaso hq;have:=fz w g (q % sz) (zr[q % sz]'(by omega)) (Jq (by omega)) (q / sz);rw[a3]at this;exact this.one
 clear hzl hzr hzrl fz hR;have hsd:=Qaw0 hs;unfold appT at q5;obtain⟨_,_,q5⟩:=q5;simp only[rowsOf,lenC,hRl]at q5;split at q5
 ·
  rename_i z' rows
  obtain⟨rfl,c2,c3,c4,c5⟩:=q5;have hxv:∃ad,xv=.slice ad rows.length rows.length:=by
   cases hcx with
   |slnil _ _ ad=>exact⟨ad,rfl⟩
   |sl _ _ _ b off cap val hl hf hcap hper hrw hce hva=>rw[hf rfl];exact⟨_,rfl⟩
  obtain⟨ad,rfl⟩:=hxv;by_cases hm0:m=0
  ·have hrows:rows=[]:=by
    rcases c2 with h|h
    ·exact h
    ·exact absurd (Jl.1 (by omega)) h
   subst hrows;obtain⟨l,hl,hHl⟩:=hs.newName;have hrun:=Q9y (P:=P) (w:=w) (ty:=o.type) (base:=ad) (n:=0) (cap:=0) (m:=m) h0 h1 hu hu2 hi hz hzero hzs hby hml (by omega) (w':=w)
    (fun x _=>by rw[hm0];simp[storeCells]) (fun _=>rfl)
   refine EOk.value (v:=.slice ad (0+m) 0) (by rw[hexec];simp only[Jab];rw[hrun];rfl) (c5 l hHl) ?_ ?_ (g':=g.newVirt l z')
   ·have hrB:R=[]:=Jl.1 (by omega);rw[hrB];exact Qra hs hl z'
   ·simp only[Jab,hm0,Jaq];exact .c _ _ (.vslnil _ _ _ _)
  ·obtain⟨l,hl,hHl⟩:=hsd.sat.newName;have hcxd:=hcx.mono hsd.le;have hA:∀r∈rowsOf H (C.sl true z' rows),noOw r=true:=fun r hr=>c3 r (Jg _ hr);obtain⟨f',f1',f2',f3'⟩:=Qzx hsd.sat hcxd (s:=.sl true z' rows) trivial (sz:=z') rfl hA;simp only[lenC]at f1';obtain⟨newCap,rest,k1,k2,k3⟩:=Qas1 (P:=P) (w:=w) (ty:=o.type) h0 h1 hu hu2 hi hz hzero hzs hby hby0 (base:=ad) (n:=rows.length) (cap:=rows.length) (m:=m) (by omega) c4 f1';have hget:=Q8t (n:=rows.length) (m:=m) (sz:=z') (f1:=f') (f:=Qrc z z') (rest:=rest);generalize harr:(((List.range (rows.length * z')).map f').toArray++((List.range (m * z')).map (Qrc z z')).toArray++rest)=arr at k3 hget;have hasz:arr.size=newCap * z':=by
    rw[←harr];simp[k2];rw[←Jn,←Jn];congr 1;omega
   have hst:=Qcw hsd.sat hl z' 0 (.cells arr el) (.vec z' (rows++R)) (fun g' hg=>by
    subst hg;have hle:=Qh9 hsd.sat hl z' 0 (.cells arr el);refine .inr (Qi6 (nb:=w.drew.heap.size) (base:=0) (T:=el) (arr:=arr) (n:=rows.length) (m:=m) (by simp[G.newObj]) (by simp[G.newObj]) (Qbi _ _)
     (by rw[hasz,Jac];exact Jw _ k1) c4 rfl (by omega) ?_ by3 ?_ ?_)
    ·cases hcx with
     |slnil=>simp
     |sl _ _ _ b off cap val hl hf hcap hper hrw hce hva=>exact hrw
    ·intro i row j c e1 e2;have hlr:row.length=z':=by
      cases hcx with
      |slnil=>simp at e1
      |sl _ _ _ b off cap val hl hf hcap hper hrw hce hva=>exact hrw _ _ e1
     refine⟨f' (i * z'+j),hget.1 i j ?_ ?_,.plain _ _ _ _ ((f3' i row j c e1 e2).mono hle)⟩
     ·rcases Jx i rows.length with h|h
      ·exact h
      ·rw[Jk h]at e1;simp at e1
     ·rw[←hlr];rcases Jx j row.length with h|h
      ·exact h
      ·rw[Jk h]at e2;simp at e2
    ·intro i row j c e1 e2;refine⟨Qrc z z' (i * z'+j),hget.2 i j ?_ ?_,f3 _ _ i row j c e1 e2⟩
     ·rcases Jx i (R).length with h|h
      ·omega
      ·rw[Jk h]at e1;simp at e1
     ·rw[←by3 i row e1];rcases Jx j row.length with h|h
      ·exact h
      ·rw[Jk h]at e2;simp at e2)
   refine EOk.value (v:=.slice (some ⟨w.heap.size,0,none⟩) (rows.length+m) newCap) (by rw[hexec,k3];rfl) (c5 l hHl) (hsd.trans hst) ?_;have:=RepC.vsl (w:=w.drew.alloc (.cells arr el)) (g:=g.newObj l w.drew.heap.size z' 0) l z' 0 (rows.length+m) newCap w.heap.size 0 el arr.size (by simp[G.newObj]) k1
    (by simp only[World.shape?];rw[show w.heap.size=w.drew.heap.size from rfl,Qbi]) (by rw[hasz];simp)
   simpa using RepV.c _ _ this
 ·
  rename_i l z' st n
  split at q5
  ·rename_i y0 rows hH
   obtain⟨hzz1,hyy1,c2,hnB,c4,c5⟩:=q5;subst hyy1;subst hzz1;have hob:=hs.objs l;rw[hH]at hob;have hlne:H l≠.none:=by rw[hH];simp
   have hnomap:∀v es,H l≠.map v es:=by rw[hH];simp
   have hcases:(∃ad,xv=.slice ad 0 0∧n=0)∨∃b base cap T mm,xv=.slice (some ⟨b,base+st * z',none⟩) n cap∧g.io l=some (b,z',base)∧n≤cap∧w.shape? b=some (T,mm)∧base+(st+cap) * z'≤mm:=by
    cases hcx with
    |vslnil _ _ _ ad=>exact .inl ⟨ad,rfl,rfl⟩
    |vsl _ _ _ _ cap b base T mm hio hn hsh hmm=>exact .inr ⟨b,base,cap,T,mm,rfl,hio,hn,hsh,hmm⟩
   have htk:((rows.drop st).take n).length=n:=by simp;omega
   have hrowt:∀(i:Nat) (row:List C),((rows.drop st).take n)[i]? = some row→i<n∧rows[st+i]? = some row:=by
    intro i row h;simp only[Jaf,J5]at h;split at h
    ·exact⟨by assumption,h⟩
    ·simp at h
   have jlt:∀{row:List C} {j:Nat} {c:C} {k:Nat},row.length=k→row[j]? = some c→j<k:=by
    intro row j c k hk hj;rw[←hk];rcases Jx j row.length with h|h
    ·exact h
    ·rw[Jk h]at hj;simp at hj
   have grow:∀(ad:Option Addr) (cap:Nat),xv=.slice ad n cap→¬n+m≤cap→EOk P H g w a o K:=by
    intro ad cap hxv hng;have hold:∃f':Nat→Value,(Builtin.firstCells z' n (.slice ad n cap)).run P w.drew=.ok ((List.range (n * z')).map f').toArray w.drew∧
      ∀(i:Nat) (row:List C) (j:Nat) (c:C),((rows.drop st).take n)[i]? = some row→row[j]? = some c→RepO w g l [st+i,j] c (f' (i * z'+j)):=by
     rcases hcases with ⟨ad',h1,h2⟩|⟨b,base,cap',T,mm,h1,h2,h3,h4,h5⟩
     ·rw[hxv]at h1;simp only[Value.slice.injEq]at h1;subst h2;refine⟨fun _=>undef,?_,fun i row j c e1 _=>by simp at e1⟩
      cases ad with
      |none=>simp[Builtin.firstCells]
      |some q=>simp[Builtin.firstCells,loadCells,loadCellsFrom]
     ·rw[hxv]at h1;simp only[Value.slice.injEq]at h1;obtain⟨rfl,_,rfl⟩:=h1;obtain⟨b',base',T',cs,val,r1,r2,r3,r4,r5,r6,r7,r8⟩:=SatVec.of hob h2;rw[h2]at r1;simp only[Jd,Js,true_and]at r1;obtain⟨rfl,rfl⟩:=r1;have hfit:(st+n) * z'≤rows.length * z':=Jw _ c2;rw[Jn]at hfit;refine⟨fun q=>cs.getD (base+st * z'+q) undef,?_,fun i row j c e1 e2=>?_⟩
      ·simp only[Builtin.firstCells];refine run_loadCells _ _ _ _ fun j hj=>?_;rw[Qbp];rw[show w.drew.cell? ⟨b,base+st * z'+j,none⟩=w.cell? ⟨b,base+st * z'+j,none⟩ from rfl,Qc2 r3];rw[Jc,Jj (by omega)];rfl
      ·obtain⟨hi,e1'⟩:=hrowt i row e1;have:=r7 _ _ _ _ e1' e2;rw[Jn]at this;have e3:base+st * z'+(i * z'+j)=base+(st * z'+i * z')+j:=(by omega);show RepO _ _ _ _ _ (cs.getD (base+st * z'+(i * z'+j)) undef);rw[e3,Jc,this];exact r8 _ _ _ _ e1' e2
    obtain⟨f',f1',f3'⟩:=hold;obtain⟨newCap,rest,k1,k2,k3⟩:=Qas1 (P:=P) (w:=w) (ty:=o.type) h0 h1 hu hu2 hi hz hzero hzs hby hby0 (base:=ad) (n:=n) (cap:=cap) (m:=m) hng c4 f1';have hget:=Q8t (n:=n) (m:=m) (sz:=z') (f1:=f') (f:=Qrc z z') (rest:=rest);generalize harr:(((List.range (n * z')).map f').toArray++((List.range (m * z')).map (Qrc z z')).toArray++rest)=arr at k3 hget;have hasz:arr.size=newCap * z':=by
     rw[←harr];simp[k2];rw[←Jn,←Jn];congr 1;omega
    obtain⟨l',hl',hHl'⟩:=hsd.sat.newName;have hll:l'≠l:=fun h=>(by subst h;exact hlne (hs.none_of_io hl'));have hst:=Qng hsd.sat (l:=l) (l':=l') hl' hlne (st:=st) (n:=n) (nb:=w.drew.heap.size) (sz:=z') (base:=0) (w':=w.drew.alloc (.cells arr el)) (rows:=(rows.drop st).take n++R)
     (.inr rfl) (by simp) (by simp) (by simp) (fun b hb hlt=>Qdl _ _ hlt) (fun h=>absurd h (Nat.lt_irrefl _)) rfl rfl rfl (fun hle=>by
      refine Qi6 (nb:=w.drew.heap.size) (base:=0) (T:=el) (arr:=arr) (n:=n) (m:=m) (by simp[G.handOver]) (by simp[G.handOver]) (Qbi _ _)
       (by rw[hasz,Jac];exact Jw _ k1) c4 htk (by omega) (fun i row h=>?_) by3 (fun i row j c e1 e2=>?_) (fun i row j c e1 e2=>?_)
      ·obtain⟨hi,h'⟩:=hrowt i row h;rcases hob with ⟨r1,_⟩|⟨b',base',T',cs,val,r1,r2,r3,r4,r5,r6,r7,r8⟩
       ·rw[r1]at h';simp at h'
       ·exact r6 _ _ h'
      ·obtain⟨hi,h'⟩:=hrowt i row e1;have hrl:row.length=z':=by
        rcases hob with ⟨r1,_⟩|⟨b',base',T',cs,val,r1,r2,r3,r4,r5,r6,r7,r8⟩
        ·rw[r1]at h';simp at h'
        ·exact r6 _ _ h'
       refine⟨f' (i * z'+j),hget.1 i j hi (jlt hrl e2),?_⟩;refine (f3' i row j c e1 e2).move (hsd.le.trans hle) fun q b hb=>?_;have hbl:=Qah0 hs hb;have hbn:b≠w.drew.heap.size:=(by simp only[World.size_drew];omega);exact⟨Qky hb hi hbn,Qdl _ _ hbl⟩
      ·refine⟨Qrc z z' (i * z'+j),hget.2 i j ?_ (jlt (by3 i row e1) e2),f3 _ _ i row j c e1 e2⟩;rcases Jx i (R).length with h|h
       ·omega
       ·rw[Jk h]at e1;simp at e1) hnomap
    refine EOk.value (v:=.slice (some ⟨w.heap.size,0,none⟩) (n+m) newCap) (by rw[hexec,hxv,k3];rfl) (c5 l' (by rw[Heap.set_other _ _ hll];exact hHl')) (hsd.trans hst) ?_;have:=RepC.vsl (w:=w.drew.alloc (.cells arr el)) (g:=g.handOver l l' st n w.drew.heap.size z' 0) l' z' 0 (n+m) newCap w.heap.size 0 el arr.size (by simp[G.handOver]) k1
     (by simp only[World.shape?];rw[show w.heap.size=w.drew.heap.size from rfl,Qbi]) (by rw[hasz];simp)
    simpa using RepV.c _ _ this
   rcases hcases with ⟨ad,hxv,rfl⟩|⟨b,base,cap,T,mm,hxv,hio,hncap,hsh,hmm⟩
   ·by_cases hm0:m=0
    ·
     have hrun:=Q9y (P:=P) (w:=w) (ty:=o.type) (base:=ad) (n:=0) (cap:=0) (m:=m) h0 h1 hu hu2 hi hz hzero hzs hby hml (by omega) (w':=w)
      (fun x _=>by rw[hm0];simp[storeCells]) (fun _=>rfl)
     have hd:=Qa75 hs l hnomap;obtain⟨l',hl',hHl'⟩:=hd.sat.newName;refine EOk.value (v:=.slice ad (0+m) 0) (by rw[hexec,hxv,hrun];rfl) (c5 l' hHl') ?_ ?_ (g':=g.newVirt l' z')
     ·have hrB:R=[]:=Jl.1 (by omega);rw[hrB];simp only[Jao,List.append_nil];exact hd.trans (Qra hd.sat hl' z')
     ·simp only[hm0,Jaq];exact .c _ _ (.vslnil _ _ _ _)
    ·exact grow ad 0 hxv (by omega)
   ·by_cases hroom:n+m≤cap
    ·
     obtain⟨b',base',T',cs,val,r1,r2,r3,r4,r5,r6,r7,r8⟩:=SatVec.of hob hio;rw[hio]at r1;simp only[Jd,Js,true_and]at r1;obtain⟨rfl,rfl⟩:=r1;have hmms:mm=cs.size∧T=T':=by
      simp only[World.shape?,r3,Jd,Js]at hsh;exact⟨hsh.2.symm,hsh.1.symm⟩
     obtain⟨rfl,rfl⟩:=hmms;have hcapz:(st+(n+m)) * z'≤(st+cap) * z':=Jw _ (by omega);rw[Jn,Jn]at hcapz;have hfit:base+st * z'+n * z'+m * z'≤cs.size:=by
      rw[Jn]at hmm hcapz;omega
     have hfold:=fun k=>Qp8 (base+st * z'+n * z') ((List.range (m * z')).map (Qrc z z')) 0 cs k (by simp;omega);generalize hcs':(((List.range (m * z')).map (Qrc z z')).zipIdx 0).foldl (fun (cs:Array Value) (x:Value×Nat)=>cs.setIfInBounds (base+st * z'+n * z'+x.2) x.1) cs=cs' at hfold;have hstore:=Qe6 (P:=P) ((List.range (m * z')).map (Qrc z z')) 0 w b (base+st * z'+n * z') cs T r3 (by simp;omega) (by
      intro v hv;simp only[Jt,Jan]at hv;obtain⟨q,hq,rfl⟩:=hv;exact f2 q hq)
     rw[hcs']at hstore;have hrun:=Q9y (P:=P) (w:=w) (ty:=o.type) (base:=some ⟨b,base+st * z',none⟩) (n:=n) (cap:=cap) (m:=m) h0 h1 hu hu2 hi hz hzero hzs hby hml hroom (w':=World.putCells w b cs' T)
      (fun x hx=>by simp only[Jd]at hx;subst hx;rw[Qbp];exact hstore) (fun h=>by simp at h)
     have hblt:=Qkt r3;obtain⟨l',hl',hHl'⟩:=hs.newName;have hll:l'≠l:=fun h=>(by subst h;exact hlne (hs.none_of_io hl'));have hsz':cs'.size=cs.size:=(hfold 0).1;have hst:=Qng hs (l:=l) (l':=l') hl' hlne (st:=st) (n:=n) (nb:=b) (sz:=z') (base:=base+st * z') (w':=World.putCells w b cs' T) (rows:=(rows.drop st).take n++R)
      (.inl ⟨hblt,r2⟩) (by simp[World.putCells]) (by simp[World.putCells];exact hblt) (by simp[World.putCells];omega) (fun b' hb' _=>Qbe hb')
      (fun _ T0 k hk=>by
       simp only[World.shape?,r3,Jd,Js]at hk;simp only[World.shape?,Qb2 hblt,hsz',Jd,Js];exact hk) rfl rfl rfl (fun hle=>by
       refine Qi6 (nb:=b) (base:=base+st * z') (T:=T) (arr:=cs') (n:=n) (m:=m) (by simp[G.handOver]) (by simp[G.handOver]) (Qb2 hblt)
        (by rw[hsz',Jn];omega) c4 htk (by omega) (fun i row h=>r6 _ _ (hrowt i row h).2) by3 (fun i row j c e1 e2=>?_) (fun i row j c e1 e2=>?_)
       ·obtain⟨hi,h'⟩:=hrowt i row e1;have hj:=jlt (r6 _ _ h') e2;have hlt:=Qpt hi hj;refine⟨val (st+i) j,?_,?_⟩
        ·rw[(hfold _).2,if_neg (by omega),←r7 _ _ _ _ h' e2];congr 1;rw[Jn];omega
        ·refine (r8 _ _ _ _ h' e2).move hle fun q b2 hb2=>?_;have hbn:b2≠b:=fun h=>(by subst h;rw[r2]at hb2;simp at hb2);exact⟨Qky hb2 hi hbn,Qbe hbn⟩
       ·have hj:=jlt (by3 i row e1) e2;have hi:i<m:=by
         rcases Jx i (R).length with h|h
         ·omega
         ·rw[Jk h]at e1;simp at e1
        have hlt:=Qpt hi hj;refine⟨Qrc z z' (i * z'+j),?_,f3 _ _ i row j c e1 e2⟩;have hmul:(n+i) * z'=n * z'+i * z':=(by rw[Jn]);rw[(hfold _).2,if_pos (by simp;omega)];rw[show base+st * z'+(n+i) * z'+j-(base+st * z'+n * z'+0)=i * z'+j by omega];simp only[List.getElem?_map];rw[List.getElem?_range hlt];rfl) hnomap
     refine EOk.value (v:=.slice (some ⟨b,base+st * z',none⟩) (n+m) cap) (by rw[hexec,hxv,hrun];rfl) (c5 l' (by rw[Heap.set_other _ _ hll];exact hHl')) hst ?_;have:=RepC.vsl (w:=World.putCells w b cs' T) (g:=g.handOver l l' st n b z' (base+st * z')) l' z' 0 (n+m) cap b (base+st * z') T cs.size (by simp[G.handOver]) hroom
      (by simp only[World.shape?,Qb2 hblt,hsz']) (by rw[Jac];rw[Jn]at hmm;omega)
     simpa using RepV.c _ _ this
    ·exact grow _ cap hxv hroom
  ·exact q5.elim
 ·exact q5.elim
def Qbek (P:Program)(el:TypeId)(sz:Nat):Bool:=
 match P.info? el with
 |some i=>i.size == sz&&decide (i.bytes≤128)&&decide (i.bytes≠0)&&(match i.zero with
  |some z=>z.cells.size == sz
  |none=>false)
 |none=>false
theorem Q9e {el:TypeId}{sz:Nat}(h:Qbek P el sz=true):∃i z,P.info? el=some i∧i.size=sz∧i.zero=some z∧z.cells.size=sz∧i.bytes≤128∧i.bytes≠0:=by
 unfold Qbek at h;split at h
 ·rename_i i hi
  simp only[Ja,decide_eq_true_eq,beq_iff_eq]at h;obtain⟨⟨⟨h1,h2⟩,h3⟩,h4⟩:=h;split at h4
  ·rename_i z hz;exact⟨i,z,hi,h1,hz,by simpa using h4,h2,h3⟩
  ·simp at h4
 ·simp at h
def mMap (P:Program)(t:TypeId)(tag:Nat):Bool:=
 match P.underlying t with
 |some (.map kt _)=>(match P.underlying kt with
  |some d=>Qbd4 d tag
  |none=>false)
 |_=>false
theorem Qahl {t:TypeId}{tag:Nat}(h:mMap P t tag=true):∃kt et,P.underlying t=some (.map kt et)∧P.underlying kt=some (tagD tag):=by
 unfold mMap at h;split at h
 ·rename_i kt et hu
  split at h
  ·rename_i d hd;have:=Q9c h;subst this;exact⟨kt,et,hu,hd⟩
  ·simp at h
 ·simp at h
def mE (P:Program)(o:Oper):EOp→Bool
 |.alloc cells=>match o.op with
  |.alloc t=>Qa2n P t cells
  |_=>false
 |.boxm x=>match o.op with
  |.box _ x'=>mO x x'
  |_=>false
 |.sto n x y=>match o.op with
  |.store t x' y'=>Qaod P t n&&mO x x'&&mO y y'
  |_=>false
 |.app sz x y=>match o.op with
  |.call { callee:=.builtin .append,args:=⟨[x',y']⟩,argTypes:=ats }=>mO x x'&&mO y y'&&(match ats[0]?,ats[1]? with
   |some t,some t2=>(match P.underlying t,P.underlying t2 with
    |some (.slice el),some (.slice _)=>Qbek P el sz
    |_,_=>false)
   |_,_=>false)
  |_=>false
 |.apz sz zr x y=>match o.op with
  |.call { callee:=.builtin .append,args:=⟨[x',y']⟩,argTypes:=ats }=>mO x x'&&mO y y'&&(match ats[0]?,ats[1]? with
   |some t,some t2=>(match P.underlying t,P.underlying t2 with
    |some (.slice el),some (.int .i64)=>Qbek P el sz&&Qa2n P el zr
    |_,_=>false)
   |_,_=>false)
  |_=>false
 |.mks sz zero x=>match o.op with
  |.makeSlice t x' y'=>mO x x'&&mO x y'&&zero.length == sz&&decide (sz≠0)&&(match P.underlying t with
   |some (.slice el)=>Qbek P el sz&&Qa2n P el zero
   |_=>false)
  |_=>false
 |.mkm=>match o.op with
  |.makeMap _ none=>true
  |_=>false
 |.upd tag x k y=>match o.op with
  |.mapUpdate t x' k' y'=>mO x x'&&mO k k'&&mO y y'&&mMap P t tag
  |.insert t x' k' y'=>mO x x'&&mO k k'&&mO y y'&&mMap P t tag
  |_=>false
 |.del tag x k=>match o.op with
  |.call { callee:=.builtin .delete,args:=⟨[x',k']⟩,argTypes:=ats }=>mO x x'&&mO k k'&&o.dst.isNone&&(match ats[0]? with
   |some t=>mMap P t tag
   |none=>false)
  |_=>false
 |.clrm x=>match o.op with
  |.call { callee:=.builtin .clear,args:=⟨[x']⟩,argTypes:=ats }=>mO x x'&&(match ats[0]? with
   |some t=>(match P.underlying t with
    |some (.map _ _)=>true
    |_=>false)
   |none=>false)
  |_=>false
 |.clrs sz zero x=>match o.op with
  |.call { callee:=.builtin .clear,args:=⟨[x']⟩,argTypes:=ats }=>mO x x'&&zero.length == sz&&(match ats[0]? with
   |some t=>(match P.underlying t with
    |some (.slice el)=>Qa2n P el zero
    |_=>false)
   |none=>false)
  |_=>false
 |.call f xs=>match o.op with
  |.call { callee:=.value (.func f'),args:=aS,argTypes:=_ }=>f == f'&&mOs xs aS.toList
  |_=>false
 |.callv x xs=>match o.op with
  |.call { callee:=.value y,args:=aS,argTypes:=_ }=>mO x y&&mOs xs aS.toList
  |_=>false
 |.rng x=>match o.op with
  |.range t x'=>mO x x'&&(match P.underlying t with
   |some (.map _ _)=>true
   |_=>false)
  |_=>false
 |.rngs x=>match o.op with
  |.range t x'=>mO x x'&&(match P.underlying t with
   |some .string=>true
   |_=>false)
  |_=>false
 |.nxts x=>match o.op with
  |.next x' true=>mO x x'
  |_=>false
 |.nxt x=>match o.op with
  |.next x' false=>mO x x'
  |_=>false
 |.ent x=>match o.op with
  |.entry x'=>mO x x'
  |_=>false
 |.nilq x=>match o.op with
  |.binOp .eql t x' (.const (.slice none 0 0)) _=>mO x x'&&(match P.underlying t with
   |some (.slice _)=>true
   |_=>false)
  |_=>false
 |.cpy sz x y=>match o.op with
  |.call { callee:=.builtin .copy,args:=⟨[x',y']⟩,argTypes:=ats }=>mO x x'&&mO y y'&&(match ats[0]? with
   |some t=>(match P.underlying t with
    |some (.slice el)=>Qaod P el sz
    |_=>false)
   |none=>false)
  |_=>false
 |.bslm sz parts=>match o.op with
  |.buildSlice t n parts'=>n == parts'.size&&decide (n * sz≤2 ^ 24)&&mRow 0 parts parts'.toList&&decide (sz≠0)&&(match P.underlying t with
   |some (.slice el)=>Qaod P el sz&&(match P.info? el with
    |some i=>i.zero.isSome
    |none=>false)
   |_=>false)
  |_=>false
theorem Qag0 {op:EOp}{K:V→Heap→Prop}(hm:mE P o op=true)(hs:Sat H g w)(he:EnvOk w g e a)(hp:p=true)(ho:op.eff P p e H K):EOk P H g w a o K:=by
 cases op with
 |alloc cells=>
  simp only[mE]at hm;split at hm
  ·obtain⟨i,z,h1,h2,h3⟩:=Qlf hm;exact Qbl7 ‹_› h1 h2 h3 hs ho
  ·simp at hm
 |boxm x=>
  simp only[mE]at hm;split at hm
  ·exact Qboq ‹_› hm hs he hp ho
  ·simp at hm
 |sto n x y=>
  simp only[mE]at hm;split at hm
  ·simp only[Ja]at hm;obtain⟨i,h1,h2⟩:=Qe4 hm.1.1;exact Qbqt ‹_› h1 h2 hm.1.2 hm.2 hs he hp ho
  ·simp at hm
 |app sz x y=>
  simp only[mE]at hm;split at hm
  ·rename_i x' y' ats hop
   simp only[Ja]at hm;obtain⟨⟨h1,h2⟩,h3⟩:=hm;split at h3
   ·rename_i t t2 ht ht2
    split at h3
    ·rename_i el el2 hu hu2
     obtain⟨i,z,k1,k2,k3,k4,k5,k6⟩:=Q9e h3;exact Qbqk hop ht ht2 hu hu2 k1 k2 k3 k4 k5 k6 h1 h2 hs he hp ho
    ·simp at h3
   ·simp at h3
  ·simp at hm
 |apz sz zr x y=>
  simp only[mE]at hm;split at hm
  ·rename_i x' y' ats hop
   simp only[Ja]at hm;obtain⟨⟨h1,h2⟩,h3⟩:=hm;split at h3
   ·rename_i t t2 ht ht2
    split at h3
    ·rename_i el hu hu2
     rw[Ja]at h3;obtain⟨i,z,k1,k2,k3,k4,k5,k6⟩:=Q9e h3.1;obtain⟨i',z',j1,j2,j3⟩:=Qlf h3.2;rw[k1]at j1;obtain rfl:=J4 j1;rw[k3]at j2;obtain rfl:=J4 j2;simp only[EOp.eff]at ho;obtain⟨q1,q2,q3,q4,q5,q6,q7⟩:=ho;have hrx:=Qaf he h1 hp q1;have e1:=Qmz he h2 hp q2 q4;rw[Qda q3]at hrx;exact Qbql hop ht ht2 hu hu2 k1 k2 k3 k4 k5 k6 j3 hrx.c_inv (m:=(Q5 (y.v e)).toNat) (by rw[Int.toNat_of_nonneg q5];exact e1) (by omega) hs q7
    ·simp at h3
   ·simp at h3
  ·simp at hm
 |bslm sz parts=>
  simp only[mE]at hm;split at hm
  ·rename_i t n parts' hop
   simp only[Ja,decide_eq_true_eq,beq_iff_eq]at hm;obtain⟨⟨⟨⟨h1,h2⟩,h3⟩,h4⟩,h5⟩:=hm;split at h5
   ·rename_i el hel
    rw[Ja]at h5;obtain⟨i,hi,hz⟩:=Qe4 h5.1;have h6:=h5.2;rw[hi]at h6;obtain⟨z,hz'⟩:=Option.isSome_iff_exists.1 h6;obtain⟨k1,k2⟩:=Qahn _ _ _ h3;exact Qbor hop hel hi hz' hz h4 h1 h2 (by simpa using k1) (fun j x y e1 e2=>by
     have:=k2 j x y e1 (by simpa using e2);exact⟨by simpa using this.1,this.2⟩) hs he hp ho
   ·simp at h5
  ·simp at hm
 |mks sz zero x=>
  simp only[mE]at hm;split at hm
  ·rename_i t x' y' hop
   simp only[Ja,decide_eq_true_eq,beq_iff_eq]at hm;obtain⟨⟨⟨⟨h1,h2⟩,h3⟩,h4⟩,h5⟩:=hm;split at h5
   ·rename_i el hu
    rw[Ja]at h5;obtain⟨i,z,k1,k2,k3,k4,k5,k6⟩:=Q9e h5.1;obtain⟨i',z',l1,l2,l3⟩:=Qlf h5.2;rw[k1]at l1;simp at l1;subst l1;exact Qbqq hop hu k1 k2 h4 l2 l3 h3 k5 h1 h2 hs he hp ho
   ·simp at h5
  ·simp at hm
 |mkm=>
  simp only[mE]at hm;split at hm
  ·exact Qbqp ‹_› hs ho
  ·simp at hm
 |upd tag x k y=>
  simp only[mE]at hm;split at hm
  ·simp only[Ja]at hm;obtain⟨kt,et,h1,h2⟩:=Qahl hm.2;exact Qboy (.inl ‹_›) h1 h2 hm.1.1.1 hm.1.1.2 hm.1.2 hs he hp ho
  ·simp only[Ja]at hm;obtain⟨kt,et,h1,h2⟩:=Qahl hm.2;exact Qboy (.inr ‹_›) h1 h2 hm.1.1.1 hm.1.1.2 hm.1.2 hs he hp ho
  ·simp at hm
 |del tag x k=>
  simp only[mE]at hm;split at hm
  ·rename_i x' k' ats hop
   simp only[Ja]at hm;obtain⟨⟨⟨h1,h2⟩,h3⟩,h4⟩:=hm;split at h4
   ·rename_i t ht
    obtain⟨kt,et,k1,k2⟩:=Qahl h4;exact Qbqn hop ht (by simpa using h3) k1 k2 h1 h2 hs he hp ho
   ·simp at h4
  ·simp at hm
 |clrm x=>
  simp only[mE]at hm;split at hm
  ·rename_i x' ats hop
   rw[Ja]at hm;obtain⟨h1,h2⟩:=hm;split at h2
   ·rename_i t ht
    split at h2
    ·exact Qbot hop ht ‹_› h1 hs he hp ho
    ·simp at h2
   ·simp at h2
  ·simp at hm
 |clrs sz zero x=>
  simp only[mE]at hm;split at hm
  ·rename_i x' ats hop
   rw[Ja,Ja,beq_iff_eq]at hm;obtain⟨⟨h1,h3⟩,h2⟩:=hm;split at h2
   ·rename_i t ht
    split at h2
    ·rename_i el hu
     obtain⟨i,z,l1,l2,l3⟩:=Qlf h2;exact Qbou hop ht hu l1 l2 l3 h3 h1 hs he hp ho
    ·simp at h2
   ·simp at h2
  ·simp at hm
 |call f xs=>
  simp only[mE]at hm;split at hm
  ·simp only[Ja,beq_iff_eq]at hm;obtain⟨rfl,h2⟩:=hm;simp only[EOp.eff]at ho;exact Qbos ‹_› h2 hs he hp ho.1 ho.2
  ·simp at hm
 |callv x xs=>
  simp only[mE]at hm;split at hm
  ·simp only[Ja]at hm;exact Qbl8 ‹_› hm.1 hm.2 hs he hp ho
  ·simp at hm
 |rng x=>
  simp only[mE]at hm;split at hm
  ·rename_i t x' hop
   rw[Ja]at hm;obtain⟨h1,h2⟩:=hm;split at h2
   ·exact Qbqs hop ‹_› h1 hs he hp ho
   ·simp at h2
  ·simp at hm
 |rngs x=>
  simp only[mE]at hm;split at hm
  ·rename_i t x' hop
   rw[Ja]at hm;obtain⟨h1,h2⟩:=hm;split at h2
   ·exact Qbox hop ‹_› h1 hs he hp ho
   ·simp at h2
  ·simp at hm
 |nxts x=>
  simp only[mE]at hm;split at hm
  ·exact Qbow ‹_› hm hs he hp ho
  ·simp at hm
 |nxt x=>
  simp only[mE]at hm;split at hm
  ·exact Qbqr ‹_› hm hs he hp ho
  ·simp at hm
 |ent x=>
  simp only[mE]at hm;split at hm
  ·exact Qbqo ‹_› hm hs he hp ho
  ·simp at hm
 |cpy sz x y=>
  simp only[mE]at hm;split at hm
  ·rename_i x' y' ats hop
   rw[Ja,Ja]at hm;obtain⟨⟨h1,h3⟩,h2⟩:=hm;split at h2
   ·rename_i t ht
    split at h2
    ·rename_i el hu
     obtain⟨i,l1,l2⟩:=Qe4 h2;exact Qbqm hop ht hu l1 l2 h1 h3 hs he hp ho
    ·simp at h2
   ·simp at h2
  ·simp at hm
 |nilq x=>
  simp only[mE]at hm;split at hm
  ·rename_i t x' t' hop
   rw[Ja]at hm;obtain⟨h1,h2⟩:=hm;split at h2
   ·exact Qbov hop ‹_› h1 rfl hs he hp ho
   ·simp at h2
  ·simp at hm
def mG (ops:Array Oper):Option (Nat×Bool)→Option (Nat×Bool)→Bool
 |none,none=>true
 |some (j,b),some (t,b')=>(match ops[j]? with
  |some o=>o.dst == some t
  |none=>false)&&b == b'
 |_,_=>false
def mDst (n:Nat)(d d':Option Nat):Bool:=
 d == d'&&(match d with
  |some t=>decide (t<n)
  |none=>true)
def Qns (P:Program)(n:Nat)(ops:Array Oper)(o:Oper):Item→Bool
 |.f d g op=>mDst n o.dst d&&mG ops o.guard g&&mF P o op
 |.p d g f xs=>mDst n o.dst d&&mG ops o.guard g&&mE P o (.call f xs)
 |.e d g op=>mDst n o.dst d&&mG ops o.guard g&&mE P o op
 |.chk _ _ _=>false
def mIts (P:Program)(n:Nat)(ops:Array Oper):Nat→List Item→Bool
 |i,[]=>i == ops.size
 |i,x::r=>(match ops[i]? with
  |some o=>Qns P n ops o x
  |none=>false)&&mIts P n ops (i+1) r
def Post (n:Nat)(H:Heap)(g:G)(w:World)(K:Env→Heap→Prop)(a:Act)(w':World):Prop:=
 ∃e' H' g',K e' H'∧Stp H g w H' g' w'∧EnvOk w' g' e' a∧a.defers=[]∧a.tmps.size=n
theorem EnvOk.mono {g':G}{w':World}(hle:Le g w g' w')(h:EnvOk w g e a):EnvOk w' g' e a:=fun t=>(h t).mono hle
theorem EnvOk.put {n:Nat}{d:Option Nat}{x:V}{v:Value}(h:EnvOk w g e a)(hv:RepV w g x v)(hn:a.tmps.size=n)(hd:∀t,d=some t→t<n):EnvOk w g (putE d x e) (a.put d v):=by
 intro t
 cases d with
 |none=>exact h t
 |some s=>
  have hs:=hd s rfl;simp only[putE,lk,Act.put];by_cases ht:t=s
  ·subst ht;rw[if_pos rfl];have:(a.tmps.setIfInBounds t v).getD t undef=v:=by
    rw[Jc,Jp (by omega)];rfl
   rw[this];exact hv
  ·rw[if_neg ht];have:(a.tmps.setIfInBounds s v).getD t undef=a.tmps.getD t undef:=by
    rw[Jc,Jy (Jae ht),←Jc]
   rw[this];exact h t
theorem Qca (a:Act)(d:Option Nat)(v:Value):(a.put d v).tmps.size=a.tmps.size∧(a.put d v).defers=a.defers:=by
 cases d <;> simp[Act.put]
theorem Qpq {n:Nat}{ops:Array Oper}{gd:Option (Nat×Bool)}(hm:mG ops o.guard gd=true)(he:EnvOk w g e a)(ho:gdO e gd):Region.wanted o (yielded ops a.tmps)=gdB e gd:=by
 unfold Region.wanted
 cases hg:o.guard with
 |none=>
  cases gd with
  |none=>rfl
  |some x=>rw[hg]at hm;simp[mG]at hm
 |some jb=>
  obtain⟨j,b⟩:=jb
  cases gd with
  |none=>rw[hg]at hm;simp[mG]at hm
  |some tb=>
   obtain⟨t,b'⟩:=tb;rw[hg]at hm;simp only[mG,Ja,beq_iff_eq]at hm;obtain⟨h1,rfl⟩:=hm;split at h1
   ·rename_i oj hoj
    simp at h1;simp only[yielded,hoj,Option.bind_some,h1];have hv:=he t;simp only[gdO]at ho;simp only[gdB];have hget:∀c,a.tmps.getD t undef=.bool c→a.tmps[t]? = some (.bool c):=by
     intro c hc;rw[Jc]at hc
     cases hx:a.tmps[t]? with
     |none=>rw[hx]at hc;simp[undef]at hc
     |some y=>rw[hx]at hc;simp at hc;rw[hc]
    have hno:a.tmps.getD t undef=undef→∀c,a.tmps[t]?≠some (.bool c):=by
     intro hu c hc;rw[Jc,hc]at hu;simp[undef]at hu
    split at ho
    ·rename_i c hlk
     rw[hlk]at hv;have:=hget _ hv.c_inv.bool_inv;simp only[hlk];simp[this]
    ·rename_i q c hlk
     rw[hlk]at hv;simp only[hlk]
     cases hv with
     |gd _ _ _ k1 k2=>
      cases q with
      |true=>
       have:=hget _ (k1 rfl).c_inv.bool_inv;simp[this]
      |false=>
       have:=hno (k2 rfl);simp only[Jam]
       cases hx:a.tmps[t]? with
       |none=>simp
       |some y=>cases y <;> simp_all
    ·rename_i q v hnb hlk
     rw[hlk]at hv;subst ho;have e0:gdB e (some (t,b))=false:=by
      simp only[gdB,hlk]
      cases v with
      |c x=>cases x <;> simp
      |_=>rfl
     refine Eq.trans ?_ e0.symm
     cases hv with
     |gd _ _ _ k1 k2=>
      have:=hno (k2 rfl)
      cases hx:a.tmps[t]? with
      |none=>simp
      |some y=>cases y <;> simp_all
    ·exact ho.elim
   ·simp at h1
theorem Qeo {n:Nat}{d d':Option Nat}(h:mDst n d d'=true):d=d'∧∀t,d=some t→t<n:=by
 unfold mDst at h;rw[Ja]at h;refine⟨by simpa using h.1,fun t ht=>?_⟩;subst ht;simpa using h.2
theorem Qa7w {f:Nat}{xs:List Opd}{r:V}(hm:mE P o (.call f xs)=true)(hs:Sat H g w)(he:EnvOk w g e a)(hp:p=true)(hf:∀x∈xs,x.fine p e)(hc:Qbhn P f (xs.map fun x=>x.v e) r) :
  EOk P H g w a o (fun v H'=>v=r∧H'=H):=
 Qag0 (op:=.call f xs) hm hs he hp ⟨hf,hc.2 H _ ⟨rfl,rfl⟩⟩
theorem Qa1n {KP:Value→Heap→Prop}{K:V→Heap→Prop}{x:V}{v:Value}(h:Qa1m KP K x H)(hr:RepV w g x v):K x H:=by
 cases hr <;> exact h
theorem Qa81 {n:Nat}{ops:Array Oper}{i:Nat}{x:Item}{rest:List Item}{KP:Value→Heap→Prop}{K:Env→Heap→Prop}{Q:Exit→Act→World→Prop}{next:Act→World→Prop}(hoi:ops[i]? = some o)(hm:Qns P n ops o x=true)
  (hs:Sat H g w) (he:EnvOk w g e a) (hn:a.tmps.size=n) (hd:a.defers=[]) (hr:regT P (x::rest) e H KP K)
  (hpan:∀v H' g' w',KP v H'→Stp H g w H' g' w'→Q (.panic [{ v:=v,recovered:=false }]) a w')
  (hnext:∀e' H' g' a' w',regT P rest e' H' KP K→Stp H g w H' g' w'→EnvOk w' g' e' a'→a'.tmps.size=n→a'.defers=[]→next a' w') :
  (if Region.wanted o (yielded ops a.tmps)then o.wp P a w next Q∨(o.asks P a w∧LetsOut Q)else next (a.put o.dst undef) w):=by
 cases x with
 |f d gd op=>
  simp only[Qns,Ja]at hm;obtain⟨⟨h1,h2⟩,h3⟩:=hm;obtain⟨hd1,hd2⟩:=Qeo h1;simp only[regT]at hr;obtain⟨r1,r2,r3⟩:=hr;rw[Qpq (n:=n) h2 he r1];by_cases hg:gdB e gd=true
  ·rw[if_pos hg];obtain⟨v,w',g',k1,k2,k3,k4⟩:=Qaxg h3 hs he hg (r2 hg);left;unfold Oper.wp;rw[k1,Oper.upon_value,hd1];refine hnext _ _ _ _ _ (r3 fun _=>k4) k2 (((he.mono k2.le).put (n:=n) ?_ hn (hd1▸hd2))) (by rw[(Qca _ _ _).1,hn]) (by rw[(Qca _ _ _).2,hd])
   cases gd with
   |none=>exact k3
   |some tb=>exact .gd _ _ _ (fun _=>k3) (fun h=>by rw[hg]at h;simp at h)
  ·rw[if_neg hg];have hg':gdB e gd=false:=by simpa using hg
   rw[hd1];refine hnext _ _ _ _ _ (r3 fun h=>absurd h hg) (.refl hs) (he.put (n:=n) ?_ hn (hd1▸hd2)) (by rw[(Qca _ _ _).1,hn]) (by rw[(Qca _ _ _).2,hd])
   cases gd with
   |none=>simp[gdB]at hg'
   |some tb=>exact .gd _ _ _ (fun h=>absurd h hg) (fun _=>rfl)
 |p d gd f xs=>
  simp only[Qns,Ja]at hm;obtain⟨⟨h1,h2⟩,h3⟩:=hm;obtain⟨hd1,hd2⟩:=Qeo h1;simp only[regT]at hr;obtain⟨r1,v0,r2,r3⟩:=hr;rw[Qpq (n:=n) h2 he r1];by_cases hg:gdB e gd=true
  ·rw[if_pos hg];obtain⟨s1,s2⟩:=r2 hg;left;refine Qa7w h3 hs he hg s1 s2 Q next (fun x v w' H' g' hk hst hrep=>?_) fun v w' H' g' hk _=>absurd hk.1.symm (s2.1 v);obtain⟨rfl,rfl⟩:=hk;rw[hd1];refine hnext _ _ _ _ _ r3 hst (((he.mono hst.le).put (n:=n) ?_ hn (hd1▸hd2))) (by rw[(Qca _ _ _).1,hn]) (by rw[(Qca _ _ _).2,hd])
   cases gd with
   |none=>exact hrep
   |some tb=>exact .gd _ _ _ (fun _=>hrep) (fun h=>by rw[hg]at h;simp at h)
  ·rw[if_neg hg];have hg':gdB e gd=false:=by simpa using hg
   rw[hd1];refine hnext _ _ _ _ _ r3 (.refl hs) (he.put (n:=n) ?_ hn (hd1▸hd2)) (by rw[(Qca _ _ _).1,hn]) (by rw[(Qca _ _ _).2,hd])
   cases gd with
   |none=>simp[gdB]at hg'
   |some tb=>exact .gd _ _ _ (fun h=>absurd h hg) (fun _=>rfl)
 |e d gd op=>
  simp only[Qns,Ja]at hm;obtain⟨⟨h1,h2⟩,h3⟩:=hm;obtain⟨hd1,hd2⟩:=Qeo h1;simp only[regT]at hr;obtain⟨r1,r2,r3⟩:=hr;rw[Qpq (n:=n) h2 he r1];by_cases hg:gdB e gd=true
  ·rw[if_pos hg];left;refine Qag0 h3 hs he hg (r2 hg) Q next (fun x v w' H' g' hk hst hrep=>?_) fun v w' H' g' hk hst=>hpan v H' g' w' hk hst;rw[hd1];exact hnext _ _ _ _ _ (Qa1n hk hrep) hst (((he.mono hst.le).put (n:=n) hrep hn (hd1▸hd2))) (by rw[(Qca _ _ _).1,hn]) (by rw[(Qca _ _ _).2,hd])
  ·rw[if_neg hg];have hg':gdB e gd=false:=by simpa using hg
   rw[hd1];exact hnext _ _ _ _ _ (r3 hg') (.refl hs) (he.put (n:=n) (.unk _) hn (hd1▸hd2)) (by rw[(Qca _ _ _).1,hn]) (by rw[(Qca _ _ _).2,hd])
 |chk d gd op=>simp[Qns]at hm
theorem Qaci {n:Nat}{ops:Array Oper}{KP:Value→Heap→Prop}{K:Env→Heap→Prop}{Q:Exit→Act→World→Prop}{H0:Heap}{g0:G}{w0:World}(hQ:∀a' w',Post n H0 g0 w0 K a' w'→Q .normal a' w')
  (hP:∀v a' w',Post n H0 g0 w0 (fun _ H'=>KP v H') a' w'→Q (.panic [{ v:=v,recovered:=false }]) a' w') :
  ∀(its:List Item) (i:Nat) (e:Env) (H:Heap) (g:G) (w:World) (a:Act),mIts P n ops i its=true→Stp H0 g0 w0 H g w→EnvOk w g e a→a.tmps.size=n→a.defers=[]→regT P its e H KP K→
   wpOps P ops Q (List.range' i its.length) a w
 |[],i,e,H,g,w,a,_,hst,he,hn,hd,hr=>hQ a w ⟨e,H,g,hr,hst,he,hd,hn⟩
 |x::rest,i,e,H,g,w,a,hm,hst,he,hn,hd,hr=>by
  simp only[mIts,Ja]at hm;obtain⟨h1,h2⟩:=hm;split at h1
  ·rename_i o ho
   simp only[J9,List.range'_succ,wpOps,ho];have:=Qa81 (Q:=Q) (next:=wpOps P ops Q (List.range' (i+1) rest.length)) ho h1 hst.sat he hn hd hr (fun v H' g' w' k1 k2=>hP v a w' ⟨e,H',g',k1,hst.trans k2,he.mono k2.le,hd,hn⟩) fun e' H' g' a' w' k1 k2 k3 k4 k5=>
    Qaci hQ hP rest (i+1) e' H' g' w' a' h2 (hst.trans k2) k3 k4 k5 k1
   simpa using this
  ·simp at h1
theorem Qa7k {n:Nat}{ops:Array Oper}:∀(its:List Item) (i:Nat),mIts P n ops i its=true→i+its.length=ops.size
 |[],i,h=>by simpa[mIts]using h
 |x::r,i,h=>by
  simp only[mIts,Ja]at h;have:=Qa7k r (i+1) h.2;simp only[J9];omega
end Go.AE
namespace Go.AE
variable {P:Program}
def optL:Option Opd→List Opd
 |none=>[]
 |some x=>[x]
def FOp.opds:FOp→List Opd
 |.mv x=>[x]
 |.pick c a b=>[c,a,b]
 |.bin _ _ a b=>[a,b]
 |.not a=>[a]
 |.fad _ a=>[a]
 |.iad _ a i=>[a,i]
 |.ld _ _ a=>[a]
 |.nck a=>[a]
 |.len a=>[a]
 |.lenx a=>[a]
 |.lens a=>[a]
 |.lensx a=>[a]
 |.lenm a=>[a]
 |.sli _ a lo hi=>a::(optL lo++optL hi)
 |.slis a lo hi=>a::(optL lo++optL hi)
 |.ext a _=>[a]
 |.asl _ a=>[a]
 |.aslp _ a hi=>a::optL hi
 |.ldg _ _ _=>[]
 |.ldo _ _=>[]
 |.aslg _ _ _=>[]
 |.iax _ _ a i=>[a,i]
 |.slm _ a hi=>[a,hi]
 |.iaa _ _ a i=>[a,i]
 |.fld _ _ _ a=>[a]
 |.idx a i=>[a,i]
 |.bld _ parts=>parts.map fun p=>p.2.2
 |.bsl _ parts=>parts
 |.box a=>[a]
 |.cvt _ a=>[a]
 |.mkf _ caps=>caps
 |.lup _ _ m k=>[m,k]
 |.lup2 _ _ m k=>[m,k]
 |.mx a b=>[a,b]
 |.mn a b=>[a,b]
def EOp.opds:EOp→List Opd
 |.alloc _=>[]
 |.boxm a=>[a]
 |.sto _ a v=>[a,v]
 |.app _ a b=>[a,b]
 |.apz _ _ a n=>[a,n]
 |.mks _ _ n=>[n]
 |.mkm=>[]
 |.upd _ m k v=>[m,k,v]
 |.del _ m k=>[m,k]
 |.clrm m=>[m]
 |.clrs _ _ m=>[m]
 |.call _ args=>args
 |.callv f args=>f::args
 |.rng m=>[m]
 |.nxt it=>[it]
 |.rngs m=>[m]
 |.nxts it=>[it]
 |.ent it=>[it]
 |.nilq a=>[a]
 |.bslm _ parts=>parts
 |.cpy _ a b=>[a,b]
def FOp.hfree:FOp→Bool
 |.iad _ _ _=>false
 |.ld _ _ _=>false
 |.len _=>false
 |.lenx _=>false
 |.lenm _=>false
 |.sli _ _ _ _=>false
 |.lup _ _ _ _=>false
 |.asl _ _=>false
 |.ldg _ _ _=>false
 |.ldo _ _=>false
 |.aslg _ _ _=>false
 |.lup2 _ _ _ _=>false
 |_=>true
theorem Opd.v_congr {e e':Env}{x:Opd}(h:x.raw e'=x.raw e):x.v e'=x.v e:=by
 simp only[Opd.v,h]
theorem Opd.fine_congr {e e':Env}{x:Opd}{p:Bool}(h:x.raw e'=x.raw e):x.fine p e'↔x.fine p e:=by
 simp only[Opd.fine,h]
theorem Qve {e e':Env}{x:Option Opd}{p:Bool}(h:∀y∈optL x,y.raw e'=y.raw e) :
  (x.map fun y=>Q5 (y.v e'))=(x.map fun y=>Q5 (y.v e))∧(optF p x e'↔optF p x e)∧(optI x e'↔optI x e):=by
 cases x with
 |none=>exact⟨rfl,Jag,Jag⟩
 |some y=>
  have:=h y (by simp[optL]);simp only[Jal,optF,optI,Opd.v_congr this,Opd.fine_congr this,and_self]
theorem FOp.congr {op:FOp}{e e':Env}{H:Heap}{p:Bool}(h:∀x∈op.opds,x.raw e'=x.raw e) :
  op.val e' H=op.val e H∧(op.obl p e' H↔op.obl p e H):=by
 cases op <;> simp only[FOp.opds,Jf,J2,or_false,forall_eq_or_imp,forall_eq,Je,Jt,forall_exists_index,and_imp]at h
 case sli sz a lo hi=>
  have h1:=Opd.v_congr h.1;have h2:=Qve (x:=lo) (p:=p) fun y hy=>h.2 y (.inl hy);have h3:=Qve (x:=hi) (p:=p) fun y hy=>h.2 y (.inr hy);simp only[FOp.val,FOp.obl,h1,h2.1,h3.1,h2.2.1,h3.2.1,h2.2.2,h3.2.2,Opd.fine_congr h.1,and_self]
 case ldg n b l=>exact⟨rfl,Jag⟩
 case ldo b l=>exact⟨rfl,Jag⟩
 case aslg n b l=>exact⟨rfl,Jag⟩
 case aslp n a hi=>
  have h1:=Opd.v_congr h.1;have h3:=Qve (x:=hi) (p:=p) fun y hy=>h.2 y hy;simp only[FOp.val,FOp.obl,h1,h3.1,h3.2.1,h3.2.2,Opd.fine_congr h.1,and_self]
 case slis a lo hi=>
  have h1:=Opd.v_congr h.1;have h2:=Qve (x:=lo) (p:=p) fun y hy=>h.2 y (.inl hy);have h3:=Qve (x:=hi) (p:=p) fun y hy=>h.2 y (.inr hy);simp only[FOp.val,FOp.obl,h1,h2.1,h3.1,h2.2.1,h3.2.1,h2.2.2,h3.2.2,Opd.fine_congr h.1,and_self]
 case bld zero parts=>
  have h1:∀x∈parts,x.2.2.raw e'=x.2.2.raw e:=fun x hx=>h _ x hx rfl;refine⟨?_,?_⟩
  ·simp only[FOp.val];have:(parts.map fun p=>(p.1,(p.2.2.v e').cells))=parts.map fun p=>(p.1,(p.2.2.v e).cells):=
    Ju fun x hx=>by rw[Opd.v_congr (h1 x hx)]
   rw[this]
  ·simp only[FOp.obl];exact forall_congr' fun x=>forall_congr' fun hx=>by rw[Opd.fine_congr (h1 x hx),Opd.v_congr (h1 x hx)]
 case bsl sz parts=>
  refine⟨?_,?_⟩
  ·simp only[FOp.val];have:(parts.map fun x=>(x.v e').cells)=parts.map fun x=>(x.v e).cells:=
    Ju fun x hx=>by rw[Opd.v_congr (h x hx)]
   rw[this]
  ·simp only[FOp.obl];exact forall_congr' fun x=>forall_congr' fun hx=>by rw[Opd.fine_congr (h x hx),Opd.v_congr (h x hx)]
 case mkf f caps=>
  refine⟨?_,?_⟩
  ·simp only[FOp.val];have:(caps.map fun x=>(x.v e').c1)=caps.map fun x=>(x.v e).c1:=
    Ju fun x hx=>by rw[Opd.v_congr (h x hx)]
   rw[this]
  ·simp only[FOp.obl];exact forall_congr' fun x=>forall_congr' fun hx=>by rw[Opd.fine_congr (h x hx),Opd.v_congr (h x hx)]
 case pick c a b=>
  simp only[FOp.val,FOp.obl,Opd.v_congr h.1,Opd.v_congr h.2.1,Opd.v_congr h.2.2,Opd.fine_congr h.1,true_and];constructor <;> rintro⟨k1,k2⟩ <;> refine⟨k1,?_⟩ <;> split at k2 <;> first|exact k2.elim|skip
  ·rw[Opd.fine_congr h.2.1,Opd.fine_congr h.2.2]at k2;exact k2
  ·rw[Opd.fine_congr h.2.1,Opd.fine_congr h.2.2];exact k2
 all_goals first
  |(have h1:=Opd.v_congr h;simp only[FOp.val,FOp.obl,h1,Opd.fine_congr h,and_self])
  |(have h1:=Opd.v_congr h.1;have h2:=Opd.v_congr h.2;simp only[FOp.val,FOp.obl,h1,h2,Opd.fine_congr h.1,Opd.fine_congr h.2,and_self])
theorem FOp.hcongr {op:FOp}{e:Env}{H H':Heap}{p:Bool}(h:op.hfree=true):op.val e H'=op.val e H∧(op.obl p e H'↔op.obl p e H):=by
 cases op <;> first|(simp[FOp.hfree]at h;done)|exact⟨rfl,Jag⟩
theorem Q80 {e e':Env}{xs:List Opd}(h:∀x∈xs,x.raw e'=x.raw e):(xs.map fun x=>x.v e')=(xs.map fun x=>x.v e):=
 Ju fun x hx=>Opd.v_congr (h x hx)
theorem Q4f {e e':Env}{xs:List Opd}{p:Bool}(h:∀x∈xs,x.raw e'=x.raw e):(∀x∈xs,x.fine p e')↔(∀x∈xs,x.fine p e):=
 forall_congr' fun x=>forall_congr' fun hx=>Opd.fine_congr (h x hx)
theorem EOp.congr {op:EOp}{e e':Env}{H:Heap}{p:Bool}{K:V→Heap→Prop}(h:∀x∈op.opds,x.raw e'=x.raw e)(he:op.eff P p e H K):op.eff P p e' H K:=by
 cases op
 case call f xs=>
  simp only[EOp.opds]at h;simp only[EOp.eff]at he⊢;rw[Q80 h,Q4f h];exact he
 case callv f xs=>
  simp only[EOp.opds,Jf,forall_eq_or_imp]at h;simp only[EOp.eff]at he⊢;rw[Q80 h.2,Q4f h.2,Opd.fine_congr h.1,Opd.v_congr h.1];exact he
 case bslm sz parts=>
  simp only[EOp.opds]at h;simp only[EOp.eff]at he⊢;have:(parts.map fun x=>(x.v e').cells)=parts.map fun x=>(x.v e).cells:=
   Ju fun x hx=>by rw[Opd.v_congr (h x hx)]
  rw[this];exact⟨fun x hx=>by rw[Opd.fine_congr (h x hx),Opd.v_congr (h x hx)];exact he.1 x hx,he.2⟩
 all_goals simp only[EOp.opds,Jf,J2,or_false,forall_eq_or_imp,forall_eq]at h
 all_goals first
  |exact he
  |(simp only[EOp.eff,Opd.v_congr h,Opd.fine_congr h]at he⊢;exact he)
  |(simp only[EOp.eff,Opd.v_congr h.1,Opd.fine_congr h.1,Opd.v_congr h.2,Opd.fine_congr h.2]at he⊢;exact he)
  |(simp only[EOp.eff,Opd.v_congr h.1,Opd.fine_congr h.1,Opd.v_congr h.2.1,Opd.fine_congr h.2.1,Opd.v_congr h.2.2,Opd.fine_congr h.2.2]at he⊢;exact he)
def Item.dst:Item→Option Nat
 |.f d _ _=>d
 |.p d _ _ _=>d
 |.e d _ _=>d
 |.chk _ _ _=>none
def Item.gd:Item→Option (Nat×Bool)
 |.f _ g _=>g
 |.p _ g _ _=>g
 |.e _ g _=>g
 |.chk _ g _=>g
def Item.opds:Item→List Opd
 |.f _ _ op=>op.opds
 |.p _ _ _ xs=>xs
 |.e _ _ op=>op.opds
 |.chk _ _ op=>op.opds
def Opd.tm:Opd→List Nat
 |.t n=>[n]
 |_=>[]
def Item.looks (x:Item):List Nat:=x.opds.flatMap Opd.tm++(match x.gd with
 |some (t,_)=>[t]
 |none=>[])
theorem Qbfc {e e':Env}{x:Opd}(h:∀t∈x.tm,lk t e'=lk t e):x.raw e'=x.raw e:=by
 cases x with
 |t n=>simpa[Opd.raw,Opd.tm]using h
 |k v=>rfl
theorem Qaxq {e e':Env}{x:Item}(h:∀t∈x.looks,lk t e'=lk t e):∀y∈x.opds,y.raw e'=y.raw e:=fun y hy=>
 Qbfc fun t ht=>h t (Jg _ (List.mem_flatMap.2 ⟨y,hy,ht⟩))
theorem Qbie {e e':Env}{gd:Option (Nat×Bool)}(h:∀t b,gd=some (t,b)→lk t e'=lk t e):gdB e' gd=gdB e gd∧(gdO e' gd↔gdO e gd):=by
 cases gd with
 |none=>exact⟨rfl,Jag⟩
 |some x=>
  obtain⟨t,b⟩:=x;have:=h t b rfl;simp only[gdB,gdO,this,and_self]
theorem Qa7j {e e':Env}{x:Item}(h:∀t∈x.looks,lk t e'=lk t e):gdB e' x.gd=gdB e x.gd∧(gdO e' x.gd↔gdO e x.gd):=
 Qbie fun t b hg=>h t (Jh _ (by rw[hg];simp))
theorem Qaui (ks:List Nat)(e:Env)(t:Nat):lk t (trim ks e)=if t∈ks then lk t e else .unk:=by
 unfold trim
 induction ks with
 |nil=>simp[lk]
 |cons k ks ih=>
  simp only[Jr,lk,ih,Jf];by_cases h:t=k
  ·subst h;simp
  ·simp[h]
end Go.AE
namespace Go.AE
variable {P:Program}{H:Heap}{g:G}{w:World}{e:Env}{a:Act}
def Item.isE:Item→Bool
 |.e _ _ _=>true
 |_=>false
def Item.isChk:Item→Bool
 |.chk _ _ _=>true
 |_=>false
def Item.isFl:Item→Bool
 |.f _ _ _=>true
 |.p _ _ _ _=>true
 |_=>false
def Item.hf:Item→Bool
 |.f _ _ op=>op.hfree
 |_=>true
def Item.isFa:Item→Bool
 |.e (some _) none (.alloc _)=>true
 |_=>false
abbrev Row:=Nat×Item
def Q8z (ms:List Nat)(o:Oper):Nat→List Edge→Nat
 |s,[]=>s
 |s,ed::r=>Q8z ms o (if Region.binds .any ed then s ||| (2 ^ ed.on ||| ms.getD ed.on 0)else s) r
def dIn (d:Option Nat)(l:List Nat):Bool:=
 match d with
 |some t=>l.contains t
 |none=>false
def flo (fa i:Nat):Bool:=i == fa || (decide (100000≤fa)&&(fa-100000).testBit i)
def Qa7t (ms:List Nat)(fa:Nat)(x y:Row):Bool:=
 x.1 != y.1&&!((ms.getD x.1 0).testBit y.1)&&(match x.2.dst with
  |some t=>y.2.dst != some t
  |none=>true)
 &&(!(dIn y.2.dst x.2.looks) || (ms.getD y.1 0).testBit x.1)
 &&(!(dIn x.2.dst y.2.looks) || (ms.getD y.1 0).testBit x.1)
 &&(!x.2.isE || flo fa y.1 || (ms.getD y.1 0).testBit x.1)
def Qat9 (j:Nat):List Row→Bool
 |[]=>false
 |y::r=>y.2.isChk&&(y.1 == j || Qat9 j r)
def Qa9g (P:Program)(n:Nat)(ops:Array Oper)(ms:List Nat)(fa:Nat)(pre:List Row)(y:Row)(rest:List Row):Bool:=
 match ops[y.1]? with
 |none=>false
 |some o=>match y.2 with
  |.chk d gd op=>Qns P n ops o (.f (some d) gd op)&&pre.any (fun z=>!z.2.isChk&&z.1 == y.1&&z.2.looks == y.2.looks&&z.2.dst == some d&&!z.2.hf)
    &&pre.all (fun z=>z.2.isChk || !(dIn z.2.dst y.2.looks) || (ms.getD y.1 0).testBit z.1)
  |_=>Qns P n ops o y.2&&o.after.toList.all (fun ed=>!Region.binds .any ed || pre.any fun z=>!z.2.isChk&&z.1 == ed.on)
    &&ms.getD y.1 0 == Q8z ms o 0 o.after.toList&&!(dIn y.2.dst y.2.looks)
    &&pre.all (fun z=>z.2.isChk || Qa7t ms fa z y)&&(!flo fa y.1 || y.2.isFa)
    &&(!y.2.isE || pre.all (fun z=>z.2.isChk || z.2.hf || (ms.getD y.1 0).testBit z.1 || Qat9 z.1 rest))
def Qayx (P:Program)(n:Nat)(ops:Array Oper)(ms:List Nat)(fa:Nat):List Row→List Row→Bool
 |_,[]=>true
 |pre,y::r=>Qa9g P n ops ms fa pre y r&&Qayx P n ops ms fa (pre++[y]) r
def Qbnm:List Oper→List Nat→List Nat
 |[],ms=>ms
 |o::r,ms=>Qbnm r (ms++[Q8z ms o 0 o.after.toList])
def Qbnf (P:Program)(n:Nat)(ops:Array Oper)(fa:Nat)(ord:List Nat)(its:List Item):Bool:=
 ord.length == its.length&&Region.noSelect ops&&Qayx P n ops (Qbnm ops.toList []) fa [] (ord.zip its)
  &&(List.range ops.size).all fun i=>(ord.zip its).any fun y=>!y.2.isChk&&y.1 == i
theorem Q4v {n:Nat}{ops:Array Oper}{ms:List Nat}{fa:Nat}:∀(L pre:List Row),Qayx P n ops ms fa pre L=true→
  ∀A y B,L=A++y::B→Qa9g P n ops ms fa (pre++A) y B=true
 |[],_,_,A,y,B,h=>by simp at h
 |x::r,pre,hm,A,y,B,h=>by
  simp only[Qayx,Ja]at hm
  cases A with
  |nil=>
   simp at h;obtain⟨rfl,rfl⟩:=h;simpa using hm.1
  |cons a A=>
   simp at h;obtain⟨rfl,rfl⟩:=h;have:=Q4v _ _ hm.2 A y B rfl;simpa[Jah]using this
theorem Qab1 {ms:List Nat}{o:Oper}{j:Nat}:∀(l:List Edge) (s:Nat),(Q8z ms o s l).testBit j=true→
  s.testBit j=true∨∃ed∈l,Region.binds .any ed=true∧(ed.on=j∨(ms.getD ed.on 0).testBit j=true)
 |[],s,h=>.inl h
 |ed::r,s,h=>by
  simp only[Q8z]at h;rcases Qab1 r _ h with h1|⟨x,hx,h1⟩
  ·by_cases hb:Region.binds .any ed=true
   ·rw[if_pos hb]at h1;simp only[Nat.testBit_or,J3]at h1;rcases h1 with h1|h1|h1
    ·exact .inl h1
    ·rw[Nat.testBit_two_pow]at h1;exact .inr ⟨ed,by simp,hb,.inl (by simpa using h1)⟩
    ·exact .inr ⟨ed,by simp,hb,.inr h1⟩
   ·rw[if_neg hb]at h1;exact .inl h1
  ·exact .inr ⟨x,by simp[hx],h1⟩
theorem dIn_iff {d:Option Nat}{l:List Nat}:dIn d l=true↔∃t,d=some t∧t∈l:=by
 cases d <;> simp[dIn]
structure PairOk (ms:List Nat)(fa:Nat)(x y:Row):Prop where
 ne:x.1≠y.1
 top:(ms.getD x.1 0).testBit y.1=false
 dst:∀t,x.2.dst=some t→y.2.dst≠some t
 war:∀t,y.2.dst=some t→t∈x.2.looks→(ms.getD y.1 0).testBit x.1=true
 raw:∀t,x.2.dst=some t→t∈y.2.looks→(ms.getD y.1 0).testBit x.1=true
 ord:x.2.isE=true→¬flo fa y.1=true→(ms.getD y.1 0).testBit x.1=true
theorem Qa21 {ms:List Nat}{fa:Nat}{x y:Row}(h:Qa7t ms fa x y=true):PairOk ms fa x y:=by
 simp only[Qa7t,Ja,bne_iff_ne,J3,Jz,beq_iff_eq]at h;obtain⟨⟨⟨⟨⟨h1,h2⟩,h3⟩,h4⟩,h5⟩,h6⟩:=h;refine⟨h1,h2,?_,?_,?_,?_⟩
 ·intro t ht;rw[ht]at h3;simpa using h3
 ·intro t ht hm;rcases h4 with h4|h4
  ·have:=dIn_iff.2 ⟨t,ht,hm⟩;rw[this]at h4;simp at h4
  ·exact h4
 ·intro t ht hm;rcases h5 with h5|h5
  ·have:=dIn_iff.2 ⟨t,ht,hm⟩;rw[this]at h5;simp at h5
  ·exact h5
 ·intro hx hy;rcases h6 with (h6|h6)|h6
  ·rw[hx]at h6;simp at h6
  ·exact absurd h6 hy
  ·exact h6
structure RowOk (P:Program)(n:Nat)(ops:Array Oper)(ms:List Nat)(fa:Nat)(pre:List Row)(y:Row)(rest:List Row)(o:Oper):Prop where
 op:ops[y.1]? = some o
 item:Qns P n ops o y.2=true
 aft:∀ed∈o.after,Region.binds .any ed=true→∃z∈pre,z.2.isChk=false∧z.1=ed.on
 anc:∀j,(ms.getD y.1 0).testBit j=true→∃ed∈o.after,Region.binds .any ed=true∧(ed.on=j∨(ms.getD ed.on 0).testBit j=true)
 self:∀t,y.2.dst=some t→t∉y.2.looks
 pair:∀z∈pre,z.2.isChk=false→PairOk ms fa z y
 isFa:flo fa y.1=true→y.2.isFa=true
 cover:y.2.isE=true→∀z∈pre,z.2.isChk=false→z.2.hf=false→(ms.getD y.1 0).testBit z.1=false→Qat9 z.1 rest=true
theorem Qa9h {n:Nat}{ops:Array Oper}{ms:List Nat}{fa:Nat}{pre:List Row}{y:Row}{rest:List Row}(h:Qa9g P n ops ms fa pre y rest=true)(hc:y.2.isChk=false) :
  ∃o,RowOk P n ops ms fa pre y rest o:=by
 obtain⟨i,x⟩:=y;unfold Qa9g at h
 cases ho:ops[i]? with
 |none=>simp[ho]at h
 |some o=>
  simp only[ho]at h;have key:(Qns P n ops o x&&o.after.toList.all (fun ed=>!Region.binds .any ed || pre.any fun z=>!z.2.isChk&&z.1 == ed.on)
    &&ms.getD i 0 == Q8z ms o 0 o.after.toList&&!(dIn x.dst x.looks)
    &&pre.all (fun z=>z.2.isChk || Qa7t ms fa z (i,x))&&(!flo fa i || x.isFa)
    &&(!x.isE || pre.all (fun z=>z.2.isChk || z.2.hf || (ms.getD i 0).testBit z.1 || Qat9 z.1 rest)))=true:=by
   cases x with
   |chk=>simp[Item.isChk]at hc
   |f=>exact h
   |p=>exact h
   |e=>exact h
  simp only[Ja,J1,J3,Jz,beq_iff_eq,bne_iff_ne,J8]at key;obtain⟨⟨⟨⟨⟨⟨h1,h2⟩,h3⟩,h4⟩,h5⟩,h6⟩,h7⟩:=key;refine⟨o,ho,h1,?_,?_,?_,?_,?_,?_⟩
  ·intro ed hed hb;rcases h2 ed (by simpa using hed)with h|⟨z,hz,h⟩
   ·rw[hb]at h;simp at h
   ·exact⟨z,hz,h.1,h.2⟩
  ·intro j hj;simp only at hj;rw[h3]at hj;rcases Qab1 _ _ hj with h|⟨ed,hed,h⟩
   ·simp at h
   ·exact⟨ed,by simpa using hed,h⟩
  ·intro t ht hm;have:=dIn_iff.2 ⟨t,ht,hm⟩;simp only at this;rw[this]at h4;simp at h4
  ·intro z hz hzc;rcases h5 z hz with h|h
   ·rw[hzc]at h;simp at h
   ·exact Qa21 h
  ·intro hf;rcases h6 with h|h
   ·exact absurd hf (by rw[h];decide)
   ·exact h
  ·intro hE z hz hzc hzh hzt;rcases h7 with h|h
   ·simp only at hE;rw[hE]at h;simp at h
   ·rcases h z hz with ((h|h)|h)|h
    ·rw[hzc]at h;simp at h
    ·rw[hzh]at h;simp at h
    ·simp only at hzt;rw[hzt]at h;simp at h
    ·exact h
theorem Qa8k {n:Nat}{ops:Array Oper}{ms:List Nat}{fa:Nat}{pre:List Row}{i d:Nat}{gd:Option (Nat×Bool)}{op:FOp}{rest:List Row}(h:Qa9g P n ops ms fa pre (i,.chk d gd op) rest=true) :
  ∃o,ops[i]? = some o∧Qns P n ops o (.f (some d) gd op)=true∧(∃z∈pre,z.2.isChk=false∧z.1=i∧z.2.looks=(Item.f (some d) gd op).looks∧z.2.dst=some d∧z.2.hf=false)∧
   ∀z∈pre,z.2.isChk=false→∀t,z.2.dst=some t→t∈(Item.f (some d) gd op).looks→(ms.getD i 0).testBit z.1=true:=by
 unfold Qa9g at h
 cases ho:ops[i]? with
 |none=>simp[ho]at h
 |some o=>
  simp only[ho,Ja,J8,J1,J3,Jz,beq_iff_eq]at h;obtain⟨⟨h1,z,hz,⟨⟨⟨h2,h3⟩,h4⟩,h5⟩,h6⟩,h7⟩:=h;refine⟨o,rfl,h1,⟨z,hz,h2,h3,h4,h5,h6⟩,?_⟩;intro z hz hzc t ht hm;rcases h7 z hz with (h|h)|h
  ·rw[hzc]at h;simp at h
  ·have:=dIn_iff.2 ⟨t,ht,hm⟩;change dIn z.2.dst (Item.chk d gd op).looks=true at this;rw[this]at h;simp at h
  ·exact h
abbrev dn (listed:Array Bool)(i:Nat):Prop:=listed.getD i false=true
def Rdy (P:Program)(x:Item)(e:Env)(H:Heap)(v:V):Prop:=
 match x with
 |.f _ gd op=>gdO e gd∧(gdB e gd=true→op.obl (gdB e gd) e H)∧v=gdV gd (gdB e gd) (op.val e H)
 |.p _ gd f xs=>gdO e gd∧∃r,(gdB e gd=true→(∀y∈xs,y.fine (gdB e gd) e)∧Qbhn P f (xs.map fun y=>y.v e) r)∧v=gdV gd (gdB e gd) r
 |_=>False
theorem Rdy.congr {x:Item}{e e':Env}{v:V}(h:∀t∈x.looks,lk t e'=lk t e)(hr:Rdy P x e H v):Rdy P x e' H v:=by
 have h1:=Qaxq h;have h2:=Qa7j h
 cases x with
 |f d gd op=>
  simp only[Item.gd]at h2;simp only[Item.opds]at h1;have h3:=FOp.congr (H:=H) (p:=gdB e gd) h1;simp only[Rdy]at hr⊢;rw[h2.1,h2.2,h3.1,h3.2];exact hr
 |p d gd f xs=>
  simp only[Item.gd]at h2;simp only[Item.opds]at h1;simp only[Rdy]at hr⊢;rw[h2.1,h2.2,Q80 h1,Q4f h1];exact hr
 |e=>exact hr
 |chk=>exact hr
theorem Rdy.hcongr {x:Item}{e:Env}{H':Heap}{v:V}(h:x.hf=true)(hr:Rdy P x e H v):Rdy P x e H' v:=by
 cases x with
 |f d gd op=>
  have h3:=FOp.hcongr (e:=e) (H:=H) (H':=H') (p:=gdB e gd) (op:=op) h;simp only[Rdy]at hr⊢;rw[h3.1,h3.2];exact hr
 |p d gd f xs=>exact hr
 |e=>exact hr
 |chk=>exact hr
theorem Qbmn {n:Nat}{ops:Array Oper}{i:Nat}{o:Oper}{x:Item}{v:V}{Q:Exit→Act→World→Prop}{next:Act→World→Prop}(hoi:ops[i]? = some o)(hm:Qns P n ops o x=true)
  (hr:Rdy P x e H v) (hs:Sat H g w) (he:EnvOk w g (trim x.looks e) a)
  (hnext:∀u w' g',Stp H g w H g' w'→RepV w' g' v u→next (a.put x.dst u) w') :
  wpOp P ops Q i next a w:=by
 have hr':Rdy P x (trim x.looks e) H v:=hr.congr fun t ht=>by rw[Qaui,if_pos ht]
 unfold wpOp;rw[hoi];simp only
 cases x with
 |f d gd op=>
  simp only[Qns,Ja]at hm;obtain⟨⟨h1,h2⟩,h3⟩:=hm;obtain⟨hd1,hd2⟩:=Qeo h1;simp only[Rdy]at hr';obtain⟨r1,r2,r3⟩:=hr';rw[Qpq (n:=n) h2 he r1];by_cases hg:gdB (trim (Item.f d gd op).looks e) gd=true
  ·rw[if_pos hg];obtain⟨u,w',g',k1,k2,k3,k4⟩:=Qaxg h3 hs he hg (r2 hg);left;unfold Oper.wp;rw[k1,Oper.upon_value,hd1];refine hnext u w' g' k2 ?_;rw[r3]
   cases gd with
   |none=>exact k3
   |some tb=>exact .gd _ _ _ (fun _=>k3) (fun h=>by rw[hg]at h;simp at h)
  ·rw[if_neg hg];have hg':gdB (trim (Item.f d gd op).looks e) gd=false:=by simpa using hg
   rw[hd1];refine hnext _ _ g (.refl hs) ?_;rw[r3]
   cases gd with
   |none=>simp[gdB]at hg'
   |some tb=>exact .gd _ _ _ (fun h=>absurd h hg) (fun _=>rfl)
 |p d gd f xs=>
  simp only[Qns,Ja]at hm;obtain⟨⟨h1,h2⟩,h3⟩:=hm;obtain⟨hd1,hd2⟩:=Qeo h1;simp only[Rdy]at hr';obtain⟨r1,v0,r2,r3⟩:=hr';rw[Qpq (n:=n) h2 he r1];by_cases hg:gdB (trim (Item.p d gd f xs).looks e) gd=true
  ·rw[if_pos hg];obtain⟨s1,s2⟩:=r2 hg;left;refine Qa7w h3 hs he hg s1 s2 Q next (fun y u w' H' g' hk hst hrep=>?_) fun v w' H' g' hk _=>absurd hk.1.symm (s2.1 v);obtain⟨rfl,rfl⟩:=hk;rw[hd1];refine hnext _ _ g' hst ?_;rw[r3]
   cases gd with
   |none=>exact hrep
   |some tb=>exact .gd _ _ _ (fun _=>hrep) (fun h=>by rw[hg]at h;simp at h)
  ·rw[if_neg hg];have hg':gdB (trim (Item.p d gd f xs).looks e) gd=false:=by simpa using hg
   rw[hd1];refine hnext _ _ g (.refl hs) ?_;rw[r3]
   cases gd with
   |none=>simp[gdB]at hg'
   |some tb=>exact .gd _ _ _ (fun h=>absurd h hg) (fun _=>rfl)
 |e=>exact hr'.elim
 |chk=>exact hr'.elim
theorem Qblu {n:Nat}{ops:Array Oper}{i:Nat}{o:Oper}{d:Option Nat}{gd:Option (Nat×Bool)}{op:EOp}{K:V→Heap→Prop}{Q:Exit→Act→World→Prop}{next:Act→World→Prop}(hoi:ops[i]? = some o)
  (hm:Qns P n ops o (.e d gd op)=true) (hs:Sat H g w) (he:EnvOk w g (trim (Item.e d gd op).looks e) a)
  (h1:gdO e gd) (h2:gdB e gd=true→op.eff P (gdB e gd) e H K) (h3:gdB e gd=false→K .unk H)
  (hnext:∀x u w' H' g',K x H'→Stp H g w H' g' w'→RepV w' g' x u→next (a.put d u) w') (hpan:∀v w' H' g',K (.pn v) H'→Stp H g w H' g' w'→Q (.panic [{ v:=v,recovered:=false }]) a w') :
  wpOp P ops Q i next a w:=by
 have hlk:∀t∈(Item.e d gd op).looks,lk t (trim (Item.e d gd op).looks e)=lk t e:=fun t ht=>by rw[Qaui,if_pos ht]
 have c1:=Qaxq hlk;have c2:=Qa7j hlk;simp only[Item.gd]at c2;simp only[Item.opds]at c1;unfold wpOp;rw[hoi];simp only;simp only[Qns,Ja]at hm;obtain⟨⟨m1,m2⟩,m3⟩:=hm;obtain⟨hd1,hd2⟩:=Qeo m1;rw[Qpq (n:=n) m2 he (c2.2.2 h1),c2.1];by_cases hg:gdB e gd=true
 ·rw[if_pos hg];left;refine Qag0 m3 hs he hg (EOp.congr c1 (h2 hg)) Q next (fun x u w' H' g' hk hst hrep=>?_) hpan;rw[hd1];exact hnext x u w' H' g' hk hst hrep
 ·rw[if_neg hg];rw[hd1];exact hnext .unk undef w H g (h3 (by simpa using hg)) (.refl hs) (.unk _)
structure Early (g0:G)(H:Heap)(g:G)(w:World)(a:Act)(x:Item):Prop where
 ok:∃(d:Nat) (cells:List C) (l b sz:Nat) (T:TypeId) (cs:Array Value),x=.e (some d) none (.alloc cells)∧g.io l=some (b,sz,0)∧g.own b=some (l,[])∧w.heap[b]? = some (.cells cs T (0,0))∧
  cs.size=cells.length∧(∀(k:Nat) (c:C) (v:Value),cells[k]? = some c→cs[k]? = some v→RepC w g c v)∧H l=.none∧g0.io l=none∧RepV w g (.c (.ptr l 0)) (a.tmps.getD d undef)
theorem Early.mono {g0:G}{x:Item}{H':Heap}{g':G}{w':World}{a':Act}(h:Early g0 H g w a x)(hs:Stp H g w H' g' w')(ha:∀d,x.dst=some d→a'.tmps.getD d undef=a.tmps.getD d undef):Early g0 H' g' w' a' x:=by
 obtain⟨d,cells,l,b,sz,T,cs,h1,h2,h3,h4,h5,h6,h7,h8,h9⟩:=h.ok;obtain⟨k1,k2⟩:=hs.fr l (by rw[h2];simp) h7;obtain⟨k3,k4⟩:=k2 b [] h3;refine⟨d,cells,l,b,sz,T,cs,h1,hs.le.io _ _ h2,k3,k4.trans h4,h5,fun k c v p q=>(h6 k c v p q).mono hs.le,k1,h8,?_⟩;rw[ha d (by rw[h1];rfl)];exact h9.mono hs.le
theorem Early.ptr {g0:G}{x:Item}(h:Early g0 H g w a x):∃d l b sz,x.dst=some d∧g.io l=some (b,sz,0)∧b<w.heap.size∧H l=.none∧a.tmps.getD d undef=.pointer (some ⟨b,0,none⟩):=by
 obtain⟨d,cells,l,b,sz,T,cs,h1,h2,h3,h4,h5,h6,h7,h8,h9⟩:=h.ok;refine⟨d,l,b,sz,by rw[h1];rfl,h2,(Ji.1 h4).1,h7,?_⟩;have hr:=h9.c_inv;generalize a.tmps.getD d undef=vv at hr⊢
 cases hr with
 |ptr _ _ b' sz' q h=>
  rw[h2]at h;simp only[Jd,Js]at h;obtain⟨rfl,rfl,rfl⟩:=h;rfl
theorem Early.other {g0:G}{x:Item}(h:Early g0 H g w a x){l:Nat}{o:Obj}{u:Value}(hr:RepV w g (.c (.ptr l 0)) u)(hne:∀d,x.dst=some d→u≠a.tmps.getD d undef):Early g0 (H.set l o) g w a x:=by
 obtain⟨d,cells,l',b,sz,T,cs,h1,h2,h3,h4,h5,h6,h7,h8,h9⟩:=h.ok;have hll:l'≠l:=fun e=>by
  subst e;have k:=h9.c_inv;have k2:=hr.c_inv;have hq:=hne d (by rw[h1];rfl);generalize a.tmps.getD d undef=vv at k hq
  cases k with
  |ptr _ _ b1 s1 q1 e1=>
   cases k2 with
   |ptr _ _ b2 s2 q2 e2=>
    rw[e1]at e2;simp only[Jd,Js]at e2;obtain⟨rfl,rfl,rfl⟩:=e2;exact hq rfl
 exact⟨d,cells,l',b,sz,T,cs,h1,h2,h3,h4,h5,h6,by rw[Heap.set_other _ _ hll];exact h7,h8,h9⟩
theorem Qa8o {n:Nat}{ops:Array Oper}{i:Nat}{o:Oper}{x:Item}{g0:G}{Q:Exit→Act→World→Prop}{next:Act→World→Prop}(hoi:ops[i]? = some o)(hm:Qns P n ops o x=true)(hf:x.isFa=true)
  (hs:Sat H g w) (h0:∀l y,g0.io l=some y→g.io l=some y) (hn:a.tmps.size=n)
  (hnext:∀u w' g',Stp H g w H g' w'→Early g0 H g' w' (a.put x.dst u) x→(∀x',Early g0 H g w a x'→∀d,x'.dst=some d→a.tmps.getD d undef≠u)→next (a.put x.dst u) w') :
  wpOp P ops Q i next a w:=by
 cases x with
 |e d gd op=>
  cases op with
  |alloc cells=>
   cases d with
   |none=>simp[Item.isFa]at hf
   |some d=>
    cases gd with
    |some=>simp[Item.isFa]at hf
    |none=>
     simp only[Qns,Ja]at hm;obtain⟨⟨m1,m2⟩,m3⟩:=hm;obtain⟨hd1,hd2⟩:=Qeo m1;have hdn:=hd2 d hd1;simp only[mE]at m3;split at m3
     ·rename_i t hop
      obtain⟨i1,z,z1,z2,z3⟩:=Qlf m3;obtain⟨l,hl,hH⟩:=hs.newName;have hr:=Qmo (w:=w) (g:=g) z3;have hle:=Qh9 hs hl cells.length 0 (.cells z.cells t);have hst:=Qcw hs hl cells.length 0 (.cells z.cells t) .none (fun g' hg=>trivial);rw[Heap.set_self _ _ _ hH]at hst;have hg0:g0.io l=none:=by
       cases hx:g0.io l with
       |none=>rfl
       |some y=>rw[h0 l y hx]at hl;simp at hl
      have hw:Region.wanted o (yielded ops a.tmps)=true:=by
       unfold Region.wanted
       cases hgd:o.guard with
       |none=>rfl
       |some jb=>rw[hgd]at m2;simp[mG]at m2
      unfold wpOp;rw[hoi];simp only;rw[if_pos hw];left;unfold Oper.wp;have hrun:(execOp a.eval o).run P w=.ok (.value (.pointer (some ⟨w.heap.size,0,none⟩))) (w.alloc (.cells z.cells t)):=by
       simp[execOp,hop,Instr.alloc,Qgn z1 z2,newVar,newRow]
      rw[hrun,Oper.upon_value,hd1];refine hnext _ _ _ hst ⟨d,cells,l,w.heap.size,cells.length,t,z.cells,rfl,by simp[G.newObj],by simp[G.newObj],Qbi _ _,hr.1,fun k c v p q=>(hr.2 k c v p q).mono hle,hH,hg0,?_⟩ (fun x' hx' d' hd' hh=>?_)
      ·have:(a.put (Item.e (some d) none (.alloc cells)).dst (.pointer (some ⟨w.heap.size,0,none⟩))).tmps.getD d undef=.pointer (some ⟨w.heap.size,0,none⟩):=by
        simp only[Item.dst,Act.put];rw[Jc,Jp (by omega)];rfl
       rw[this];exact .c _ _ (.ptr l 0 w.heap.size cells.length 0 (by simp[G.newObj]))
      ·obtain⟨d1,l1,b1,sz1,p1,p2,p3,p4,p5⟩:=hx'.ptr;rw[p1]at hd';obtain rfl:=J4 hd';rw[p5]at hh;have:=congrArg (fun v=>match v with
        |Value.pointer (some a)=>a.block
        |_=>0) hh
       simp only at this;omega
     ·simp at m3
  |_=>cases d <;> (try cases gd) <;> simp[Item.isFa]at hf
 |_=>simp[Item.isFa]at hf
theorem Qbda {H0:Heap}{g0:G}{w0:World}{x:Item}(hst:Stp H0 g0 w0 H g w)(h:Early g0 H g w a x) :
  ∃d cells l,x=.e (some d) none (.alloc cells)∧H l=.none∧Stp H0 g0 w0 (H.set l (.st cells)) g w∧RepV w g (.c (.ptr l 0)) (a.tmps.getD d undef):=by
 obtain⟨d,cells,l,b,sz,T,cs,h1,h2,h3,h4,h5,h6,h7,h8,h9⟩:=h.ok;refine⟨d,cells,l,h1,h7,⟨hst.le,fun m hm hn=>?_,⟨hst.sat.fresh,hst.sat.names,hst.sat.excl,hst.sat.named,fun m=>?_⟩⟩,h9⟩
 ·have hml:m≠l:=fun h=>by subst h;exact hm h8
  rw[Heap.set_other _ _ hml];exact hst.fr m hm hn
 ·by_cases hml:m=l
  ·subst hml;rw[Heap.set_same];exact⟨b,sz,T,cs,h2,h3,h4,h5,fun k c v p q=>.plain _ _ _ _ (h6 k c v p q)⟩
  ·have hH':=Heap.set_other H (.st cells) hml;rw[hH',←hH'];refine SatObj.keep hst.sat (.refl _ _) (fun b q hb=>⟨hb,rfl⟩) hH' fun m' v left cur hc v' es hv=>?_;by_cases hm':m'=l
   ·subst hm';rw[Heap.set_same]at hv;simp at hv
   ·rw[Heap.set_other _ _ hm']at hv;exact .inl ⟨hv,fun b q hb=>⟨hb,rfl⟩⟩
structure Fix where
 P:Program
 n:Nat
 ops:Array Oper
 ms:List Nat
 fa:Nat
 L:List Row
 H0:Heap
 g0:G
 w0:World
 KP:Value→Heap→Prop
 K:Env→Heap→Prop
def Fix.anc (F:Fix)(i j:Nat):Prop:=(F.ms.getD i 0).testBit j=true
def Qjd (F:Fix)(listed:Array Bool)(pre:List Row)(y:Row)(t:Nat)(z:Row):Prop:=
 z∈pre∧z.2.isChk=false∧¬dn listed z.1∧z.2.dst=some t∧F.anc y.1 z.1
def Pend (F:Fix)(listed:Array Bool)(a:Act)(w:World)(pre:List Row)(e:Env)(H:Heap)(g:G)(y:Row):Prop:=
 ∃(o:Oper) (x:Item) (ei:Env) (v:V),F.ops[y.1]? = some o∧Qns F.P F.n F.ops o x=true∧x.dst=y.2.dst∧x.looks=y.2.looks∧(y.2.hf=true→x.hf=true)∧
  Rdy F.P x ei H v∧(∀d,y.2.dst=some d→lk d e=v)∧
  ∀t∈y.2.looks,(∀z,Qjd F listed pre y t z→lk t ei=lk t e)∧((¬∃z,Qjd F listed pre y t z)→RepV w g (lk t ei) (a.tmps.getD t undef))
structure DInv (F:Fix)(listed:Array Bool)(a:Act)(w:World)(pre post:List Row)(e:Env)(H:Heap)(g:G):Prop where
 split:F.L=pre++post
 rest:Qsv F.P (post.map Prod.snd) e H F.KP F.K
 stp:Stp F.H0 F.g0 F.w0 H g w
 size:a.tmps.size=F.n
 defers:a.defers=[]
 lsz:listed.size=F.ops.size
 closed:∀i,dn listed i→∀j,F.anc i j→dn listed j
 eDone:∀y∈pre,y.2.isE=true→dn listed y.1
 postDone:∀y∈post,y.2.isChk=false→dn listed y.1→flo F.fa y.1=true∧Early F.g0 H g w a y.2
 pend:∀y∈pre,y.2.isFl=true→¬dn listed y.1→Qat9 y.1 post=true∨Pend F listed a w pre e H g y
 temps:∀t,(∃y∈pre,y.2.isChk=false∧¬dn listed y.1∧y.2.dst=some t)∨(∃y∈post,y.2.isChk=false∧flo F.fa y.1=true∧dn listed y.1∧y.2.dst=some t)∨RepV w g (lk t e) (a.tmps.getD t undef)
 ne:∀y∈post,∀z∈post,y.2.isChk=false→z.2.isChk=false→dn listed y.1→dn listed z.1→y.1≠z.1→∀d d',y.2.dst=some d→z.2.dst=some d'→a.tmps.getD d undef≠a.tmps.getD d' undef
structure FixOk (F:Fix):Prop where
 rows:Qayx F.P F.n F.ops F.ms F.fa [] F.L=true
 all:∀i,i<F.ops.size→∃y∈F.L,y.2.isChk=false∧y.1=i
theorem FixOk.row {F:Fix}(hF:FixOk F){A B:List Row}{y:Row}(h:F.L=A++y::B)(hc:y.2.isChk=false):∃o,RowOk F.P F.n F.ops F.ms F.fa A y B o:=by
 have:=Q4v _ _ hF.rows A y B h;exact Qa9h this hc
def Qagp (F:Fix)(x y:Row):Prop:=∃A B,F.L=A++y::B∧x∈A
theorem FixOk.pair {F:Fix}(hF:FixOk F){x y:Row}(h:Qagp F x y)(hx:x.2.isChk=false)(hy:y.2.isChk=false):PairOk F.ms F.fa x y:=by
 obtain⟨A,B,h1,h2⟩:=h;obtain⟨o,ho⟩:=hF.row h1 hy;exact ho.pair x h2 hx
theorem Qb4 {F:Fix}{pre post:List Row}(h:F.L=pre++post){x y:Row}(hx:x∈pre)(hy:y∈post):Qagp F x y:=by
 obtain⟨s,t,rfl⟩:=Jv hy;exact⟨pre++s,t,by rw[h];simp,by simp[hx]⟩
theorem Qcz {F:Fix}{pre post:List Row}{y x:Row}(h:F.L=pre++y::post)(hx:x∈post):Qagp F y x:=
 Qb4 (pre:=pre++[y]) (by simpa using h) (by simp) hx
theorem Q81 {F:Fix}{x y:Row}(hx:x∈F.L)(hy:y∈F.L):x=y∨Qagp F x y∨Qagp F y x:=by
 obtain⟨s,t,h⟩:=Jv hx;have:y∈s++x::t:=h▸hy;rcases Je.1 this with k|k
 ·exact .inr (.inr ⟨s,t,h,k⟩)
 ·rcases Jf.1 k with k|k
  ·exact .inl k.symm
  ·exact .inr (.inl (Qcz h k))
theorem FixOk.inj {F:Fix}(hF:FixOk F){x y:Row}(hx:x∈F.L)(hy:y∈F.L)(hxc:x.2.isChk=false)(hyc:y.2.isChk=false)(h:x.1=y.1):x=y:=by
 rcases Q81 hx hy with k|k|k
 ·exact k
 ·exact absurd h (hF.pair k hxc hyc).ne
 ·exact absurd h.symm (hF.pair k hyc hxc).ne
theorem FixOk.injDst {F:Fix}(hF:FixOk F){x y:Row}(hx:x∈F.L)(hy:y∈F.L)(hxc:x.2.isChk=false)(hyc:y.2.isChk=false){t:Nat}(h1:x.2.dst=some t)(h2:y.2.dst=some t):x=y:=by
 rcases Q81 hx hy with k|k|k
 ·exact k
 ·exact absurd h2 ((hF.pair k hxc hyc).dst t h1)
 ·exact absurd h1 ((hF.pair k hyc hxc).dst t h2)
theorem Qmy {x:Item}(h:x.isFl=true):x.isChk=false∧x.isE=false:=by
 cases x <;> simp_all[Item.isFl,Item.isChk,Item.isE]
theorem Qaxj {x:Item}(h:x.isE=true):x.isChk=false∧x.isFl=false:=by
 cases x <;> simp_all[Item.isFl,Item.isChk,Item.isE]
theorem Qob {j:Nat}{y:Row}{r:List Row}(h:Qat9 j (y::r)=true):y.2.isChk=true∧(y.1=j∨Qat9 j r=true):=by
 simpa[Qat9]using h
theorem DInv.passFl {F:Fix}(hF:FixOk F){listed:Array Bool}{pre r:List Row}{y:Row}(hI:DInv F listed a w pre (y::r) e H g)(hy:y.2.isFl=true)(v:V)(hr:Rdy F.P y.2 e H v)
  (hrest:Qsv F.P (r.map Prod.snd) (putE y.2.dst v e) H F.KP F.K) (hnd:¬dn listed y.1):DInv F listed a w (pre++[y]) r (putE y.2.dst v e) H g:=by
 obtain⟨hyc,hye⟩:=Qmy hy;obtain⟨o,ho⟩:=hF.row hI.split hyc;have hL:y∈F.L:=by rw[hI.split];simp
 have hpre:∀z∈pre,z∈F.L:=fun z hz=>by rw[hI.split];simp[hz]
 have hpost:∀z∈r,z∈F.L:=fun z hz=>by rw[hI.split];simp[hz]
 have hlk:∀t,y.2.dst≠some t→lk t (putE y.2.dst v e)=lk t e:=by
  intro t ht
  cases hd:y.2.dst with
  |none=>rfl
  |some d=>
   simp only[putE,lk];rw[if_neg];intro h;subst h;exact ht hd
 have hlkd:∀t,y.2.dst=some t→lk t (putE y.2.dst v e)=v:=by
  intro t ht;rw[ht];simp[putE,lk]
 refine⟨by rw[hI.split];simp,hrest,hI.stp,hI.size,hI.defers,hI.lsz,hI.closed,?_,?_,?_,?_,fun y' hy' z' hz'=>hI.ne y' (by simp[hy']) z' (by simp[hz'])⟩
 ·intro z hz hzE;rcases Je.1 hz with k|k
  ·exact hI.eDone z k hzE
  ·simp at k;subst k;rw[hye]at hzE;simp at hzE
 ·exact fun z hz=>hI.postDone z (by simp[hz])
 ·intro z hz hzf hzn;obtain⟨hzc,hze⟩:=Qmy hzf;right;rcases Je.1 hz with k|k
  ·rcases hI.pend z k hzf hzn with h|h
   ·have:=(Qob h).1;rw[hyc]at this;simp at this
   ·obtain⟨o',x,ei,u,p1,p2,p3,p4,p5,p6,p7,p8⟩:=h;refine⟨o',x,ei,u,p1,p2,p3,p4,p5,p6,?_,?_⟩
    ·intro d hd;rw[hlk d fun h=>(hF.pair (Qb4 hI.split k (by simp)) hzc hyc).dst d hd h];exact p7 d hd
    ·intro t ht;obtain⟨q1,q2⟩:=p8 t ht;have hb:∀z',Qjd F listed (pre++[y]) z t z'→Qjd F listed pre z t z':=by
      rintro z' ⟨b1,b2,b3,b4,b5⟩;refine⟨?_,b2,b3,b4,b5⟩;rcases Je.1 b1 with b|b
      ·exact b
      ·simp at b;subst b;have:=(hF.pair (Qb4 hI.split k (by simp)) hzc hyc).top;rw[Fix.anc,this]at b5;simp at b5
     refine⟨?_,?_⟩
     ·intro z' hz';have hz'':=hb z' hz';rw[q1 z' hz'',hlk];intro h;exact (hF.pair (Qb4 hI.split hz''.1 (by simp)) hz''.2.1 hyc).dst t hz''.2.2.2.1 h
     ·intro hno;refine q2 fun ⟨z',b1,b2⟩=>hno ⟨z',?_,b2⟩;simp[b1]
  ·simp at k;subst k;refine⟨o,z.2,e,v,ho.op,ho.item,rfl,rfl,id,hr,hlkd,?_⟩;intro t ht;have hself:z.2.dst≠some t:=fun h=>ho.self t h ht;refine⟨?_,?_⟩
   ·intro z' hz';rw[hlk t hself]
   ·intro hno;rcases hI.temps t with ⟨y',k1,k2,k3,k4⟩|⟨y',k1,k2,k3,k4,k5⟩|k
    ·exact absurd ⟨y',by simp[k1],k2,k3,k4,(hF.pair (Qb4 hI.split k1 (by simp)) k2 hzc).raw t k4 ht⟩ hno
    ·exfalso;rcases Jf.1 k1 with h|h
     ·subst h;exact hself k5
     ·have:=(hF.pair (Qcz hI.split h) hzc k2).war t k5 ht;exact hnd (hI.closed _ k4 _ this)
    ·exact k
 ·intro t;by_cases ht:y.2.dst=some t
  ·exact .inl ⟨y,by simp,hyc,hnd,ht⟩
  ·rw[hlk t ht];rcases hI.temps t with ⟨y',k1,k2,k3,k4⟩|⟨y',k1,k2,k3,k4,k5⟩|k
   ·exact .inl ⟨y',by simp[k1],k2,k3,k4⟩
   ·rcases Jf.1 k1 with h|h
    ·subst h;exact absurd k5 ht
    ·exact .inr (.inl ⟨y',h,k2,k3,k4,k5⟩)
   ·exact .inr (.inr k)
theorem DInv.passChk {F:Fix}(hF:FixOk F){listed:Array Bool}{pre r:List Row}{j d:Nat}{gd:Option (Nat×Bool)}{op:FOp}(hI:DInv F listed a w pre ((j,.chk d gd op)::r) e H g) :
  DInv F listed a w (pre++[(j,.chk d gd op)]) r e H g:=by
 have hrow:=Q4v _ _ hF.rows pre _ _ hI.split;obtain⟨o,c1,c2,⟨y0,c3,c4,c5,c6,c7,c8⟩,c9⟩:=Qa8k hrow;have hrest:=hI.rest;simp only[Jr,Qsv]at hrest;obtain⟨⟨r1,r2,r3⟩,r4⟩:=hrest;have hpre:∀z∈pre,z∈F.L:=fun z hz=>by rw[hI.split];simp[hz]
 have hbe:∀z t z',Qjd F listed (pre++[(j,.chk d gd op)]) z t z'↔Qjd F listed pre z t z':=by
  intro z t z';constructor
  ·rintro⟨b1,b2⟩;refine⟨?_,b2⟩;rcases Je.1 b1 with b|b
   ·exact b
   ·simp at b;subst b;simp[Item.isChk]at b2
  ·rintro⟨b1,b2⟩;exact⟨by simp[b1],b2⟩
 refine⟨by rw[hI.split];simp,r4,hI.stp,hI.size,hI.defers,hI.lsz,hI.closed,?_,?_,?_,?_,fun y' hy' z' hz'=>hI.ne y' (by simp[hy']) z' (by simp[hz'])⟩
 ·intro z hz hzE;rcases Je.1 hz with k|k
  ·exact hI.eDone z k hzE
  ·simp at k;subst k;simp[Item.isE]at hzE
 ·exact fun z hz=>hI.postDone z (by simp[hz])
 ·intro z hz hzf hzn;obtain⟨hzc,hze⟩:=Qmy hzf;have k:z∈pre:=by
   rcases Je.1 hz with k|k
   ·exact k
   ·simp at k;subst k;simp[Item.isChk]at hzc
  have hold:Pend F listed a w pre e H g z→Pend F listed a w (pre++[(j,.chk d gd op)]) e H g z:=by
   rintro⟨o',x,ei,u,p1,p2,p3,p4,p5,p6,p7,p8⟩;refine⟨o',x,ei,u,p1,p2,p3,p4,p5,p6,p7,fun t ht=>?_⟩;simp only[hbe];exact p8 t ht
  rcases hI.pend z k hzf hzn with h|h
  ·rcases (Qob h).2 with h'|h'
   ·right;simp only at h';have hz0:z=y0:=hF.inj (hpre _ k) (hpre _ c3) hzc c4 (by rw[c5,←h']);subst hz0;refine⟨o,.f (some d) gd op,e,gdV gd (gdB e gd) (op.val e H),by rw[c5];exact c1,c2,by rw[c7];rfl,c6.symm,fun h=>by rw[c8]at h;simp at h,⟨r1,r2,rfl⟩,?_,?_⟩
    ·intro d' hd';rw[c7]at hd';simp at hd';subst hd';exact r3
    ·intro t ht;simp only[hbe];refine⟨fun _ _=>trivial,fun hno=>?_⟩;rcases hI.temps t with ⟨y',k1,k2,k3,k4⟩|⟨y',k1,k2,k3,k4,k5⟩|k'
     ·exfalso;refine hno ⟨y',k1,k2,k3,k4,?_⟩;have:=c9 y' k1 k2 t k4 (by rw[←c6];exact ht);rw[Fix.anc,c5];exact this
     ·exfalso;rcases Jf.1 k1 with h|h
      ·subst h;simp[Item.isChk]at k2
      ·have:=(hF.pair (Qb4 (pre:=pre++[(j,.chk d gd op)]) (by rw[hI.split];simp) (by simp[k]) h) hzc k2).war t k5 ht;exact hzn (hI.closed _ k4 _ this)
     ·exact k'
   ·exact .inl h'
  ·exact .inr (hold h)
 ·intro t;rcases hI.temps t with ⟨y',k1,k2,k3,k4⟩|⟨y',k1,k2,k3,k4,k5⟩|k
  ·exact .inl ⟨y',by simp[k1],k2,k3,k4⟩
  ·rcases Jf.1 k1 with h|h
   ·subst h;simp[Item.isChk]at k2
   ·exact .inr (.inl ⟨y',h,k2,k3,k4,k5⟩)
  ·exact .inr (.inr k)
theorem Qld {d:Option Nat}{v:V}{e:Env}{t:Nat}(h:d≠some t):lk t (putE d v e)=lk t e:=by
 cases d with
 |none=>rfl
 |some s=>
  simp only[putE,lk];rw[if_neg];intro k;subst k;exact h rfl
theorem Qasv {d:Option Nat}{v:V}{e:Env}{t:Nat}(h:d=some t):lk t (putE d v e)=v:=by
 subst h;simp[putE,lk]
theorem Qjf {a:Act}{d:Option Nat}{u:Value}{t:Nat}(h:d≠some t):(a.put d u).tmps.getD t undef=a.tmps.getD t undef:=by
 cases d with
 |none=>rfl
 |some s=>
  have:s≠t:=fun k=>by subst k;exact h rfl
  simp only[Act.put];rw[Jc,Jy this,←Jc]
theorem Qa7x {a:Act}{d:Option Nat}{u:Value}{t:Nat}(h:d=some t)(ht:t<a.tmps.size):(a.put d u).tmps.getD t undef=u:=by
 subst h;simp only[Act.put];rw[Jc,Jp ht];rfl
theorem Qco {listed:Array Bool}{i j:Nat}(hi:i<listed.size):dn (listed.setIfInBounds i true) j↔j=i∨dn listed j:=by
 by_cases h:j=i
 ·subst h;simp[dn,hi]
 ·simp only[dn,getD_set_ne false (Jae h),h,false_or]
theorem Q69 {n:Nat}{ops:Array Oper}{o:Oper}{x:Item}(h:Qns P n ops o x=true):∀t,x.dst=some t→t<n:=by
 intro t ht;cases x <;> simp only[Qns,Ja]at h
 case f d gd op=>obtain⟨h1,h2⟩:=Qeo h.1.1;simp only[Item.dst]at ht;exact h2 t (h1.trans ht)
 case p d gd f xs=>obtain⟨h1,h2⟩:=Qeo h.1.1;simp only[Item.dst]at ht;exact h2 t (h1.trans ht)
 case e d gd op=>obtain⟨h1,h2⟩:=Qeo h.1.1;simp only[Item.dst]at ht;exact h2 t (h1.trans ht)
 case chk=>simp at h
theorem DInv.passE {F:Fix}(hF:FixOk F){listed:Array Bool}{pre r:List Row}{y:Row}(hI:DInv F listed a w pre (y::r) e H g)(hy:y.2.isE=true)(hyn:¬dn listed y.1)(hyf:¬flo F.fa y.1=true)
  (hanc:∀j,F.anc y.1 j→dn listed j) {v:V} {u:Value} {w':World} {H':Heap} {g':G}
  (hrest:Qsv F.P (r.map Prod.snd) (putE y.2.dst v e) H' F.KP F.K) (hst:Stp H g w H' g' w') (hv:RepV w' g' v u) :
  DInv F (listed.setIfInBounds y.1 true) (a.put y.2.dst u) w' (pre++[y]) r (putE y.2.dst v e) H' g':=by
 obtain⟨hyc,hyl⟩:=Qaxj hy;obtain⟨o,ho⟩:=hF.row hI.split hyc;have hlt:y.1<listed.size:=by rw[hI.lsz];exact (Ji.1 ho.op).1
 have hpre:∀z∈pre,z∈F.L:=fun z hz=>by rw[hI.split];simp[hz]
 have hbz:∀z∈pre,Qagp F z y:=fun z hz=>Qb4 hI.split hz (by simp);refine⟨by rw[hI.split];simp,hrest,hI.stp.trans hst,by rw[(Qca _ _ _).1];exact hI.size,by rw[(Qca _ _ _).2];exact hI.defers,by simp[hI.lsz],?_,?_,?_,?_,?_,?_⟩
 ·intro i hi j hj;rw[Qco hlt]at hi⊢;rcases hi with rfl|hi
  ·exact .inr (hanc j hj)
  ·exact .inr (hI.closed i hi j hj)
 ·intro z hz hzE;rw[Qco hlt];rcases Je.1 hz with k|k
  ·exact .inr (hI.eDone z k hzE)
  ·simp at k;subst k;exact .inl rfl
 ·intro z hz hzc hzd;have hzy:=hF.pair (Qcz hI.split hz) hyc hzc;rw[Qco hlt]at hzd;obtain⟨k1,k2⟩:=hI.postDone z (by simp[hz]) hzc (hzd.resolve_left (Jae hzy.ne));exact⟨k1,k2.mono hst fun d hd=>Qjf fun h=>hzy.dst d h hd⟩
 ·intro z hz hzf hzn;obtain⟨hzc,hze⟩:=Qmy hzf;rw[Qco hlt]at hzn;have hzn':¬dn listed z.1:=fun h=>hzn (.inr h);have k:z∈pre:=by
   rcases Je.1 hz with k|k
   ·exact k
   ·simp at k;subst k;rw[hyl]at hzf;simp at hzf
  have hp:=hF.pair (hbz z k) hzc hyc;by_cases hh:z.2.hf=true
  ·right;rcases hI.pend z k hzf hzn' with h|h
   ·have:=(Qob h).1;rw[hyc]at this;simp at this
   ·obtain⟨o',x,ei,u',p1,p2,p3,p4,p5,p6,p7,p8⟩:=h;refine⟨o',x,ei,u',p1,p2,p3,p4,p5,p6.hcongr (p5 hh),?_,?_⟩
    ·intro d hd;rw[Qld fun h=>hp.dst d hd h];exact p7 d hd
    ·intro t ht;obtain⟨q1,q2⟩:=p8 t ht;have hyt:y.2.dst≠some t:=fun h=>by
      have:=hp.war t h ht;exact hzn' (hanc _ this)
     have hb:∀z',Qjd F (listed.setIfInBounds y.1 true) (pre++[y]) z t z'↔Qjd F listed pre z t z':=by
      intro z';constructor
      ·rintro⟨b1,b2,b3,b4,b5⟩;rw[Qco hlt]at b3;refine⟨?_,b2,fun h=>b3 (.inr h),b4,b5⟩;rcases Je.1 b1 with b|b
       ·exact b
       ·simp at b;subst b;exact absurd b4 hyt
      ·rintro⟨b1,b2,b3,b4,b5⟩;refine⟨by simp[b1],b2,?_,b4,b5⟩;rw[Qco hlt];rintro (h|h)
       ·exact (hF.pair (hbz z' b1) b2 hyc).ne h
       ·exact b3 h
     simp only[hb,Qld hyt,Qjf hyt];exact⟨q1,fun h=>(q2 h).mono hst.le⟩
  ·left;have:=ho.cover hy z k hzc (by simpa using hh);refine this ?_
   cases hx:(F.ms.getD y.1 0).testBit z.1 with
   |false=>rfl
   |true=>exact absurd (hanc _ hx) hzn'
 ·intro t;by_cases ht:y.2.dst=some t
  ·right;right;rw[Qasv ht,Qa7x ht (by rw[hI.size];exact Q69 ho.item t ht)];exact hv
  ·rw[Qld ht,Qjf ht];rcases hI.temps t with ⟨y',k1,k2,k3,k4⟩|⟨y',k1,k2,k3,k4,k5⟩|k
   ·refine .inl ⟨y',by simp[k1],k2,?_,k4⟩;rw[Qco hlt];rintro (h|h)
    ·exact (hF.pair (hbz y' k1) k2 hyc).ne h
    ·exact k3 h
   ·rcases Jf.1 k1 with h|h
    ·subst h;exact absurd k3 hyf
    ·exact .inr (.inl ⟨y',h,k2,k3,(Qco hlt).2 (.inr k4),k5⟩)
   ·exact .inr (.inr (k.mono hst.le))
 ·intro y' hy' z' hz' hyc' hzc' hyd hzd hne d d' hd hd';have p1:=hF.pair (Qcz hI.split hy') hyc hyc';have p2:=hF.pair (Qcz hI.split hz') hyc hzc';rw[Qco hlt]at hyd hzd;rw[Qjf fun h=>p1.dst d h hd,Qjf fun h=>p2.dst d' h hd'];exact hI.ne y' (by simp[hy']) z' (by simp[hz']) hyc' hzc' (hyd.resolve_left (Jae p1.ne)) (hzd.resolve_left (Jae p2.ne)) hne d d' hd hd'
theorem DInv.passFa {F:Fix}(hF:FixOk F){listed:Array Bool}{pre r:List Row}{y:Row}(hI:DInv F listed a w pre (y::r) e H g)(hyc:y.2.isChk=false)(hyn:dn listed y.1) :
  ∃e' H',DInv F listed a w (pre++[y]) r e' H' g:=by
 obtain⟨hyf,hea⟩:=hI.postDone y (by simp) hyc hyn;obtain⟨d,cells,l,h1,h2,h3,h4⟩:=Qbda hI.stp hea;obtain⟨d0,cells0,l0,b0,sz0,T0,cs0,e1,e2,e3,e4,e5,e6,e7,e8,e9⟩:=hea.ok;obtain⟨o,ho⟩:=hF.row hI.split hyc;have hy:y.2.isE=true:=by rw[h1];rfl
 have hyl:=(Qaxj hy).2;have hyd:y.2.dst=some d:=by rw[h1];rfl
 have hbz:∀z∈pre,Qagp F z y:=fun z hz=>Qb4 hI.split hz (by simp);have hrest:=hI.rest;simp only[Jr,h1,Qsv,gdO,gdB,true_and,EOp.eff]at hrest;have hrest':=hrest.1 trivial l h2;refine⟨putE (some d) (.c (.ptr l 0)) e,H.set l (.st cells),?_⟩;refine⟨by rw[hI.split];simp,hrest',h3,hI.size,hI.defers,hI.lsz,hI.closed,?_,?_,?_,?_,fun y' hy' z' hz'=>hI.ne y' (by simp[hy']) z' (by simp[hz'])⟩
 ·intro z hz hzE;rcases Je.1 hz with k|k
  ·exact hI.eDone z k hzE
  ·simp at k;subst k;exact hyn
 ·intro z hz hzc hzd;obtain⟨k1,k2⟩:=hI.postDone z (by simp[hz]) hzc hzd;refine⟨k1,k2.other h4 fun d' hd'=>?_⟩;exact hI.ne y (by simp) z (by simp[hz]) hyc hzc hyn hzd (hF.pair (Qcz hI.split hz) hyc hzc).ne d d' hyd hd'
 ·intro z hz hzf hzn;obtain⟨hzc,hze⟩:=Qmy hzf;have k:z∈pre:=by
   rcases Je.1 hz with k|k
   ·exact k
   ·simp at k;subst k;rw[hyl]at hzf;simp at hzf
  have hp:=hF.pair (hbz z k) hzc hyc;by_cases hh:z.2.hf=true
  ·right;rcases hI.pend z k hzf hzn with h|h
   ·have:=(Qob h).1;rw[hyc]at this;simp at this
   ·obtain⟨o',x,ei,u',p1,p2,p3,p4,p5,p6,p7,p8⟩:=h;refine⟨o',x,ei,u',p1,p2,p3,p4,p5,p6.hcongr (p5 hh),?_,?_⟩
    ·intro d' hd';rw[Qld fun h=>hp.dst d' hd' (by rw[hyd];exact h)];exact p7 d' hd'
    ·intro t ht;obtain⟨q1,q2⟩:=p8 t ht;have hyt:some d≠some t:=fun h=>by
      have:=hp.war t (by rw[hyd];exact h) ht;exact hzn (hI.closed _ hyn _ this)
     have hb:∀z',Qjd F listed (pre++[y]) z t z'↔Qjd F listed pre z t z':=by
      intro z';constructor
      ·rintro⟨b1,b2,b3,b4,b5⟩;refine⟨?_,b2,b3,b4,b5⟩;rcases Je.1 b1 with b|b
       ·exact b
       ·simp at b;subst b;rw[hyd]at b4;exact absurd b4 hyt
      ·rintro⟨b1,b2⟩;exact⟨by simp[b1],b2⟩
     simp only[hb,Qld hyt];exact⟨q1,q2⟩
  ·left;refine ho.cover hy z k hzc (by simpa using hh) ?_
   cases hx:(F.ms.getD y.1 0).testBit z.1 with
   |false=>rfl
   |true=>exact absurd (hI.closed _ hyn _ hx) hzn
 ·intro t;by_cases ht:some d=some t
  ·right;right;rw[Qasv ht];simp at ht;subst ht;exact h4
  ·rw[Qld ht];rcases hI.temps t with ⟨y',k1,k2,k3,k4⟩|⟨y',k1,k2,k3,k4,k5⟩|k
   ·exact .inl ⟨y',by simp[k1],k2,k3,k4⟩
   ·rcases Jf.1 k1 with h|h
    ·subst h;rw[hyd]at k5;exact absurd k5 ht
    ·exact .inr (.inl ⟨y',h,k2,k3,k4,k5⟩)
   ·exact .inr (.inr k)
theorem DInv.doneFl {F:Fix}(hF:FixOk F){listed:Array Bool}{pre post:List Row}{y:Row}(hI:DInv F listed a w pre post e H g)(hyp:y∈pre)(hy:y.2.isFl=true)(hyn:¬dn listed y.1)
  (hanc:∀j,F.anc y.1 j→dn listed j) {v:V} {u:Value} {w':World} {g':G} (hvd:∀d,y.2.dst=some d→lk d e=v)
  (hst:Stp H g w H g' w') (hv:RepV w' g' v u) :
  DInv F (listed.setIfInBounds y.1 true) (a.put y.2.dst u) w' pre post e H g':=by
 obtain⟨hyc,hye⟩:=Qmy hy;have hyL:y∈F.L:=by rw[hI.split];simp[hyp]
 obtain⟨A,B,hAB⟩:=Jv hyL;obtain⟨o,ho⟩:=hF.row hAB hyc;have hlt:y.1<listed.size:=by rw[hI.lsz];exact (Ji.1 ho.op).1
 have hpre:∀z∈pre,z∈F.L:=fun z hz=>by rw[hI.split];simp[hz]
 refine⟨hI.split,hI.rest,hI.stp.trans hst,by rw[(Qca _ _ _).1];exact hI.size,by rw[(Qca _ _ _).2];exact hI.defers,by simp[hI.lsz],?_,?_,?_,?_,?_,?_⟩
 ·intro i hi j hj;rw[Qco hlt]at hi⊢;rcases hi with rfl|hi
  ·exact .inr (hanc j hj)
  ·exact .inr (hI.closed i hi j hj)
 ·intro z hz hzE;rw[Qco hlt];exact .inr (hI.eDone z hz hzE)
 ·intro z hz hzc hzd;have hzy:=hF.pair (Qb4 hI.split hyp hz) hyc hzc;rw[Qco hlt]at hzd;obtain⟨k1,k2⟩:=hI.postDone z hz hzc (hzd.resolve_left (Jae hzy.ne));exact⟨k1,k2.mono hst fun d hd=>Qjf fun h=>hzy.dst d h hd⟩
 ·intro z hz hzf hzn;obtain⟨hzc,hze⟩:=Qmy hzf;rw[Qco hlt]at hzn;have hzn':¬dn listed z.1:=fun h=>hzn (.inr h);have hzy:z≠y:=fun h=>hzn (.inl (by rw[h]));rcases hI.pend z hz hzf hzn' with h|h
  ·exact .inl h
  ·right;obtain⟨o',x,ei,u',p1,p2,p3,p4,p5,p6,p7,p8⟩:=h;refine⟨o',x,ei,u',p1,p2,p3,p4,p5,p6,p7,?_⟩;intro t ht;obtain⟨q1,q2⟩:=p8 t ht;have hb:∀z',Qjd F (listed.setIfInBounds y.1 true) pre z t z'→Qjd F listed pre z t z':=by
    rintro z' ⟨b1,b2,b3,b4,b5⟩;rw[Qco hlt]at b3;exact⟨b1,b2,fun h=>b3 (.inr h),b4,b5⟩
   refine⟨fun z' hz'=>q1 z' (hb z' hz'),fun hno=>?_⟩;by_cases hyt:y.2.dst=some t
   ·have hbe:Qjd F listed pre z t y:=by
     refine⟨hyp,hyc,hyn,hyt,?_⟩;rcases Q81 hyL (hpre z hz)with k|k|k
     ·exact absurd k.symm hzy
     ·exact (hF.pair k hyc hzc).raw t hyt ht
     ·exact absurd (hanc _ ((hF.pair k hzc hyc).war t hyt ht)) hzn'
    rw[q1 y hbe,hvd t hyt,Qa7x hyt (by rw[hI.size];exact Q69 ho.item t hyt)];exact hv
   ·rw[Qjf hyt];refine (q2 fun ⟨z',b⟩=>hno ⟨z',?_⟩).mono hst.le;obtain⟨b1,b2,b3,b4,b5⟩:=b;refine⟨b1,b2,?_,b4,b5⟩;rw[Qco hlt];rintro (h|h)
    ·have:=hF.inj (hpre _ b1) hyL b2 hyc h;subst this;exact hyt b4
    ·exact b3 h
 ·intro t;by_cases ht:y.2.dst=some t
  ·right;right;rw[hvd t ht,Qa7x ht (by rw[hI.size];exact Q69 ho.item t ht)];exact hv
  ·rw[Qjf ht];rcases hI.temps t with ⟨y',k1,k2,k3,k4⟩|⟨y',k1,k2,k3,k4,k5⟩|k
   ·refine .inl ⟨y',k1,k2,?_,k4⟩;rw[Qco hlt];rintro (h|h)
    ·have:=hF.inj (hpre _ k1) hyL k2 hyc h;subst this;exact ht k4
    ·exact k3 h
   ·exact .inr (.inl ⟨y',k1,k2,k3,(Qco hlt).2 (.inr k4),k5⟩)
   ·exact .inr (.inr (k.mono hst.le))
 ·intro y' hy' z' hz' hyc' hzc' hyd hzd hne d d' hd hd';have p1:=hF.pair (Qb4 hI.split hyp hy') hyc hyc';have p2:=hF.pair (Qb4 hI.split hyp hz') hyc hzc';rw[Qco hlt]at hyd hzd;rw[Qjf fun h=>p1.dst d h hd,Qjf fun h=>p2.dst d' h hd'];exact hI.ne y' hy' z' hz' hyc' hzc' (hyd.resolve_left (Jae p1.ne)) (hzd.resolve_left (Jae p2.ne)) hne d d' hd hd'
theorem DInv.doneFa {F:Fix}(hF:FixOk F){listed:Array Bool}{pre post:List Row}{y:Row}(hI:DInv F listed a w pre post e H g)(hyp:y∈post)(hyc:y.2.isChk=false)(hyf:flo F.fa y.1=true)(hyn:¬dn listed y.1)
  (hanc:∀j,F.anc y.1 j→dn listed j) {u:Value} {w':World} {g':G}
  (hst:Stp H g w H g' w') (hv:Early F.g0 H g' w' (a.put y.2.dst u) y.2) (hnew:∀x',Early F.g0 H g w a x'→∀d,x'.dst=some d→a.tmps.getD d undef≠u) :
  DInv F (listed.setIfInBounds y.1 true) (a.put y.2.dst u) w' pre post e H g':=by
 have hyL:y∈F.L:=by rw[hI.split];simp[hyp]
 obtain⟨A,B,hAB⟩:=Jv hyL;obtain⟨o,ho⟩:=hF.row hAB hyc;have hlt:y.1<listed.size:=by rw[hI.lsz];exact (Ji.1 ho.op).1
 have hpre:∀z∈pre,z∈F.L:=fun z hz=>by rw[hI.split];simp[hz]
 have hpost:∀z∈post,z∈F.L:=fun z hz=>by rw[hI.split];simp[hz]
 refine⟨hI.split,hI.rest,hI.stp.trans hst,by rw[(Qca _ _ _).1];exact hI.size,by rw[(Qca _ _ _).2];exact hI.defers,by simp[hI.lsz],?_,?_,?_,?_,?_,?_⟩
 ·intro i hi j hj;rw[Qco hlt]at hi⊢;rcases hi with rfl|hi
  ·exact .inr (hanc j hj)
  ·exact .inr (hI.closed i hi j hj)
 ·intro z hz hzE;rw[Qco hlt];exact .inr (hI.eDone z hz hzE)
 ·intro z hz hzc hzd;rw[Qco hlt]at hzd;rcases hzd with h|h
  ·have:=hF.inj (hpost _ hz) hyL hzc hyc h;subst this;exact⟨hyf,hv⟩
  ·obtain⟨k1,k2⟩:=hI.postDone z hz hzc h;refine⟨k1,k2.mono hst fun d hd=>Qjf fun hh=>?_⟩;have:=hF.injDst (hpost _ hz) hyL hzc hyc hd hh;subst this;exact hyn h
 ·intro z hz hzf hzn;obtain⟨hzc,hze⟩:=Qmy hzf;rw[Qco hlt]at hzn;have hzn':¬dn listed z.1:=fun h=>hzn (.inr h);rcases hI.pend z hz hzf hzn' with h|h
  ·exact .inl h
  ·right;obtain⟨o',x,ei,u',p1,p2,p3,p4,p5,p6,p7,p8⟩:=h;refine⟨o',x,ei,u',p1,p2,p3,p4,p5,p6,p7,?_⟩;intro t ht;obtain⟨q1,q2⟩:=p8 t ht;have hyt:y.2.dst≠some t:=fun h=>by
    have:=(hF.pair (Qb4 hI.split hz hyp) hzc hyc).war t h ht;exact hzn' (hanc _ this)
   have hb:∀z',Qjd F (listed.setIfInBounds y.1 true) pre z t z'↔Qjd F listed pre z t z':=by
    intro z';constructor
    ·rintro⟨b1,b2,b3,b4,b5⟩;rw[Qco hlt]at b3;exact⟨b1,b2,fun h=>b3 (.inr h),b4,b5⟩
    ·rintro⟨b1,b2,b3,b4,b5⟩;refine⟨b1,b2,?_,b4,b5⟩;rw[Qco hlt];rintro (h|h)
     ·exact (hF.pair (Qb4 hI.split b1 hyp) b2 hyc).ne h
     ·exact b3 h
   simp only[hb,Qjf hyt];exact⟨q1,fun h=>(q2 h).mono hst.le⟩
 ·intro t;by_cases ht:y.2.dst=some t
  ·exact .inr (.inl ⟨y,hyp,hyc,hyf,(Qco hlt).2 (.inl rfl),ht⟩)
  ·rw[Qjf ht];rcases hI.temps t with ⟨y',k1,k2,k3,k4⟩|⟨y',k1,k2,k3,k4,k5⟩|k
   ·refine .inl ⟨y',k1,k2,?_,k4⟩;rw[Qco hlt];rintro (h|h)
    ·exact (hF.pair (Qb4 hI.split k1 hyp) k2 hyc).ne h
    ·exact k3 h
   ·exact .inr (.inl ⟨y',k1,k2,k3,(Qco hlt).2 (.inr k4),k5⟩)
   ·exact .inr (.inr (k.mono hst.le))
 ·have hlast:∀z'∈post,z'.2.isChk=false→dn listed z'.1→z'.1≠y.1→∀d d',y.2.dst=some d→z'.2.dst=some d'→(a.put y.2.dst u).tmps.getD d undef≠(a.put y.2.dst u).tmps.getD d' undef:=by
   intro z' hz' hzc' hzd hne d d' hd hd';obtain⟨_,k2⟩:=hI.postDone z' hz' hzc' hzd;rw[Qa7x hd (by rw[hI.size];exact Q69 ho.item d hd),Qjf fun h=>hne (by rw[hF.injDst (hpost _ hz') hyL hzc' hyc hd' h])];exact fun h=>hnew _ k2 d' hd' h.symm
  intro y' hy' z' hz' hyc' hzc' hyd hzd hne d d' hd hd';rw[Qco hlt]at hyd hzd;by_cases h1:y'.1=y.1
  ·have:=hF.inj (hpost _ hy') hyL hyc' hyc h1;subst this;exact hlast z' hz' hzc' (hzd.resolve_left fun h=>hne h.symm) (fun h=>hne h.symm) d d' hd hd'
  ·by_cases h2:z'.1=y.1
   ·have:=hF.inj (hpost _ hz') hyL hzc' hyc h2;subst this;exact (hlast y' hy' hyc' (hyd.resolve_left h1) h1 d' d hd' hd).symm
   ·rw[Qjf fun h=>h1 (by rw[hF.injDst (hpost _ hy') hyL hyc' hyc hd h]),Qjf fun h=>h2 (by rw[hF.injDst (hpost _ hz') hyL hzc' hyc hd' h])];exact hI.ne y' hy' z' hz' hyc' hzc' (hyd.resolve_left h1) (hzd.resolve_left h2) hne d d' hd hd'
def Qblt (listed:Array Bool)(post:List Row):Prop:=post=[]∨∃y r,post=y::r∧y.2.isE=true∧¬dn listed y.1
theorem Q8y {F:Fix}(hF:FixOk F){listed:Array Bool}:∀(post pre:List Row) (e:Env) (H:Heap),DInv F listed a w pre post e H g→
  ∃pre' post' e' H',DInv F listed a w pre' post' e' H' g∧Qblt listed post'
 |[],pre,e,H,hI=>⟨pre,[],e,H,hI,.inl rfl⟩
 |(i,x)::r,pre,e,H,hI=>by
  have hnE:x.isE=false→x.isChk=false→¬dn listed i:=by
   intro hx hc hd;obtain⟨_,hea⟩:=hI.postDone (i,x) (by simp) hc hd;obtain⟨d,cells,l,b,sz,T,cs,h1,_⟩:=hea.ok;simp only at h1;rw[h1]at hx;simp[Item.isE]at hx
  have hrest:=hI.rest
  cases x with
  |chk d gd op=>exact Q8y hF r _ e H (hI.passChk hF)
  |f d gd op=>
   simp only[Jr,Qsv]at hrest;exact Q8y hF r _ _ H (hI.passFl hF rfl _ ⟨hrest.1,hrest.2.1,rfl⟩ hrest.2.2 (hnE rfl rfl))
  |p d gd f xs=>
   simp only[Jr,Qsv]at hrest;obtain⟨r1,v,r2,r3⟩:=hrest;exact Q8y hF r _ _ H (hI.passFl hF rfl _ ⟨r1,v,r2,rfl⟩ r3 (hnE rfl rfl))
  |e d gd op=>
   by_cases hd:dn listed i
   ·obtain⟨e',H',hI'⟩:=hI.passFa hF rfl hd;exact Q8y hF r _ e' H' hI'
   ·exact⟨pre,_,e,H,hI,.inr ⟨_,r,rfl,rfl,hd⟩⟩
theorem Qaxd {α:Type}{p q:α→Bool}:∀(l:List α),(∀x∈l,q x=true→p x=true)→(∃x∈l,p x=true∧q x=false)→l.countP q<l.countP p
 |[],_,h=>by simp at h
 |x::r,h1,h2=>by
  have hle:r.countP q≤r.countP p:=List.countP_mono_left fun y hy=>h1 y (by simp[hy]);obtain⟨y,hy,k1,k2⟩:=h2;rcases Jf.1 hy with rfl|hy
  ·simp only[Jaj,k1,k2];simp;omega
  ·have:=Qaxd r (fun y hy=>h1 y (by simp[hy])) ⟨y,hy,k1,k2⟩;have hx:=h1 x (by simp);simp only[Jaj]
   cases hq:q x with
   |true=>rw[hx hq];simp;omega
   |false=>simp;split <;> omega
def unl (F:Fix)(listed:Array Bool):Nat:=(List.range F.ops.size).countP fun i=>!listed.getD i false
theorem Qa6v {F:Fix}(hF:FixOk F){listed:Array Bool}(hsz:listed.size=F.ops.size)(hr:Region.ready .any F.ops listed=[]):∀(B A:List Row),F.L=A++B→
  (∀y∈A,y.2.isChk=false→dn listed y.1)→∀y∈B,y.2.isChk=false→dn listed y.1
 |[],A,h,hA,y,hy,hc=>by simp at hy
 |x::r,A,h,hA,y,hy,hc=>by
  have hx:x.2.isChk=false→dn listed x.1:=by
   intro hxc;obtain⟨o,ho⟩:=hF.row h hxc;have hlt:x.1<listed.size:=by rw[hsz];exact (Ji.1 ho.op).1
   by_cases hd:dn listed x.1
   ·exact hd
   ·exfalso;have:x.1∈Region.ready .any F.ops listed:=by
     rw[mem_ready];refine⟨?_,o,ho.op,fun ed hed hb=>?_⟩
     ·simp only[dn]at hd;rw[Jc,Jj hlt]at hd⊢;simpa using hd
     ·obtain⟨z,hz,h1,h2⟩:=ho.aft ed hed hb;rw[←h2];exact hA z hz h1
    rw[hr]at this;simp at this
  rcases Jf.1 hy with rfl|hy
  ·exact hx hc
  ·refine Qa6v hF hsz hr r (A++[x]) (by rw[h];simp) ?_ y hy hc;intro z hz hzc;rcases Je.1 hz with k|k
   ·exact hA z k hzc
   ·simp at k;subst k;exact hx hzc
theorem Qa63 {F:Fix}(hF:FixOk F){listed:Array Bool}{pre post:List Row}(hI:DInv F listed a w pre post e H g)(hst:Qblt listed post)(hr:Region.ready .any F.ops listed=[]) :
  Post F.n F.H0 F.g0 F.w0 F.K a w:=by
 have hall:=Qa6v hF hI.lsz hr F.L [] rfl (by simp);rcases hst with rfl|⟨y,r,rfl,hy,hd⟩
 ·refine⟨e,H,g,hI.rest,hI.stp,fun t=>?_,hI.defers,hI.size⟩;rcases hI.temps t with ⟨y',k1,k2,k3,k4⟩|⟨y',k1,_⟩|k
  ·exact absurd (hall y' (by rw[hI.split];simp[k1]) k2) k3
  ·simp at k1
  ·exact k
 ·exact absurd (hall y (by rw[hI.split];simp) (Qaxj hy).1) hd
theorem Qbc9 {F:Fix}(hF:FixOk F){Q:Exit→Act→World→Prop}(hQ:∀a' w',Post F.n F.H0 F.g0 F.w0 F.K a' w'→Q .normal a' w')(hP:∀v a' w' H' g',F.KP v H'→Stp F.H0 F.g0 F.w0 H' g' w'→a'.defers=[]→a'.tmps.size=F.n→Q (.panic [{ v:=v,recovered:=false }]) a' w') :
  ∀(fuel:Nat) (listed:Array Bool) (a:Act) (w:World) (pre post:List Row) (e:Env) (H:Heap) (g:G),DInv F listed a w pre post e H g→Qblt listed post→unl F listed≤fuel→
   wpAny F.P .any F.ops Q fuel listed a w:=by
 intro fuel
 induction fuel with
 |zero=>
  intro listed a w pre post e H g hI hst hu;have hr:Region.ready .any F.ops listed=[]:=by
   rw[List.eq_nil_iff_forall_not_mem];intro i hi;rw[mem_ready]at hi;obtain⟨h1,o,h2,h3⟩:=hi;have hlt:i<F.ops.size:=(Ji.1 h2).1;have:0<unl F listed:=by
    unfold unl;rw[List.countP_pos_iff];refine⟨i,by simp[hlt],?_⟩;have hlt':i<listed.size:=(by rw[hI.lsz];exact hlt);rw[Jc,Jj hlt']at h1⊢;simpa using h1
   omega
  exact⟨hr,hQ _ _ (Qa63 hF hI hst hr)⟩
 |succ fuel ih=>
  intro listed a w pre post e H g hI hst hu;refine⟨fun hr=>hQ _ _ (Qa63 hF hI hst hr),?_⟩;intro i hi;rw[mem_ready]at hi;obtain⟨h1,o,h2,h3⟩:=hi;have hlt:i<F.ops.size:=(Ji.1 h2).1;have hlt':i<listed.size:=by rw[hI.lsz];exact hlt
  have hnd:¬dn listed i:=by
   simp only[dn];rw[Jc,Jj hlt']at h1⊢;simpa using h1
  have hu':unl F (listed.setIfInBounds i true)≤fuel:=by
   have:unl F (listed.setIfInBounds i true)<unl F listed:=by
    refine Qaxd _ ?_ ⟨i,by simp[hlt],?_,?_⟩
    ·intro j hj hq;by_cases hij:i=j
     ·subst hij;simp[hlt']at hq
     ·rw[getD_set_ne false hij]at hq;exact hq
    ·simpa[dn]using hnd
    ·simp[hlt']
   omega
  obtain⟨y,hyL,hyc,hyi⟩:=hF.all i hlt;subst hyi;obtain⟨A,B,hAB⟩:=Jv hyL;obtain⟨o',ho⟩:=hF.row hAB hyc;have hoo:o'=o:=by have:=ho.op;rw[h2]at this;simpa using this.symm
  subst hoo;have hanc:∀j,F.anc y.1 j→dn listed j:=by
   intro j hj;obtain⟨ed,k1,k2,k3⟩:=ho.anc j hj;rcases k3 with k3|k3
   ·rw[←k3];exact h3 ed k1 k2
   ·exact hI.closed _ (h3 ed k1 k2) j k3
  have hgo:∀a' w' pre' post' e' H' g',DInv F (listed.setIfInBounds y.1 true) a' w' pre' post' e' H' g'→wpAny F.P .any F.ops Q fuel (listed.setIfInBounds y.1 true) a' w':=by
   intro a' w' pre' post' e' H' g' hI';obtain⟨p2,q2,e2,H2,hI2,hs2⟩:=Q8y hF post' pre' e' H' hI';exact ih _ a' w' p2 q2 e2 H2 g' hI2 hs2 hu'
  have hmem:y∈pre∨y∈post:=by
   have:y∈pre++post:=hI.split▸hyL;exact Je.1 this
  have hearly:flo F.fa y.1=true→y∈post→wpOp F.P F.ops Q y.1 (wpAny F.P .any F.ops Q fuel (listed.setIfInBounds y.1 true)) a w:=by
   intro hfa hyp;refine Qa8o h2 ho.item (ho.isFa hfa) hI.stp.sat (fun l z hz=>hI.stp.le.io l z hz) hI.size (g0:=F.g0) fun u w' g' k1 k2 k3=>?_;exact hgo _ _ _ _ _ _ _ (hI.doneFa hF hyp hyc hfa hnd hanc k1 k2 k3)
  rcases hmem with hyp|hyp
  ·
   have hfl:y.2.isFl=true:=by
    have hE:=hI.eDone y hyp;revert hE hyc;cases y.2 <;> simp_all[Item.isFl,Item.isChk,Item.isE]
   rcases hI.pend y hyp hfl hnd with h|h
   ·exfalso;rcases hst with rfl|⟨z,r,rfl,hz,_⟩
    ·simp[Qat9]at h
    ·have:=(Qob h).1;rw[(Qaxj hz).1]at this;simp at this
   ·obtain⟨o2,x,ei,v,p1,p2,p3,p4,p5,p6,p7,p8⟩:=h;rw[h2]at p1;simp only[Jd]at p1;subst p1;have hno:∀t,¬∃z,Qjd F listed pre y t z:=by
     rintro t ⟨z,b1,b2,b3,b4,b5⟩;exact b3 (hanc _ b5)
    refine Qbmn (n:=F.n) h2 p2 p6 hI.stp.sat ?_ fun u w' g' k1 k2=>?_
    ·intro t;rw[Qaui];split
     ·rename_i ht
      rw[p4]at ht;exact (p8 t ht).2 (hno t)
     ·exact .unk _
    ·rw[p3];exact hgo _ _ _ _ _ _ _ (hI.doneFl hF hyp hfl hnd hanc p7 k1 k2)
  ·by_cases hfa:flo F.fa y.1=true
   ·exact hearly hfa hyp
   ·rcases hst with rfl|⟨z,r,rfl,hz,hzd⟩
    ·simp at hyp
    ·have hyz:y=z:=by
      rcases Jf.1 hyp with k|k
      ·exact k
      ·exfalso;have:=(hF.pair (Qcz hI.split k) (Qaxj hz).1 hyc).ord hz hfa;exact hzd (hanc _ this)
     subst hyz;have hrest:=hI.rest;have him:=ho.item;have hpass:=@DInv.passE;obtain⟨yi,yx⟩:=y
     cases yx with
     |e d gd op=>
      simp only[Jr,Qsv]at hrest;obtain⟨r1,r2,r3⟩:=hrest;refine Qblu (n:=F.n) h2 him hI.stp.sat ?_ r1 r2 r3 (fun x u w' H' g' k1 k2 k3=>?_) fun v w' H' g' k1 k2=>hP v a w' H' g' k1 (hI.stp.trans k2) hI.defers hI.size
      ·intro t;rw[Qaui];split
       ·rename_i ht
        rcases hI.temps t with ⟨y',b1,b2,b3,b4⟩|⟨y',b1,b2,b3,b4,b5⟩|k
        ·exfalso;exact b3 (hanc _ ((hF.pair (Qb4 hI.split b1 (by simp)) b2 hyc).raw t b4 ht))
        ·exfalso;rcases Jf.1 b1 with h|h
         ·subst h;exact hnd b4
         ·have:=(hF.pair (Qcz hI.split h) hyc b2).war t b5 ht;exact hnd (hI.closed _ b4 _ this)
        ·exact k
       ·exact .unk _
      ·exact hgo _ _ _ _ _ _ _ (hI.passE hF hz hnd hfa hanc (Qa1n k1 k3) k2 k3)
     |f=>simp[Item.isE]at hz
     |p=>simp[Item.isE]at hz
     |chk=>simp[Item.isE]at hz
theorem Qa1p (hs:Sat H g w)(k:Nat):Stp H g w H g { w with drawn:=k }:=by
 have hle:Le g w g { w with drawn:=k }:=⟨fun _ h=>⟨h,rfl⟩,fun _ _ h=>h,Jak _,fun _ _ _ h=>h,rfl,rfl,rfl⟩;have hk:∀l,Q8x g w g { w with drawn:=k } l:=fun l b q hb=>⟨hb,rfl⟩;exact⟨hle,fun l _ hn=>⟨hn,fun b p hb=>⟨hb,rfl⟩⟩,hs.fresh,hs.names,hs.excl,hs.named,fun l=>SatObj.keep_all hs hle hk l⟩
theorem Qa8n {n id fa:Nat}{ord:List Nat}{ops:Array Oper}{its:List Item}{KP:Value→Heap→Prop}{K:Env→Heap→Prop}{Q:Exit→Act→World→Prop}(Qai:P.follows .mixedOrders=true)(hm:Qbnf P n ops fa ord its=true)(hs:Sat H g w)(he:EnvOk w g e a)(hn:a.tmps.size=n)(hd:a.defers=[])
  (hr:Qsv P its e H KP K) (hQ:∀a' w',Post n H g w K a' w'→Q .normal a' w') (hP:∀v a' w',Post n H g w (fun _ H'=>KP v H') a' w'→Q (.panic [{ v:=v,recovered:=false }]) a' w'):(Code.region id ops true).wp P Q a w:=by
 simp only[Qbnf,Ja,beq_iff_eq,J1,Jan,J8,Jz]at hm;obtain⟨⟨⟨m1,m2⟩,m3⟩,m4⟩:=hm;let F:Fix:={ P,n,ops,ms:=Qbnm ops.toList [],fa,L:=ord.zip its,H0:=H,g0:=g,w0:=w,KP,K };have hF:FixOk F:=⟨m3,fun i hi=>m4 i hi⟩;have hmap:(ord.zip its).map Prod.snd=its:=by
  rw[List.map_snd_zip];omega
 have hst:=Qa1p hs (w.drawn+1);have hnl:∀i,¬dn (Array.replicate ops.size false) i:=by
  intro i h;simp only[dn,Jc,Array.getElem?_replicate]at h;split at h <;> simp at h
 have hI:DInv F (Array.replicate ops.size false) a { w with drawn:=w.drawn+1 } [] (ord.zip its) e H g:=by
  refine⟨rfl,by rw[hmap];exact hr,hst,hn,hd,by simp[F],fun i hi=>absurd hi (hnl i),by simp,fun y _ _ h=>absurd h (hnl _),by simp,fun t=>?_,fun y _ z _ _ _ h=>absurd h (hnl _)⟩;exact .inr (.inr ((he t).mono hst.le))
 obtain⟨p2,q2,e2,H2,hI2,hs2⟩:=Q8y hF _ _ _ _ hI;refine wp_region_any Qai ?_;refine Qbc9 hF hQ (fun v a' w' H' g' k1 k2 k3 k4=>hP v a' w' ⟨[],H',g',k1,k2,fun t=>.unk _,k3,k4⟩) ops.size _ a _ p2 q2 e2 H2 g hI2 hs2 ?_;exact Nat.le_trans List.countP_le_length (by simp[F])
theorem Qbcm {c:Code}{Q:Exit→Act→World→Prop}(I:Nat→Act→World→Prop)(h₀:∃n,I n a w)
  (round:∀n a w,I n a w→c.wp P (Exit.then (fun a' w'=>∃m,m<n∧I m a' w') Q) a w):(Code.loop c).wp P Q a w:=by
 intro b k cs;have key:∀n a w,I n a w→∃e a' w',Q e a' w'∧Arrives P (lone (b.at a (.code c::.inLoop c::k)) cs w) b k cs e a' w':=by
  intro n
  induction n using Nat.strongRecOn with
  |_ n ih=>
   intro a w hI;obtain⟨e,a₁,w₁,hq,harr⟩:=round n a w hI b (.inLoop c::k) cs
   cases e with
   |normal=>
    obtain⟨m,hlt,hI₁⟩:=hq;obtain⟨e₂,a₂,w₂,hq₂,harr₂⟩:=ih m hlt a₁ w₁ hI₁;exact⟨e₂,a₂,w₂,hq₂,.of_steps (Steps.trans harr (.one step_inLoop)) harr₂⟩
   |exit id=>exact⟨_,a₁,w₁,hq,.pass (x:=.inLoop c) rfl (fun _ _=>.inl (by simp)) harr⟩
   |goto l=>exact⟨_,a₁,w₁,hq,.pass (x:=.inLoop c) rfl (fun _ _=>.inl (by simp)) harr⟩
   |ret=>exact⟨_,a₁,w₁,hq,.pass (x:=.inLoop c) rfl (fun _ _=>.inl (by simp)) harr⟩
   |panic ch=>exact⟨_,a₁,w₁,hq,.pass (x:=.inLoop c) rfl (fun _ _=>.inl (by simp)) harr⟩
   |outgrown=>exact⟨_,a₁,w₁,hq,.pass (x:=.inLoop c) rfl (fun _ _=>.inl (by simp)) harr⟩
 obtain⟨n,hn⟩:=h₀;obtain⟨e,a',w',hq,harr⟩:=key n a w hn;exact⟨e,a',w',hq,.of_steps (.one step_loop) harr⟩
def xm:Exit→Option X
 |.normal=>some .nrm
 |.exit id=>some (.exit id)
 |.ret=>some .ret
 |.panic [{ v:=v,recovered:=false,goexit:=false }]=>some (.pan v)
 |_=>none
theorem Qa8a {ch:List PanicEntry}{x:X}(h:xm (.panic ch)=some x):∃v,x=.pan v∧ch=[{ v:=v,recovered:=false }]:=by
 unfold xm at h;split at h <;> simp_all
def Qbcr (n:Nat)(H:Heap)(g:G)(w:World)(Q:X→Env→Heap→Prop)(x:Exit)(a:Act)(w':World):Prop:=
 ∃x',xm x=some x'∧Post n H g w (Q x') a w'
def mC (P:Program)(n:Nat):Code→SC→Bool
 |c,.seq .gh s=>mC P n c s
 |.skip,.skip=>true
 |.region _ ops false,.reg its _=>mIts P n ops 0 its
 |.region _ ops true,.dreg fa ord its _=>Qbnf P n ops fa ord its
 |.seq c d,.seq s t=>mC P n c s&&mC P n d t
 |.cond x c d,.cond y s t=>mO y x&&mC P n c s&&mC P n d t
 |.block i c,.block j s=>i == j&&mC P n c s
 |.loop c,.loop s=>mC P n c s
 |.exit i,.exit j=>i == j
 |.ret,.ret=>true
 |.scope c,.scope s=>mC P n c s
 |.label _,.skip=>true
 |_,_=>false
theorem Qbhd {ks:List Nat}(h:EnvOk w g e a):EnvOk w g (trim ks e) a:=by
 intro t;unfold trim
 induction ks with
 |nil=>exact .unk _
 |cons k ks ih=>
  simp only[Jr,lk];split
  ·rename_i ht;subst ht;exact h t
  ·exact ih
theorem Post.trans {n:Nat}{H':Heap}{g':G}{w' w'':World}{K:Env→Heap→Prop}(h:Stp H g w H' g' w')(k:Post n H' g' w' K a w''):Post n H g w K a w'':=by
 obtain⟨e2,H2,g2,k1,k2,k3,k4,k5⟩:=k;exact⟨e2,H2,g2,k1,h.trans k2,k3,k4,k5⟩
theorem Qa8l (Qai:P.follows .mixedOrders=true){n:Nat}:∀(s:SC) (c:Code) (Q:X→Env→Heap→Prop) (e:Env) (H:Heap),mC P n c s=true→Q8 P s Q e H→
  ∀(g:G) (w:World) (a:Act),Sat H g w→EnvOk w g e a→a.defers=[]→a.tmps.size=n→c.wp P (Qbcr n H g w Q) a w:=by
 intro s
 induction s with
 |skip=>
  intro c Q e H hm hc g w a hs he hd hn
  cases c with
  |skip=>exact wp_skip ⟨.nrm,rfl,e,H,g,hc,.refl hs,he,hd,hn⟩
  |label l=>exact wp_label ⟨.nrm,rfl,e,H,g,hc,.refl hs,he,hd,hn⟩
  |_=>simp[mC]at hm
 |reg its keep=>
  intro c Q e H hm hc g w a hs he hd hn
  cases c with
  |region id ops dr'=>
   cases dr' with
   |true=>simp[mC]at hm
   |false=>
    simp only[mC]at hm;simp only[Q8]at hc;have hQ:∀a' w',Post n H g w (fun e' H'=>Q .nrm (trim keep e') H') a' w'→Qbcr n H g w Q .normal a' w':=by
     rintro a' w' ⟨e2,H2,g2,k1,k2,k3,k4,k5⟩;exact⟨.nrm,rfl,_,H2,g2,k1,k2,Qbhd k3,k4,k5⟩
    have hP:∀v a' w',Post n H g w (fun _ H'=>X.panK Q v H') a' w'→Qbcr n H g w Q (.panic [{ v:=v,recovered:=false }]) a' w':=by
     rintro v a' w' ⟨e2,H2,g2,k1,k2,k3,k4,k5⟩;exact⟨.pan v,rfl,[],H2,g2,k1,k2,fun t=>.unk _,k4,k5⟩
    have hl:=Qa7k its 0 hm;refine wp_region ?_;rw[List.range_eq_range',←hl,Jac];exact Qaci hQ hP its 0 e H g w a hm (.refl hs) he hn hd hc
  |_=>simp[mC]at hm
 |dreg fa ord its keep=>
  intro c Q e H hm hc g w a hs he hd hn
  cases c with
  |region id ops dr'=>
   cases dr' with
   |false=>simp[mC]at hm
   |true=>
    simp only[mC]at hm;simp only[Q8]at hc;have hQ:∀a' w',Post n H g w (fun e' H'=>Q .nrm (trim keep e') H') a' w'→Qbcr n H g w Q .normal a' w':=by
     rintro a' w' ⟨e2,H2,g2,k1,k2,k3,k4,k5⟩;exact⟨.nrm,rfl,_,H2,g2,k1,k2,Qbhd k3,k4,k5⟩
    have hP:∀v a' w',Post n H g w (fun _ H'=>X.panK Q v H') a' w'→Qbcr n H g w Q (.panic [{ v:=v,recovered:=false }]) a' w':=by
     rintro v a' w' ⟨e2,H2,g2,k1,k2,k3,k4,k5⟩;exact⟨.pan v,rfl,[],H2,g2,k1,k2,fun t=>.unk _,k4,k5⟩
    exact Qa8n Qai hm hs he hn hd hc hQ hP
  |_=>simp[mC]at hm
 |seq s t ihs iht=>
  intro c Q e H hm hc g w a hs he hd hn;by_cases hg:s=.gh
  ·subst hg;have hm':mC P n c t=true:=by simpa[mC]using hm
   simp only[Q8]at hc;obtain⟨e1,H1,h1,h2⟩:=hc;obtain⟨g1,k1,k2⟩:=h1 g w (fun t=>a.tmps.getD t undef) hs he;refine wp_mono (iht c Q e1 H1 hm' h2 g1 w a k1.sat k2 hd hn) ?_;rintro x a' w' ⟨x',q1,q2⟩;exact⟨x',q1,q2.trans k1⟩
  ·cases c with
   |seq c d=>
    have hm':mC P n c s=true∧mC P n d t=true:=by
     cases s <;> first|(exact absurd rfl hg)|simpa[mC]using hm
    simp only[Q8]at hc;refine wp_seq (wp_mono (ihs c _ e H hm'.1 hc g w a hs he hd hn) ?_);rintro x a' w' ⟨x',q1,e2,H2,g2,k1,k2,k3,k4,k5⟩
    cases x with
    |normal=>
     simp only[xm,Jd]at q1;subst q1;refine wp_mono (iht d Q e2 H2 hm'.2 k1 g2 w' a' k2.sat k3 k4 k5) ?_;rintro x2 a2 w2 ⟨x2',r1,r2⟩;exact⟨x2',r1,r2.trans k2⟩
    |exit id=>
     simp only[xm,Jd]at q1;subst q1;exact⟨_,rfl,e2,H2,g2,k1,k2,k3,k4,k5⟩
    |ret=>
     simp only[xm,Jd]at q1;subst q1;exact⟨_,rfl,e2,H2,g2,k1,k2,k3,k4,k5⟩
    |panic ch=>
     obtain⟨v,rfl,rfl⟩:=Qa8a q1;exact⟨_,rfl,e2,H2,g2,k1,k2,k3,k4,k5⟩
    |_=>simp[xm]at q1
   |_=>cases s <;> first|(exact absurd rfl hg)|simp[mC]at hm
 |cond y s t ihs iht=>
  intro c Q e H hm hc g w a hs he hd hn;cases c <;> simp[mC]at hm
  rename_i x c d
  obtain⟨⟨h1,h2⟩,h3⟩:=hm;simp only[Q8]at hc;obtain⟨b,k1,k2,k3⟩:=hc;have hr:=Qblg he h1;rw[k1]at hr;have hb:=hr.c_inv.bool_inv;exact wp_cond_split hb (fun hbt=>ihs c Q e H h2 (k2 hbt) g w a hs he hd hn) (fun hbt=>iht d Q e H h3 (k3 hbt) g w a hs he hd hn)
 |block id s ih=>
  intro c Q e H hm hc g w a hs he hd hn;cases c <;> simp[mC]at hm
  rename_i id' c
  obtain⟨rfl,h2⟩:=hm;simp only[Q8]at hc;refine wp_block (wp_mono (ih c _ e H h2 hc g w a hs he hd hn) ?_);rintro x a' w' ⟨x',q1,e2,H2,g2,k1,k2⟩
  cases x with
  |normal=>
   simp only[xm,Jd]at q1;subst q1;exact⟨.nrm,rfl,e2,H2,g2,k1,k2⟩
  |exit id2=>
   simp only[xm,Jd]at q1;subst q1;simp only[X.inBlock]at k1;simp only[Exit.inBlock];split
   ·rename_i h;subst h;rw[if_pos rfl]at k1;exact⟨.nrm,rfl,e2,H2,g2,k1,k2⟩
   ·rename_i h;rw[if_neg h]at k1;exact⟨.exit id2,rfl,e2,H2,g2,k1,k2⟩
  |ret=>
   simp only[xm,Jd]at q1;subst q1;exact⟨.ret,rfl,e2,H2,g2,k1,k2⟩
  |panic ch=>
   obtain⟨v,rfl,rfl⟩:=Qa8a q1;exact⟨.pan v,rfl,e2,H2,g2,k1,k2⟩
  |_=>simp[xm]at q1
 |loop s ih=>
  intro c Q e H hm hc g w a hs he hd hn;cases c <;> simp[mC]at hm
  rename_i c
  simp only[Q8]at hc;obtain⟨I,⟨m0,h0⟩,hround⟩:=hc;refine Qbcm (fun m a' w'=>Post n H g w (I m) a' w') ⟨m0,e,H,g,h0,.refl hs,he,hd,hn⟩ ?_;rintro m a1 w1 ⟨e1,H1,g1,k1,k2,k3,k4,k5⟩;refine wp_mono (ih c _ e1 H1 hm (hround m e1 H1 k1) g1 w1 a1 k2.sat k3 k4 k5) ?_;rintro x a' w' ⟨x',q1,e2,H2,g2,r1,r2,r3,r4,r5⟩
  cases x with
  |normal=>
   simp only[xm,Jd]at q1;subst q1;obtain⟨m',hlt,hI⟩:=r1;exact⟨m',hlt,e2,H2,g2,hI,k2.trans r2,r3,r4,r5⟩
  |exit id=>
   simp only[xm,Jd]at q1;subst q1;exact⟨_,rfl,e2,H2,g2,r1,k2.trans r2,r3,r4,r5⟩
  |ret=>
   simp only[xm,Jd]at q1;subst q1;exact⟨_,rfl,e2,H2,g2,r1,k2.trans r2,r3,r4,r5⟩
  |panic ch=>
   obtain⟨v,rfl,rfl⟩:=Qa8a q1;exact⟨_,rfl,e2,H2,g2,r1,k2.trans r2,r3,r4,r5⟩
  |_=>simp[xm]at q1
 |exit id=>
  intro c Q e H hm hc g w a hs he hd hn;cases c <;> simp[mC]at hm;subst hm;exact wp_exit ⟨.exit _,rfl,e,H,g,hc,.refl hs,he,hd,hn⟩
 |ret=>
  intro c Q e H hm hc g w a hs he hd hn;cases c <;> simp[mC]at hm;exact wp_ret ⟨.ret,rfl,e,H,g,hc,.refl hs,he,hd,hn⟩
 |gh=>
  intro c Q e H hm hc g w a hs he hd hn;cases c <;> simp[mC]at hm
 |scope s ih=>
  intro c Q e H hm hc g w a hs he hd hn;cases c <;> simp[mC]at hm
  rename_i c
  simp only[Q8]at hc;refine wp_scope_straight (wp_mono (ih c Q e H hm hc g w a hs he hd hn) ?_);rintro x a' w' ⟨x',q1,q2⟩
  cases x with
  |goto l=>simp[xm]at q1
  |_=>exact⟨x',q1,q2⟩
def mR (P:Program):ResultVar→RS→Bool
 |.tmp t,.tmp t'=>t == t'
 |.cell t ty,.cell t' n agg=>t == t'&&Qaxr P ty n agg
 |_,_=>false
def mRs (P:Program):List ResultVar→List RS→Bool
 |[],[]=>true
 |x::r,y::s=>mR P x y&&mRs P r s
 |_,_=>false
def mFn (P:Program)(f:FuncId)(nargs n:Nat)(s:SC)(rs:List RS):Bool:=
 fnOk P f&&(match P.funcs[f]? with
  |some fn=>(match fn.body with
   |some c=>fn.ntmps == n&&decide (nargs≤n)&&mC P n c s&&mRs P fn.results.toList rs
   |none=>false)
  |none=>false)
theorem Qbpf {n:Nat}{x:ResultVar}{y:RS}(hm:mR P x y=true)(hs:Sat H g w)(he:EnvOk w g e a)(ho:y.op.obl true e H) :
  ∃v,(match x with
   |.tmp t=>(pure (a.tmps.getD t undef):Sem Value)
   |.cell t ty=>do loadVar ty (←asAddr (a.tmps.getD t undef))).run P w=.ok v w∧RepV w g (y.op.val e H) v:=by
 cases x with
 |tmp t=>
  cases y with
  |tmp t'=>
   simp[mR]at hm;subst hm;have hr:=Qaf (x:=.t t) (y:=.tmp t) he (by simp[mO]) rfl ho;exact⟨a.tmps.getD t undef,rfl,hr⟩
  |cell=>simp[mR]at hm
 |cell t ty=>
  cases y with
  |tmp=>simp[mR]at hm
  |cell t' n agg=>
   simp only[mR,Ja,beq_iff_eq]at hm;obtain⟨rfl,h2⟩:=hm;obtain⟨d,i,k1,k2,k3,k4,k5⟩:=Qle h2;obtain ⟨v, w', g', r1, r2, r3, _⟩ := s_ld (o := { dst := none, op := .load ty (.tmp t), type := 0, pos := "", after := #[], guard := none }) (x := .t t) (x' := .tmp t) rfl k1 k2 k3 k4 k5 (by simp [mO]) hs he rfl ho
   simp only[RS.op,FOp.obl]at ho;obtain⟨o1,o2,o3,o4,o5⟩:=ho;have hrr:=Qaf (x:=.t t) (y:=.tmp t) he (by simp[mO]) rfl o1;rw[Qda o2]at hrr;obtain⟨b,q,hv,_⟩:=Qasg hs hrr.c_inv o3;have hv':a.tmps.getD t undef=.pointer (some ⟨b,q,none⟩):=hv;have hcell := Qa1c (P := P) (o := { dst := none, op := .load ty (.tmp t), type := 0, pos := "", after := #[], guard := none }) (x := .t t) (x' := .tmp t) rfl k1 k2 k3 k4 k5 (by simp [mO]) hs he rfl ⟨o1, o2, o3, o4, o5⟩
   obtain⟨v2,q1,q2⟩:=hcell;refine⟨v2,?_,q2⟩;simp only[execOp,Instr.loadAt,Act.eval,hv',Instr.sureAddr,Sem.run_bind,Sem.run_pure,Result.andThen_ok]at q1;simp only[hv',asAddr,Sem.run_bind,Sem.run_pure,Result.andThen_ok]
   cases hl:(loadVar ty ⟨b,q,none⟩).run P w with
   |ok u w2=>rw[hl]at q1;simp at q1;obtain⟨rfl,rfl⟩:=q1;rfl
   |halt h w2=>rw[hl]at q1;simp at q1
def rRun (tmps:Array Value):ResultVar→Sem Value
 |.tmp t=>pure (tmps.getD t undef)
 |.cell a t=>do loadVar t (←asAddr (tmps.getD a undef))
theorem Qa24 {P:Program}{w:World}{tmps:Array Value}:∀(l:List ResultVar) (vs:List Value),l.length=vs.length→
  (∀(j:Nat) (x:ResultVar) (v:Value),l[j]? = some x→vs[j]? = some v→(rRun tmps x).run P w=.ok v w)→(l.mapM (rRun tmps)).run P w=.ok vs w:=by
 intro l
 induction l with
 |nil=>intro vs hl _;cases vs with
  |nil=>simp
  |cons=>simp at hl
 |cons x r ih=>
  intro vs hl h
  cases vs with
  |nil=>simp at hl
  |cons v vs=>
   have h0:=h 0 x v rfl rfl;have ih':=ih vs (by simpa using hl) fun j y u h1 h2=>h (j+1) y u (by simpa using h1) (by simpa using h2);simp only[List.mapM_cons,Sem.run_bind,h0,Result.andThen_ok,ih',Sem.run_pure]
theorem Qbng {n:Nat}:∀(l:List ResultVar) (rs:List RS),mRs P l rs=true→Sat H g w→EnvOk w g e a→(∀r∈rs,r.op.obl true e H)→
  ∃vs:List Value,l.length=vs.length∧vs.length=rs.length∧(∀(j:Nat) (x:ResultVar) (v:Value),l[j]? = some x→vs[j]? = some v→(rRun a.tmps x).run P w=.ok v w)∧
   (∀(j:Nat) (x:V) (u:Value),(rs.map fun r=>r.op.val e H)[j]? = some x→vs[j]? = some u→RepV w g x u):=by
 intro l
 induction l with
 |nil=>
  intro rs hm hs he ho
  cases rs with
  |nil=>exact⟨[],rfl,rfl,by simp,by simp⟩
  |cons=>simp[mRs]at hm
 |cons x r ih=>
  intro rs hm hs he ho
  cases rs with
  |nil=>simp[mRs]at hm
  |cons y rs=>
   simp only[mRs,Ja]at hm;obtain⟨v,h1,h2⟩:=Qbpf (n:=n) hm.1 hs he (ho y (by simp));obtain⟨vs,k1,k2,k3,k4⟩:=ih rs hm.2 hs he fun z hz=>ho z (by simp[hz]);refine⟨v::vs,by simp[k1],by simp[k2],?_,?_⟩
   ·intro j z u hz hu
    cases j with
    |zero=>
     simp at hz hu;subst hz;subst hu;exact h1
    |succ j=>exact k3 j z u (by simpa using hz) (by simpa using hu)
   ·intro j z u hz hu
    cases j with
    |zero=>
     simp at hz hu;subst hz;subst hu;exact h2
    |succ j=>exact k4 j z u (by simpa using hz) (by simpa using hu)
theorem Qa9f {fn:Func}{rs:List RS}(hm:mRs P fn.results.toList rs=true)(hs:Sat H g w)(he:EnvOk w g e a){K:V→Heap→Prop}(ho:Q6 rs e H K) :
  ∃v x,(results fn a.tmps).run P w=.ok v w∧K x H∧RepV w g x v:=by
 obtain⟨h1,h2⟩:=ho;obtain⟨vs,k1,k2,k3,k4⟩:=Qbng (n:=0) _ _ hm hs he h1;have hr:=Qa24 (P:=P) (w:=w) (tmps:=a.tmps) _ _ k1 k3;have hrun:(results fn a.tmps).run P w=.ok (if h:vs.toArray.size=1 then vs.toArray[0]else .tuple vs.toArray) w:=by
  have:results fn a.tmps=(do let vs ←fn.results.mapM (rRun a.tmps);pure (if h:vs.size=1 then vs[0]else .tuple vs)):=by
   unfold results;rfl
  rw[this,Array.mapM_eq_mapM_toList];simp only[Sem.run_bind,Sem.run_map,hr,Result.andThen_ok,Sem.run_pure]
 by_cases hl:vs.length=1
 ·obtain⟨v,rfl⟩:∃v,vs=[v]:=Jaa.mp hl;obtain⟨r,rfl⟩:∃r,rs=[r]:=Jaa.mp (by omega);exact⟨v,_,by simpa using hrun,h2,k4 0 _ v (by simp) rfl⟩
 ·have hsz:¬vs.toArray.size=1:=by simpa using hl
  rw[dif_neg hsz]at hrun;refine⟨_,.tup (rs.map fun r=>r.op.val e H),hrun,?_,.tup _ _ (by simp[k2]) k4⟩;split at h2
  ·rename_i r;simp at k2;omega
  ·exact h2
def Qs (rs:List RS)(K:V→Heap→Prop):X→Env→Heap→Prop
 |.nrm,e,H=>Q6 rs e H K
 |.ret,e,H=>Q6 rs e H K
 |.exit _,_,_=>False
 |.pan v,_,H=>K (.pn v) H
theorem Qbog:∀(args:List V) (i t:Nat),lk t (zipE i args)=if i≤t then args.getD (t-i) .unk else .unk:=by
 intro args
 induction args with
 |nil=>intro i t;simp[zipE,lk]
 |cons v r ih=>
  intro i t;simp only[zipE,lk,ih];split
  ·rename_i h;subst h;simp
  ·rename_i h
   split
   ·rw[if_pos (by omega)];have:t-i=(t-(i+1))+1:=(by omega);rw[this];simp
   ·rw[if_neg (by omega)]
theorem Qb (Qai:P.follows .mixedOrders=true){f n:Nat}{s:SC}{rs:List RS}{args:List V}{H:Heap}{K:V→Heap→Prop}
  (hm:mFn P f args.length n s rs=true) (hc:Q8 P s (Qs rs K) (zipE 0 args) H):Ql P f args H K:=by
 simp only[mFn,Ja]at hm;obtain⟨hok,hm⟩:=hm;refine⟨hok,?_⟩;intro g w vs hs hl hv
 cases hf:P.funcs[f]? with
 |none=>rw[hf]at hm;simp at hm
 |some fn=>
  rw[hf]at hm;simp only at hm
  cases hb:fn.body with
  |none=>rw[hb]at hm;simp at hm
  |some c=>
   rw[hb]at hm;simp only[Ja,beq_iff_eq,decide_eq_true_eq]at hm;obtain⟨⟨⟨h1,h2⟩,h3⟩,h4⟩:=hm;refine calls_of_wp hf hb ?_;have he:EnvOk w g (zipE 0 args) { tmps:=vs.toArray++Array.replicate (fn.ntmps-vs.toArray.size) undef,defers:=[] }:=by
    intro t;rw[Qbog,if_pos (Jar _),Nat.sub_zero];by_cases ht:t<args.length
    ·have ht':t<vs.length:=(by omega);have hg:(vs.toArray++Array.replicate (fn.ntmps-vs.toArray.size) undef).getD t undef=vs[t]:=by
      simp[Array.getD,ht',Array.getElem_append];intro h;omega
     rw[hg];exact hv t _ _ (by rw[Jm,Jq ht];rfl) (Jq ht')
    ·rw[Jm,Jk (by omega)];exact .unk _
   refine wp_mono (Qa8l Qai s c _ (zipE 0 args) H h3 hc g w _ hs he rfl (by simp;omega)) ?_;rintro x a' w' ⟨x',q1,e2,H2,g2,k1,k2,k3,k4,k5⟩;have key:Q6 rs e2 H2 K→a'.defers=[]∧∃v,(results fn a'.tmps).run P w'=.ok v w'∧((∃v' x H' g',Ending.returned v=.returned v'∧K x H'∧Stp H g w H' g' w'∧RepV w' g' x v')∨(∃v' H' g',Ending.returned v=.panicked [{ v:=v',recovered:=false }]∧K (.pn v') H'∧Stp H g w H' g' w')):=by
    intro hret;obtain⟨v,x,r1,r2,r3⟩:=Qa9f h4 k2.sat k3 hret;exact⟨k4,v,r1,.inl ⟨v,x,H2,g2,rfl,r2,k2,r3⟩⟩
   cases x with
   |normal=>
    simp only[xm,Jd]at q1;subst q1;exact key k1
   |ret=>
    simp only[xm,Jd]at q1;subst q1;exact key k1
   |exit id=>
    simp only[xm,Jd]at q1;subst q1;exact k1.elim
   |panic ch=>
    obtain⟨v,rfl,rfl⟩:=Qa8a q1;exact⟨k4,.inr ⟨v,H2,g2,rfl,k1,k2⟩⟩
   |_=>simp[xm]at q1
end Go.AE
namespace Go.AE
variable {P:Program}{H:Heap}{e:Env}
def X.sq (P:Program)(b:SC)(Q:X→Env→Heap→Prop):X→Env→Heap→Prop:=X.next (Q8 P b Q) Q
theorem Qbn4 {KP:Value→Heap→Prop}{K:V→Heap→Prop}{x:C}:Qa1m KP K (.c x) H=K (.c x) H:=rfl
theorem Qbkx {KP:Value→Heap→Prop}{K:V→Heap→Prop}{x:List C}:Qa1m KP K (.ag x) H=K (.ag x) H:=rfl
theorem Qan2 {KP:Value→Heap→Prop}{K:V→Heap→Prop}{x:List V}:Qa1m KP K (.tup x) H=K (.tup x) H:=rfl
theorem Qbg8 {KP:Value→Heap→Prop}{K:V→Heap→Prop}:Qa1m KP K .unk H=K .unk H:=rfl
theorem Qbky {KP:Value→Heap→Prop}{K:V→Heap→Prop}{v:Value}:Qa1m KP K (.pn v) H=KP v H:=rfl
theorem Qbp1 {b:SC}{Q:X→Env→Heap→Prop}:X.sq P b Q .nrm e H=Q8 P b Q e H:=rfl
theorem Qbp2 {b:SC}{Q:X→Env→Heap→Prop}:X.sq P b Q .ret e H=Q .ret e H:=rfl
theorem Qbny {b:SC}{Q:X→Env→Heap→Prop}{i:Nat}:X.sq P b Q (.exit i) e H=Q (.exit i) e H:=rfl
theorem Qbo3 {i:Nat}{Q:X→Env→Heap→Prop}:X.inBlock i Q .nrm e H=Q .nrm e H:=rfl
theorem Qbo4 {i:Nat}{Q:X→Env→Heap→Prop}:X.inBlock i Q .ret e H=Q .ret e H:=rfl
theorem Qbmu {i:Nat}{Q:X→Env→Heap→Prop}:X.inBlock i Q (.exit i) e H=Q .nrm e H:=by simp[X.inBlock]
theorem Qbih {i j:Nat}{Q:X→Env→Heap→Prop}(h:(j == i)=false):X.inBlock i Q (.exit j) e H=Q (.exit j) e H:=by
 have:j≠i:=by simpa using h
 simp[X.inBlock,this]
theorem Qf {a b:SC}{Q:X→Env→Heap→Prop}(h:Q8 P a (X.sq P b Q) e H):Q8 P (.seq a b) Q e H:=h
theorem Qbe2 {K K':Env→Heap→Prop}{Q:X→Env→Heap→Prop}:X.next K (X.next K' Q)=X.next K Q:=by
 funext x e H
 cases x <;> rfl
theorem Q4 {a b c:SC}{Q:X→Env→Heap→Prop}(h:Q8 P (.seq a (.seq b c)) Q e H):Q8 P (.seq (.seq a b) c) Q e H:=by
 simp only[Q8]at h⊢;rw[Qbe2];exact h
theorem Qq {its:List Item}{keep:List Nat}{Q:X→Env→Heap→Prop}(h:regT P its e H (X.panK Q) fun e' H'=>Q .nrm (trim keep e') H'):Q8 P (.reg its keep) Q e H:=h
theorem Qeb {fa:Nat}{ord:List Nat}{its:List Item}{keep:List Nat}{Q:X→Env→Heap→Prop}(h:Qsv P its e H (X.panK Q) fun e' H'=>Q .nrm (trim keep e') H'):Q8 P (.dreg fa ord its keep) Q e H:=h
theorem Qa {its:List Item}{keep:List Nat}{b:SC}{Q:X→Env→Heap→Prop}(h:regT P its e H (X.panK Q) fun e' H'=>Q8 P b Q (trim keep e') H'):Q8 P (.seq (.reg its keep) b) Q e H:=h
theorem Qag {fa:Nat}{ord:List Nat}{its:List Item}{keep:List Nat}{b:SC}{Q:X→Env→Heap→Prop}(h:Qsv P its e H (X.panK Q) fun e' H'=>Q8 P b Q (trim keep e') H'):Q8 P (.seq (.dreg fa ord its keep) b) Q e H:=h
theorem Qc {t:Opd}{a b:SC}{Q:X→Env→Heap→Prop}{c:Bool}(hc:t.raw e=.c (.bool c))(h1:c=true→Q8 P a Q e H)(h2:c=false→Q8 P b Q e H):Q8 P (.cond t a b) Q e H:=⟨c,hc,h1,h2⟩
theorem Qd {i:Nat}{a:SC}{Q:X→Env→Heap→Prop}(h:Q8 P a (X.inBlock i Q) e H):Q8 P (.block i a) Q e H:=h
theorem Qv {i:Nat}{Q:X→Env→Heap→Prop}(h:Q (.exit i) e H):Q8 P (.exit i) Q e H:=h
theorem Qi {Q:X→Env→Heap→Prop}(h:Q .ret e H):Q8 P .ret Q e H:=h
theorem Qe {Q:X→Env→Heap→Prop}(h:Q .nrm e H):Q8 P .skip Q e H:=h
theorem Qw {a:SC}{Q:X→Env→Heap→Prop}(I:Nat→Env→Heap→Prop)(n:Nat)(h0:I n e H)
  (h:∀n e1 H1,I n e1 H1→Q8 P a (X.next (fun e2 H2=>∃m,m<n∧I m e2 H2) Q) e1 H1):Q8 P (.loop a) Q e H:=⟨I,⟨n,h0⟩,h⟩
theorem Qbib {e:Env}:gdO e none=True:=rfl
theorem Qbia {e:Env}:gdB e none=true:=rfl
theorem Qbic {p:Bool}{v:V}:gdV none p v=v:=rfl
theorem Qbid {p:Bool}{v:V}{x:Nat×Bool}:gdV (some x) p v=.gd p v:=rfl
theorem Qbk5 {e:Env}:trim [] e=[]:=rfl
theorem Qbhc {k:Nat}{ks:List Nat}{e:Env}:trim (k::ks) e=(k,lk k e)::trim ks e:=rfl
theorem Qbk6 {a:Prop}:(true=true→a)=a:=by simp
theorem Qbdh {a:Prop}:(false=true→a)=True:=by simp
theorem Qbhe {a:Prop}:(true=false→a)=True:=by simp
theorem Qa8u {a:Prop}:(false=false→a)=a:=by simp
theorem Qbqg {a:Prop}:(a∧True)=a:=by simp
theorem Qbro {a:Prop}:(True∧a)=a:=by simp
theorem Qbrp {a:Prop}:(True→a)=a:=by simp
theorem Qbqx {a:Prop}:(a→True)=True:=by simp
theorem b_f {b:Bool}:(b == false) = !b:=by cases b <;> rfl
theorem b_t {b:Bool}:(b == true)=b:=by cases b <;> rfl
theorem Qbik {a:Prop}:(a→a)=True:=by simp
theorem Qbdw {a b:Prop}:(a→b→a)=True:=propext ⟨fun _=>trivial,fun _ h _=>h⟩
theorem Qbdx {a b:Prop}:(a→a∧b)=(a→b):=propext ⟨fun h x=>(h x).2,fun h x=>⟨x,h x⟩⟩
theorem Qbmw {a b:Prop}:(a→a→b)=(a→b):=by simp
theorem Qa2x {α:Type}{p:α→Prop}:(∀x∈([]:List α),p x)=True:=by simp
def Qa1o (H:Heap)(p:C)(vs:List C)(K:V→Heap→Prop):Prop:=
 match p with
 |.ptr l k=>match H l with
  |.st cells=>k+vs.length≤cells.length∧∀H',H'=H.set l (.st (Q4a cells k vs))→K .unk H'
  |_=>False
 |.ep (.vsl l sz st n) z i k=>match H l with
  |.vec y rows=>y=sz∧z=sz∧i<n∧st+n≤rows.length∧k+vs.length≤sz∧
    ∀H',H'=H.set l (.vec sz (rows.set (st+i) (Q4a (rows.getD (st+i) []) k vs)))→K .unk H'
  |_=>False
 |_=>False
def appQ (H:Heap)(sz:Nat)(a b:C)(K:V→Heap→Prop):Prop:=
 okSl H b∧b.elemSz=sz∧match a with
 |.sl true z rows=>z=sz∧(rows=[]∨rowsOf H b≠[])∧(∀r∈rows++rowsOf H b,noOw r=true)∧rows.length+lenC b≤LIM∧
   ∀l,H l=.none→∀H',H'=H.set l (.vec sz (rows++rowsOf H b))→K (.c (.vsl l sz 0 (rows.length+lenC b))) H'
 |.vsl l z st n=>match H l with
  |.vec y rows=>z=sz∧y=sz∧st+n≤rows.length∧(∀r∈rowsOf H b,noOw r=true)∧n+lenC b≤LIM∧
    ∀l',(H.set l .none) l'=.none→∀H',H'=(H.set l .none).set l' (.vec sz ((rows.drop st).take n++rowsOf H b))→
     K (.c (.vsl l' sz 0 (n+lenC b))) H'
  |_=>False
 |_=>False
def updQ (H:Heap)(tag:Nat)(m k:C)(v:V)(K:V→Heap→Prop):Prop:=
 match m with
 |.mp l=>match H l with
  |.map n es=>Qnu tag k es∧es.length+1≤LIM∧∀H',H'=H.set l (.map (n+1) (Q8u k v es))→K .unk H'
  |_=>False
 |_=>False
def delQ (H:Heap)(tag:Nat)(m k:C)(K:V→Heap→Prop):Prop:=
 match m with
 |.mp l=>match H l with
  |.map n es=>Qnu tag k es∧∀H',H'=H.set l (.map (n+1) (delE k es))→K .unk H'
  |_=>False
 |.mnil=>Qnu tag k []∧K .unk H
 |_=>False
theorem Qa2 {α:Type}{a:α}{p:α→Prop}:(∀x,x=a→p x)=p a:=propext ⟨fun h=>h a rfl,fun h x hx=>hx▸h⟩
section
variable {p:Bool}{K:V→Heap→Prop}
theorem Qbg9 {a:C}{vs:List C}:Qan3 H a vs K=Qa1o H a vs K:=by
 cases a with
 |ptr l k=>simp only[Qan3,Qa1o];cases hh:H l <;> simp only[hh,Qa2]
 |ep s z i k=>
  cases s with
  |vsl l sz st n=>simp only[Qan3,Qa1o];cases hh:H l <;> simp only[hh,Qa2]
  |_=>rfl
 |_=>rfl
theorem Qbcx {sz:Nat}{a b:C}:appT H sz a b K=appQ H sz a b K:=by
 unfold appT appQ;refine congrArg (And _) (congrArg (And _) ?_)
 cases a with
 |sl fl z rows=>cases fl <;> simp only[Qa2]
 |vsl l z st n=>simp only[];cases hh:H l <;> simp only[hh,Qa2]
 |_=>rfl
theorem Qboc {tag:Nat}{m k:C}{v:V}:updT H tag m k v K=updQ H tag m k v K:=by
 cases m with
 |mp l=>simp only[updT,updQ];cases hh:H l <;> simp only[hh,Qa2]
 |_=>rfl
theorem Qbl6 {tag:Nat}{m k:C}:delT H tag m k K=delQ H tag m k K:=by
 cases m with
 |mp l=>simp only[delT,delQ];cases hh:H l <;> simp only[hh,Qa2]
 |_=>rfl
theorem Qbdb {cells:List C}:(EOp.alloc cells).eff P p e H K=∀l,H l=.none→∀H',H'=H.set l (.st cells)→K (.c (.ptr l 0)) H':=by simp only[EOp.eff,Qa2]
theorem Qbhx {a:Opd}:(EOp.boxm a).eff P p e H K=(a.fine p e∧(a.v e).cells≠[]∧∀l,H l=.none→∀H',H'=H.set l (.st (a.v e).cells)→K (.c (.ptr l 0)) H'):=by simp only[EOp.eff,Qa2]
theorem Qbmi {n:Nat}{a v:Opd}:(EOp.sto n a v).eff P p e H K=(a.fine p e∧v.fine p e∧(a.v e).isC∧(v.v e).cells.length=n∧0<n∧Qa1o H (a.v e).c1 (v.v e).cells K):=by simp only[EOp.eff,Qbg9]
theorem Qbl9 {sz:Nat}{a b:Opd}:(EOp.app sz a b).eff P p e H K=(a.fine p e∧b.fine p e∧(a.v e).isC∧(b.v e).isC∧appQ H sz (a.v e).c1 (b.v e).c1 K):=by simp only[EOp.eff,Qbcx]
theorem Qbma {sz:Nat}{zr:List C}{a n:Opd}:(EOp.apz sz zr a n).eff P p e H K=(a.fine p e∧n.fine p e∧(a.v e).isC∧Qsx (n.v e)∧0≤Q5 (n.v e)∧Q5 (n.v e)≤LIM∧appQ H sz (a.v e).c1 (.sl false sz (List.replicate (Q5 (n.v e)).toNat zr)) K):=by simp only[EOp.eff,Qbcx]
theorem Qbmf {sz:Nat}{zero:List C}{n:Opd}:(EOp.mks sz zero n).eff P p e H K=(n.fine p e∧Qsx (n.v e)∧0≤Q5 (n.v e)∧Q5 (n.v e)≤LIM∧
   ∀l,H l=.none→∀H',H'=H.set l (.vec sz (List.replicate (Q5 (n.v e)).toNat zero))→K (.c (.vsl l sz 0 (Q5 (n.v e)).toNat)) H'):=by simp only[EOp.eff,Qa2]
theorem Qbme:EOp.mkm.eff P p e H K=∀l,H l=.none→∀H',H'=H.set l (.map 0 [])→K (.c (.mp l)) H':=by simp only[EOp.eff,Qa2]
theorem Qbmj {tag:Nat}{m k v:Opd}:(EOp.upd tag m k v).eff P p e H K=(m.fine p e∧k.fine p e∧v.fine p e∧(m.v e).isC∧(k.v e).isC∧(v.v e).cells≠[]∧updQ H tag (m.v e).c1 (k.v e).c1 (v.v e) K):=by simp only[EOp.eff,Qboc]
theorem Qbmc {tag:Nat}{m k:Opd}:(EOp.del tag m k).eff P p e H K=(m.fine p e∧k.fine p e∧(m.v e).isC∧(k.v e).isC∧delQ H tag (m.v e).c1 (k.v e).c1 K):=by simp only[EOp.eff,Qbl6]
theorem Qbh0 {m:Opd}:(EOp.clrm m).eff P p e H K=(m.fine p e∧match m.v e with
  |.c (.mp l)=>match H l with
   |.map n _=>∀H',H'=H.set l (.map (n+1) [])→K .unk H'
   |_=>False
  |_=>False):=by
 simp only[EOp.eff];refine congrArg (And _) ?_
 cases m.v e with
 |c x=>cases x with
  |mp l=>simp only[];cases hh:H l <;> simp only[hh,Qa2]
  |_=>rfl
 |_=>rfl
theorem Qbh1 {sz:Nat}{zero:List C}{m:Opd}:(EOp.clrs sz zero m).eff P p e H K=(m.fine p e∧match m.v e with
  |.c (.vsl l z st n)=>z=sz∧match H l with
   |.vec y rows=>y=sz∧st+n≤rows.length∧∀H',H'=H.set l (.vec sz (rows.take st++List.replicate n zero++rows.drop (st+n)))→K .unk H'
   |_=>False
  |_=>False):=by
 simp only[EOp.eff];refine congrArg (And _) ?_
 cases m.v e with
 |c x=>cases x with
  |vsl l z st n=>simp only[];refine congrArg (And _) ?_;cases hh:H l <;> simp only[hh,Qa2]
  |_=>rfl
 |_=>rfl
theorem Qbhz {f:Nat}{args:List Opd}:(EOp.call f args).eff P p e H K=((∀x∈args,x.fine p e)∧Ql P f (args.map fun x=>x.v e) H K):=rfl
theorem Qbdc {f:Opd}{args:List Opd}:(EOp.callv f args).eff P p e H K=(f.fine p e∧(∀x∈args,x.fine p e)∧match f.v e with
  |.c (.fn n caps)=>Ql P n ((args.map fun x=>x.v e)++caps.map .c) H K
  |_=>False):=rfl
theorem Qbmh {m:Opd}:(EOp.rng m).eff P p e H K=(m.fine p e∧match m.v e with
  |.c (.mp l)=>match H l with
   |.map n es=>es.Nodup∧∀i,H i=.none→∀H',H'=H.set i (.iter (some (l,n)) es none)→K (.c (.itr i)) H'
   |_=>False
  |.c .mnil=>∀i,H i=.none→∀H',H'=H.set i (.iter none [] none)→K (.c (.itr i)) H'
  |_=>False):=by
 simp only[EOp.eff];refine congrArg (And _) ?_
 cases m.v e with
 |c x=>cases x with
  |mp l=>simp only[];cases hh:H l <;> simp only[hh,Qa2]
  |mnil=>simp only[Qa2]
  |_=>rfl
 |_=>rfl
theorem Qbh4 {a:Opd}:(EOp.rngs a).eff P p e H K=(a.fine p e∧match a.v e with
  |.c (.str s)=>∀i,H i=.none→∀H',H'=H.set i (.sit s 0)→K (.c (.itr i)) H'
  |_=>False):=by
 simp only[EOp.eff];refine congrArg (And _) ?_
 cases a.v e with
 |c x=>cases x with
  |str s=>simp only[Qa2]
  |_=>rfl
 |_=>rfl
theorem Qbh3 {it:Opd}:(EOp.nxts it).eff P p e H K=(it.fine p e∧match it.v e with
  |.c (.itr i)=>match H i with
   |.sit s q=>(s.length≤q→K (.tup [.c (.bool false)]) H)∧
     ∀(c:Int) (wd:Nat),q<s.length→1≤wd→((s.getD q 0).toNat<128→c=((s.getD q 0).toNat:Int)∧wd=1)→(128≤(s.getD q 0).toNat→128≤c)→
      ∀H',H'=H.set i (.sit s (q+wd))→K (.tup [.c (.bool true),.c (.int .i64 q),.c (.int .i32 c)]) H'
   |_=>False
  |_=>False):=by
 simp only[EOp.eff];refine congrArg (And _) ?_
 cases it.v e with
 |c x=>cases x with
  |itr i=>
   simp only[];cases hh:H i <;> simp only[Qa2]
  |_=>rfl
 |_=>rfl
theorem Qbmg {it:Opd}:(EOp.nxt it).eff P p e H K=(it.fine p e∧match it.v e with
  |.c (.itr i)=>match H i with
   |.iter none left _=>K (.tup [.c (.bool false)]) H
   |.iter (some (l,n)) left cur=>(∃es,H l=.map n es)∧(left=[]→K (.tup [.c (.bool false)]) H)∧
     ∀x left',x∈left→(∀y,y∈left'↔y∈left∧y≠x)→left'.Nodup→left'.length+1=left.length→
      ∀H',H'=H.set i (.iter (some (l,n)) left' (some x))→K (.tup [.c (.bool true),.c x.1,x.2]) H'
   |_=>False
  |_=>False):=by
 simp only[EOp.eff];refine congrArg (And _) ?_
 cases it.v e with
 |c x=>cases x with
  |itr i=>
   simp only[]
   cases hh:H i with
   |iter m left cur=>cases m with
    |none=>rfl
    |some y=>simp only[Qa2]
   |_=>rfl
  |_=>rfl
 |_=>rfl
theorem Qbmd {it:Opd}:(EOp.ent it).eff P p e H K=(it.fine p e∧match it.v e with
  |.c (.itr i)=>match H i with
   |.iter (some (l,n)) left (some x)=>(∃es,H l=.map n es)∧K (.tup [.c x.1,x.2]) H
   |_=>False
  |_=>False):=rfl
def cpyQ (H:Heap)(sz:Nat)(a b:C)(K:V→Heap→Prop):Prop:=
 okSl H b∧b.elemSz=sz∧match a with
 |.vsl l z st n=>match H l with
  |.vec y rows=>z=sz∧y=sz∧st+n≤rows.length∧lenC b≤n∧(∀r∈rowsOf H b,noOw r=true)∧
    ∀H',H'=H.set l (.vec sz (rows.take st++rowsOf H b++rows.drop (st+lenC b)))→K (.c (.int .i64 (lenC b))) H'
  |_=>False
 |_=>False
theorem Qbl4 {sz:Nat}{a b:C}:cpyT H sz a b K=cpyQ H sz a b K:=by
 unfold cpyT cpyQ;refine congrArg (And _) (congrArg (And _) ?_)
 cases a with
 |vsl l z st n=>simp only[];cases hh:H l <;> simp only[hh,Qa2]
 |_=>rfl
theorem Qbmb {sz:Nat}{a b:Opd}:(EOp.cpy sz a b).eff P p e H K=(a.fine p e∧b.fine p e∧(a.v e).isC∧(b.v e).isC∧cpyQ H sz (a.v e).c1 (b.v e).c1 K):=by simp only[EOp.eff,Qbl4]
theorem Qbhy {sz:Nat}{parts:List Opd}:(EOp.bslm sz parts).eff P p e H K=((∀x∈parts,x.fine p e∧(x.v e).cells.length=sz)∧∀l,H l=.none→∀H',H'=H.set l (.vec sz (parts.map fun x=>(x.v e).cells))→K (.c (.vsl l sz 0 parts.length)) H'):=by simp only[EOp.eff,Qa2]
theorem Qbh2 {a:Opd}:(EOp.nilq a).eff P p e H K=(a.fine p e∧match a.v e with
  |.c (.sl _ _ rows)=>∀b:Bool,(b=true→rows=[])→K (.c (.bool b)) H
  |_=>False):=rfl
end
theorem Q67 {k:IntKind}{n:Int}:(C.int k n).isOw=false:=rfl
theorem Qbd0 {b:Bool}:(C.bool b).isOw=false:=rfl
theorem Q0f {s:List UInt8}:(C.str s).isOw=false:=rfl
theorem Qahj {f:Bool}{sz:Nat}{r:List (List C)}:(C.sl f sz r).isOw=false:=rfl
theorem Qbm4 {c:List C}:(C.pp c).isOw=false:=rfl
theorem Qbm0 {c:C}{a i k:Nat}:(C.ep c a i k).isOw=false:=rfl
theorem Qbd3:C.pnil.isOw=false:=rfl
theorem Qbir {l k:Nat}:(C.ptr l k).isOw=false:=rfl
theorem Qbiv {l a b c:Nat}:(C.vsl l a b c).isOw=false:=rfl
theorem Qbm2 {l:Nat}:(C.mp l).isOw=false:=rfl
theorem Qbd2:C.mnil.isOw=false:=rfl
theorem Qbit {n:Nat}:(C.stb n).isOw=false:=rfl
theorem Qbis {n:Nat}:(C.slb n).isOw=false:=rfl
theorem Qbmz {a:Bool}{k:List C}{r:List (List C)}:(C.cm a k r).isOw=false:=rfl
theorem Qbm1 {f:Nat}{c:List C}:(C.fn f c).isOw=false:=rfl
theorem Qbd1:C.fnil.isOw=false:=rfl
theorem Qbiq {l:Nat}:(C.itr l).isOw=false:=rfl
theorem Qbiu:C.unk.isOw=false:=rfl
theorem Qbm3 {sz:Nat}{r:List (List C)}:(C.ow sz r).isOw=true:=rfl
theorem Qbnb {f:Bool}{sz:Nat}{r:List (List C)}:lenC (.sl f sz r)=r.length:=rfl
theorem Qa7i {l a b c:Nat}:lenC (.vsl l a b c)=c:=rfl
theorem Qbdd {f:Bool}{sz:Nat}{r:List (List C)}:(C.sl f sz r).elemSz=sz:=rfl
theorem Qa8p {l a b c:Nat}:(C.vsl l a b c).elemSz=a:=rfl
theorem Qbff {f:Bool}{sz:Nat}{r:List (List C)}:rowsOf H (.sl f sz r)=r:=rfl
theorem Qa9j {l a st n:Nat}:rowsOf H (.vsl l a st n)=match H l with
  |.vec _ rows=>(rows.drop st).take n
  |_=>[]:=rfl
theorem Qbno {f:Bool}{sz:Nat}{r:List (List C)}:okSl H (.sl f sz r)=True:=rfl
theorem Qbjo {l sz st n:Nat}:okSl H (.vsl l sz st n)=match H l with
  |.vec z rows=>z=sz∧st+n≤rows.length
  |_=>False:=rfl
section
variable {K:V→Heap→Prop}
theorem Qblv {sz z:Nat}{rows:List (List C)}{b:C}:appQ H sz (.sl true z rows) b K=(okSl H b∧b.elemSz=sz∧z=sz∧(rows=[]∨rowsOf H b≠[])∧(∀r∈rows++rowsOf H b,noOw r=true)∧rows.length+lenC b≤LIM∧
   ∀l,H l=.none→∀H',H'=H.set l (.vec sz (rows++rowsOf H b))→K (.c (.vsl l sz 0 (rows.length+lenC b))) H'):=rfl
theorem Qbhp {sz l z st n:Nat}{b:C}:appQ H sz (.vsl l z st n) b K=(okSl H b∧b.elemSz=sz∧match H l with
  |.vec y rows=>z=sz∧y=sz∧st+n≤rows.length∧(∀r∈rowsOf H b,noOw r=true)∧n+lenC b≤LIM∧
    ∀l',(H.set l .none) l'=.none→∀H',H'=(H.set l .none).set l' (.vec sz ((rows.drop st).take n++rowsOf H b))→
     K (.c (.vsl l' sz 0 (n+lenC b))) H'
  |_=>False):=rfl
end
theorem Qbnx {lo hi:Option Int}{fl:Bool}{sz:Nat}{rows:List (List C)}:sliC lo hi (.sl fl sz rows)=.sl (fl&&(hi.isNone || rows.isEmpty)) sz ((rows.take (hi.getD rows.length).toNat).drop (lo.getD 0).toNat):=rfl
theorem Qbko {lo hi:Option Int}{l sz st n:Nat}:sliC lo hi (.vsl l sz st n)=.vsl l sz (st+(lo.getD 0).toNat) ((hi.getD n).toNat-(lo.getD 0).toNat):=rfl
attribute [go_sem] Qbmb cpyQ Qbn4 Qbkx Qan2 Qbg8 Qbky b_f b_t Qbik Qbdw Qbdx Qbmw regT Qsv putE lk Qbib Qbia Qbic Qbid gdO gdB Opd.v Opd.raw Opd.fine V.bare V.fine FOp.val FOp.obl FOp.fct Qbdb Qbhx Qbmi Qbl9 Qbma Qbmf Qbme Qbmj Qbmc Qbh0 Qbh1 Qbhz Qbdc Qbmh Qbmg Qbh4 Qbh3 Qbmd Qbh2 Qbhy Qbk5 Qbhc
 V.c1 V.isC V.isAg V.cells Qms Qa9b fadC binC binO Qa2m noOw Qa1o Qblv Qbhp updQ delQ zipE Q7k Qbnx Qbko bnds Qbno Qbjo Qbnb Qa7i Qbff Qa9j Qbdd Qa8p Q67 Qbd0 Q0f Qahj Qbm4 Qbm0 Qbd3 Qbir Qbiv Qbm2 Qbd2 Qbit Qbis Qbmz Qbm1 Qbd1 Qbiq Qbiu Qbm3 Qsx Qbio Q5 Qbjr Qbk6 Qbdh Qbhe Qa8u Qbqg Qbro Qbrp Qbqx
 Qbp1 Qbp2 Qbny Qbo3 Qbo4 Qbmu Jr Jai Q4a List.take_succ_cons Jao List.take_nil List.drop_succ_cons List.drop_zero List.drop_nil
 J9 Jab List.all_cons List.all_nil List.headD_cons Bool.not_false Bool.not_true Bool.and_true Bool.true_and Bool.and_false Jam and_self eq_self Bool.false_eq_true List.cons_append List.nil_append Jar Jak not_true_eq_false not_false_eq_true ite_true ite_false ne_eq Jal Option.map_none Option.getD_some Option.getD_none Option.isNone_some Option.isNone_none List.isEmpty_nil List.isEmpty_cons Bool.or_true Bool.true_or Bool.or_false Bool.false_or optI optF Int.toNat_natCast Int.natCast_nonneg Int.add_sub_cancel List.forall_mem_cons Qa2x
end Go.AE
namespace Go.AE
abbrev fI (d : Nat) (o : FOp) : Item := .f (some d) none o
abbrev eI (d : Nat) (o : EOp) : Item := .e (some d) none o
abbrev gT (d t : Nat) (o : FOp) : Item := .f (some d) (some (t, true)) o
abbrev gF (d t : Nat) (o : FOp) : Item := .f (some d) (some (t, false)) o
abbrev kI (n : Int) : Opd := .k (.c (.int .i64 n))
abbrev mJ (d a : Nat) : Item := .f (some d) none (.mv (.t a))
abbrev fJ (d n a : Nat) : Item := .f (some d) none (.fad n (.t a))
abbrev lJ (d a : Nat) : Item := .f (some d) none (.ld 1 false (.t a))
abbrev tJ (d n a : Nat) : Item := .f (some d) none (.ld n true (.t a))
abbrev nJ (d a : Nat) : Item := .f (some d) none (.len (.t a))
abbrev kJ (d a : Nat) : Item := .f (some d) none (.nck (.t a))
abbrev oJ (d a : Nat) : Item := .f (some d) none (.not (.t a))
abbrev iJ (d n a b : Nat) : Item := .f (some d) none (.iad n (.t a) (.t b))
abbrev bJ (d : Nat) (o : BinOp) (a b : Nat) : Item := .f (some d) none (.bin 0 o (.t a) (.t b))
abbrev cJ (d : Nat) (o : BinOp) (a : Nat) (n : Int) : Item := .f (some d) none (.bin 0 o (.t a) (.k (.c (.int .i64 n))))
abbrev gTm (d g a : Nat) : Item := .f (some d) (some (g, true)) (.mv (.t a))
abbrev gFm (d g a : Nat) : Item := .f (some d) (some (g, false)) (.mv (.t a))
abbrev gTf (d g n a : Nat) : Item := .f (some d) (some (g, true)) (.fad n (.t a))
abbrev gFf (d g n a : Nat) : Item := .f (some d) (some (g, false)) (.fad n (.t a))
abbrev gTl (d g a : Nat) : Item := .f (some d) (some (g, true)) (.ld 1 false (.t a))
abbrev gFl (d g a : Nat) : Item := .f (some d) (some (g, false)) (.ld 1 false (.t a))
abbrev aJ (d f : Nat) (l : List Opd) : Item := .e (some d) none (.call f l)
abbrev sJ (k a b : Nat) : Item := .e none none (.sto k (.t a) (.t b))
abbrev fB (d : Nat) (b : Bool) : Item := .f (some d) none (.mv (.k (.c (.bool b))))
abbrev zJ (d : Nat) (n : Int) : Item := .f (some d) none (.mv (.k (.c (.int .i64 n))))
abbrev hJ (d a : Nat) : Item := .chk d none (.ld 1 false (.t a))
abbrev pT (d a b : Nat) : Item := .f (some d) none (.pick (.t a) (.k (.c (.bool true))) (.t b))
abbrev pF (d a b : Nat) : Item := .f (some d) none (.pick (.t a) (.t b) (.k (.c (.bool false))))
abbrev xJ (d k a b : Nat) : Item := .e (some d) none (.app k (.t a) (.t b))
abbrev vJ (d a : Nat) : Item := .f (some d) none (.box (.t a))
abbrev sR (l : List Item) (k : List Nat) (n : SC) : SC := .seq (.reg l k) n
abbrev cX (t i : Nat) (n : SC) : SC := .seq (.cond (.t t) .skip (.exit i)) n
abbrev bL (i : Nat) (l : SC) : SC := .block i (.loop l)
abbrev cT (t : Nat) (a b : SC) : SC := .cond (.t t) a b
theorem Qbp9 : Int.toNat 0 = 0 := rfl
theorem Qbqa : Int.toNat 1 = 1 := rfl
theorem Qbn6 : Int.toNat 2000 = 2000 := rfl
attribute [go_sem] sJ fB zJ hJ pT pF xJ vJ mJ fJ lJ tJ nJ kJ oJ iJ bJ cJ gTm gFm gTf gFf gTl gFl aJ fI eI gT gF kI false_implies Qbp9 Qbqa Qbn6
end Go.AE
namespace Go.AE.Y
abbrev Qmx:Nat:=5
abbrev Qff:Nat:=17
abbrev Qdh:Nat:=19
abbrev Qfh:Nat:=20
abbrev Qfr:Nat:=21
abbrev Qfs:Nat:=23
abbrev Qnk:Nat:=25
abbrev Qp6:Nat:=26
abbrev Qll:Nat:=36
abbrev Qahe:Nat:=51
abbrev Q86:Nat:=52
abbrev Qz6:Nat:=53
abbrev Qahd:Nat:=57
abbrev Qahc:Nat:=59
abbrev Qfi:Nat:=67
abbrev Qla:Nat:=68
abbrev Qaw:Nat:=69
abbrev Qa0:Nat:=70
abbrev Qb7:Nat:=71
abbrev Qpu:Nat:=74
abbrev Qee:Nat:=75
abbrev Qdp:Nat:=76
abbrev Qpy:Nat:=77
abbrev Qahg:Nat:=78
abbrev Qlt:Nat:=79
abbrev Qnn:Nat:=82
abbrev Qp3:Nat:=89
abbrev Qar:Nat:=92
abbrev Qav:Nat:=102
abbrev Qx:Nat:=103
abbrev Qag9:Nat:=104
abbrev Qds:Nat:=105
abbrev Qlk:Nat:=109
abbrev Qg9:Nat:=111
abbrev Qdu:Nat:=113
abbrev Qux:Nat:=119
abbrev Qlm:Nat:=120
abbrev Q61:Nat:=121
abbrev Qcj:Nat:=126
abbrev Qu1:Nat:=128
abbrev Qahb:Nat:=135
abbrev Qbl:Nat:=136
abbrev Qhb:Nat:=137
abbrev Qfp:Nat:=140
abbrev Qdo:Nat:=145
abbrev Qcl:Nat:=146
abbrev Qdq:Nat:=147
abbrev Qfj:Nat:=148
abbrev Qpz:Nat:=149
abbrev Qfm:Nat:=150
abbrev Qfg:Nat:=151
abbrev Qfk:Nat:=152
abbrev Qcc:Nat:=153
abbrev Qdr:Nat:=156
abbrev Qc8:Nat:=157
abbrev Qb6:Nat:=158
abbrev Q0d:Nat:=159
abbrev Qp7:Nat:=160
abbrev Qa9:Nat:=161
abbrev Qa3:Nat:=162
abbrev Qae:Nat:=163
abbrev Qao:Nat:=164
abbrev Qa2b:Nat:=165
abbrev Q88:Nat:=166
abbrev Qha:Nat:=167
abbrev Qnp:Nat:=173
abbrev Qz9:Nat:=188
abbrev Qu0:Nat:=189
abbrev Qhw:Nat:=191
abbrev Qcf:Nat:=192
abbrev Qh8:Nat:=194
abbrev Qfn:Nat:=195
abbrev Qas:Nat:=204
abbrev Qlq:Nat:=205
abbrev Qmu:Nat:=206
abbrev Qln:Nat:=207
abbrev Qdf:Nat:=208
abbrev Qlo:Nat:=209
abbrev Q4g:Nat:=210
abbrev Qku:Nat:=211
abbrev Qlp:Nat:=212
abbrev Qp0:Nat:=213
abbrev Qcg:Nat:=214
abbrev Q6z:Nat:=225
abbrev Qa2a:Nat:=227
abbrev Qeg:Nat:=230
abbrev Qcs:Nat:=231
abbrev Qdg:Nat:=232
abbrev Qc5:Nat:=233
abbrev Qre:Nat:=234
abbrev Quy:Nat:=235
abbrev Qi7:Nat:=236
abbrev Qcd:Nat:=237
abbrev Qbx:Nat:=238
abbrev Qag7:Nat:=239
abbrev Qa8:Nat:=240
abbrev Qce:Nat:=241
abbrev Qc3:Nat:=242
abbrev Qa4:Nat:=243
abbrev Qfl:Nat:=244
abbrev Qu2:Nat:=245
abbrev Qa1:Nat:=246
abbrev Qdd:Nat:=247
abbrev Qaz:Nat:=248
abbrev Qbd:Nat:=249
abbrev Qa7:Nat:=250
abbrev Qat8:Nat:=251
abbrev Q0c:Nat:=252
abbrev Q64:Nat:=253
abbrev Qpx:Nat:=268
abbrev Qlr:Nat:=269
abbrev Q4h:Nat:=272
abbrev Qez:Nat:=277
abbrev Qen:Nat:=278
abbrev Qpw:Nat:=279
abbrev Qnm:Nat:=280
abbrev Qz7:Nat:=281
abbrev Qpv:Nat:=282
abbrev Qnq:Nat:=283
abbrev Qdc:Nat:=284
abbrev Qbo:Nat:=285
abbrev Qat7:Nat:=286
abbrev Qagg:Nat:=287
abbrev Qoa:Nat:=297
abbrev Qck:Nat:=298
abbrev Qkw:Nat:=299
abbrev Qdt:Nat:=300
abbrev Qeh:Nat:=302
abbrev Qef:Nat:=303
abbrev Qnl:Nat:=304
abbrev Qcb:Nat:=305
abbrev Qu4:Nat:=306
abbrev Qmp:Nat:=307
abbrev Qn9:Nat:=308
abbrev Qnr:Nat:=309
abbrev Qfo:Nat:=310
abbrev Qag8:Nat:=311
abbrev Qls:Nat:=312
abbrev Qsw:Nat:=313
abbrev Qde:Nat:=316
abbrev Q87:Nat:=317
abbrev Qp5:Nat:=318
abbrev Q0b:Nat:=319
abbrev Qahf:Nat:=320
abbrev Qp2:Nat:=329
abbrev Qdv:Nat:=330
abbrev Qlc:Nat:=331
abbrev Qlb:Nat:=332
abbrev Qhy:Nat:=340
abbrev Q63:Nat:=341
abbrev Qhx:Nat:=342
abbrev Qkx:Nat:=343
abbrev Qp4:Nat:=350
abbrev Qc4:Nat:=351
abbrev Qmw:Nat:=352
abbrev Qmv:Nat:=356
abbrev Qkv:Nat:=357
abbrev Qp1:Nat:=358
abbrev Qage:Nat:=359
abbrev Qagf:Nat:=360
abbrev Q62:Nat:=361
abbrev Qu3:Nat:=368
abbrev Qno:Nat:=372
abbrev Qz8:Nat:=373
abbrev Qhz:Nat:=374
abbrev Qaha:Nat:=375
abbrev Qfq:Nat:=376
abbrev Q85:Nat:=377
abbrev Quz:Nat:=378
abbrev Q0a:Nat:=379
abbrev Q60:Nat:=380
abbrev Qft:Nat:=1
abbrev Qbj:Nat:=2
open Go.Proofs.Tryz
def Qaqc:SC:=cT 24 (sR [zJ 4 0] [4] .ret) .skip
def Qaqd:SC:=cT 36 (sR [mJ 37 0,kJ 38 37,fJ 39 0 38,lJ 40 39,mJ 41 5,iJ 42 1 40 41,lJ 43 42,fI 44 (.cvt .i64 (.t 43)),mJ 45 1,bJ 46 .rem 44 45,mJ 4 46] [4] .ret) .skip
def Qaqe:SC:=sR [mJ 96 6,mJ 97 1,bJ 98 .rem 96 97,mJ 4 98] [4] .ret
def Qaqf:SC:=sR [mJ 92 6,mJ 93 6,cJ 94 .quo 93 64,bJ 95 .xor 92 94,mJ 6 95] [1,6] Qaqe
def Qaqg:SC:=.seq (.dreg 46 [0,1,2,3,4,5,6,7,8,9,10,11,12,13,14,15,16,17,18,19,20,21,22,23,24,25,26,27,28,29,30,31,32,33,34,35,36,37,38,39,40,41,42,43,44,45] ( mJ 47 0::kJ 48 47::fJ 49 0 48::lJ 50 49::mJ 51 5::mJ 52 0::kJ 53 52::fJ 54 0 53::lJ 55 54::nJ 56 55::bJ 57 .rem 51 56::iJ 58 1 50 57::lJ 59 58::fI 60 (.cvt .i64 (.t 59))::cJ 61 .mul 60 131::mJ 62 0::kJ 63 62::fJ 64 0 63::lJ 65 64::mJ 66 5::cJ 67 .mul 66 7::cJ 68 .add 67 3::mJ 69 0::kJ 70 69::fJ 71 0 70::lJ 72 71::nJ 73 72::bJ 74 .rem 68 73::iJ 75 1 65 74::lJ 76 75::fI 77 (.cvt .i64 (.t 76))::cJ 78 .mul 77 1117::bJ 79 .add 61 78::mJ 80 5::cJ 81 .mul 80 29::bJ 82 .add 79 81::mJ 83 5::mJ 84 0::kJ 85 84::fJ 86 0 85::lJ 87 86::nJ 88 87::bJ 89 .quo 83 88::cJ 90 .mul 89 53::bJ 91 .add 82 90::mJ 6 91::[]) [1,6]) Qaqf
def Qaqh:SC:=.seq (sR [mJ 30 5,mJ 31 0,kJ 32 31,fJ 33 0 32,lJ 34 33,nJ 35 34,bJ 36 .lss 30 35] [0,1,5,36] Qaqd) Qaqg
def Qaqi:SC:=sR [mJ 25 0,kJ 26 25,fJ 27 1 26,lJ 28 27,cJ 29 .sub 28 1,mJ 5 29] [0,1,5] Qaqh
def Qaqj:SC:=.seq (sR [mJ 15 1,cJ 16 .lss 15 1,mJ 17 16,gFm 18 17 0,gF 19 17 (.nck (.t 18)),gFf 20 17 0 19,gFl 21 17 20,gF 22 17 (.len (.t 21)),gF 23 17 (.bin 0 .eql (.t 22) (kI 0)),pT 24 17 23] [0,1,24] Qaqc) Qaqi
def Qaqk:SC:=sR [mJ 7 0,mJ 8 0,kJ 9 8,fJ 10 1 9,lJ 11 10,cJ 12 .add 11 1,kJ 13 7,fJ 14 1 13,sJ 1 14 12] [0,1] Qaqj
def Qazl:SC:=sR [zJ 4 0] [0,1] Qaqk
def Qm6:List RS:=[.tmp 4]
theorem Qax1:mFn prog Qx 2 99 Qazl Qm6=true:=by kernel_rfl
def Q3w:List Item:=[iJ 10 1 5 9,lJ 11 10,mJ 4 11]
def Qavx:SC:=sR (mJ 5 1::mJ 6 0::mJ 7 1::nJ 8 7::aJ 9 Qx [.t 6,.t 8]::Q3w) [4] .ret
def Qa4e:SC:=sR [zJ 4 0] [0,1] Qavx
theorem Qa2s:mFn prog Qav 2 12 Qa4e Qm6=true:=by kernel_rfl
def Qpj:List Item:=[oJ 11 10]
def Qaf8:SC:=cT 11 (sR [fB 2 false] [2] .ret) .skip
def Qpk:List Item:=[sJ 3 5 23]
def Qd9:List Item:=[gF 41 36 (.not (.t 40)),pT 42 36 41]
def Qhr:List Item:=gF 34 28 (.not (.t 33))::pT 35 28 34::mJ 36 35::gFf 37 36 2 5::gFl 38 36 37::gF 39 36 (.len (.t 38))::.e (some 40) (some (36,false)) (.call Qcj [.t 39,kI 1,kI 160])::Qd9
def Qpl:List Item:=oJ 27 26::mJ 28 27::gFf 29 28 1 5::gFl 30 28 29::gFf 31 28 0 5::gFl 32 28 31::.e (some 33) (some (28,false)) (.call Qcj [.t 30,.t 32,kI 300])::Qhr
def s_sp_UnitValid_6:SC:=cT 42 (sR [fB 2 false] [2] .ret) .skip
def Qhs:List Item:=[gF 74 69 (.not (.t 73)),pT 75 69 74]
def Qsu:SC:=cT 75 (sR [fB 2 false] [2] .ret) .skip
def Qaf9:SC:=sR (mJ 67 3::cJ 68 .gtr 67 800::mJ 69 68::gF 70 69 (.ld 1 true (.t 1))::gFm 71 69 4::gFm 72 69 6::.e (some 73) (some (69,false)) (.call Q88 [.t 70,.t 71,.t 72])::Qhs) [1,3,4,5,6,75] Qsu
def Qph:SC:=.reg [mJ 48 6,cJ 49 .add 48 1,mJ 6 49] [1,3,4,5,6]
def Qabs:SC:=.seq (.block 3 (.seq (.dreg 18 [0,1,2,3,4,5,6,7,8,9,10,11,12,13,14,15,16,17] ( mJ 50 3::fJ 51 2 5::lJ 52 51::mJ 53 6::iJ 54 5 52 53::fJ 55 1 54::lJ 56 55::nJ 57 56::bJ 58 .add 50 57::fJ 59 2 5::lJ 60 59::mJ 61 6::iJ 62 5 60 61::fJ 63 0 62::lJ 64 63::nJ 65 64::bJ 66 .add 58 65::mJ 3 66::[]) [1,3,4,5,6]) Qaf9)) Qph
def Q8n:SC:=.seq (sR [mJ 43 6,fJ 44 2 5,lJ 45 44,nJ 46 45,bJ 47 .lss 43 46] [1,3,4,5,6,47] (cT 47 .skip (.exit 2))) Qabs
def Qpi:SC:=sR [zJ 6 0] [1,3,4,5,6] (bL 2 Q8n)
def Qabt:SC:=.seq (sR (fJ 24 0 5::lJ 25 24::aJ 26 Qcj [.t 25,kI 0,kI 3]::Qpl) [1,3,4,5,42] s_sp_UnitValid_6) Qpi
def Qhp:SC:=.reg [mJ 17 4,cJ 18 .add 17 1,mJ 4 18] [1,3,4]
def Qabu:SC:=.seq (.block 1 (sR (fJ 19 0 1::lJ 20 19::mJ 21 4::iJ 22 3 20 21::tJ 23 3 22::eI 5 (.alloc [.int .i64 0,.int .i64 0,.sl true 5 []])::Qpk) [1,3,4,5] Qabt)) Qhp
def Q8o:SC:=.seq (sR [mJ 12 4,fJ 13 0 1,lJ 14 13,nJ 15 14,bJ 16 .lss 12 15] [1,3,4,16] (cT 16 .skip (.exit 0))) Qabu
def Qhq:SC:=sR [fB 2 true] [2] .ret
def Qabv:SC:=.seq (sR [zJ 4 0] [1,3,4] (bL 0 Q8o)) Qhq
def Qabw:SC:=sR [zJ 3 0] [1,3] Qabv
def Qabx:SC:=.seq (sR (fJ 7 0 1::lJ 8 7::nJ 9 8::aJ 10 Qcj [.t 9,kI 1,kI 4]::Qpj) [1,11] Qaf8) Qabw
def Qasc:SC:=sR [vJ 1 0,fB 2 false] [1] Qabx
def Qer:List RS:=[.tmp 2]
theorem Qaoq:mFn prog Qlt 1 76 Qasc Qer=true:=by kernel_rfl
def Qanr:List Item:=[sJ 1 3 5]
def Qans:List Item:=[fJ 20 0 3,sJ 1 20 19]
def Qant:List Item:=hJ 14 13::fI 18 (.bsl 3 [.t 17])::xJ 19 3 14 18::Qans
def Qbb6:SC:=.reg [mJ 11 4,cJ 12 .add 11 1,mJ 4 12] [1,2,3,4]
def Qbb7:SC:=.seq (.block 1 (.dreg 9 [0,1,2,3,4,1,5,6,7,8] ( fJ 13 0 3::lJ 14 13::tJ 15 1 1::mJ 16 4::aJ 17 Qa2b [.t 15,.t 16]::Qant) [1,2,3,4])) Qbb6
def Qa6g:SC:=.seq (sR [mJ 6 4,fJ 7 0 1,lJ 8 7,nJ 9 8,bJ 10 .lss 6 9] [1,2,3,4,10] (cT 10 .skip (.exit 0))) Qbb7
def Qbb8:SC:=sR [tJ 21 1 3,sJ 1 2 21] [2] .ret
def Qbb9:SC:=.seq (sR [zJ 4 0] [1,2,3,4] (bL 0 Qa6g)) Qbb8
def Qbca:SC:=sR (fI 5 (.bld [.sl true 3 []] [])::eI 3 (.alloc [.sl true 3 []])::Qanr) [1,2,3] Qbb9
def Qbkn:SC:=sR [vJ 1 0,eI 2 (.alloc [.sl true 3 []])] [1,2] Qbca
def Qa74:List RS:=[.cell 2 1 true]
theorem Qbjm:mFn prog Qahg 1 22 Qbkn Qa74=true:=by kernel_rfl
def Qalg:List Item:=[mJ 3 13]
def Qalh:List Item:=fI 12 (.bld [.pnil,.sl true 3 [],.sl true 1 [],.int .i64 0,.int .i64 0] [(0,1,.t 8),(4,1,.t 11)])::eI 13 (.boxm (.t 12))::Qalg
def Qali:List Item:=[mJ 4 16]
def Qalj:List Item:=[hJ 26 25,.chk 27 none (.len (.t 26)),.chk 28 none (.iad 1 (.t 22) (.t 27)),hJ 29 28,sJ 3 5 32]
def Qalk:List Item:=eI 5 (.alloc [.str [],.sl true 1 [],.sl true 5 []])::Qalj
def Qall:List Item:=hJ 26 25::.chk 27 none (.len (.t 26))::.chk 28 none (.iad 1 (.t 22) (.t 27))::hJ 29 28::aJ 32 Qp0 [.t 21,.t 29,.t 31]::Qalk
def Qalm:List Item:=[kJ 41 33,fJ 42 1 41,sJ 1 42 40]
def Qbal:SC:=.dreg 11 [0,1,2,3,4,5,6,7,8,9,10] ( mJ 33 3::mJ 34 3::kJ 35 34::fJ 36 1 35::lJ 37 36::tJ 38 3 5::fI 39 (.bsl 3 [.t 38])::xJ 40 3 37 39::Qalm) [0,2,3,4]
def Qbam:SC:=.reg [mJ 19 4,cJ 20 .sub 19 1,mJ 4 20] [0,2,3,4]
def Qban:SC:=.seq (.block 1 (.seq (.dreg 12 [0,1,2,3,4,5,6,7,8,9,10,5,6,7,8,11,12,5,6,7,8,13] ( mJ 21 3::fI 22 (.bsl 1 [.k (.c (.str [102])),.k (.c (.str [103])),.k (.c (.str [104]))])::mJ 23 3::kJ 24 23::fJ 25 1 24::lJ 26 25::nJ 27 26::iJ 28 1 22 27::lJ 29 28::mJ 30 0::aJ 31 Qx [.t 30,kI 3]::Qall) [0,2,3,4,5]) Qbal)) Qbam
def Qazv:SC:=.seq (sR [mJ 17 4,cJ 18 .gtr 17 0] [0,2,3,4,18] (cT 18 .skip (.exit 0))) Qban
def Qac4:List Item:=[sJ 3 6 47]
def Qac5:List Item:=eI 6 (.alloc [.str [],.sl true 1 [],.sl true 5 []])::Qac4
def Qac6:List Item:=eI 47 (.call Qp0 [.t 43,.k (.c (.str [109])),.t 46])::Qac5
def Qac7:List Item:=[hJ 52 51,.chk 54 none (.ld 3 true (.t 6)),sJ 1 7 57]
def Qac8:List Item:=fI 57 (.bld [.sl true 3 []] [(0,1,.t 56)])::eI 7 (.alloc [.sl true 3 []])::Qac7
def Qac9:List Item:=.chk 54 none (.ld 3 true (.t 6))::xJ 56 3 53 55::Qac8
def Qada:List Item:=[oJ 60 59]
def Qa45:SC:=cT 60 (sR [fI 61 (.bld [.int .i64 0,.int .i64 0,.str [],.sl true 4 []] [(0,1,kI 1),(1,1,kI 1)]),fI 62 (.bsl 4 [.t 61]),fI 63 (.bld [.int .i64 0,.str [],.sl true 4 [],.sl true 5 [],.sl true 5 []] [(0,1,kI 3),(2,1,.t 62)]),fI 64 (.bsl 5 [.t 63]),fI 65 (.bld [.str [],.sl true 1 [],.sl true 5 []] [(0,1,.k (.c (.str [109]))),(2,1,.t 64)]),fI 66 (.bsl 3 [.t 65]),fI 67 (.bld [.sl true 3 []] [(0,1,.t 66)]),sJ 1 2 67] [2] .ret) .skip
def Qa46:SC:=sR [tJ 68 1 7,sJ 1 2 68] [2] .ret
def Qa47:SC:=.seq (.seq (.seq .gh (.reg (tJ 58 1 7::aJ 59 Qcg [.t 58]::Qada) [2,7,60])) Qa45) Qa46
def Qa48:SC:=.seq (.dreg 10 [0,1,2,3,4,6,7,5,6,8,9,10,4,6,11] ( fI 48 (.bsl 3 [])::mJ 49 3::kJ 50 49::fJ 51 1 50::lJ 52 51::tJ 54 3 6::fI 55 (.bsl 3 [.t 54])::xJ 53 3 48 52::Qac9) [2,7]) Qa47
def Qa49:SC:=sR (mJ 43 3::mJ 44 0::fI 45 (.bsl 1 [kI 0,kI 1,kI 2,kI 1])::aJ 46 Qav [.t 44,.t 45]::Qac6) [2,3,6] Qa48
def Qa5a:SC:=.seq (sR (mJ 14 0::fI 15 (.bsl 1 [kI 0,kI 1,kI 1,kI 2])::aJ 16 Qav [.t 14,.t 15]::Qali) [0,2,3,4] (bL 0 Qazv)) Qa49
def Qa5b:SC:=sR (mJ 8 0::mJ 9 0::fI 10 (.bsl 1 [kI 14,kI 20,kI 8,kI 26])::aJ 11 Qav [.t 9,.t 10]::Qalh) [0,2,3] Qa5a
def Qbj8:SC:=sR [eI 2 (.alloc [.sl true 3 []])] [0,2] Qa5b
theorem Qbje:mFn prog Q61 1 69 Qbj8 Qa74=true:=by kernel_rfl
def Qadq:List Item:=[mJ 5 41]
def Qa56:SC:=cT 37 (sR (mJ 38 5::mJ 39 6::fI 40 (.bsl 1 [.t 39])::xJ 41 1 38 40::Qadq) [1,2,5,6] (.exit 2)) .skip
def Qa57:SC:=.reg [mJ 25 7,cJ 26 .add 25 1,mJ 7 26] [1,2,5,6,7]
def Qa58:SC:=.seq (.block 3 (sR [fJ 27 2 2,lJ 28 27,mJ 29 6,iJ 30 5 28 29,fJ 31 4 30,lJ 32 31,mJ 33 7,iJ 34 1 32 33,lJ 35 34,mJ 36 1,bJ 37 .eql 35 36] [1,2,5,6,7,37] Qa56)) Qa57
def Qa0t:SC:=.seq (sR [mJ 16 7,fJ 17 2 2,lJ 18 17,mJ 19 6,iJ 20 5 18 19,fJ 21 4 20,lJ 22 21,nJ 23 22,bJ 24 .lss 16 23] [1,2,5,6,7,24] (cT 24 .skip (.exit 2))) Qa58
def Qamc:SC:=.reg [mJ 14 6,cJ 15 .add 14 1,mJ 6 15] [1,2,5,6]
def Qa59:SC:=.seq (.block 1 (sR [zJ 7 0] [1,2,5,6,7] (bL 2 Qa0t))) Qamc
def Qa0u:SC:=.seq (sR [mJ 9 6,fJ 10 2 2,lJ 11 10,nJ 12 11,bJ 13 .lss 9 12] [1,2,5,6,13] (cT 13 .skip (.exit 0))) Qa59
def Qamd:SC:=sR [mJ 42 5,mJ 4 42] [4] .ret
def Qa6a:SC:=.seq (sR [zJ 6 0] [1,2,5,6] (bL 0 Qa0u)) Qamd
def Qa0s:SC:=sR [fI 8 (.bsl 1 []),mJ 5 8] [1,2,5] Qa6a
def Qbgo:SC:=sR [vJ 2 0,fI 4 (.mv (.k (.c (.sl true 1 []))))] [1,2] Qa0s
theorem Qbey:mFn prog Q0c 2 43 Qbgo Qm6=true:=by kernel_rfl
def Qbju:SC:=sR [mJ 7 0,mJ 8 1,bJ 9 .geq 7 8,mJ 10 9,gTm 11 10 0,gTm 12 10 2,gT 13 10 (.bin 0 .leq (.t 11) (.t 12)),pF 14 10 13,mJ 6 14] [6] .ret
def Qbpr:SC:=sR [fB 6 false] [0,1,2] Qbju
def Qblj:List RS:=[.tmp 6]
theorem Qbpg:mFn prog Qcj 3 15 Qbpr Qblj=true:=by kernel_rfl
def Qadm:List Item:=[sJ 3 7 18]
def Qadn:List Item:=[sJ 5 8 23]
def Qa50:SC:=cT 30 (sR [fB 6 false] [6] .ret) .skip
def Qa51:SC:=cT 33 (.reg [zJ 9 0] [1,2,3,7,8,9]) (sR [fB 6 false] [6] .ret)
def Qa52:SC:=cT 31 (.reg [zJ 9 2] [1,2,3,7,8,9]) (sR [cJ 34 .eql 25 3,mJ 33 34] [1,2,3,7,8,33] Qa51)
def Qa53:SC:=cT 26 (sR [fJ 28 3 8,lJ 29 28,cJ 30 .neq 29 0] [1,2,3,7,8,9,30] Qa50) (sR [cJ 32 .eql 25 2,mJ 31 32] [1,2,3,7,8,25,31] Qa52)
def Qa54:SC:=.block 0 (sR [cJ 27 .eql 25 1,mJ 26 27] [1,2,3,7,8,9,25,26] Qa53)
def Qnf:List Item:=[gT 51 44 (.not (.t 50)),gF 52 40 (.pick (.t 44) (.t 51) (.k (.c (.bool false)))),pT 53 40 52]
def s_l7Block_8:SC:=cT 53 (sR [fB 6 false] [6] .ret) .skip
def Qado:List Item:=[oJ 71 70]
def Qa0e:SC:=cT 71 (sR [fB 6 false] [6] .ret) .skip
def Qa0f:SC:=.reg [mJ 59 10,cJ 60 .add 59 1,mJ 10 60] [1,2,3,7,8,10]
def Qa0g:SC:=.seq (.block 2 (.seq (.dreg 11 [0,1,2,3,4,5,6,7,8,9,10] ( fJ 61 4 8::lJ 62 61::mJ 63 10::iJ 64 1 62 63::lJ 65 64::fJ 66 2 7::lJ 67 66::nJ 68 67::cJ 69 .sub 68 1::aJ 70 Qcj [.t 65,kI 1,.t 69]::Qado) [1,2,3,7,8,10,71]) Qa0e)) Qa0f
def Qawb:SC:=.seq (sR [mJ 54 10,fJ 55 4 8,lJ 56 55,nJ 57 56,bJ 58 .lss 54 57] [1,2,3,7,8,10,58] (cT 58 .skip (.exit 1))) Qa0g
def Q8k:List Item:=[oJ 87 86]
def Qa0h:SC:=cT 87 (sR [fB 6 false] [6] .ret) .skip
def Qa0i:SC:=.reg [mJ 77 11,cJ 78 .add 77 1,mJ 11 78] [1,2,3,7,8,11]
def Qa0j:SC:=.seq (.block 4 (.seq (.dreg 9 [0,1,2,3,4,5,6,7,8] ( tJ 79 1 3::mJ 80 1::fJ 81 1 8::lJ 82 81::mJ 83 11::iJ 84 4 82 83::tJ 85 4 84::aJ 86 Qat8 [.t 79,.t 80,.t 85]::Q8k) [1,2,3,7,8,11,87]) Qa0h)) Qa0i
def Qawc:SC:=.seq (sR [mJ 72 11,fJ 73 1 8,lJ 74 73,nJ 75 74,bJ 76 .lss 72 75] [1,2,3,7,8,11,76] (cT 76 .skip (.exit 3))) Qa0j
def Q8l:List Item:=[mJ 12 90]
def Qk3:List Item:=[gF 134 123 (.not (.t 133)),pT 135 123 134]
def Qqx:List Item:=gF 121 112 (.not (.t 120))::pT 122 112 121::mJ 123 122::gFf 124 123 0 8::gFl 125 123 124::gFm 126 123 13::gF 127 123 (.iad 2 (.t 125) (.t 126))::gFf 128 123 0 127::gFl 129 123 128::gFf 130 123 1 7::gFl 131 123 130::gF 132 123 (.bin 0 .sub (.t 131) (kI 1))::.e (some 133) (some (123,false)) (.call Qcj [.t 129,kI 0,.t 132])::Qk3
def Qadh:SC:=cT 135 (sR [fB 6 false] [6] .ret) .skip
def Qadi:SC:=.reg [mJ 96 13,cJ 97 .add 96 1,mJ 13 97] [2,7,8,12,13]
def Qa0k:SC:=.seq (.block 6 (.seq (.dreg 38 [0,1,2,3,4,5,6,7,8,9,10,11,12,13,14,15,16,17,18,19,20,21,22,23,24,25,26,27,28,29,30,31,32,33,34,35,36,37] ( mJ 98 2::cJ 99 .eql 98 0::mJ 100 99::gFf 101 100 0 8::gFl 102 100 101::gFm 103 100 13::gF 104 100 (.iad 2 (.t 102) (.t 103))::gFf 105 100 1 104::gFl 106 100 105::gF 107 100 (.len (.t 106))::gFm 108 100 12::gF 109 100 (.len (.t 108))::gF 110 100 (.bin 0 .neq (.t 107) (.t 109))::pT 111 100 110::mJ 112 111::gF 113 112 (.ld 3 true (.t 7))::gFf 114 112 0 8::gFl 115 112 114::gFm 116 112 13::gF 117 112 (.iad 2 (.t 115) (.t 116))::gFf 118 112 1 117::gFl 119 112 118::.e (some 120) (some (112,false)) (.call Q64 [.t 113,.t 119])::Qqx) [2,7,8,12,13,135]) Qadh)) Qadi
def Qawd:SC:=.seq (sR [mJ 91 13,fJ 92 0 8,lJ 93 92,nJ 94 93,bJ 95 .lss 91 94] [2,7,8,12,13,95] (cT 95 .skip (.exit 5))) Qa0k
def Qadj:SC:=sR [fB 6 true] [6] .ret
def Qa0l:SC:=.seq (sR [zJ 13 0] [2,7,8,12,13] (bL 5 Qawd)) Qadj
def Qa0m:SC:=sR (tJ 88 3 7::mJ 89 2::aJ 90 Q0c [.t 88,.t 89]::Q8l) [2,7,8,12] Qa0l
def Qa0n:SC:=.seq (sR [zJ 11 0] [1,2,3,7,8,11] (bL 3 Qawc)) Qa0m
def Qadk:SC:=.seq (sR [zJ 10 0] [1,2,3,7,8,10] (bL 1 Qawb)) Qa0n
def Qadl:SC:=.seq (sR (fJ 35 4 8::lJ 36 35::nJ 37 36::mJ 38 9::bJ 39 .neq 37 38::mJ 40 39::gFf 41 40 2 8::gFl 42 40 41::gF 43 40 (.bin 0 .neq (.t 42) (kI 1))::gFm 44 40 43::gTf 45 44 3 8::gTl 46 44 45::gTf 47 44 1 7::gTl 48 44 47::gT 49 44 (.bin 0 .sub (.t 48) (kI 1))::.e (some 50) (some (44,true)) (.call Qcj [.t 46,kI 0,.t 49])::Qnf) [1,2,3,7,8,53] s_l7Block_8) Qadk
def Qa0o:SC:=.seq (sR [fJ 24 2 8,lJ 25 24] [1,2,3,7,8,9,25] Qa54) Qadl
def Qa0p:SC:=sR [zJ 9 1] [1,2,3,7,8,9] Qa0o
def Qa0q:SC:=sR (fJ 19 2 7::lJ 20 19::mJ 21 2::iJ 22 5 20 21::tJ 23 5 22::eI 8 (.alloc [.sl true 2 [],.sl true 4 [],.int .i64 0,.int .i64 0,.sl true 1 []])::Qadn) [1,2,3,7,8] Qa0p
def Qa0r:SC:=sR (fJ 14 0 3::lJ 15 14::mJ 16 1::iJ 17 3 15 16::tJ 18 3 17::eI 7 (.alloc [.int .i64 0,.int .i64 0,.sl true 5 []])::Qadm) [1,2,3,7] Qa0q
def Qbgl:SC:=sR [vJ 3 0,fB 6 false] [1,2,3] Qa0r
theorem Qbew:mFn prog Q88 3 136 Qbgl Qblj=true:=by kernel_rfl
def Qa0w:List Item:=[sJ 3 5 13]
def Qa0x:List Item:=[mJ 6 19]
def Qa0y:List Item:=[hJ 29 28,.chk 30 none (.len (.t 29)),bJ 34 .add 30 33,kJ 35 27,fJ 36 1 35,fJ 37 1 36,sJ 1 37 34]
def Qa0z:List Item:=[kJ 59 45,fJ 60 5 59,sJ 1 60 58]
def Qbkj:SC:=.reg [mJ 43 7,cJ 44 .add 43 1,mJ 7 44] [4,5,6,7]
def Qbkk:SC:=.seq (.block 1 (.dreg 17 [0,1,2,3,4,5,6,7,8,9,10,11,12,13,14,15,16] ( mJ 45 6::mJ 46 6::kJ 47 46::fJ 48 5 47::lJ 49 48::fJ 50 1 5::lJ 51 50::mJ 52 7::iJ 53 1 51 52::lJ 54 53::mJ 55 7::fI 56 (.bld [.str [],.int .i64 0,.int .i64 0] [(0,1,.t 54),(1,1,.t 55),(2,1,kI 0)])::fI 57 (.bsl 3 [.t 56])::xJ 58 3 49 57::Qa0z) [4,5,6,7])) Qbkj
def Qbgy:SC:=.seq (sR [mJ 38 7,fJ 39 1 5,lJ 40 39,nJ 41 40,bJ 42 .lss 38 41] [4,5,6,7,42] (cT 42 .skip (.exit 0))) Qbkk
def Qa00:List Item:=[mJ 8 71]
def Qa01:List Item:=fI 70 (.bsl 1 [])::aJ 71 Qaz [.t 67,kI 1,.t 69,kI 0,.t 70]::Qa00
def Qbkl:SC:=sR [mJ 76 6,kJ 77 76,fJ 78 1 77,tJ 79 3 78,sJ 3 4 79] [4] .ret
def Qbgp:SC:=sR [mJ 72 6,mJ 73 8,fI 74 (.bsl 1 []),aJ 75 Qa7 [.t 72,kI 3,.t 73,.t 74,kI 0]] [4,6] Qbkl
def Qbgq:SC:=sR (mJ 67 6::mJ 68 6::aJ 69 Qbd [.t 68]::Qa01) [4,6,8] Qbgp
def Qbgr:SC:=sR [mJ 63 6,fJ 64 2 5,lJ 65 64,aJ 66 Qdd [.t 63,.t 65]] [4,6] Qbgq
def Qbgs:SC:=sR [mJ 61 6,aJ 62 Qa1 [.t 61]] [4,5,6] Qbgr
def Qbgt:SC:=.seq (sR [zJ 7 0] [4,5,6,7] (bL 0 Qbgy)) Qbgs
def Qbgu:SC:=.seq (.dreg 12 [0,1,2,3,4,5,6,2,3,7,8,9,10,11] ( mJ 27 6::fJ 28 1 5::lJ 29 28::nJ 30 29::fJ 31 2 5::lJ 32 31::aJ 33 Qu2 [.t 32]::Qa0y) [4,5,6]) Qbgt
def Qbgv:SC:=sR [mJ 20 6,fJ 21 1 5,lJ 22 21,nJ 23 22,kJ 24 20,fJ 25 1 24,fJ 26 0 25,sJ 1 26 23] [4,5,6] Qbgu
def Qbgw:SC:=sR (tJ 14 1 2::fJ 15 1 5::lJ 16 15::nJ 17 16::fI 18 (.bld [.sl true 3 [],.int .i64 0,.int .i64 0,.sl true 5 [],.int .i64 0,.sl true 3 [],.int .i64 0,.sl true 1 []] [(0,1,.t 14),(6,1,.t 17)])::eI 19 (.boxm (.t 18))::Qa0x) [4,5,6] Qbgv
def Qbgx:SC:=sR (fJ 9 0 2::lJ 10 9::mJ 11 1::iJ 12 3 10 11::tJ 13 3 12::eI 5 (.alloc [.str [],.sl true 1 [],.sl true 5 []])::Qa0w) [2,4,5] Qbgw
def Qbpu:SC:=sR [vJ 2 0,eI 4 (.alloc [.int .i64 0,.int .i64 0,.sl true 5 []])] [1,2,4] Qbgx
def Qblk:List RS:=[.cell 4 3 true]
theorem Qbpi:mFn prog Qa2b 2 80 Qbpu Qblk=true:=by kernel_rfl
def Q8e:List Item:=[sJ 3 7 26]
def Q8f:List Item:=fI 26 (.bld [.str [],.sl true 1 [],.sl true 5 []] [(0,1,.t 19),(1,1,.t 25)])::eI 7 (.alloc [.str [],.sl true 1 [],.sl true 5 []])::Q8e
def Q8g:List Item:=[fJ 29 2 7,sJ 1 29 28]
def Qqw:List Item:=[gT 41 35 (.bin 0 .gtr (.t 40) (kI 0)),pF 42 35 41]
def Q8h:List Item:=[fJ 59 2 7,sJ 1 59 58]
def Q8i:List Item:=hJ 52 51::fI 55 (.bsl 4 [.t 54])::fI 56 (.bld [.int .i64 0,.str [],.sl true 4 [],.sl true 5 [],.sl true 5 []] [(0,1,kI 7),(2,1,.t 55)])::fI 57 (.bsl 5 [.t 56])::xJ 58 5 52 57::Q8h
def Qazr:SC:=.dreg 10 [0,1,2,3,1,4,5,6,7,8,9] ( fJ 51 2 7::lJ 52 51::mJ 53 0::aJ 54 Qbo [.t 53,kI 2]::Q8i) [6,7]
def s_l3Gen_fn_7:SC:=cT 42 (sR [mJ 43 0,mJ 44 0,kJ 45 44,fJ 46 4 45,lJ 47 46,cJ 48 .sub 47 1,kJ 49 43,fJ 50 4 49,sJ 1 50 48] [0,6,7] Qazr) .skip
def Qxw:SC:=sR [tJ 60 3 7,sJ 3 6 60] [6] .ret
def Qazs:SC:=.seq (sR (mJ 30 0::kJ 31 30::fJ 32 4 31::lJ 33 32::cJ 34 .gtr 33 0::mJ 35 34::gTm 36 35 0::gT 37 35 (.nck (.t 36))::gTf 38 35 0 37::gTl 39 35 38::.e (some 40) (some (35,true)) (.call Qx [.t 39,kI 4])::Qqw) [0,6,7,42] s_l3Gen_fn_7) Qxw
def Qavz:SC:=sR (mJ 27 0::aJ 28 Qdc [.t 27,kI 3]::Q8g) [0,6,7] Qazs
def Qav0:SC:=sR (mJ 19 1::fI 20 (.bsl 1 [])::mJ 21 0::kJ 22 21::fJ 23 2 22::lJ 24 23::xJ 25 1 20 24::Q8f) [0,6,7] Qavz
def Qav1:SC:=sR [mJ 14 0,mJ 15 2,cJ 16 .sub 15 1,kJ 17 14,fJ 18 3 17,sJ 1 18 16] [0,1,6] Qav0
def Qav2:SC:=sR [mJ 8 0,fI 9 (.bsl 1 [.k (.c (.str [97])),.k (.c (.str [98])),.k (.c (.str [99]))]),mJ 10 2,fI 11 (.sli 1 (.t 9) none (some (.t 10))),kJ 12 8,fJ 13 2 12,sJ 1 13 11] [0,1,2,6] Qav1
def Qbak:SC:=sR [eI 6 (.alloc [.str [],.sl true 1 [],.sl true 5 []])] [0,1,2,6] Qav2
def Q0h:List RS:=[.cell 6 3 true]
theorem Qa88:mFn prog Qp0 3 61 Qbak Q0h=true:=by kernel_rfl
def Qek:List Item:=[oJ 8 7]
def Q6l:SC:=cT 8 (sR [fB 2 false] [2] .ret) .skip
def Qel:List Item:=[oJ 22 21]
def Q6m:SC:=cT 22 (sR [fB 2 false] [2] .ret) .skip
def Q6n:SC:=.reg [mJ 14 3,cJ 15 .add 14 1,mJ 3 15] [1,3]
def Q6o:SC:=.seq (.block 1 (sR (fJ 16 0 1::lJ 17 16::mJ 18 3::iJ 19 3 17 18::tJ 20 3 19::aJ 21 Qat7 [.t 20]::Qel) [1,3,22] Q6m)) Q6n
def Q28:SC:=.seq (sR [mJ 9 3,fJ 10 0 1,lJ 11 10,nJ 12 11,bJ 13 .lss 9 12] [1,3,13] (cT 13 .skip (.exit 0))) Q6o
def Qem:List Item:=[cJ 25 .leq 24 40,mJ 2 25]
def Q6p:SC:=sR (tJ 23 1 1::aJ 24 Qagg [.t 23]::Qem) [2] .ret
def Q6q:SC:=.seq (sR [zJ 3 0] [1,3] (bL 0 Q28)) Q6p
def Q27:SC:=.seq (sR (fJ 4 0 1::lJ 5 4::nJ 6 5::aJ 7 Qcj [.t 6,kI 1,kI 4]::Qek) [1,8] Q6l) Q6q
def Qabq:SC:=sR [vJ 1 0,fB 2 false] [1] Q27
theorem Qog:mFn prog Qcg 1 26 Qabq Qer=true:=by kernel_rfl
def Qato:List Item:=[sJ 3 7 12]
def Qabg:List Item:=[gF 22 17 (.not (.t 21)),pT 23 17 22]
def Qatp:List Item:=oJ 16 15::mJ 17 16::gF 18 17 (.ld 3 true (.t 7))::gFf 19 17 2 5::gFl 20 17 19::.e (some 21) (some (17,false)) (.call Q64 [.t 18,.t 20])::Qabg
def s_l7Ins_3:SC:=cT 23 (sR [fB 6 false] [6] .ret) .skip
def Qabh:List Item:=[gF 38 34 (.not (.t 37)),gFm 39 34 38,gTf 40 39 1 5,gTl 41 39 40,gT 42 39 (.bin 0 .neq (.t 41) (kI (-1))),gF 43 34 (.pick (.t 39) (.t 42) (.k (.c (.bool false)))),pT 44 34 43]
def Qatq:List Item:=fI 33 (.bin 1 .neq (.t 26) (.t 32))::mJ 34 33::gFf 35 34 0 5::gFl 36 34 35::.e (some 37) (some (34,false)) (.call Q0b [.t 36])::Qabh
def Qatr:List Item:=hJ 28 27::hJ 30 29::aJ 32 Qcj [.t 28,kI 0,.t 31]::Qatq
def s_l7Ins_7:SC:=cT 44 (sR [fB 6 false] [6] .ret) .skip
def Q0i:List Item:=[mJ 53 52,gTf 54 53 2 5,gTl 55 53 54,gT 56 53 (.len (.t 55)),gTf 57 53 0 3,gTl 58 53 57,gTf 59 53 3 5,gTl 60 53 59,gT 61 53 (.iad 3 (.t 58) (.t 60)),gTf 62 53 0 61,gTl 63 53 62,gT 64 53 (.bin 0 .eql (.t 56) (.t 63)),pF 65 53 64,mJ 6 65]
def Qbgm:SC:=cT 47 (.seq (.dreg 19 [0,1,2,3,4,5,6,7,8,9,10,11,12,13,14,15,16,17,18] ( fJ 48 3 5::lJ 49 48::mJ 50 1::cJ 51 .sub 50 1::aJ 52 Qcj [.t 49,kI 0,.t 51]::Q0i) [6]) .ret) .skip
def Q5x:List Item:=[pF 77 73 76,mJ 78 77,gTf 79 78 3 5,gTl 80 78 79,gT 81 78 (.bin 0 .eql (.t 80) (kI 0)),gTm 82 78 81,gFf 83 82 0 5,gFl 84 82 83,gF 85 82 (.bin 0 .eql (.t 84) (kI 1)),gT 86 78 (.pick (.t 82) (.k (.c (.bool true))) (.t 85)),pF 87 78 86,mJ 6 87]
def Qamb:List Item:=hJ 67 66::.chk 68 none (.len (.t 67))::bJ 72 .eql 68 71::mJ 73 72::gTf 74 73 3 5::gTl 75 73 74::.e (some 76) (some (73,true)) (.call Qcj [.t 75,kI 0,kI 255])::Q5x
def Qbbt:SC:=.seq (.dreg 23 [0,1,2,3,4,5,1,2,6,7,8,9,10,11,12,13,14,15,16,17,18,19,20,21,22] ( fJ 66 2 5::lJ 67 66::nJ 68 67::fJ 69 0 5::lJ 70 69::aJ 71 Qahf [.t 70]::Qamb) [6]) .ret
def Qatm:SC:=.seq (sR [fJ 45 0 5,lJ 46 45,cJ 47 .eql 46 14] [1,3,5,47] Qbgm) Qbbt
def Qatn:SC:=.seq (.seq (.dreg 21 [0,1,3,4,5,6,7,2,4,6,8,9,10,11,12,13,14,15,16,17,18,19,20] ( fJ 24 0 5::lJ 25 24::fJ 27 1 5::lJ 28 27::fJ 29 1 7::lJ 30 29::cJ 31 .sub 30 1::aJ 26 Q0b [.t 25]::Qatr) [1,3,5,44]) s_l7Ins_7) Qatm
def Qbbu:SC:=.seq (sR (fJ 13 0 5::lJ 14 13::aJ 15 Qcj [.t 14,kI 1,kI 14]::Qatp) [1,3,5,7,23] s_l7Ins_3) Qatn
def Qbbv:SC:=sR (fJ 8 0 3::lJ 9 8::mJ 10 1::iJ 11 3 9 10::tJ 12 3 11::eI 7 (.alloc [.int .i64 0,.int .i64 0,.sl true 5 []])::Qato) [1,3,5,7] Qbbu
def Qbnv:SC:=sR [vJ 3 0,vJ 5 2,fB 6 false] [1,3,5] Qbbv
theorem Qbnj:mFn prog Qat8 3 88 Qbnv Qblj=true:=by kernel_rfl
def Qame:List Item:=[oJ 20 19]
def Qbbw:SC:=cT 20 (sR [fB 4 false] [4] .ret) .skip
def Qbbx:SC:=.reg [mJ 10 5,cJ 11 .add 10 1,mJ 5 11] [1,2,5]
def Qbby:SC:=.seq (.block 1 (.seq (.dreg 9 [0,1,2,3,4,5,6,7,8] ( mJ 12 1::mJ 13 5::iJ 14 1 12 13::lJ 15 14::fJ 16 1 2::lJ 17 16::cJ 18 .sub 17 1::aJ 19 Qcj [.t 15,kI 0,.t 18]::Qame) [1,2,5,20]) Qbbw)) Qbbx
def Qa6b:SC:=.seq (sR [mJ 6 5,mJ 7 1,nJ 8 7,bJ 9 .lss 6 8] [1,2,5,9] (cT 9 .skip (.exit 0))) Qbby
def Qbbz:SC:=sR [fB 4 true] [4] .ret
def Qbb0:SC:=.seq (sR [zJ 5 0] [1,2,5] (bL 0 Qa6b)) Qbbz
def Qbki:SC:=sR [vJ 2 0,fB 4 false] [1,2] Qbb0
theorem Qbjk:mFn prog Q64 2 21 Qbki Qm6=true:=by kernel_rfl
def Qamk:List Item:=[bJ 33 .add 26 32,mJ 3 33]
def Qaml:List Item:=.chk 29 none (.iad 5 (.t 27) (.t 28))::hJ 31 30::bJ 26 .add 19 25::aJ 32 Qu2 [.t 31]::Qamk
def Qamm:List Item:=.chk 22 none (.iad 5 (.t 20) (.t 21))::hJ 24 23::.chk 29 none (.iad 5 (.t 27) (.t 28))::hJ 31 30::bJ 19 .add 11 18::aJ 25 Qu2 [.t 24]::Qaml
def Qbb1:SC:=.reg [mJ 9 4,cJ 10 .add 9 1,mJ 4 10] [0,3,4]
def Qbb2:SC:=.seq (.block 1 (.dreg 24 [0,1,2,3,4,5,6,9,10,11,12,13,16,17,18,19,20,7,11,13,18,20,8,14,18,20,15,21,22,23] ( mJ 11 3::mJ 12 0::mJ 13 4::iJ 14 5 12 13::fJ 15 0 14::lJ 16 15::cJ 17 .eql 16 1::mJ 20 0::mJ 21 4::iJ 22 5 20 21::fJ 23 3 22::lJ 24 23::mJ 27 0::mJ 28 4::iJ 29 5 27 28::fJ 30 4 29::lJ 31 30::aJ 18 Q87 [.t 17]::Qamm) [0,3,4])) Qbb1
def Qa6c:SC:=.seq (sR [mJ 5 4,mJ 6 0,nJ 7 6,bJ 8 .lss 5 7] [0,3,4,8] (cT 8 .skip (.exit 0))) Qbb2
def Qbb3:SC:=sR [mJ 34 3,mJ 2 34] [2] .ret
def Qbb4:SC:=.seq (sR [zJ 4 0] [0,3,4] (bL 0 Qa6c)) Qbb3
def Qbb5:SC:=sR [zJ 3 0] [0,3] Qbb4
def Qbkm:SC:=sR [zJ 2 0] [0] Qbb5
theorem Qbjl:mFn prog Qu2 1 35 Qbkm Qer=true:=by kernel_rfl
def Qsf:List Item:=[kJ 15 3,fJ 16 1 15,fJ 17 2 16,sJ 1 17 14]
def Qamn:SC:=sR [mJ 18 0,kJ 19 18,fJ 20 1 19,fJ 21 2 20,lJ 22 21,nJ 23 22,cJ 24 .sub 23 1,mJ 2 24] [2] .ret
def Qamo:SC:=sR (mJ 3 0::mJ 4 0::kJ 5 4::fJ 6 1 5::fJ 7 2 6::lJ 8 7::fI 9 (.bsl 2 [])::fI 10 (.bsl 4 [])::fI 11 (.bsl 1 [])::fI 12 (.bld [.sl true 2 [],.sl true 4 [],.int .i64 0,.int .i64 0,.sl true 1 []] [(0,1,.t 9),(1,1,.t 10),(4,1,.t 11)])::fI 13 (.bsl 5 [.t 12])::xJ 14 5 8 13::Qsf) [0] Qamn
def Qawh:SC:=sR [zJ 2 0] [0] Qamo
theorem Qauw:mFn prog Qa1 1 25 Qawh Qer=true:=by kernel_rfl
def Qann:SC:=.reg [mJ 15 5,cJ 16 .add 15 1,mJ 5 16] [0,1,4,5]
def Qano:SC:=.seq (.block 1 (.reg [mJ 17 0,mJ 18 1,mJ 19 5,iJ 20 5 18 19,tJ 21 5 20,aJ 22 Qp5 [.t 17,.t 21]] [0,1,4,5])) Qann
def Qafs:SC:=.seq (sR [mJ 11 5,mJ 12 1,nJ 13 12,bJ 14 .lss 11 13] [0,1,4,5,14] (cT 14 .skip (.exit 0))) Qano
def Qanp:SC:=.reg [mJ 23 0,mJ 24 0,kJ 25 24,fJ 26 5 25,lJ 27 26,mJ 28 4,fI 29 (.sli 3 (.t 27) none (some (.t 28))),kJ 30 23,fJ 31 5 30,sJ 1 31 29] []
def Qanq:SC:=.seq (sR [zJ 5 0] [0,1,4,5] (bL 0 Qafs)) Qanp
def Qawr:SC:=sR [mJ 6 0,kJ 7 6,fJ 8 5 7,lJ 9 8,nJ 10 9,mJ 4 10] [0,1,4] Qanq
def Qqi:List RS:=[]
theorem Qauy:mFn prog Qdd 2 32 Qawr Qqi=true:=by kernel_rfl
def Q39:List Item:=[kJ 34 22,fJ 35 1 34,sJ 1 35 33]
def Qawj:SC:=sR [mJ 36 2,mJ 10 36] [10] .ret
def Qawk:SC:=sR (mJ 22 11::mJ 23 11::kJ 24 23::fJ 25 1 24::lJ 26 25::mJ 27 1::mJ 28 2::mJ 29 4::mJ 30 3::fI 31 (.bld [.int .i64 0,.int .i64 0,.sl true 1 [],.int .i64 0] [(0,1,.t 27),(1,1,.t 28),(2,1,.t 29),(3,1,.t 30)])::fI 32 (.bsl 4 [.t 31])::xJ 33 4 26 32::Q39) [2] Qawj
def Qawl:SC:=.seq (.dreg 11 [0,1,2,3,4,5,6,7,8,9,10] ( mJ 12 0::kJ 13 12::fJ 14 1 13::fJ 15 2 14::lJ 16 15::mJ 17 0::kJ 18 17::fJ 19 4 18::lJ 20 19::iJ 21 5 16 20::mJ 11 21::[]) [1,2,3,4,11]) Qawk
def Qa6e:SC:=sR [zJ 10 0] [0,1,2,3,4] Qawl
def Qaii:List RS:=[.tmp 10]
theorem Qa2v:mFn prog Qaz 5 37 Qa6e Qaii=true:=by kernel_rfl
def Qam0:SC:=sR [mJ 13 0,kJ 14 13,fJ 15 1 14,fJ 16 1 15,lJ 17 16,cJ 18 .sub 17 1,mJ 2 18] [2] .ret
def Qam1:SC:=sR [mJ 3 0,mJ 4 0,kJ 5 4,fJ 6 1 5,fJ 7 1 6,lJ 8 7,cJ 9 .add 8 1,kJ 10 3,fJ 11 1 10,fJ 12 1 11,sJ 1 12 9] [0] Qam0
def Qawi:SC:=sR [zJ 2 0] [0] Qam1
theorem Qaux:mFn prog Qbd 1 19 Qawi Qer=true:=by kernel_rfl
def Qark:SC:=.reg [mJ 33 0,mJ 34 4,kJ 35 33,fJ 36 4 35,sJ 1 36 34] []
def Qarl:SC:=sR [mJ 29 10,mJ 30 3,kJ 31 29,fJ 32 4 31,sJ 1 32 30] [0,4] Qark
def Qarm:SC:=sR [mJ 25 10,mJ 26 2,kJ 27 25,fJ 28 3 27,sJ 1 28 26] [0,3,4,10] Qarl
def Qarn:SC:=sR [mJ 21 10,mJ 22 1,kJ 23 21,fJ 24 2 23,sJ 1 24 22] [0,2,3,4,10] Qarm
def Qa03:SC:=.seq (.dreg 11 [0,1,2,3,4,5,6,7,8,9,10] ( mJ 11 0::kJ 12 11::fJ 13 1 12::fJ 14 2 13::lJ 15 14::mJ 16 0::kJ 17 16::fJ 18 4 17::lJ 19 18::iJ 20 5 15 19::mJ 10 20::[]) [0,1,2,3,4,10]) Qarn
theorem Qayc:mFn prog Qa7 5 37 Qa03 Qqi=true:=by kernel_rfl
def Qrq:List Item:=[mJ 7 18]
def Qrr:List Item:=[mJ 6 34]
def Qrs:List Item:=xJ 34 5 30 33::Qrr
def Qakk:SC:=.reg [mJ 28 7,cJ 29 .sub 28 1,mJ 7 29] [0,1,5,6,7]
def Qakl:SC:=.seq (.block 1 (.reg (mJ 30 6::mJ 31 0::mJ 32 1::aJ 33 Qp2 [.t 31,.t 32]::Qrs) [0,1,5,6,7])) Qakk
def Qae4:SC:=.seq (sR [mJ 19 7,cJ 20 .gtr 19 0,mJ 21 20,gTm 22 21 0,gT 23 21 (.nck (.t 22)),gTf 24 21 4 23,gTl 25 21 24,gT 26 21 (.bin 0 .gtr (.t 25) (kI 0)),pF 27 21 26] [0,1,5,6,7,27] (cT 27 .skip (.exit 0))) Qakl
def Qakm:SC:=sR [mJ 39 6,mJ 4 39] [4] .ret
def Qakn:SC:=sR [mJ 35 0,mJ 36 5,kJ 37 35,fJ 38 2 37,sJ 1 38 36] [6] Qakm
def Qako:SC:=.seq (sR (mJ 13 0::kJ 14 13::fJ 15 0 14::lJ 16 15::fI 17 (.bsl 1 [kI 2,kI 3,kI 1,kI 4])::aJ 18 Qav [.t 16,.t 17]::Qrq) [0,1,5,6,7] (bL 0 Qae4)) Qakn
def Qakp:SC:=sR [fI 12 (.bsl 5 []),mJ 6 12] [0,1,5,6] Qako
def Qae3:SC:=sR [mJ 8 0,kJ 9 8,fJ 10 2 9,lJ 11 10,mJ 5 11] [0,1,5] Qakp
def Qavy:SC:=sR [fI 4 (.mv (.k (.c (.sl true 5 []))))] [0,1] Qae3
theorem Qauq:mFn prog Qdc 2 40 Qavy Qm6=true:=by kernel_rfl
def Qxp:List Item:=[hJ 12 11,hJ 16 15,sJ 4 5 18]
def Qxq:List Item:=eI 5 (.alloc [.int .i64 0,.int .i64 0,.str [],.sl true 4 []])::Qxp
def Qmg:List Item:=[gF 31 25 (.bin 0 .gtr (.t 30) (kI 0)),pT 32 25 31]
def s_l3Gen_expr_3:SC:=cT 32 (sR [tJ 33 4 5,sJ 4 4 33] [4] .ret) .skip
def Qxr:List Item:=[hJ 37 36,hJ 41 40,hJ 45 44,.chk 46 none (.len (.t 45)),.chk 48 none (.iad 3 (.t 37) (.t 47)),.chk 49 none (.ld 3 true (.t 48)),sJ 3 6 49]
def Qxs:List Item:=hJ 37 36::iJ 48 3 37 47::tJ 49 3 48::eI 6 (.alloc [.str [],.sl true 1 [],.sl true 5 []])::Qxr
def Qxt:List Item:=[sJ 4 7 52]
def Qxu:List Item:=[fJ 73 3 7,sJ 1 73 72]
def Qxv:List Item:=hJ 61 60::fI 71 (.bsl 4 [.t 70])::xJ 72 4 61 71::Qxu
def Qaqm:SC:=.reg [mJ 58 8,cJ 59 .add 58 1,mJ 8 59] [0,4,6,7,8]
def Qakq:SC:=.seq (.block 1 (.dreg 15 [0,1,2,3,4,5,6,7,8,9,10,1,11,12,13,14] ( fJ 60 3 7::lJ 61 60::mJ 62 0::kJ 63 62::fJ 64 0 63::lJ 65 64::mJ 66 0::kJ 67 66::fJ 68 2 67::lJ 69 68::aJ 70 Qds [.t 65,.t 69,kI 2]::Qxv) [0,4,6,7,8])) Qaqm
def Qae5:SC:=.seq (sR [mJ 53 8,fJ 54 1 6,lJ 55 54,nJ 56 55,bJ 57 .lss 53 56] [0,4,6,7,8,57] (cT 57 .skip (.exit 0))) Qakq
def Qrt:List Item:=[cJ 79 .eql 78 0]
def Qakr:SC:=cT 79 (sR [tJ 80 4 7,sJ 4 4 80] [4] .ret) .skip
def Qru:List Item:=[.chk 87 none (.ld 4 true (.t 7)),fI 97 (.bsl 4 [.t 87,.t 96]),fI 98 (.bld [.int .i64 0,.int .i64 0,.str [],.sl true 4 []] [(0,1,.t 86),(3,1,.t 97)]),sJ 4 4 98]
def Qrv:List Item:=.chk 87 none (.ld 4 true (.t 7))::hJ 91 90::hJ 95 94::aJ 96 Qds [.t 91,.t 95,kI 2]::Qru
def Qaks:SC:=.seq (.dreg 19 [0,1,2,3,4,6,7,8,9,10,11,12,13,14,5,6,10,14,15,6,16,17,18] ( mJ 81 0::kJ 82 81::fJ 83 0 82::lJ 84 83::fI 85 (.bsl 1 [kI 3,kI 4,kI 8,kI 10])::tJ 87 4 7::mJ 88 0::kJ 89 88::fJ 90 0 89::lJ 91 90::mJ 92 0::kJ 93 92::fJ 94 2 93::lJ 95 94::aJ 86 Qav [.t 84,.t 85]::Qrv) [4]) .ret
def Qakt:SC:=.seq (sR (mJ 74 0::kJ 75 74::fJ 76 0 75::lJ 77 76::aJ 78 Qx [.t 77,kI 2]::Qrt) [0,4,7,79] Qakr) Qaks
def Qaku:SC:=.seq (sR [zJ 8 0] [0,4,6,7,8] (bL 0 Qae5)) Qakt
def Qakv:SC:=sR (fJ 50 0 6::lJ 51 50::fI 52 (.bld [.int .i64 0,.int .i64 0,.str [],.sl true 4 []] [(0,1,kI 13),(2,1,.t 51)])::eI 7 (.alloc [.int .i64 0,.int .i64 0,.str [],.sl true 4 []])::Qxt) [0,4,6,7] Qaku
def Qxo:SC:=.seq (.dreg 16 [0,1,2,3,4,5,6,7,8,9,10,11,12,13,3,14,15,16,3,7,11,12,14,15,17] ( mJ 34 0::kJ 35 34::fJ 36 1 35::lJ 37 36::mJ 38 0::kJ 39 38::fJ 40 0 39::lJ 41 40::mJ 42 0::kJ 43 42::fJ 44 1 43::lJ 45 44::nJ 46 45::aJ 47 Qx [.t 41,.t 46]::Qxs) [0,4,6]) Qakv
def Qakw:SC:=.seq (sR (mJ 19 0::kJ 20 19::fJ 21 1 20::lJ 22 21::nJ 23 22::cJ 24 .eql 23 0::mJ 25 24::gFm 26 25 0::gF 27 25 (.nck (.t 26))::gFf 28 25 0 27::gFl 29 25 28::.e (some 30) (some (25,false)) (.call Qx [.t 29,kI 4])::Qmg) [0,4,5,32] s_l3Gen_expr_3) Qxo
def Qakx:SC:=.seq (.dreg 10 [0,1,2,3,4,5,6,7,8,9,10,3,7,11] ( mJ 9 0::kJ 10 9::fJ 11 0 10::lJ 12 11::mJ 13 0::kJ 14 13::fJ 15 2 14::lJ 16 15::mJ 17 1::aJ 18 Qds [.t 12,.t 16,.t 17]::Qxq) [0,4,5]) Qakw
def Qazq:SC:=sR [eI 4 (.alloc [.int .i64 0,.int .i64 0,.str [],.sl true 4 []])] [0,1,4] Qakx
def Qm7:List RS:=[.cell 4 4 true]
theorem Qax4:mFn prog Qbo 2 99 Qazq Qm7=true:=by kernel_rfl
def Qaki:List Item:=[oJ 17 16]
def Qbj3:SC:=cT 17 (sR [fB 2 false] [2] .ret) .skip
def Qbj4:SC:=.reg [mJ 9 3,cJ 10 .add 9 1,mJ 3 10] [1,3]
def Qbj5:SC:=.seq (.block 1 (sR (fJ 11 1 1::lJ 12 11::mJ 13 3::iJ 14 1 12 13::lJ 15 14::aJ 16 Qdv [.t 15]::Qaki) [1,3,17] Qbj3)) Qbj4
def Qbf6:SC:=.seq (sR [mJ 4 3,fJ 5 1 1,lJ 6 5,nJ 7 6,bJ 8 .lss 4 7] [1,3,8] (cT 8 .skip (.exit 0))) Qbj5
def Qxl:List Item:=[pF 31 27 30,mJ 2 31]
def Qakj:List Item:=mJ 21 20::gTf 22 21 1 1::gTl 23 21 22::gT 24 21 (.len (.t 23))::gT 25 21 (.bin 0 .leq (.t 24) (kI 3))::pF 26 21 25::mJ 27 26::gTf 28 27 2 1::gTl 29 27 28::.e (some 30) (some (27,true)) (.call Qlc [.t 29,kI 4])::Qxl
def Qbj6:SC:=sR (fJ 18 0 1::lJ 19 18::aJ 20 Qdv [.t 19]::Qakj) [2] .ret
def Qbj7:SC:=.seq (sR [zJ 3 0] [1,3] (bL 0 Qbf6)) Qbj6
def Qbps:SC:=sR [vJ 1 0,fB 2 false] [1] Qbj7
theorem Qblh:mFn prog Qat7 1 32 Qbps Qer=true:=by kernel_rfl
def Qaa0:List Item:=[bJ 20 .add 12 19,mJ 3 20]
def Qbf0:SC:=.reg [mJ 10 4,cJ 11 .add 10 1,mJ 4 11] [1,3,4]
def Qbf1:SC:=.seq (.block 1 (.reg (mJ 12 3::fJ 13 0 1::lJ 14 13::mJ 15 4::iJ 16 3 14 15::fJ 17 2 16::lJ 18 17::aJ 19 Qlb [.t 18]::Qaa0) [1,3,4])) Qbf0
def Qbag:SC:=.seq (sR [mJ 5 4,fJ 6 0 1,lJ 7 6,nJ 8 7,bJ 9 .lss 5 8] [1,3,4,9] (cT 9 .skip (.exit 0))) Qbf1
def Qbf2:SC:=sR [mJ 21 3,mJ 2 21] [2] .ret
def Qbf3:SC:=.seq (sR [zJ 4 0] [1,3,4] (bL 0 Qbag)) Qbf2
def Qbf4:SC:=sR [zJ 3 0] [1,3] Qbf3
def Qbnt:SC:=sR [vJ 1 0,zJ 2 0] [1] Qbf4
theorem Qbet:mFn prog Qagg 1 22 Qbnt Qer=true:=by kernel_rfl
def Qadp:List Item:=[mJ 5 4,gTm 6 5 0,gT 7 5 (.bin 0 .neq (.t 6) (kI 12)),pF 8 5 7,mJ 9 8,gTm 10 9 0,gT 11 9 (.bin 0 .neq (.t 10) (kI 13)),pF 12 9 11,mJ 2 12]
def Qa55:SC:=sR (mJ 3 0::aJ 4 Qcj [.t 3,kI 1,kI 14]::Qadp) [2] .ret
def Qbgn:SC:=sR [fB 2 false] [0] Qa55
theorem Qbex:mFn prog Q0b 1 13 Qbgn Qer=true:=by kernel_rfl
def Qama:List Item:=[mJ 24 23,gFm 25 24 0,gF 26 24 (.bin 0 .eql (.t 25) (kI 12)),pT 27 24 26,mJ 21 27]
def Qbbo:SC:=cT 21 (sR [zJ 2 2] [2] .ret) .skip
def Qbbp:SC:=cT 6 (sR [zJ 2 1] [2] .ret) (sR (mJ 22 0::aJ 23 Qcj [.t 22,kI 3,kI 9]::Qama) [21] Qbbo)
def Qbbq:SC:=cT 3 (sR [zJ 2 0] [2] .ret) (sR [mJ 7 0,cJ 8 .eql 7 2,mJ 9 8,gFm 10 9 0,gF 11 9 (.bin 0 .eql (.t 10) (kI 10)),pT 12 9 11,mJ 13 12,gFm 14 13 0,gF 15 13 (.bin 0 .eql (.t 14) (kI 11)),pT 16 13 15,mJ 17 16,gFm 18 17 0,gF 19 17 (.bin 0 .eql (.t 18) (kI 13)),pT 20 17 19,mJ 6 20] [0,6] Qbbp)
def Qbbr:SC:=sR [zJ 2 (-1)] [2] .ret
def Qbbs:SC:=.seq (.block 0 (sR [mJ 4 0,cJ 5 .eql 4 1,mJ 3 5] [0,3] Qbbq)) Qbbr
def Qbkh:SC:=sR [zJ 2 0] [0] Qbbs
theorem Qbjj:mFn prog Qahf 1 28 Qbkh Qer=true:=by kernel_rfl
def Qa5x:SC:=cT 3 (sR [zJ 2 1] [2] .ret) .skip
def Qa5y:SC:=sR [zJ 2 0] [2] .ret
def Qa5z:SC:=.seq (sR [mJ 3 0] [3] Qa5x) Qa5y
def Qbgk:SC:=sR [zJ 2 0] [0] Qa5z
theorem Qbev:mFn prog Q87 1 4 Qbgk Qer=true:=by kernel_rfl
def Qarv:SC:=cT 11 (sR [mJ 12 0,tJ 13 5 3,aJ 14 Qp4 [.t 12,.t 13]] [] .ret) .skip
def Qyz:List Item:=[mJ 4 32]
def Qy0:List Item:=fI 31 (.bsl 1 [.t 30])::xJ 32 1 23 31::Qyz
def Qarw:SC:=.reg [mJ 21 5,cJ 22 .add 21 1,mJ 5 22] [0,3,4,5]
def Qarx:SC:=.seq (.block 1 (.reg (mJ 23 4::mJ 24 0::fJ 25 2 3::lJ 26 25::mJ 27 5::iJ 28 4 26 27::tJ 29 4 28::aJ 30 Qc4 [.t 24,.t 29]::Qy0) [0,3,4,5])) Qarw
def Qanm:SC:=.seq (sR [mJ 16 5,fJ 17 2 3,lJ 18 17,nJ 19 18,bJ 20 .lss 16 19] [0,3,4,5,20] (cT 20 .skip (.exit 0))) Qarx
def Qy1:List Item:=[kJ 58 44,fJ 59 5 58,sJ 1 59 57]
def Qary:SC:=.reg [mJ 60 0,mJ 61 0,kJ 62 61,fJ 63 6 62,lJ 64 63,cJ 65 .add 64 1,kJ 66 60,fJ 67 6 66,sJ 1 67 65] []
def Qarz:SC:=.seq (.dreg 17 [0,1,2,3,4,5,6,7,8,9,10,11,12,13,14,15,16] ( mJ 44 0::mJ 45 0::kJ 46 45::fJ 47 5 46::lJ 48 47::fJ 49 1 3::lJ 50 49::mJ 51 0::kJ 52 51::fJ 53 6 52::lJ 54 53::fI 55 (.bld [.str [],.int .i64 0,.int .i64 0] [(0,1,.t 50),(1,1,.t 54),(2,1,kI 0)])::fI 56 (.bsl 3 [.t 55])::xJ 57 3 48 56::Qy1) [0]) Qary
def Qy2:List Item:=[mJ 75 4,aJ 76 Qaz [.t 70,kI 2,.t 74,kI 0,.t 75]]
def Qsp:List Item:=[.chk 91 none (.iad 1 (.t 90) (kI 0)),hJ 92 91,aJ 96 Qa7 [.t 89,kI 3,.t 92,.t 93,.t 95]]
def Qsq:List Item:=[mJ 6 100]
def Qsr:List Item:=[mJ 7 102]
def Qss:List Item:=[mJ 8 104]
def Qam4:SC:=.reg [mJ 127 0,mJ 128 8,fI 129 (.bsl 1 [.t 128]),mJ 130 8,aJ 131 Qa7 [.t 127,kI 1,kI 0,.t 129,.t 130]] []
def Qam5:SC:=sR [mJ 123 0,fJ 124 4 3,lJ 125 124,aJ 126 Qdd [.t 123,.t 125]] [0,8] Qam4
def Qam6:SC:=sR [mJ 118 0,mJ 119 8,fI 120 (.bsl 1 [.t 119]),mJ 121 7,aJ 122 Qa7 [.t 118,kI 1,kI 0,.t 120,.t 121]] [0,3,8] Qam5
def Qam7:SC:=sR [mJ 114 0,fJ 115 3 3,lJ 116 115,aJ 117 Qdd [.t 114,.t 116]] [0,3,7,8] Qam6
def Qam8:SC:=sR [mJ 105 0,mJ 106 4,fI 107 (.iad 1 (.t 106) (kI 0)),lJ 108 107,mJ 109 6,mJ 110 7,fI 111 (.bsl 1 [.t 109,.t 110]),mJ 112 6,aJ 113 Qa7 [.t 105,kI 2,.t 108,.t 111,.t 112]] [0,3,7,8] Qam7
def Qam9:SC:=sR (mJ 103 0::aJ 104 Qa1 [.t 103]::Qss) [0,3,4,6,7,8] Qam8
def Qana:SC:=sR (mJ 101 0::aJ 102 Qa1 [.t 101]::Qsr) [0,3,4,6,7] Qam9
def Qanb:SC:=cT 97 (sR (mJ 99 0::aJ 100 Qa1 [.t 99]::Qsq) [0,3,4,6] Qana) .skip
def Qanc:SC:=cT 87 (.dreg 8 [0,1,2,3,4,5,6,2,3,7] ( mJ 89 0::mJ 90 4::fI 91 (.iad 1 (.t 90) (kI 0))::lJ 92 91::fI 93 (.bsl 1 [])::mJ 94 0::aJ 95 Qa1 [.t 94]::Qsp) []) (sR [cJ 98 .eql 34 5,mJ 97 98] [0,3,4,97] Qanb)
def Qand:SC:=cT 82 (.reg [mJ 84 0,mJ 85 4,aJ 86 Qaz [.t 84,kI 12,kI (-1),kI 0,.t 85]] []) (sR [cJ 88 .eql 34 7,mJ 87 88] [0,3,4,34,87] Qanc)
def Qane:SC:=cT 77 (.reg [mJ 79 0,mJ 80 4,aJ 81 Qaz [.t 79,kI 13,kI (-1),kI 0,.t 80]] []) (sR [cJ 83 .eql 34 4,mJ 82 83] [0,3,4,34,82] Qand)
def Qanf:SC:=cT 68 (.reg (mJ 70 0::mJ 71 0::fJ 72 1 3::lJ 73 72::aJ 74 Qmw [.t 71,.t 73]::Qy2) []) (sR [cJ 78 .eql 34 3,mJ 77 78] [0,3,4,34,77] Qane)
def Qang:SC:=cT 35 (sR [mJ 37 0,mJ 38 0,kJ 39 38,fJ 40 6 39,lJ 41 40,mJ 42 4,aJ 43 Qaz [.t 37,kI 2,.t 41,kI 0,.t 42]] [0,3] Qarz) (sR [cJ 69 .eql 34 2,mJ 68 69] [0,3,4,34,68] Qanf)
def Qanh:SC:=.block 2 (sR [cJ 36 .eql 34 1,mJ 35 36] [0,3,4,34,35] Qang)
def Qani:SC:=.seq (.seq .gh (.reg [fJ 33 0 3,lJ 34 33] [0,3,4,34])) Qanh
def Qanj:SC:=.seq (sR [zJ 5 0] [0,3,4,5] (bL 0 Qanm)) Qani
def Qank:SC:=sR [fI 15 (.bsl 1 []),mJ 4 15] [0,3,4] Qanj
def Qanl:SC:=.seq (sR [fJ 9 0 3,lJ 10 9,cJ 11 .eql 10 6] [0,3,11] Qarv) Qank
def Qa05:SC:=sR [vJ 3 1] [0,3] Qanl
theorem Qaye:mFn prog Qp5 2 132 Qa05 Qqi=true:=by kernel_rfl
def Qx6:List Item:=[mJ 5 19]
def Qx7:List Item:=[fI 42 (.bsl 4 [.t 41]),fI 43 (.bld [.int .i64 0,.str [],.sl true 4 [],.sl true 5 [],.sl true 5 []] [(0,1,kI 2),(1,1,.t 39),(2,1,.t 42)]),fI 44 (.bsl 5 [.t 43]),mJ 4 44]
def Qx8:List Item:=aJ 41 Qbo [.t 40,kI 3]::Qx7
def Qx9:List Item:=[fI 52 (.bsl 5 [.t 51]),mJ 4 52]
def Qya:List Item:=aJ 51 Qmv [.t 48,.t 50]::Qx9
def Qyb:List Item:=[fI 62 (.bsl 4 [.t 61]),fI 63 (.bld [.int .i64 0,.str [],.sl true 4 [],.sl true 5 [],.sl true 5 []] [(0,1,kI 3),(2,1,.t 62)]),fI 64 (.bsl 5 [.t 63]),mJ 4 64]
def Qyc:List Item:=[fI 72 (.bsl 4 [.t 69,.t 71]),fI 73 (.bld [.int .i64 0,.str [],.sl true 4 [],.sl true 5 [],.sl true 5 []] [(0,1,kI 4),(2,1,.t 72)]),fI 74 (.bsl 5 [.t 73]),mJ 4 74]
def Qyd:List Item:=mJ 70 0::aJ 71 Qbo [.t 70,kI 2]::Qyc
def Qye:List Item:=[fI 80 (.bsl 4 [.t 79]),fI 81 (.bld [.int .i64 0,.int .i64 0,.str [],.sl true 4 []] [(0,1,kI 12),(3,1,.t 80)]),fI 82 (.bsl 4 [.t 81]),fI 83 (.bld [.int .i64 0,.str [],.sl true 4 [],.sl true 5 [],.sl true 5 []] [(0,1,kI 3),(2,1,.t 82)]),fI 84 (.bsl 5 [.t 83]),mJ 4 84]
def Qyf:List Item:=[sJ 5 6 95]
def Qry:List Item:=fI 95 (.bld [.int .i64 0,.str [],.sl true 4 [],.sl true 5 [],.sl true 5 []] [(0,1,kI 5),(2,1,.t 90),(3,1,.t 94)])::eI 6 (.alloc [.int .i64 0,.str [],.sl true 4 [],.sl true 5 [],.sl true 5 []])::Qyf
def Qrz:List Item:=fI 90 (.bsl 4 [.t 89])::mJ 91 0::mJ 92 1::cJ 93 .sub 92 1::aJ 94 Qdc [.t 91,.t 93]::Qry
def Qr0:List Item:=[cJ 101 .eql 100 0]
def Qr1:List Item:=[fJ 106 4 6,sJ 1 106 105]
def Qak5:SC:=cT 101 (.reg (mJ 102 0::mJ 103 1::cJ 104 .sub 103 1::aJ 105 Qdc [.t 102,.t 104]::Qr1) [6]) .skip
def Qx4:SC:=sR [tJ 107 5 6,fI 108 (.bsl 5 [.t 107]),mJ 4 108] [4] .ret
def Qak6:SC:=.seq (sR (mJ 96 0::kJ 97 96::fJ 98 0 97::lJ 99 98::aJ 100 Qx [.t 99,kI 2]::Qr0) [0,1,6,101] Qak5) Qx4
def Qjb:List Item:=[gT 118 112 (.bin 0 .eql (.t 117) (kI 0)),pF 119 112 118,mJ 109 119]
def Qr2:List Item:=[fI 122 (.bsl 4 [.t 121]),fI 123 (.bld [.int .i64 0,.str [],.sl true 4 [],.sl true 5 [],.sl true 5 []] [(0,1,kI 7),(2,1,.t 122)]),fI 124 (.bsl 5 [.t 123]),mJ 4 124]
def Qx5:SC:=cT 109 (sR (mJ 120 0::aJ 121 Qbo [.t 120,kI 2]::Qr2) [4] .ret) .skip
def Qak7:SC:=cT 85 (sR (mJ 88 0::aJ 89 Qbo [.t 88,kI 3]::Qrz) [0,1,6] Qak6) (sR (mJ 110 5::cJ 111 .eql 110 11::mJ 112 111::gTm 113 112 0::gT 114 112 (.nck (.t 113))::gTf 115 112 0 114::gTl 116 112 115::.e (some 117) (some (112,true)) (.call Qx [.t 116,kI 3])::Qjb) [0,1,109] Qx5)
def Qak8:SC:=cT 75 (sR (mJ 78 0::aJ 79 Qkv [.t 78]::Qye) [4] .ret) (sR [mJ 86 5,cJ 87 .lss 86 11,mJ 85 87] [0,1,5,85] Qak7)
def Qak9:SC:=cT 65 (sR (mJ 68 0::aJ 69 Qkv [.t 68]::Qyd) [4] .ret) (sR [mJ 76 5,cJ 77 .eql 76 8,mJ 75 77] [0,1,5,75] Qak8)
def Qala:SC:=cT 53 (sR (mJ 60 0::aJ 61 Qbo [.t 60,kI 3]::Qyb) [4] .ret) (sR [mJ 66 5,cJ 67 .eql 66 7,mJ 65 67] [0,1,5,65] Qak9)
def Qalb:SC:=cT 45 (sR (mJ 48 0::mJ 49 0::aJ 50 Qbo [.t 49,kI 3]::Qya) [4] .ret) (sR [mJ 54 5,cJ 55 .lss 54 7,mJ 56 55,gFm 57 56 1,gF 58 56 (.bin 0 .lss (.t 57) (kI 2)),pT 59 56 58,mJ 53 59] [0,1,5,53] Qala)
def Qalc:SC:=cT 20 (.seq (.dreg 15 [0,1,2,3,4,5,6,7,9,8,10,11,12,13,14] ( mJ 31 0::kJ 32 31::fJ 33 0 32::lJ 34 33::mJ 35 0::kJ 36 35::fJ 37 2 36::lJ 38 37::mJ 40 0::aJ 39 Qbl [.t 34,.t 38]::Qx8) [4]) .ret) (sR [mJ 46 5,cJ 47 .lss 46 5,mJ 45 47] [0,1,5,45] Qalb)
def Qr3:List Item:=[mJ 4 127]
def Qmh:SC:=sR (mJ 125 0::mJ 126 1::aJ 127 Qp1 [.t 125,.t 126]::Qr3) [4] .ret
def Qald:SC:=.seq (.block 0 (sR [mJ 21 5,cJ 22 .lss 21 3,mJ 23 22,gTm 24 23 0,gT 25 23 (.nck (.t 24)),gTf 26 23 2 25,gTl 27 23 26,gT 28 23 (.len (.t 27)),gT 29 23 (.bin 0 .gtr (.t 28) (kI 0)),pF 30 23 29,mJ 20 30] [0,1,5,20] Qalc)) Qmh
def Qale:SC:=sR (mJ 15 0::kJ 16 15::fJ 17 0 16::lJ 18 17::aJ 19 Qx [.t 18,kI 13]::Qx6) [0,1,5] Qald
def Qalf:SC:=sR [mJ 7 0,mJ 8 0,kJ 9 8,fJ 10 4 9,lJ 11 10,cJ 12 .sub 11 1,kJ 13 7,fJ 14 4 13,sJ 1 14 12] [0,1] Qale
def Qazu:SC:=sR [fI 4 (.mv (.k (.c (.sl true 5 []))))] [0,1] Qalf
theorem Qax6:mFn prog Qp2 2 128 Qazu Qm6=true:=by kernel_rfl
def Qmc:List Item:=[gF 13 10 (.bin 0 .eql (.t 12) (kI 0)),pT 14 10 13]
def Q5g:List Item:=[sJ 4 6 17]
def s_l2Expr_2:SC:=cT 14 (sR (mJ 15 0::mJ 16 1::aJ 17 Qu0 [.t 15,.t 16]::Q5g) [6] .ret) .skip
def Q5h:List Item:=[cJ 20 .eql 19 0]
def Q5i:List Item:=[fI 29 (.bsl 4 [.t 28]),fI 30 (.bld [.int .i64 0,.int .i64 0,.str [],.sl true 4 []] [(0,1,.t 23),(3,1,.t 29)]),sJ 4 6 30]
def Q5j:List Item:=mJ 24 0::mJ 25 1::mJ 26 2::cJ 27 .sub 26 1::aJ 28 Qds [.t 24,.t 25,.t 27]::Q5i
def Qa96:SC:=cT 20 (sR (mJ 21 0::fI 22 (.bsl 1 [kI 11,kI 12,kI 11])::aJ 23 Qav [.t 21,.t 22]::Q5j) [6] .ret) .skip
def Q5k:List Item:=[mJ 7 33]
def Q5l:List Item:=[fI 45 (.bsl 4 [.t 39,.t 44]),fI 46 (.bld [.int .i64 0,.int .i64 0,.str [],.sl true 4 []] [(0,1,.t 34),(3,1,.t 45)]),sJ 4 6 46]
def Q5m:List Item:=mJ 40 0::mJ 41 1::mJ 42 2::cJ 43 .sub 42 1::aJ 44 Qds [.t 40,.t 41,.t 43]::Q5l
def Qa3u:SC:=sR (mJ 34 7::mJ 35 0::mJ 36 1::mJ 37 2::cJ 38 .sub 37 1::aJ 39 Qds [.t 35,.t 36,.t 38]::Q5m) [6] .ret
def Qa3v:SC:=sR (mJ 31 0::fI 32 (.bsl 1 [kI 3,kI 3,kI 4,kI 5,kI 6,kI 7,kI 8,kI 9,kI 10])::aJ 33 Qav [.t 31,.t 32]::Q5k) [0,1,2,6,7] Qa3u
def Q5f:SC:=.seq (sR (mJ 18 0::aJ 19 Qx [.t 18,kI 7]::Q5h) [0,1,2,6,20] Qa96) Qa3v
def Qa3w:SC:=.seq (sR (mJ 8 2::cJ 9 .lss 8 2::mJ 10 9::gFm 11 10 0::.e (some 12) (some (10,false)) (.call Qx [.t 11,kI 4])::Qmc) [0,1,2,6,14] s_l2Expr_2) Q5f
def Qbjx:SC:=sR [eI 6 (.alloc [.int .i64 0,.int .i64 0,.str [],.sl true 4 []])] [0,1,2,6] Qa3w
def Qqc:List RS:=[.cell 6 4 true]
theorem Qa7l:mFn prog Qds 3 47 Qbjx Qqc=true:=by kernel_rfl
def Qew:List Item:=[gT 13 10 (.not (.t 12)),pF 14 10 13,mJ 2 14]
def Qn6:List Item:=mJ 5 4::gTm 6 5 0::gT 7 5 (.lens (.t 6))::gT 8 5 (.bin 0 .leq (.t 7) (kI 4))::pF 9 5 8::mJ 10 9::gTm 11 10 0::.e (some 12) (some (10,true)) (.call Qagf [.t 11])::Qew
def Qawv:SC:=sR (mJ 3 0::aJ 4 Qage [.t 3,kI 1]::Qn6) [2] .ret
def Qa6n:SC:=sR [fB 2 false] [0] Qawv
theorem Qahv:mFn prog Qdv 1 15 Qa6n Qer=true:=by kernel_rfl
def Qyh:List Item:=[oJ 18 17]
def Qa5l:SC:=cT 18 (sR [fB 4 false] [4] .ret) .skip
def Qa5m:SC:=.reg [mJ 10 5,cJ 11 .add 10 1,mJ 5 11] [0,1,5]
def Qa5n:SC:=.seq (.block 1 (sR (mJ 12 0::mJ 13 5::iJ 14 5 12 13::tJ 15 5 14::mJ 16 1::aJ 17 Q62 [.t 15,.t 16]::Qyh) [0,1,5,18] Qa5l)) Qa5m
def Qazw:SC:=.seq (sR [mJ 6 5,mJ 7 0,nJ 8 7,bJ 9 .lss 6 8] [0,1,5,9] (cT 9 .skip (.exit 0))) Qa5n
def Qa5o:SC:=sR [fB 4 true] [4] .ret
def Qa5p:SC:=.seq (sR [zJ 5 0] [0,1,5] (bL 0 Qazw)) Qa5o
def Qbf7:SC:=sR [fB 4 false] [0,1] Qa5p
theorem Qax7:mFn prog Qlc 2 19 Qbf7 Qm6=true:=by kernel_rfl
def Qxj:List Item:=[bJ 27 .add 20 26,mJ 3 27]
def Qxk:List Item:=.chk 23 none (.iad 5 (.t 21) (.t 22))::hJ 25 24::bJ 20 .add 13 19::aJ 26 Qlb [.t 25]::Qxj
def Qa4z:SC:=.reg [mJ 11 4,cJ 12 .add 11 1,mJ 4 12] [0,3,4]
def Qa40:SC:=.seq (.block 1 (.dreg 16 [0,1,2,3,4,5,8,9,10,11,12,6,10,12,7,13,14,15] ( mJ 13 3::mJ 14 0::mJ 15 4::iJ 16 5 14 15::fJ 17 3 16::lJ 18 17::mJ 21 0::mJ 22 4::iJ 23 5 21 22::fJ 24 4 23::lJ 25 24::aJ 19 Qlb [.t 18]::Qxk) [0,3,4])) Qa4z
def Qazo:SC:=.seq (sR [mJ 7 4,mJ 8 0,nJ 9 8,bJ 10 .lss 7 9] [0,3,4,10] (cT 10 .skip (.exit 0))) Qa40
def Qa41:SC:=sR [mJ 28 3,mJ 2 28] [2] .ret
def Qa42:SC:=.seq (sR [zJ 4 0] [0,3,4] (bL 0 Qazo)) Qa41
def Qa43:SC:=sR [mJ 5 0,nJ 6 5,mJ 3 6] [0,3] Qa42
def Qbf5:SC:=sR [zJ 2 0] [0] Qa43
theorem Qax2:mFn prog Qlb 1 29 Qbf5 Qer=true:=by kernel_rfl
def Qyv:List Item:=[mJ 4 9]
def Qyw:List Item:=[mJ 5 11]
def Qyx:List Item:=[mJ 6 13]
def Qyy:List Item:=[mJ 7 24]
def Qaro:SC:=.reg [mJ 36 0,mJ 37 4,fI 38 (.bsl 1 [.t 37]),mJ 39 6,aJ 40 Qa7 [.t 36,kI 1,kI 0,.t 38,.t 39]] []
def Qarp:SC:=sR [mJ 32 0,fJ 33 3 3,lJ 34 33,aJ 35 Qdd [.t 32,.t 34]] [0,4,6] Qaro
def Qarq:SC:=sR [mJ 25 0,mJ 26 7,mJ 27 5,mJ 28 6,fI 29 (.bsl 1 [.t 27,.t 28]),mJ 30 5,aJ 31 Qa7 [.t 25,kI 2,.t 26,.t 29,.t 30]] [0,3,4,6] Qarp
def Qarr:SC:=sR (mJ 19 0::fJ 20 2 3::lJ 21 20::fI 22 (.iad 4 (.t 21) (kI 0))::tJ 23 4 22::aJ 24 Qc4 [.t 19,.t 23]::Qyy) [0,3,4,5,6,7] Qarq
def Qars:SC:=sR [mJ 14 0,mJ 15 4,fI 16 (.bsl 1 [.t 15]),mJ 17 4,aJ 18 Qa7 [.t 14,kI 1,kI 0,.t 16,.t 17]] [0,3,4,5,6] Qarr
def Qart:SC:=sR (mJ 12 0::aJ 13 Qa1 [.t 12]::Qyx) [0,3,4,5,6] Qars
def Qam2:SC:=sR (mJ 10 0::aJ 11 Qa1 [.t 10]::Qyw) [0,3,4,5] Qart
def Qam3:SC:=sR (mJ 8 0::aJ 9 Qa1 [.t 8]::Qyv) [0,3,4] Qam2
def Qa04:SC:=sR [vJ 3 1] [0,3] Qam3
theorem Qayd:mFn prog Qp4 2 41 Qa04 Qqi=true:=by kernel_rfl
def Qyp:List Item:=[mJ 4 17]
def Qyq:List Item:=hJ 15 14::aJ 17 Qaz [.t 11,kI 1,.t 13,.t 15,.t 16]::Qyp
def Qyr:List Item:=[mJ 4 23]
def Qys:List Item:=[mJ 4 28]
def Qarg:SC:=cT 24 (sR (mJ 26 0::tJ 27 4 3::aJ 28 Qu3 [.t 26,.t 27]::Qys) [4] .ret) .skip
def Qarh:SC:=cT 18 (sR (mJ 20 0::fJ 21 2 3::lJ 22 21::aJ 23 Qmw [.t 20,.t 22]::Qyr) [4] .ret) (sR [cJ 25 .eql 8 10,mJ 24 25] [0,3,24] Qarg)
def Qari:SC:=cT 9 (.seq (.dreg 8 [0,1,3,4,5,2,4,6,7] ( mJ 11 0::mJ 12 0::fJ 14 1 3::lJ 15 14::fI 16 (.bsl 1 [])::aJ 13 Qbd [.t 12]::Qyq) [4]) .ret) (sR [cJ 19 .eql 8 2,mJ 18 19] [0,3,8,18] Qarh)
def Qarj:SC:=.block 0 (sR [cJ 10 .eql 8 1,mJ 9 10] [0,3,8,9] Qari)
def Qyt:List Item:=[mJ 5 46]
def Qyu:List Item:=fI 45 (.bsl 1 [.t 44])::xJ 46 1 37 45::Qyt
def Qamp:SC:=.reg [mJ 35 6,cJ 36 .add 35 1,mJ 6 36] [0,3,5,6]
def Qamq:SC:=.seq (.block 2 (.reg (mJ 37 5::mJ 38 0::fJ 39 3 3::lJ 40 39::mJ 41 6::iJ 42 4 40 41::tJ 43 4 42::aJ 44 Qc4 [.t 38,.t 43]::Qyu) [0,3,5,6])) Qamp
def Qafr:SC:=.seq (sR [mJ 30 6,fJ 31 3 3,lJ 32 31,nJ 33 32,bJ 34 .lss 30 33] [0,3,5,6,34] (cT 34 .skip (.exit 1))) Qamq
def Qsg:List Item:=[mJ 4 55]
def Qsh:List Item:=mJ 54 5::aJ 55 Qaz [.t 51,kI 10,.t 53,kI 0,.t 54]::Qsg
def Qsi:List Item:=[mJ 4 62]
def Qsj:List Item:=mJ 61 5::aJ 62 Qaz [.t 58,kI 11,.t 60,kI 0,.t 61]::Qsi
def Qsk:List Item:=[mJ 4 76]
def Qsl:List Item:=aJ 76 Qaz [.t 65,kI 14,.t 67,.t 74,.t 75]::Qsk
def Qsm:List Item:=.chk 71 none (.ld 1 true (.t 70))::hJ 73 72::aJ 74 Qoa [.t 71,.t 73]::Qsl
def Qamr:SC:=cT 63 (.seq (.dreg 13 [0,1,3,4,5,6,7,8,10,2,6,8,9,11,12] ( mJ 65 0::mJ 66 0::mJ 68 0::kJ 69 68::fJ 70 0 69::tJ 71 1 70::fJ 72 2 3::lJ 73 72::mJ 75 5::aJ 67 Qbd [.t 66]::Qsm) [4]) .ret) .skip
def Qams:SC:=cT 56 (sR (mJ 58 0::mJ 59 0::aJ 60 Qbd [.t 59]::Qsj) [4] .ret) (sR [cJ 64 .eql 48 13,mJ 63 64] [0,3,5,63] Qamr)
def Qamt:SC:=cT 49 (sR (mJ 51 0::mJ 52 0::aJ 53 Qbd [.t 52]::Qsh) [4] .ret) (sR [cJ 57 .eql 48 12,mJ 56 57] [0,3,5,48,56] Qams)
def Qamu:SC:=.block 3 (sR [cJ 50 .eql 48 11,mJ 49 50] [0,3,5,48,49] Qamt)
def Qsn:List Item:=[mJ 4 83]
def Qso:List Item:=hJ 79 78::aJ 83 Qaz [.t 77,.t 79,.t 81,kI 0,.t 82]::Qsn
def Qamv:SC:=.seq (.dreg 8 [0,1,2,3,5,4,2,6,7] ( mJ 77 0::fJ 78 0 3::lJ 79 78::mJ 80 0::mJ 82 5::aJ 81 Qbd [.t 80]::Qso) [4]) .ret
def Qamw:SC:=.seq (.seq (.seq .gh (.reg [fJ 47 0 3,lJ 48 47] [0,3,5,48])) Qamu) Qamv
def Qamx:SC:=.seq (sR [zJ 6 0] [0,3,5,6] (bL 1 Qafr)) Qamw
def Qamy:SC:=sR [fI 29 (.bsl 1 []),mJ 5 29] [0,3,5] Qamx
def Qamz:SC:=.seq (sR [fJ 7 0 3,lJ 8 7] [0,3,8] Qarj) Qamy
def Qa02:SC:=sR [vJ 3 1,zJ 4 0] [0,3] Qamz
theorem Qayb:mFn prog Qc4 2 84 Qa02 Qm6=true:=by kernel_rfl
def Qawm:SC:=cT 25 (sR [mJ 26 0,kJ 27 26,fJ 28 5 27,lJ 29 28,mJ 30 5,iJ 31 3 29 30,fJ 32 1 31,lJ 33 32,mJ 4 33] [4] .ret) .skip
def Qawn:SC:=.reg [mJ 14 5,cJ 15 .sub 14 1,mJ 5 15] [0,1,5]
def Qawo:SC:=.seq (.block 1 (sR [mJ 16 0,kJ 17 16,fJ 18 5 17,lJ 19 18,mJ 20 5,iJ 21 3 19 20,fJ 22 0 21,lJ 23 22,mJ 24 1,bJ 25 .eql 23 24] [0,1,5,25] Qawm)) Qawn
def Qaru:SC:=.seq (sR [mJ 12 5,cJ 13 .geq 12 0] [0,1,5,13] (cT 13 .skip (.exit 0))) Qawo
def Qawp:SC:=sR [zJ 4 (-1)] [4] .ret
def Qawq:SC:=.seq (sR [mJ 6 0,kJ 7 6,fJ 8 5 7,lJ 9 8,nJ 10 9,cJ 11 .sub 10 1,mJ 5 11] [0,1,5] (bL 0 Qaru)) Qawp
def Qa6f:SC:=sR [zJ 4 0] [0,1] Qawq
theorem Qa2w:mFn prog Qmw 2 34 Qa6f Qm6=true:=by kernel_rfl
def Q8d:List Item:=[iJ 10 1 5 9,lJ 11 10,mJ 4 11]
def Qazk:SC:=sR (mJ 5 1::mJ 6 0::mJ 7 1::nJ 8 7::aJ 9 Qx [.t 6,.t 8]::Q8d) [4] .ret
def Qbaf:SC:=sR [fI 4 (.mv (.k (.c (.str []))))] [0,1] Qazk
theorem Qa87:mFn prog Qbl 2 12 Qbaf Qm6=true:=by kernel_rfl
def Q3x:List Item:=[mJ 5 7]
def Q3y:List Item:=[kJ 18 8,fJ 19 2 18,sJ 1 19 17]
def Q3z:List Item:=mJ 15 5::fI 16 (.bsl 1 [.t 15])::xJ 17 1 14 16::Q3y
def Qav4:SC:=sR [mJ 20 5,tJ 21 4 3,fI 22 (.bsl 4 [.t 21]),fI 23 (.bld [.int .i64 0,.str [],.sl true 4 [],.sl true 5 [],.sl true 5 []] [(0,1,kI 1),(1,1,.t 20),(2,1,.t 22)]),sJ 5 4 23] [4] .ret
def Qav5:SC:=sR (mJ 8 0::fI 9 (.bsl 1 [])::mJ 10 0::kJ 11 10::fJ 12 2 11::lJ 13 12::xJ 14 1 9 13::Q3z) [3,4,5] Qav4
def Qav6:SC:=sR (mJ 6 0::aJ 7 Qno [.t 6]::Q3x) [0,3,4,5] Qav5
def Qa44:SC:=sR [vJ 3 1,eI 4 (.alloc [.int .i64 0,.str [],.sl true 4 [],.sl true 5 [],.sl true 5 []])] [0,3,4] Qav6
def Qaid:List RS:=[.cell 4 5 true]
theorem Qa2t:mFn prog Qmv 2 24 Qa44 Qaid=true:=by kernel_rfl
def Qxm:List Item:=[fI 11 (.bld [.int .i64 0,.int .i64 0,.str [],.sl true 4 []] [(0,1,kI 1),(1,1,.t 10)]),fI 12 (.bsl 4 [.t 4,.t 11]),fI 13 (.bld [.int .i64 0,.int .i64 0,.str [],.sl true 4 []] [(0,1,kI 7),(3,1,.t 12)]),sJ 4 2 13]
def Qxn:List Item:=hJ 8 7::aJ 10 Qav [.t 8,.t 9]::Qxm
def Qaql:SC:=.seq (.dreg 12 [0,2,3,4,5,6,1,5,7,8,9,10,11] ( mJ 3 0::mJ 5 0::kJ 6 5::fJ 7 0 6::lJ 8 7::fI 9 (.bsl 1 [kI 16,kI 16,kI 16,kI 8,kI 17,kI 0])::aJ 4 Qbo [.t 3,kI 2]::Qxn) [2]) .ret
def Qazp:SC:=sR [eI 2 (.alloc [.int .i64 0,.int .i64 0,.str [],.sl true 4 []])] [0,2] Qaql
def Qacd:List RS:=[.cell 2 4 true]
theorem Qax3:mFn prog Qkv 1 14 Qazp Qacd=true:=by kernel_rfl
def Qxx:List Item:=[sJ 5 5 17]
def Qxy:List Item:=eI 5 (.alloc [.int .i64 0,.str [],.sl true 4 [],.sl true 5 [],.sl true 5 []])::Qxx
def Qxz:List Item:=fI 16 (.bld [.int .i64 0,.int .i64 0,.str [],.sl true 4 []] [(0,1,kI 1),(1,1,.t 15)])::aJ 17 Qmv [.t 9,.t 16]::Qxy
def Qx0:List Item:=[sJ 4 6 20]
def Qx1:List Item:=[mJ 7 24]
def Qx2:List Item:=[sJ 5 8 32]
def Qx3:List Item:=[.chk 41 none (.ld 5 true (.t 5)),.chk 42 none (.ld 4 true (.t 6)),fI 48 (.bld [.int .i64 0,.str [],.sl true 4 [],.sl true 5 [],.sl true 5 []] [(0,1,kI 6),(2,1,.t 43),(3,1,.t 47)]),fI 49 (.bsl 5 [.t 41,.t 48]),mJ 4 49]
def Qaqn:SC:=.seq (.dreg 10 [0,1,2,3,4,5,6,0,1,7,8,9] ( tJ 41 5 5::tJ 42 4 6::fI 43 (.bsl 4 [.t 42])::mJ 44 7::tJ 45 5 8::fI 46 (.bsl 5 [.t 45])::xJ 47 5 44 46::Qx3) [4]) .ret
def Qaqo:SC:=sR [mJ 33 0,mJ 34 0,kJ 35 34,fJ 36 4 35,lJ 37 36,cJ 38 .sub 37 2,kJ 39 33,fJ 40 4 39,sJ 1 40 38] [5,6,7,8] Qaqn
def Qaqp:SC:=sR (fJ 25 1 5::lJ 26 25::tJ 27 4 6::fI 28 (.bld [.int .i64 0,.int .i64 0,.str [],.sl true 4 []] [(0,1,kI 1),(1,1,kI 1)])::fI 29 (.bsl 4 [.t 27,.t 28])::fI 30 (.bld [.int .i64 0,.int .i64 0,.str [],.sl true 4 []] [(0,1,kI 4),(3,1,.t 29)])::fI 31 (.bsl 4 [.t 30])::fI 32 (.bld [.int .i64 0,.str [],.sl true 4 [],.sl true 5 [],.sl true 5 []] [(0,1,kI 2),(1,1,.t 26),(2,1,.t 31)])::eI 8 (.alloc [.int .i64 0,.str [],.sl true 4 [],.sl true 5 [],.sl true 5 []])::Qx2) [0,5,6,7,8] Qaqo
def Qak2:SC:=sR (mJ 21 0::mJ 22 1::cJ 23 .sub 22 1::aJ 24 Qdc [.t 21,.t 23]::Qx1) [0,5,6,7] Qaqp
def Qak3:SC:=sR (fJ 18 1 5::lJ 19 18::fI 20 (.bld [.int .i64 0,.int .i64 0,.str [],.sl true 4 []] [(0,1,kI 2),(2,1,.t 19)])::eI 6 (.alloc [.int .i64 0,.int .i64 0,.str [],.sl true 4 []])::Qx0) [0,1,5,6] Qak2
def Qak4:SC:=sR (mJ 9 0::mJ 10 0::kJ 11 10::fJ 12 0 11::lJ 13 12::fI 14 (.bsl 1 [kI 2,kI 3,kI 1,kI 0,kI 5])::aJ 15 Qav [.t 13,.t 14]::Qxz) [0,1,5] Qak3
def Qazt:SC:=sR [fI 4 (.mv (.k (.c (.sl true 5 []))))] [0,1] Qak4
theorem Qax5:mFn prog Qp1 2 50 Qazt Qm6=true:=by kernel_rfl
def Qmf:List Item:=[gF 11 8 (.bin 0 .eql (.t 10) (kI 0)),pT 12 8 11]
def Q5s:List Item:=[fI 16 (.bld [.int .i64 0,.int .i64 0,.str [],.sl true 4 []] [(0,1,kI 1),(1,1,.t 15)]),sJ 4 4 16]
def s_l2Leaf_2:SC:=cT 12 (sR (mJ 13 0::fI 14 (.bsl 1 [kI 0,kI 1,kI 2,kI 3,kI 5,kI 7,kI 15,kI 16,kI 100,kI 255])::aJ 15 Qav [.t 13,.t 14]::Q5s) [4] .ret) .skip
def Q5t:List Item:=[fI 20 (.bld [.int .i64 0,.int .i64 0,.str [],.sl true 4 []] [(0,1,kI 2),(2,1,.t 19)]),sJ 4 4 20]
def Qaaz:SC:=sR (mJ 17 0::mJ 18 1::aJ 19 Qbl [.t 17,.t 18]::Q5t) [4] .ret
def Qbae:SC:=.seq (sR (mJ 5 1::nJ 6 5::cJ 7 .eql 6 0::mJ 8 7::gFm 9 8 0::.e (some 10) (some (8,false)) (.call Qx [.t 9,kI 3])::Qmf) [0,1,4,12] s_l2Leaf_2) Qaaz
def Qbj0:SC:=sR [eI 4 (.alloc [.int .i64 0,.int .i64 0,.str [],.sl true 4 []])] [0,1,4] Qbae
theorem Qa7o:mFn prog Qu0 2 21 Qbj0 Qm7=true:=by kernel_rfl
def Qaav:List Item:=[mJ 16 1,bJ 17 .neq 15 16]
def Qbfj:SC:=cT 17 (sR [fB 4 false] [4] .ret) .skip
def Qbfk:SC:=.reg [mJ 10 5,cJ 11 .add 10 1,mJ 5 11] [0,1,5]
def Qbfl:SC:=.seq (.block 1 (sR (mJ 12 0::mJ 13 5::fI 14 (.idx (.t 12) (.t 13))::aJ 15 Qz8 [.t 14]::Qaav) [0,1,5,17] Qbfj)) Qbfk
def Qa9o:SC:=.seq (sR [mJ 6 5,mJ 7 0,fI 8 (.lens (.t 7)),bJ 9 .lss 6 8] [0,1,5,9] (cT 9 .skip (.exit 0))) Qbfl
def Qbfm:SC:=sR [mJ 18 0,fI 19 (.lens (.t 18)),cJ 20 .gtr 19 0,mJ 4 20] [4] .ret
def Qbfn:SC:=.seq (sR [zJ 5 0] [0,1,5] (bL 0 Qa9o)) Qbfm
def Qbnq:SC:=sR [fB 4 false] [0,1] Qbfn
theorem Qbeo:mFn prog Qage 2 21 Qbnq Qm6=true:=by kernel_rfl
def Qaaw:List Item:=[mJ 3 5]
def Qbfp:SC:=cT 17 (sR [fB 2 true] [2] .ret) .skip
def Qbfq:SC:=.reg [mJ 10 4,cJ 11 .add 10 1,mJ 4 11] [0,3,4]
def Qbfr:SC:=.seq (.block 1 (sR [mJ 12 3,mJ 13 4,iJ 14 1 12 13,lJ 15 14,mJ 16 0,bJ 17 .eql 15 16] [0,3,4,17] Qbfp)) Qbfq
def Qa9p:SC:=.seq (sR [mJ 6 4,mJ 7 3,nJ 8 7,bJ 9 .lss 6 8] [0,3,4,9] (cT 9 .skip (.exit 0))) Qbfr
def Qbfs:SC:=sR [fB 2 false] [2] .ret
def Qbft:SC:=.seq (sR [zJ 4 0] [0,3,4] (bL 0 Qa9p)) Qbfs
def Qbfu:SC:=sR (aJ 5 Qhz []::Qaaw) [0,3] Qbft
def Qbnr:SC:=sR [fB 2 false] [0] Qbfu
theorem Qbep:mFn prog Qagf 1 18 Qbnr Qer=true:=by kernel_rfl
def Qe3:List Item:=[.chk 17 (some (15,false)) (.ld 1 false (.t 16)),.chk 18 (some (15,false)) (.len (.t 17)),gF 22 15 (.bin 0 .neq (.t 18) (.t 21)),pT 23 15 22]
def Qmi:List Item:=gF 13 9 (.not (.t 12))::pT 14 9 13::mJ 15 14::gFf 16 15 2 2::gFl 17 15 16::gF 18 15 (.len (.t 17))::gFf 19 15 0 2::gFl 20 15 19::.e (some 21) (some (15,false)) (.call Qaha [.t 20])::Qe3
def s_l3Stmt_2:SC:=cT 23 (sR [fB 4 false] [4] .ret) .skip
def Q5v:List Item:=[fI 36 (.bin 1 .neq (.t 32) (.t 35)),mJ 37 36,gFm 38 37 5,gF 39 37 (.not (.t 38)),gFm 40 37 39,gTf 41 40 1 2,gTl 42 40 41,gT 43 40 (.bin 0 .neq (.t 42) (.k (.c (.str [])))),gF 44 37 (.pick (.t 40) (.t 43) (.k (.c (.bool false)))),pT 45 37 44]
def Qbao:SC:=cT 45 (sR [fB 4 false] [4] .ret) .skip
def Q5w:List Item:=[oJ 59 58]
def Qbap:SC:=cT 59 (sR [fB 4 false] [4] .ret) .skip
def Qbaq:SC:=.reg [mJ 51 6,cJ 52 .add 51 1,mJ 6 52] [1,2,6]
def Qbar:SC:=.seq (.block 1 (sR (fJ 53 2 2::lJ 54 53::mJ 55 6::iJ 56 4 54 55::tJ 57 4 56::aJ 58 Qfq [.t 57]::Q5w) [1,2,6,59] Qbap)) Qbaq
def Qa5k:SC:=.seq (sR [mJ 46 6,fJ 47 2 2,lJ 48 47,nJ 49 48,bJ 50 .lss 46 49] [1,2,6,50] (cT 50 .skip (.exit 0))) Qbar
def Qa5c:SC:=cT 70 (sR [fB 4 false] [4] .ret) .skip
def Qa5d:SC:=cT 95 (sR [fB 4 false] [4] .ret) .skip
def Qiw:List Item:=[pF 107 101 106,mJ 4 107]
def Qyg:List Item:=mJ 101 100::gTf 102 101 4 2::gTl 103 101 102::gTm 104 101 1::gT 105 101 (.bin 0 .sub (.t 104) (kI 1))::.e (some 106) (some (101,true)) (.call Qlc [.t 103,.t 105])::Qiw
def Qa5e:SC:=sR (fJ 96 3 2::lJ 97 96::mJ 98 1::cJ 99 .sub 98 1::aJ 100 Qlc [.t 97,.t 99]::Qyg) [4] .ret
def Qa5f:SC:=.seq (sR [fJ 71 4 2,lJ 72 71,nJ 73 72,cJ 74 .gtr 73 0,mJ 75 74,gTf 76 75 0 2,gTl 77 75 76,gT 78 75 (.bin 0 .neq (.t 77) (kI 5)),pF 79 75 78,mJ 80 79,gFf 81 80 3 2,gFl 82 80 81,gF 83 80 (.len (.t 82)),gF 84 80 (.bin 0 .gtr (.t 83) (kI 0)),gFm 85 80 84,gTf 86 85 0 2,gTl 87 85 86,gT 88 85 (.bin 0 .neq (.t 87) (kI 5)),gF 89 80 (.pick (.t 85) (.t 88) (.k (.c (.bool false)))),gFm 90 80 89,gTf 91 90 0 2,gTl 92 90 91,gT 93 90 (.bin 0 .neq (.t 92) (kI 6)),gF 94 80 (.pick (.t 90) (.t 93) (.k (.c (.bool false)))),pT 95 80 94] [1,2,95] Qa5d) Qa5e
def Qa5g:SC:=.seq (sR [fJ 60 0 2,lJ 61 60,cJ 62 .eql 61 8,mJ 63 62,gTf 64 63 2 2,gTl 65 63 64,gT 66 63 (.iad 4 (.t 65) (kI 0)),gTf 67 63 0 66,gTl 68 63 67,gT 69 63 (.bin 0 .neq (.t 68) (kI 13)),pF 70 63 69] [1,2,70] Qa5c) Qa5f
def Qa5h:SC:=.seq (sR [zJ 6 0] [1,2,6] (bL 0 Qa5k)) Qa5g
def Qa5i:SC:=.seq (sR (mJ 32 5::fJ 33 1 2::lJ 34 33::aJ 35 Qdv [.t 34]::Q5v) [1,2,45] Qbao) Qa5h
def Q5u:SC:=sR [fJ 24 0 2,lJ 25 24,cJ 26 .eql 25 1,mJ 27 26,gFf 28 27 0 2,gFl 29 27 28,gF 30 27 (.bin 0 .eql (.t 29) (kI 2)),pT 31 27 30,mJ 5 31] [1,2,5] Qa5i
def Qa5j:SC:=.seq (.seq (.dreg 17 [0,1,2,3,4,5,6,7,8,9,10,11,12,13,14,10,11,15,16] ( mJ 7 1::cJ 8 .lss 7 1::mJ 9 8::gFf 10 9 0 2::gFl 11 9 10::.e (some 12) (some (9,false)) (.call Qcj [.t 11,kI 1,kI 8])::Qmi) [1,2,23]) s_l3Stmt_2) Q5u
def Qbj9:SC:=sR [vJ 2 0,fB 4 false] [1,2] Qa5j
theorem Qa7p:mFn prog Q62 2 108 Qbj9 Qm6=true:=by kernel_rfl
def Q31:List Item:=[mJ 5 16]
def Q32:List Item:=[mJ 6 21]
def Q33:List Item:=fI 20 (.bsl 1 [])::aJ 21 Qaz [.t 17,kI 1,.t 19,kI 0,.t 20]::Q32
def Q34:List Item:=[mJ 7 23]
def Q35:List Item:=[mJ 8 25]
def Q36:List Item:=[mJ 9 38]
def Q37:List Item:=[mJ 10 44]
def Q38:List Item:=mJ 42 9::fI 43 (.bsl 1 [.t 42])::aJ 44 Qaz [.t 39,kI 10,.t 41,kI 0,.t 43]::Q37
def Qawf:SC:=sR [mJ 55 6,mJ 4 55] [4] .ret
def Qawg:SC:=sR [mJ 50 0,mJ 51 8,fI 52 (.bsl 1 [.t 51]),mJ 53 8,aJ 54 Qa7 [.t 50,kI 1,kI 0,.t 52,.t 53]] [6] Qawf
def Qaq8:SC:=sR [mJ 45 0,mJ 46 6,mJ 47 10,fI 48 (.bsl 1 [.t 47]),aJ 49 Qaz [.t 45,kI 10,.t 46,kI 0,.t 48]] [0,6,8] Qawg
def Qaq9:SC:=sR (mJ 39 0::mJ 40 0::aJ 41 Qbd [.t 40]::Q38) [0,6,8,10] Qaq8
def Qara:SC:=sR (mJ 33 0::fJ 34 3 3::lJ 35 34::fI 36 (.iad 4 (.t 35) (kI 1))::tJ 37 4 36::aJ 38 Qc4 [.t 33,.t 37]::Q36) [0,6,8,9] Qaq9
def Qarb:SC:=sR [mJ 26 0,mJ 27 5,mJ 28 7,mJ 29 8,fI 30 (.bsl 1 [.t 28,.t 29]),mJ 31 7,aJ 32 Qa7 [.t 26,kI 2,.t 27,.t 30,.t 31]] [0,3,6,8] Qara
def Qarc:SC:=sR (mJ 24 0::aJ 25 Qa1 [.t 24]::Q35) [0,3,5,6,7,8] Qarb
def Qard:SC:=sR (mJ 22 0::aJ 23 Qa1 [.t 22]::Q34) [0,3,5,6,7] Qarc
def Qare:SC:=sR (mJ 17 0::mJ 18 0::aJ 19 Qbd [.t 18]::Q33) [0,3,5,6] Qard
def Qarf:SC:=sR (mJ 11 0::fJ 12 3 3::lJ 13 12::fI 14 (.iad 4 (.t 13) (kI 0))::tJ 15 4 14::aJ 16 Qc4 [.t 11,.t 15]::Q31) [0,3,5] Qare
def Qa6d:SC:=sR [vJ 3 1,zJ 4 0] [0,3] Qarf
theorem Qa2u:mFn prog Qu3 2 56 Qa6d Qm6=true:=by kernel_rfl
def Qa6i:SC:=cT 20 (sR [mJ 21 5,mJ 4 21] [4] .ret) .skip
def Qa6j:SC:=.reg [mJ 11 5,cJ 12 .add 11 1,mJ 5 12] [1,2,5]
def Qa6k:SC:=.seq (.block 1 (sR [fJ 13 0 2,lJ 14 13,mJ 15 5,iJ 16 3 14 15,fJ 17 0 16,lJ 18 17,mJ 19 1,bJ 20 .eql 18 19] [1,2,5,20] Qa6i)) Qa6j
def Qa1k:SC:=.seq (sR [mJ 6 5,fJ 7 0 2,lJ 8 7,nJ 9 8,bJ 10 .lss 6 9] [1,2,5,10] (cT 10 .skip (.exit 0))) Qa6k
def Qa6l:SC:=sR [zJ 4 (-1)] [4] .ret
def Qa6m:SC:=.seq (sR [zJ 5 0] [1,2,5] (bL 0 Qa1k)) Qa6l
def Qbg0:SC:=sR [vJ 2 0,zJ 4 0] [1,2] Qa6m
theorem Qbe0:mFn prog Qoa 2 22 Qbg0 Qm6=true:=by kernel_rfl
def Qrw:List Item:=[cJ 16 .eql 15 0,mJ 17 16,gTm 18 17 0,gT 19 17 (.nck (.t 18)),gTf 20 17 2 19,gTl 21 17 20,gT 22 17 (.len (.t 21)),gT 23 17 (.bin 0 .gtr (.t 22) (kI 0)),pF 24 17 23]
def Qrx:List Item:=[mJ 2 33]
def Qaky:SC:=cT 24 (.seq (.dreg 10 [0,1,2,3,4,5,6,7,8,9] ( mJ 25 0::kJ 26 25::fJ 27 0 26::lJ 28 27::mJ 29 0::kJ 30 29::fJ 31 2 30::lJ 32 31::aJ 33 Qbl [.t 28,.t 32]::Qrx) [2]) .ret) .skip
def Qakz:SC:=.seq (.dreg 13 [0,1,2,3,4,5,6,7,8,9,10,11,12] ( mJ 34 0::kJ 35 34::fJ 36 3 35::lJ 37 36::cJ 38 .rem 37 24::mJ 39 0::kJ 40 39::fJ 41 3 40::lJ 42 41::cJ 43 .rem 42 24::cJ 44 .add 43 1::fI 45 (.slis (.k (.c (.str [97,98,99,100,101,103,104,105,106,107,108,109,110,112,113,114,115,116,117,118,119,120,121,122]))) (some (.t 38)) (some (.t 44)))::mJ 2 45::[]) [2]) .ret
def Qak0:SC:=.seq (sR (mJ 11 0::kJ 12 11::fJ 13 0 12::lJ 14 13::aJ 15 Qx [.t 14,kI 9]::Qrw) [0,24] Qaky) Qakz
def Qak1:SC:=sR [mJ 3 0,mJ 4 0,kJ 5 4,fJ 6 3 5,lJ 7 6,cJ 8 .add 7 1,kJ 9 3,fJ 10 3 9,sJ 1 10 8] [0] Qak0
def Qav3:SC:=sR [fI 2 (.mv (.k (.c (.str []))))] [0] Qak1
theorem Qaur:mFn prog Qno 1 46 Qav3 Qer=true:=by kernel_rfl
def Qxi:List Item:=[cJ 20 .geq 19 0,mJ 17 20]
def Qa3g:SC:=cT 21 (sR [zJ 2 4] [2] .ret) .skip
def Qa3h:SC:=cT 17 (sR [zJ 2 3] [2] .ret) (sR [mJ 22 0,fI 23 (.bin 0 .eql (.t 22) (.k (.c (.int .u8 32)))),mJ 24 23,gFm 25 24 0,gF 26 24 (.bin 0 .eql (.t 25) (.k (.c (.int .u8 10)))),pT 27 24 26,mJ 21 27] [21] Qa3g)
def Qa3i:SC:=cT 10 (sR [zJ 2 2] [2] .ret) (sR (mJ 18 0::eI 19 (.call Q85 [.k (.c (.str [40,41,123,125,59,44,43,45,42,47,37,60,61,38,33,64])),.t 18])::Qxi) [0,17] Qa3h)
def Qa3j:SC:=cT 3 (sR [zJ 2 1] [2] .ret) (sR [mJ 11 0,fI 12 (.bin 0 .geq (.t 11) (.k (.c (.int .u8 48)))),mJ 13 12,gTm 14 13 0,gT 15 13 (.bin 0 .leq (.t 14) (.k (.c (.int .u8 57)))),pF 16 13 15,mJ 10 16] [0,10] Qa3i)
def Qa3k:SC:=sR [zJ 2 0] [2] .ret
def Qa3l:SC:=.seq (.block 0 (sR [mJ 4 0,fI 5 (.bin 0 .geq (.t 4) (.k (.c (.int .u8 97)))),mJ 6 5,gTm 7 6 0,gT 8 6 (.bin 0 .leq (.t 7) (.k (.c (.int .u8 122)))),pF 9 6 8,mJ 3 9] [0,3] Qa3j)) Qa3k
def Qbfo:SC:=sR [zJ 2 0] [0] Qa3l
theorem Qax0:mFn prog Qz8 1 28 Qbfo Qer=true:=by kernel_rfl
def Qan1:SC:=sR [fI 1 (.bsl 1 [.k (.c (.str [102,110])),.k (.c (.str [108,101,116])),.k (.c (.str [115,97,121])),.k (.c (.str [112,117,116])),.k (.c (.str [105,102])),.k (.c (.str [101,108,115,101])),.k (.c (.str [108,111,111,112])),.k (.c (.str [98,97,99,107])),.k (.c (.str [100,111]))]),mJ 0 1] [0] .ret
def Qaww:SC:=sR [fI 0 (.mv (.k (.c (.sl true 1 []))))] [] Qan1
def Qql:List RS:=[.tmp 0]
theorem Q7g:mFn prog Qhz 0 2 Qaww Qql=true:=by kernel_rfl
def Qbah:SC:=cT 4 (sR [zJ 2 2] [2] .ret) .skip
def Qbai:SC:=sR [zJ 2 1] [2] .ret
def Qbaj:SC:=.seq (sR [mJ 3 0,cJ 4 .eql 3 4] [4] Qbah) Qbai
def Qbj1:SC:=sR [zJ 2 0] [0] Qbaj
theorem Qbjc:mFn prog Qaha 1 5 Qbj1 Qer=true:=by kernel_rfl
def Qcv:List Item:=[gT 8 5 (.bin 0 .leq (.t 7) (kI 30)),pF 9 5 8,mJ 2 9]
def Qho:List Item:=mJ 5 4::gT 6 5 (.ld 4 true (.t 1))::.e (some 7) (some (5,true)) (.call Q0a [.t 6])::Qcv
def Qaf0:SC:=sR (tJ 3 4 1::aJ 4 Quz [.t 3,kI 6]::Qho) [2] .ret
def Qasa:SC:=sR [vJ 1 0,fB 2 false] [1] Qaf0
theorem Q3c:mFn prog Qfq 1 10 Qasa Qer=true:=by kernel_rfl
def Qa37:SC:=cT 16 (sR [mJ 17 5,mJ 4 17] [4] .ret) .skip
def Qa38:SC:=.reg [mJ 10 5,cJ 11 .add 10 1,mJ 5 11] [0,1,5]
def Qa39:SC:=.seq (.block 1 (sR [mJ 12 0,mJ 13 5,fI 14 (.idx (.t 12) (.t 13)),mJ 15 1,bJ 16 .eql 14 15] [0,1,5,16] Qa37)) Qa38
def Qazj:SC:=.seq (sR [mJ 6 5,mJ 7 0,fI 8 (.lens (.t 7)),bJ 9 .lss 6 8] [0,1,5,9] (cT 9 .skip (.exit 0))) Qa39
def Qa4a:SC:=sR [zJ 4 (-1)] [4] .ret
def Qa4b:SC:=.seq (sR [zJ 5 0] [0,1,5] (bL 0 Qazj)) Qa4a
def Qbfy:SC:=sR [zJ 4 0] [0,1] Qa4b
theorem Qber:mFn prog Q85 2 18 Qbfy Qm6=true:=by kernel_rfl
def Q5p:List Item:=[mJ 9 12,fI 13 (.ext (.t 9) 0),fI 14 (.ext (.t 9) 1),mJ 5 13,mJ 6 14]
def Qe2:List Item:=[gF 30 23 (.not (.t 29)),pT 31 23 30]
def Qmd:List Item:=gF 21 17 (.not (.t 20))::pT 22 17 21::mJ 23 22::gFf 24 23 3 2::gFl 25 23 24::gF 26 23 (.len (.t 25))::gFm 27 23 5::gFm 28 23 6::.e (some 29) (some (23,false)) (.call Qcj [.t 26,.t 27,.t 28])::Qe2
def s_l2Form_3:SC:=cT 31 (sR [fB 4 false] [4] .ret) .skip
def Qme:List Item:=[gF 58 54 (.not (.t 57)),pT 59 54 58,mJ 60 59,gFf 61 60 0 2,gFl 62 60 61,gF 63 60 (.bin 0 .neq (.t 62) (kI 1)),gFm 64 60 63,gTf 65 64 1 2,gTl 66 64 65,gT 67 64 (.bin 0 .neq (.t 66) (kI 0)),gF 68 60 (.pick (.t 64) (.t 67) (.k (.c (.bool false)))),pT 69 60 68]
def Q5q:List Item:=fI 44 (.bin 1 .neq (.t 40) (.t 43))::mJ 45 44::gFm 46 45 7::gF 47 45 (.not (.t 46))::gFm 48 45 47::gTf 49 48 2 2::gTl 50 48 49::gT 51 48 (.bin 0 .neq (.t 50) (.k (.c (.str []))))::gF 52 45 (.pick (.t 48) (.t 51) (.k (.c (.bool false))))::pT 53 45 52::mJ 54 53::gFf 55 54 1 2::gFl 56 54 55::.e (some 57) (some (54,false)) (.call Qcj [.t 56,kI 0,kI 255])::Qme
def s_l2Form_6:SC:=cT 69 (sR [fB 4 false] [4] .ret) .skip
def Q5r:List Item:=[oJ 85 84]
def Qa97:SC:=cT 85 (sR [fB 4 false] [4] .ret) .skip
def Qa98:SC:=.reg [mJ 75 8,cJ 76 .add 75 1,mJ 8 76] [1,2,8]
def Qa3x:SC:=.seq (.block 1 (sR (fJ 77 3 2::lJ 78 77::mJ 79 8::iJ 80 4 78 79::tJ 81 4 80::mJ 82 1::cJ 83 .sub 82 1::aJ 84 Quz [.t 81,.t 83]::Q5r) [1,2,8,85] Qa97)) Qa98
def Qazh:SC:=.seq (sR [mJ 70 8,fJ 71 3 2,lJ 72 71,nJ 73 72,bJ 74 .lss 70 73] [1,2,8,74] (cT 74 .skip (.exit 0))) Qa3x
def Qa3y:SC:=sR [fB 4 true] [4] .ret
def Q5n:SC:=.seq (sR [zJ 8 0] [1,2,8] (bL 0 Qazh)) Qa3y
def Qa3z:SC:=.seq (sR (mJ 40 7::fJ 41 2 2::lJ 42 41::aJ 43 Qdv [.t 42]::Q5q) [1,2,69] s_l2Form_6) Q5n
def Q5o:SC:=sR [fJ 32 0 2,lJ 33 32,cJ 34 .eql 33 2,mJ 35 34,gFf 36 35 0 2,gFl 37 35 36,gF 38 35 (.bin 0 .eql (.t 37) (kI 13)),pT 39 35 38,mJ 7 39] [1,2,7] Qa3z
def Qa30:SC:=.seq (sR (mJ 15 1::cJ 16 .lss 15 1::mJ 17 16::gFf 18 17 0 2::gFl 19 17 18::.e (some 20) (some (17,false)) (.call Qcj [.t 19,kI 1,kI 13])::Qmd) [1,2,31] s_l2Form_3) Q5o
def Qa31:SC:=sR (fJ 10 0 2::lJ 11 10::aJ 12 Q60 [.t 11]::Q5p) [1,2,5,6] Qa30
def Qbjy:SC:=sR [vJ 2 0,fB 4 false] [1,2] Qa31
theorem Qa7m:mFn prog Quz 2 86 Qbjy Qm6=true:=by kernel_rfl
def Qacm:List Item:=[bJ 19 .add 12 18,mJ 3 19]
def Qa32:SC:=.reg [mJ 10 4,cJ 11 .add 10 1,mJ 4 11] [1,3,4]
def Qa33:SC:=.seq (.block 1 (.reg (mJ 12 3::fJ 13 3 1::lJ 14 13::mJ 15 4::iJ 16 4 14 15::tJ 17 4 16::aJ 18 Q0a [.t 17]::Qacm) [1,3,4])) Qa32
def Qazi:SC:=.seq (sR [mJ 5 4,fJ 6 3 1,lJ 7 6,nJ 8 7,bJ 9 .lss 5 8] [1,3,4,9] (cT 9 .skip (.exit 0))) Qa33
def Qa34:SC:=sR [mJ 20 3,mJ 2 20] [2] .ret
def Qa35:SC:=.seq (sR [zJ 4 0] [1,3,4] (bL 0 Qazi)) Qa34
def Qa36:SC:=sR [zJ 3 1] [1,3] Qa35
def Qbfx:SC:=sR [vJ 1 0,zJ 2 0] [1] Qa36
theorem Qbeq:mFn prog Q0a 1 21 Qbfx Qer=true:=by kernel_rfl
def Qa99:SC:=cT 5 .skip (.reg [cJ 7 .eql 4 2,mJ 5 7] [4,5])
def Qbaa:SC:=cT 8 .skip (.reg [cJ 10 .eql 4 12,mJ 8 10] [4,8])
def Qbab:SC:=cT 11 (sR [zJ 2 0,zJ 3 3] [2,3] .ret) .skip
def Qaax:SC:=cT 8 (sR [zJ 2 1,zJ 3 1] [2,3] .ret) (sR [cJ 12 .eql 4 13,mJ 11 12] [11] Qbab)
def Qaay:SC:=cT 5 (sR [zJ 2 0,zJ 3 0] [2,3] .ret) (.seq (sR [cJ 9 .eql 4 11,mJ 8 9] [4,8] Qbaa) Qaax)
def Qbac:SC:=.block 0 (.seq (sR [cJ 6 .eql 4 1,mJ 5 6] [4,5] Qa99) Qaay)
def Qo5:SC:=sR [zJ 2 2,zJ 3 2] [2,3] .ret
def Qbad:SC:=.seq (sR [mJ 4 0] [4] Qbac) Qo5
def Qbjz:SC:=sR [zJ 2 0,zJ 3 0] [0] Qbad
def Qk0:List RS:=[.tmp 2,.tmp 3]
theorem Qa7n:mFn prog Q60 1 13 Qbjz Qk0=true:=by kernel_rfl
def Qa06:SC:=cT 15 (sR [fB 4 true] [4] .ret) .skip
def Qa07:SC:=sR [mJ 13 6,mJ 14 1,bJ 15 .eql 13 14] [1,7,8,9,15] Qa06
def Qa08:SC:=.reg [cJ 16 .add 9 1,mJ 9 16] [1,7,8,9]
def Qa09:SC:=.seq (.block 1 (sR [iJ 11 1 7 9,lJ 12 11,mJ 6 12] [1,6,7,8,9] Qa07)) Qa08
def Qaws:SC:=sR [bJ 10 .lss 9 8] [1,7,8,9,10] (cX 10 0 Qa09)
def Qa1a:SC:=sR [fB 4 false] [4] .ret
def Qa1b:SC:=.seq (sR [mJ 7 0,nJ 8 7,zJ 9 0] [1,7,8,9] (bL 0 Qaws)) Qa1a
def Qbcb:SC:=sR [fB 4 false] [0,1] Qa1b
theorem Qa89:mFn prog Qp6 2 17 Qbcb Qm6=true:=by kernel_rfl
def Qst:List Item:=[cJ 8 .geq 7 0,mJ 4 8]
def Qan0:SC:=sR (mJ 5 0::mJ 6 1::aJ 7 Q4h [.t 5,.t 6]::Qst) [4] .ret
def Qawt:SC:=sR [fB 4 false] [0,1] Qan0
theorem Qauz:mFn prog Qnq 2 9 Qawt Qm6=true:=by kernel_rfl
def Qa4c:SC:=cT 5 (.reg [mJ 6 0,fI 7 (.sli 1 (.t 6) none (some (kI 2000))),mJ 0 7] [0]) .skip
def Qacn:List Item:=[mJ 2 10]
def Qaj6:SC:=sR (mJ 8 0::fI 9 (.bld [.sl true 1 [],.int .i64 0] [(0,1,.t 8)])::eI 10 (.boxm (.t 9))::Qacn) [2] .ret
def Qa4d:SC:=.seq (sR [mJ 3 0,nJ 4 3,cJ 5 .gtr 4 2000] [0,5] Qa4c) Qaj6
def Qbfz:SC:=sR [fI 2 (.mv (.k (.c .pnil)))] [0] Qa4d
theorem Qbes:mFn prog Q86 1 11 Qbfz Qer=true:=by kernel_rfl
def Qa1e:SC:=cT 16 (sR [mJ 17 5,mJ 4 17] [4] .ret) .skip
def Qa1f:SC:=sR [mJ 11 1,mJ 12 0,mJ 13 5,iJ 14 1 12 13,lJ 15 14,bJ 16 .eql 11 15] [0,1,5,7,8,16] Qa1e
def Qa1g:SC:=.reg [cJ 18 .add 8 1,mJ 8 18] [0,1,7,8]
def Qa1h:SC:=.seq (.block 1 (sR [mJ 10 8,mJ 5 10] [0,1,5,7,8] Qa1f)) Qa1g
def Qawu:SC:=sR [bJ 9 .lss 8 7] [0,1,7,8,9] (cX 9 0 Qa1h)
def Qa1i:SC:=sR [zJ 4 (-1)] [4] .ret
def Qa1j:SC:=.seq (sR [mJ 6 0,nJ 7 6,zJ 8 0] [0,1,7,8] (bL 0 Qawu)) Qa1i
def Qbcc:SC:=sR [zJ 4 0] [0,1] Qa1j
theorem Qa9a:mFn prog Q4h 2 19 Qbcc Qm6=true:=by kernel_rfl
def Qvu:List Item:=[oJ 14 13]
def Qaou:SC:=cT 14 (sR [fI 4 (.mv (.k (.c (.sl true 1 []))))] [4] .ret) .skip
def Qvv:List Item:=[mJ 6 20,sJ 5 7 22]
def Qvw:List Item:=[mJ 5 30]
def Qaov:SC:=cT 26 (.reg (mJ 27 5::mJ 28 6::fI 29 (.bsl 1 [.t 28])::xJ 30 1 27 29::Qvw) [1,5,16,17,18]) .skip
def Qaow:SC:=sR [fJ 23 4 7,lJ 24 23,mJ 25 1,aJ 26 Qnq [.t 24,.t 25]] [1,5,6,16,17,18,26] Qaov
def Qaox:SC:=.reg [cJ 31 .add 18 1,mJ 18 31] [1,5,16,17,18]
def Qaoy:SC:=.seq (.block 1 (sR (mJ 20 18::iJ 21 5 16 18::tJ 22 5 21::eI 7 (.alloc [.sl true 2 [],.sl true 4 [],.int .i64 0,.int .i64 0,.sl true 1 []])::Qvv) [1,5,6,7,16,17,18] Qaow)) Qaox
def Qair:SC:=sR [bJ 19 .lss 18 17] [1,5,16,17,18,19] (cX 19 0 Qaoy)
def Qaoz:SC:=sR [mJ 32 5,mJ 4 32] [4] .ret
def Qaio:SC:=.seq (sR [fJ 15 2 2,lJ 16 15,nJ 17 16,zJ 18 0] [1,5,16,17,18] (bL 0 Qair)) Qaoz
def Qaip:SC:=.seq (sR (mJ 8 1::fJ 9 2 2::lJ 10 9::nJ 11 10::cJ 12 .sub 11 1::aJ 13 Qar [.t 8,kI 0,.t 12]::Qvu) [1,2,5,14] Qaou) Qaio
def Qaiq:SC:=sR [fI 5 (.mv (.k (.c (.sl true 1 []))))] [1,2,5] Qaip
def Qayz:SC:=sR [vJ 2 0,fI 4 (.mv (.k (.c (.sl true 1 []))))] [1,2] Qaiq
theorem Qaxt:mFn prog Qku 2 33 Qayz Qm6=true:=by kernel_rfl
def Qkg:List Item:=[cJ 8 .geq 7 0,mJ 4 8]
def Q5z:SC:=sR (mJ 5 0::mJ 6 1::aJ 7 Qlr [.t 5,.t 6]::Qkg) [4] .ret
def Qabk:SC:=sR [fB 4 false] [0,1] Q5z
theorem Q9o:mFn prog Qcf 2 9 Qabk Qm6=true:=by kernel_rfl
def Qadr:List Item:=[aJ 10 Qbx [.t 5,kI 0,.t 6,.t 9]]
def Qa6h:SC:=.reg (mJ 5 0::mJ 6 2::mJ 7 2::fI 8 (.cvt .u64 (.t 7))::aJ 9 Qag7 [.t 8]::Qadr) []
def Qbgz:SC:=sR [mJ 3 0,nJ 4 3,mJ 2 4] [0,2] Qa6h
theorem Qbez:mFn prog Q0d 1 11 Qbgz Qqi=true:=by kernel_rfl
def Qar0:SC:=cT 8 (sR [mJ 9 0,mJ 2 9] [2] .ret) .skip
def Qar1:SC:=.reg [mJ 52 3,cJ 53 .add 52 1,mJ 3 53] [0,3,4,5]
def Qar2:SC:=cT 44 (sR [mJ 45 0,mJ 46 3,mJ 47 4,mJ 48 5,iJ 49 1 47 48,lJ 50 49,iJ 51 1 45 46,sJ 1 51 50] [0,3,4,5] Qar1) .skip
def Qar3:SC:=.reg [mJ 33 5,cJ 34 .add 33 1,mJ 5 34] [0,3,4,5]
def Qar4:SC:=.seq (.block 3 (.seq (.dreg 10 [0,1,2,3,4,5,6,7,8,9] ( mJ 35 4::mJ 36 5::iJ 37 1 35 36::lJ 38 37::mJ 39 4::mJ 40 5::cJ 41 .sub 40 1::iJ 42 1 39 41::lJ 43 42::bJ 44 .neq 38 43::[]) [0,3,4,5,44]) Qar2)) Qar3
def Qanz:SC:=.seq (sR [mJ 29 5,mJ 30 4,nJ 31 30,bJ 32 .lss 29 31] [0,3,4,5,32] (cT 32 .skip (.exit 2))) Qar4
def Qar5:SC:=sR [mJ 57 0,mJ 58 3,fI 59 (.sli 1 (.t 57) none (some (.t 58))),mJ 2 59] [2] .ret
def Qar6:SC:=sR [mJ 54 0,mJ 55 3,fI 56 (.sli 1 (.t 54) (some (.t 55)) none),.e none none (.clrs 1 [.int .i64 0] (.t 56))] [0,3] Qar5
def Qar7:SC:=.seq (sR [zJ 5 1] [0,3,4,5] (bL 2 Qanz)) Qar6
def Qar8:SC:=cT 25 (sR [mJ 26 0,mJ 27 3,fI 28 (.sli 1 (.t 26) (some (.t 27)) none),mJ 4 28] [0,3,4] Qar7) .skip
def Qanu:SC:=.reg [mJ 14 3,cJ 15 .add 14 1,mJ 3 15] [0,3]
def Qanv:SC:=.seq (.block 1 (.seq (.dreg 10 [0,1,2,3,4,5,6,7,8,9] ( mJ 16 0::mJ 17 3::iJ 18 1 16 17::lJ 19 18::mJ 20 0::mJ 21 3::cJ 22 .sub 21 1::iJ 23 1 20 22::lJ 24 23::bJ 25 .eql 19 24::[]) [0,3,25]) Qar8)) Qanu
def Qaft:SC:=.seq (sR [mJ 10 3,mJ 11 0,nJ 12 11,bJ 13 .lss 10 12] [0,3,13] (cT 13 .skip (.exit 0))) Qanv
def Qanw:SC:=sR [mJ 60 0,mJ 2 60] [2] .ret
def Qanx:SC:=.seq (sR [zJ 3 1] [0,3] (bL 0 Qaft)) Qanw
def Qany:SC:=.seq (sR [mJ 6 0,nJ 7 6,cJ 8 .lss 7 2] [0,8] Qar0) Qanx
def Qa1d:SC:=sR [fI 2 (.mv (.k (.c (.sl true 1 []))))] [0] Qany
theorem Qayf:mFn prog Qp7 1 61 Qa1d Qer=true:=by kernel_rfl
def Qavw:SC:=sR [mJ 7 1,mJ 8 0,bJ 9 .leq 7 8,mJ 10 9,gTm 11 10 0,gTm 12 10 2,gT 13 10 (.bin 0 .leq (.t 11) (.t 12)),pF 14 10 13,mJ 6 14] [6] .ret
def Qa3f:SC:=sR [fB 6 false] [0,1,2] Qavw
theorem Qahu:mFn prog Qar 3 15 Qa3f Qblj=true:=by kernel_rfl
def Qafu:SC:=cT 16 (sR [mJ 17 5,mJ 4 17] [4] .ret) .skip
def Qafv:SC:=sR [mJ 11 1,mJ 12 0,mJ 13 5,iJ 14 1 12 13,lJ 15 14,eI 16 (.callv (.t 11) [.t 15])] [0,1,5,7,8,16] Qafu
def Qafw:SC:=.reg [cJ 18 .add 8 1,mJ 8 18] [0,1,7,8]
def Qafx:SC:=.seq (.block 1 (sR [mJ 10 8,mJ 5 10] [0,1,5,7,8] Qafv)) Qafw
def Qabm:SC:=sR [bJ 9 .lss 8 7] [0,1,7,8,9] (cX 9 0 Qafx)
def Qafy:SC:=sR [zJ 4 (-1)] [4] .ret
def Qafz:SC:=.seq (sR [mJ 6 0,nJ 7 6,zJ 8 0] [0,1,7,8] (bL 0 Qabm)) Qafy
def Qar9:SC:=sR [zJ 4 0] [0,1] Qafz
theorem Qaoo:mFn prog Qlr 2 19 Qar9 Qm6=true:=by kernel_rfl
def Qzi:SC:=cT 23 (sR [mJ 24 0,mJ 25 1,mJ 26 2,aJ 27 Qcb [.t 24,.t 25,.t 26]] [] .ret) .skip
def Qzj:SC:=cT 29 (sR [mJ 30 0,mJ 31 1,mJ 32 2,aJ 33 Qu4 [.t 30,.t 31,.t 32]] [] .ret) .skip
def Qzk:SC:=.reg [mJ 40 3,cJ 41 .sub 40 1,mJ 3 41] [0,1,2,3,8,9,10]
def Qzl:SC:=cT 35 (sR [mJ 36 0,mJ 37 1,mJ 38 2,aJ 39 Qmp [.t 36,.t 37,.t 38]] [0,1,2,3,8,9,10] Qzk) .skip
def Quq:List Item:=[mJ 42 46,fI 47 (.ext (.t 42) 0),fI 48 (.ext (.t 42) 1),mJ 11 47,mJ 12 48]
def Qzm:SC:=.reg [zJ 12 1] [0,1,2,3,8,9,10,11,12]
def Qzn:SC:=sR [mJ 55 2,cJ 56 .sub 55 1,mJ 57 11,mJ 58 1,bJ 59 .sub 57 58,bJ 60 .sub 56 59,mJ 11 60] [0,1,2,3,8,9,10,11] Qzm
def Qzo:SC:=cT 50 (sR [mJ 51 0,mJ 52 1,mJ 53 2,aJ 54 Qnr [.t 51,.t 52,.t 53]] [0,1,2,3,8,9,10,11] Qzn) .skip
def Qzp:SC:=cT 68 (sR [mJ 69 0,mJ 70 1,mJ 71 2,aJ 72 Qfo [.t 69,.t 70,.t 71]] [0,1,2,3,8,9,10,11,72] (cT 72 .ret .skip)) .skip
def Qur:List Item:=[gT 86 75 (.not (.t 85)),pF 87 75 86]
def Qq5:List Item:=[mJ 13 92]
def Qt6:SC:=sR [mJ 93 13,mJ 1 93] [0,1,2,3,8,9] (.exit 1)
def Qt7:SC:=cT 87 (sR (mJ 88 0::mJ 89 1::mJ 90 2::mJ 91 11::aJ 92 Qls [.t 88,.t 89,.t 90,.t 91]::Qq5) [0,2,3,8,9,13] Qt6) .skip
def Qq6:List Item:=[mJ 94 99,fI 100 (.ext (.t 94) 0),fI 101 (.ext (.t 94) 1),mJ 14 100,mJ 15 101]
def Qt8:SC:=.reg [mJ 122 14,cJ 123 .add 122 1,mJ 1 123] [0,1,2,3,8,9]
def Qt9:SC:=sR [mJ 117 0,mJ 118 1,mJ 119 14,mJ 120 3,aJ 121 Qbx [.t 117,.t 118,.t 119,.t 120]] [0,2,3,8,9,14] Qt8
def Qua:SC:=.reg [mJ 133 14,mJ 2 133] [0,1,2,3,8,9]
def Qub:SC:=sR [mJ 127 0,mJ 128 14,cJ 129 .add 128 1,mJ 130 2,mJ 131 3,aJ 132 Qbx [.t 127,.t 129,.t 130,.t 131]] [0,1,3,8,9,14] Qua
def Quc:SC:=cT 113 (sR [mJ 114 16,mJ 115 18,bJ 116 .geq 114 115,mJ 8 116] [0,1,2,3,8,9,14] Qt9) (sR [mJ 124 17,mJ 125 18,bJ 126 .geq 124 125,mJ 8 126] [0,1,2,3,8,9,14] Qub)
def Qud:SC:=sR [mJ 111 16,mJ 112 17,bJ 113 .lss 111 112] [0,1,2,3,9,14,16,17,18,113] Quc
def Que:SC:=sR [mJ 109 10,cJ 110 .quo 109 8,mJ 18 110] [0,1,2,3,9,14,16,17,18] Qud
def Quf:SC:=sR [mJ 103 14,mJ 104 1,bJ 105 .sub 103 104,mJ 106 2,mJ 107 14,bJ 108 .sub 106 107,mJ 16 105,mJ 17 108] [0,1,2,3,9,10,14,16,17] Que
def Qug:SC:=sR [mJ 102 15,mJ 9 102] [0,1,2,3,9,10,14] Quf
def Quh:SC:=sR (mJ 95 0::mJ 96 1::mJ 97 2::mJ 98 11::aJ 99 Qsw [.t 95,.t 96,.t 97,.t 98]::Qq6) [0,1,2,3,10,14,15] Qug
def Qui:SC:=.seq (.seq (.dreg 15 [0,1,2,3,4,5,6,7,8,9,10,11,12,13,14] ( mJ 73 1::cJ 74 .gtr 73 0::mJ 75 74::gTm 76 75 0::gTm 77 75 1::gT 78 75 (.bin 0 .sub (.t 77) (kI 1))::gT 79 75 (.iad 1 (.t 76) (.t 78))::gTl 80 75 79::gTm 81 75 0::gTm 82 75 11::gT 83 75 (.iad 1 (.t 81) (.t 82))::gTl 84 75 83::.e (some 85) (some (75,true)) (.call Qag8 [.t 80,.t 84])::Qur) [0,1,2,3,8,9,10,11,87]) Qt7) Quh
def Quj:SC:=.seq (sR [mJ 61 8,mJ 62 61,gTm 63 62 9,pF 64 62 63,mJ 65 64,gTm 66 65 12,gT 67 65 (.bin 0 .eql (.t 66) (kI 1)),pF 68 65 67] [0,1,2,3,8,9,10,11,68] Qzp) Qui
def Quk:SC:=.seq (sR [mJ 49 12,cJ 50 .eql 49 2] [0,1,2,3,8,9,10,11,12,50] Qzo) Quj
def Qul:SC:=sR (mJ 43 0::mJ 44 1::mJ 45 2::aJ 46 Qn9 [.t 43,.t 44,.t 45]::Quq) [0,1,2,3,8,9,10,11,12] Quk
def Qum:SC:=.seq (sR [mJ 34 8,oJ 35 34] [0,1,2,3,8,9,10,35] Qzl) Qul
def Qun:SC:=.seq (sR [mJ 28 3,cJ 29 .eql 28 0] [0,1,2,3,8,9,10,29] Qzj) Qum
def Quo:SC:=.seq (sR [mJ 22 10,cJ 23 .leq 22 12] [0,1,2,3,8,9,10,23] Qzi) Qun
def Qq7:SC:=.block 1 (sR [mJ 19 2,mJ 20 1,bJ 21 .sub 19 20,mJ 10 21] [0,1,2,3,8,9,10] Quo)
def Qup:SC:=sR [fB 9 true] [0,1,2,3,8,9] (bL 0 Qq7)
def Q6d:SC:=sR [fB 8 true] [0,1,2,3,8] Qup
theorem Q4m:mFn prog Qbx 4 134 Q6d Qqi=true:=by kernel_rfl
def Qk4:List Item:=[pF 30 19 29]
def Qk5:List Item:=[iJ 48 1 35 37,sJ 1 48 46]
def Qmj:SC:=.reg [mJ 31 7,cJ 32 .sub 31 1,mJ 7 32] [0,1,2,6,7]
def Qmk:SC:=.seq (.block 3 (.dreg 18 [0,1,2,3,4,5,6,7,8,9,10,11,12,13,14,15,16,17] ( mJ 33 0::mJ 34 7::mJ 35 0::mJ 36 7::cJ 37 .sub 36 1::mJ 38 0::mJ 39 7::cJ 40 .sub 39 1::iJ 41 1 38 40::lJ 42 41::mJ 43 0::mJ 44 7::iJ 45 1 43 44::lJ 46 45::iJ 47 1 33 34::sJ 1 47 42::Qk5) [0,1,2,6,7])) Qmj
def Qk6:SC:=.seq (.seq (.dreg 15 [0,1,2,3,4,5,6,7,8,9,10,11,12,13,14] ( mJ 16 7::mJ 17 1::bJ 18 .gtr 16 17::mJ 19 18::gTm 20 19 0::gTm 21 19 7::gT 22 19 (.iad 1 (.t 20) (.t 21))::gTl 23 19 22::gTm 24 19 0::gTm 25 19 7::gT 26 19 (.bin 0 .sub (.t 25) (kI 1))::gT 27 19 (.iad 1 (.t 24) (.t 26))::gTl 28 19 27::.e (some 29) (some (19,true)) (.call Qag8 [.t 23,.t 28])::Qk4) [0,1,2,6,7,30]) (cT 30 .skip (.exit 2))) Qmk
def Qml:SC:=.reg [mJ 13 6,cJ 14 .add 13 1,mJ 6 14] [0,1,2,6]
def Qmm:SC:=.seq (.block 1 (sR [mJ 15 6,mJ 7 15] [0,1,2,6,7] (bL 2 Qk6))) Qml
def Qk7:SC:=.seq (sR [mJ 10 6,mJ 11 2,bJ 12 .lss 10 11] [0,1,2,6,12] (cT 12 .skip (.exit 0))) Qmm
def Qn5:SC:=sR [mJ 8 1,cJ 9 .add 8 1,mJ 6 9] [0,1,2,6] (bL 0 Qk7)
theorem Qnt:mFn prog Qcb 3 49 Qn5 Qqi=true:=by kernel_rfl
def Qos:List Item:=[oJ 10 9]
def Qad2:SC:=cT 10 (sR [fB 2 false] [2] .ret) .skip
def Qot:List Item:=[mJ 4 16,sJ 3 5 18]
def Qou:List Item:=[oJ 22 21]
def Qad3:SC:=cT 22 (sR [fB 2 false] [2] .ret) .skip
def Qov:List Item:=[bJ 26 .add 23 25,mJ 3 26]
def Qad4:SC:=.reg (mJ 23 3::tJ 24 3 5::aJ 25 Qlm [.t 24]::Qov) [1,3,12,13,14]
def Qad5:SC:=.seq (sR (tJ 19 1 1::mJ 20 4::aJ 21 Qux [.t 19,.t 20]::Qou) [1,3,5,12,13,14,22] Qad3) Qad4
def Qad6:SC:=.reg [cJ 27 .add 14 1,mJ 14 27] [1,3,12,13,14]
def Qad7:SC:=.seq (.block 1 (sR (mJ 16 14::iJ 17 3 12 14::tJ 18 3 17::eI 5 (.alloc [.int .i64 0,.int .i64 0,.sl true 5 []])::Qot) [1,3,4,5,12,13,14] Qad5)) Qad6
def Q7v:SC:=sR [bJ 15 .lss 14 13] [1,3,12,13,14,15] (cX 15 0 Qad7)
def Q97:SC:=sR [mJ 28 3,cJ 29 .leq 28 800,mJ 2 29] [2] .ret
def Q98:SC:=.seq (sR [fJ 11 0 1,lJ 12 11,nJ 13 12,zJ 14 0] [1,3,12,13,14] (bL 0 Q7v)) Q97
def Q99:SC:=sR [zJ 3 0] [1,3] Q98
def Qaaa:SC:=.seq (sR (fJ 6 0 1::lJ 7 6::nJ 8 7::aJ 9 Qar [.t 8,kI 1,kI 4]::Qos) [1,10] Qad2) Q99
def Qao0:SC:=sR [vJ 1 0,fB 2 false] [1] Qaaa
theorem Qaog:mFn prog Qll 1 30 Qao0 Qer=true:=by kernel_rfl
def Qow:List Item:=[sJ 5 5 12]
def Qad9:SC:=.reg [mJ 13 3,fJ 14 0 5,lJ 15 14,nJ 16 15,fJ 17 1 5,lJ 18 17,nJ 19 18,bJ 20 .add 16 19,bJ 21 .add 13 20,mJ 3 21] [3,7,8,9]
def Qaea:SC:=.reg [cJ 22 .add 9 1,mJ 9 22] [3,7,8,9]
def Qaeb:SC:=.seq (.block 1 (sR (iJ 11 5 7 9::tJ 12 5 11::eI 5 (.alloc [.sl true 2 [],.sl true 4 [],.int .i64 0,.int .i64 0,.sl true 1 []])::Qow) [3,5,7,8,9] Qad9)) Qaea
def Qaai:SC:=sR [bJ 10 .lss 9 8] [3,7,8,9,10] (cX 10 0 Qaeb)
def Qaec:SC:=sR [mJ 23 3,mJ 2 23] [2] .ret
def Qaed:SC:=.seq (sR [fJ 6 2 1,lJ 7 6,nJ 8 7,zJ 9 0] [3,7,8,9] (bL 0 Qaai)) Qaec
def Qaee:SC:=sR [zJ 3 0] [1,3] Qaed
def Qao6:SC:=sR [vJ 1 0,zJ 2 0] [1] Qaee
theorem Qaoh:mFn prog Qlm 1 24 Qao6 Qer=true:=by kernel_rfl
def Q3p:List Item:=[sJ 3 5 16]
def Qh2:List Item:=[gF 35 30 (.not (.t 34)),pT 36 30 35]
def Qh3:List Item:=gF 28 21 (.not (.t 27))::pT 29 21 28::mJ 30 29::gFf 31 30 2 5::gFl 32 30 31::gF 33 30 (.len (.t 32))::.e (some 34) (some (30,false)) (.call Qar [.t 33,kI 1,kI 160])::Qh2
def Qn1:List Item:=oJ 20 19::mJ 21 20::gFf 22 21 0 5::gFl 23 21 22::gFf 24 21 1 5::gFl 25 21 24::gF 26 21 (.mn (kI 3) (.t 25))::.e (some 27) (some (21,false)) (.call Qar [.t 23,kI 0,.t 26])::Qh3
def s_im_codeOk_4:SC:=cT 36 (sR [fB 4 false] [4] .ret) .skip
def Q3q:List Item:=[sJ 1 6 37]
def Q3r:List Item:=[mJ 7 43,sJ 5 8 45]
def Qes:List Item:=[gF 69 65 (.not (.t 68)),gFm 70 65 69,gTf 71 70 3 8,gTl 72 70 71,gT 73 70 (.bin 0 .neq (.t 72) (kI 0)),gF 74 65 (.pick (.t 70) (.t 73) (.k (.c (.bool false)))),pT 75 65 74]
def Qet:List Item:=gT 62 57 (.not (.t 61))::gF 63 53 (.pick (.t 57) (.t 62) (.k (.c (.bool false))))::pT 64 53 63::mJ 65 64::gFf 66 65 2 8::gFl 67 65 66::.e (some 68) (some (65,false)) (.call Qmu [.t 67])::Qes
def Qh4:List Item:=gFm 57 53 56::gTl 58 57 6::gTf 59 57 3 8::gTl 60 57 59::.e (some 61) (some (57,true)) (.callv (.t 58) [.t 60])::Qet
def Ql7:List Item:=hJ 47 46::.chk 48 none (.len (.t 47))::bJ 52 .neq 48 51::mJ 53 52::gFf 54 53 2 8::gFl 55 53 54::.e (some 56) (some (53,false)) (.call Qmu [.t 55])::Qh4
def s_im_codeOk_11:SC:=cT 75 (sR [fB 4 false] [4] .ret) .skip
def Ql8:List Item:=[pT 85 80 84]
def Ql9:List Item:=mJ 80 79::gFf 81 80 1 8::gFl 82 80 81::gF 83 80 (.mkf Qlo [.t 2,.t 3])::.e (some 84) (some (80,false)) (.call Qdf [.t 82,.t 83])::Ql8
def s_im_codeOk_14:SC:=cT 85 (sR [fB 4 false] [4] .ret) .skip
def Qwb:List Item:=[nJ 89 88,mJ 9 89]
def Qwc:List Item:=[sJ 2 11 96]
def Qd1:List Item:=[pT 118 113 117]
def Qd2:List Item:=gF 104 99 (.not (.t 103))::pT 105 99 104::mJ 106 105::gFf 107 106 1 11::gFl 108 106 107::gF 109 106 (.len (.t 108))::gFm 110 106 9::gF 111 106 (.bin 0 .neq (.t 109) (.t 110))::pT 112 106 111::mJ 113 112::gFf 114 113 1 11::gFl 115 113 114::gF 116 113 (.mkf Qlp [.t 6])::.e (some 117) (some (113,false)) (.call Qcf [.t 115,.t 116])::Qd1
def Q3l:SC:=cT 118 (sR [fB 4 false] [4] .ret) .skip
def Qao7:SC:=sR (mJ 97 7::cJ 98 .eql 97 0::mJ 99 98::gFl 100 99 6::gFf 101 99 0 11::gFl 102 99 101::.e (some 103) (some (99,false)) (.callv (.t 100) [.t 102])::Qd2) [2,3,5,6,7,9,39,40,41,91,92,93,118] Q3l
def Q3m:SC:=.reg [cJ 119 .add 93 1,mJ 93 119] [2,3,5,6,7,9,39,40,41,91,92,93]
def Qao8:SC:=.seq (.block 3 (sR (iJ 95 2 91 93::tJ 96 2 95::eI 11 (.alloc [.int .i64 0,.sl true 1 []])::Qwc) [2,3,5,6,7,9,11,39,40,41,91,92,93] Qao7)) Q3m
def Qai1:SC:=sR [bJ 94 .lss 93 92] [2,3,5,6,7,9,39,40,41,91,92,93,94] (cX 94 2 Qao8)
def Qao9:SC:=sR [fJ 90 0 8,lJ 91 90,nJ 92 91,zJ 93 0] [2,3,5,6,7,9,39,40,41,91,92,93] (bL 2 Qai1)
def Qn0:SC:=sR (tJ 86 3 5::mJ 87 7::aJ 88 Qku [.t 86,.t 87]::Qwb) [2,3,5,6,7,8,9,39,40,41] Qao9
def Q3n:SC:=.seq (sR (fJ 76 4 8::lJ 77 76::fI 78 (.mkf Qln [.t 5])::aJ 79 Qcf [.t 77,.t 78]::Ql9) [2,3,5,6,7,8,39,40,41,85] s_im_codeOk_14) Qn0
def Qapa:SC:=.seq (.seq (.dreg 30 [0,1,2,3,4,5,1,2,6,7,8,9,10,11,12,13,14,15,16,17,18,19,20,21,22,23,24,25,26,27,28,29] ( fJ 46 4 8::lJ 47 46::nJ 48 47::fJ 49 2 8::lJ 50 49::aJ 51 Qlq [.t 50]::Ql7) [2,3,5,6,7,8,39,40,41,75]) s_im_codeOk_11) Q3n
def Qapb:SC:=.reg [cJ 120 .add 41 1,mJ 41 120] [2,3,5,6,39,40,41]
def Qapc:SC:=.seq (.block 1 (sR (mJ 43 41::iJ 44 5 39 41::tJ 45 5 44::eI 8 (.alloc [.sl true 2 [],.sl true 4 [],.int .i64 0,.int .i64 0,.sl true 1 []])::Q3r) [2,3,5,6,7,8,39,40,41] Qapa)) Qapb
def Qai2:SC:=sR [bJ 42 .lss 41 40] [2,3,5,6,39,40,41,42] (cX 42 0 Qapc)
def Qapd:SC:=sR [fB 4 true] [4] .ret
def Qape:SC:=.seq (sR [fJ 38 2 5,lJ 39 38,nJ 40 39,zJ 41 0] [2,3,5,6,39,40,41] (bL 0 Qai2)) Qapd
def Q3o:SC:=sR (fI 37 (.mkf Qas [.t 5])::eI 6 (.alloc [.fnil])::Q3q) [2,3,5,6] Qape
def Qapf:SC:=.seq (sR (fJ 17 1 5::lJ 18 17::aJ 19 Qar [.t 18,kI 0,kI 300]::Qn1) [2,3,5,36] s_im_codeOk_4) Q3o
def Qapg:SC:=sR (fJ 12 0 2::lJ 13 12::lJ 14 3::iJ 15 3 13 14::tJ 16 3 15::eI 5 (.alloc [.int .i64 0,.int .i64 0,.sl true 5 []])::Q3p) [2,3,5] Qapf
def Qa29:SC:=sR [vJ 2 0,vJ 3 1,fB 4 false] [2,3] Qapg
theorem Qa2p:mFn prog Qux 2 121 Qa29 Qm6=true:=by kernel_rfl
def Qox:List Item:=[mJ 3 8]
def Qaef:SC:=sR (mJ 4 0::fJ 5 1 1::lJ 6 5::cJ 7 .sub 6 1::aJ 8 Qar [.t 4,kI 0,.t 7]::Qox) [3] .ret
def Qaph:SC:=sR [fB 3 false] [0,1] Qaef
def Q3g:List RS:=[.tmp 3]
theorem Qaoi:mFn prog Qas 2 9 Qaph Q3g=true:=by kernel_rfl
def Qoy:List Item:=[oJ 10 9,mJ 3 10]
def Qaeg:SC:=sR (mJ 4 0::fJ 5 2 1::lJ 6 5::nJ 7 6::cJ 8 .sub 7 1::aJ 9 Qar [.t 4,kI 1,.t 8]::Qoy) [3] .ret
def Qapi:SC:=sR [fB 3 false] [0,1] Qaeg
theorem Qaoj:mFn prog Qln 2 11 Qapi Q3g=true:=by kernel_rfl
def Qoz:List Item:=[oJ 9 8,mJ 4 9]
def Qaeh:SC:=sR (tJ 5 1 1::lJ 6 2::tJ 7 4 3::aJ 8 Q4g [.t 5,.t 6,.t 7]::Qoz) [4] .ret
def Qapj:SC:=sR [vJ 3 0,fB 4 false] [1,2,3] Qaeh
theorem Qaok:mFn prog Qlo 3 10 Qapj Qm6=true:=by kernel_rfl
def Qo0:List Item:=[oJ 7 6,mJ 3 7]
def Qaei:SC:=sR (lJ 4 1::mJ 5 0::eI 6 (.callv (.t 4) [.t 5])::Qo0) [3] .ret
def Qapk:SC:=sR [fB 3 false] [0,1] Qaei
theorem Qaol:mFn prog Qlp 2 8 Qapk Q3g=true:=by kernel_rfl
def Qapl:SC:=cT 6 .skip (.reg [cJ 10 .eql 3 13,mJ 6 10] [6])
def Qapm:SC:=cT 6 .skip (sR [cJ 9 .eql 3 11,mJ 6 9] [3,6] Qapl)
def Qapn:SC:=cT 6 .skip (sR [cJ 8 .eql 3 10,mJ 6 8] [3,6] Qapm)
def Q3s:SC:=cT 6 (sR [zJ 2 1] [2] .ret) .skip
def Qapo:SC:=cT 4 (sR [zJ 2 0] [2] .ret) (.seq (sR [cJ 7 .eql 3 2,mJ 6 7] [3,6] Qapn) Q3s)
def Qapp:SC:=.block 0 (sR [cJ 5 .eql 3 1,mJ 4 5] [3,4] Qapo)
def Q3t:SC:=sR [zJ 2 2] [2] .ret
def Qapq:SC:=.seq (sR [mJ 3 0] [3] Qapp) Q3t
def Qay2:SC:=sR [zJ 2 0] [0] Qapq
theorem Qaxw:mFn prog Qpv 1 11 Qay2 Qer=true:=by kernel_rfl
def Q71:List Item:=[sJ 3 7 13]
def Q72:List Item:=[sJ 1 8 14]
def Qqo:List Item:=[pT 24 19 23]
def Q73:List Item:=oJ 18 17::mJ 19 18::gFf 20 19 2 5::gFl 21 19 20::gF 22 19 (.mkf Qnm [.t 8])::.e (some 23) (some (19,false)) (.call Qcf [.t 21,.t 22])::Qqo
def s_im_insOk_4:SC:=cT 24 (sR [fB 6 false] [6] .ret) .skip
def Qk1:List Item:=[gF 39 35 (.not (.t 38)),gFm 40 35 39,gTf 41 40 1 5,gTl 42 40 41,gT 43 40 (.bin 0 .neq (.t 42) (kI (-1))),gF 44 35 (.pick (.t 40) (.t 43) (.k (.c (.bool false)))),pT 45 35 44]
def Qk2:List Item:=gT 33 28 (.not (.t 32))::pF 34 28 33::mJ 35 34::gFf 36 35 0 5::gFl 37 35 36::.e (some 38) (some (35,false)) (.call Qz7 [.t 37])::Qk1
def Qqp:List Item:=mJ 28 27::gTl 29 28 8::gTf 30 28 1 5::gTl 31 28 30::.e (some 32) (some (28,true)) (.callv (.t 29) [.t 31])::Qk2
def s_im_insOk_8:SC:=cT 45 (sR [fB 6 false] [6] .ret) .skip
def Qqq:List Item:=[pF 58 54 57,mJ 6 58]
def Qh5:List Item:=[mJ 66 65,gTf 67 66 2 5,gTl 68 66 67,gT 69 66 (.len (.t 68)),gTf 70 66 0 3,gTl 71 66 70,gTf 72 66 3 5,gTl 73 66 72,gT 74 66 (.iad 3 (.t 71) (.t 73)),gTf 75 66 0 74,gTl 76 66 75,gT 77 66 (.bin 0 .eql (.t 69) (.t 76)),pF 78 66 77,mJ 6 78]
def Qavd:SC:=cT 59 (.seq (.dreg 19 [0,1,2,3,4,5,6,7,8,9,10,11,12,13,14,15,16,17,18] ( fJ 61 3 5::lJ 62 61::mJ 63 1::cJ 64 .sub 63 1::aJ 65 Qar [.t 62,kI 0,.t 64]::Qh5) [6]) .ret) .skip
def Qave:SC:=cT 48 (sR (fJ 50 2 5::lJ 51 50::nJ 52 51::cJ 53 .eql 52 0::mJ 54 53::gTf 55 54 3 5::gTl 56 54 55::.e (some 57) (some (54,true)) (.call Qh8 [.t 56])::Qqq) [6] .ret) (sR [cJ 60 .eql 47 14,mJ 59 60] [1,3,5,59] Qavd)
def Qavf:SC:=.block 0 (sR [cJ 49 .eql 47 1,mJ 48 49] [1,3,5,47,48] Qave)
def Qn2:List Item:=[.chk 84 (some (82,true)) (.ld 1 false (.t 83)),.chk 85 (some (82,true)) (.len (.t 84)),gT 89 82 (.bin 0 .eql (.t 85) (.t 88)),pF 90 82 89,mJ 6 90]
def Qavg:SC:=.seq (.dreg 13 [0,1,2,3,4,5,6,7,8,9,5,6,10,11,12] ( fJ 79 3 5::lJ 80 79::cJ 81 .eql 80 0::mJ 82 81::gTf 83 82 2 5::gTl 84 82 83::gT 85 82 (.len (.t 84))::gTf 86 82 0 5::gTl 87 82 86::.e (some 88) (some (82,true)) (.call Qpv [.t 87])::Qn2) [6]) .ret
def Q7z:SC:=.seq (sR [fJ 46 0 5,lJ 47 46] [1,3,5,47] Qavf) Qavg
def Q70:SC:=.seq (sR (fJ 25 0 5::lJ 26 25::aJ 27 Qz7 [.t 26]::Qqp) [1,3,5,45] s_im_insOk_8) Q7z
def Qavh:SC:=.seq (sR (fJ 15 0 5::lJ 16 15::aJ 17 Qpw [.t 16]::Q73) [1,3,5,8,24] s_im_insOk_4) Q70
def Qavi:SC:=sR (fI 14 (.mkf Qen [.t 7])::eI 8 (.alloc [.fnil])::Q72) [1,3,5,8] Qavh
def Qavj:SC:=sR (fJ 9 0 3::lJ 10 9::mJ 11 1::iJ 12 3 10 11::tJ 13 3 12::eI 7 (.alloc [.int .i64 0,.int .i64 0,.sl true 5 []])::Q71) [1,3,5,7] Qavi
def Qa9k:SC:=sR [vJ 3 0,vJ 5 2,fB 6 false] [1,3,5] Qavj
theorem Qa85:mFn prog Q4g 3 91 Qa9k Qblj=true:=by kernel_rfl
def Qrn:List Item:=[mJ 3 8]
def Qaja:SC:=sR (mJ 4 0::fJ 5 1 1::lJ 6 5::cJ 7 .sub 6 1::aJ 8 Qar [.t 4,kI 0,.t 7]::Qrn) [3] .ret
def Qavk:SC:=sR [fB 3 false] [0,1] Qaja
theorem Qaun:mFn prog Qen 2 9 Qavk Q3g=true:=by kernel_rfl
def Qro:List Item:=[oJ 7 6,mJ 3 7]
def Qajb:SC:=sR (lJ 4 1::mJ 5 0::eI 6 (.callv (.t 4) [.t 5])::Qro) [3] .ret
def Qavl:SC:=sR [fB 3 false] [0,1] Qajb
theorem Qauo:mFn prog Qnm 2 8 Qavl Q3g=true:=by kernel_rfl
def Qn3:List Item:=[mJ 2 4]
def Qavm:SC:=sR (mJ 3 0::aJ 4 Qar [.t 3,kI 0,kI 255]::Qn3) [2] .ret
def Qa3b:SC:=sR [fB 2 false] [0] Qavm
theorem Qahq:mFn prog Qh8 1 5 Qa3b Qer=true:=by kernel_rfl
def Q74:List Item:=[mJ 2 4]
def Qay3:SC:=sR (mJ 3 0::aJ 4 Qar [.t 3,kI 1,kI 14]::Q74) [2] .ret
def Qa9l:SC:=sR [fB 2 false] [0] Qay3
theorem Qa86:mFn prog Qpw 1 5 Qa9l Qer=true:=by kernel_rfl
def Qaew:SC:=cT 8 (sR [zJ 2 0] [2] .ret) .skip
def Qaex:SC:=cT 6 (sR [zJ 2 2] [2] .ret) (sR [cJ 9 .eql 3 3,mJ 8 9] [8] Qaew)
def Qaey:SC:=cT 4 (sR [zJ 2 1] [2] .ret) (sR [cJ 7 .eql 3 2,mJ 6 7] [3,6] Qaex)
def Qaez:SC:=.block 0 (sR [cJ 5 .eql 3 1,mJ 4 5] [3,4] Qaey)
def Qae0:SC:=sR [zJ 2 (-1)] [2] .ret
def Qae1:SC:=.seq (sR [mJ 3 0] [3] Qaez) Qae0
def Qap3:SC:=sR [zJ 2 0] [0] Qae1
theorem Qaom:mFn prog Qlq 1 10 Qap3 Qer=true:=by kernel_rfl
def Qacl:List Item:=[mJ 5 4,gTm 6 5 0,gT 7 5 (.bin 0 .neq (.t 6) (kI 12)),pF 8 5 7,mJ 9 8,gTm 10 9 0,gT 11 9 (.bin 0 .neq (.t 10) (kI 13)),pF 12 9 11,mJ 2 12]
def Qa3c:SC:=sR (mJ 3 0::aJ 4 Qpw [.t 3]::Qacl) [2] .ret
def Qbfi:SC:=sR [fB 2 false] [0] Qa3c
theorem Qben:mFn prog Qz7 1 13 Qbfi Qer=true:=by kernel_rfl
def Qavu:SC:=sR [mJ 3 0,cJ 4 .eql 3 2,mJ 5 4,gFm 6 5 0,gF 7 5 (.bin 0 .eql (.t 6) (kI 3)),pT 8 5 7,mJ 2 8] [2] .ret
def Qa3e:SC:=sR [fB 2 false] [0] Qavu
theorem Qa2r:mFn prog Qmu 1 9 Qa3e Qer=true:=by kernel_rfl
def Qe8:List Item:=[cJ 8 .geq 7 0,mJ 4 8]
def Qqy:SC:=sR (mJ 5 0::mJ 6 1::aJ 7 Qez [.t 5,.t 6]::Qe8) [4] .ret
def Qy9:SC:=sR [fB 4 false] [0,1] Qqy
theorem Qu9:mFn prog Qdf 2 9 Qy9 Qm6=true:=by kernel_rfl
def Q2s:SC:=cT 16 (sR [mJ 17 5,mJ 4 17] [4] .ret) .skip
def Q2t:SC:=sR [mJ 11 1,mJ 12 0,mJ 13 5,iJ 14 4 12 13,tJ 15 4 14,eI 16 (.callv (.t 11) [.t 15])] [0,1,5,7,8,16] Q2s
def Q2u:SC:=.reg [cJ 18 .add 8 1,mJ 8 18] [0,1,7,8]
def Q2v:SC:=.seq (.block 1 (sR [mJ 10 8,mJ 5 10] [0,1,5,7,8] Q2t)) Q2u
def Qza:SC:=sR [bJ 9 .lss 8 7] [0,1,7,8,9] (cX 9 0 Q2v)
def Q2w:SC:=sR [zJ 4 (-1)] [4] .ret
def Q2x:SC:=.seq (sR [mJ 6 0,nJ 7 6,zJ 8 0] [0,1,7,8] (bL 0 Qza)) Q2w
def Q8m:SC:=sR [zJ 4 0] [0,1] Q2x
theorem Q7f:mFn prog Qez 2 19 Q8m Qm6=true:=by kernel_rfl
end Go.AE.Y
namespace Go.AE
variable {P:Program}{H:Heap}{g:G}{w:World}{e:Env}
def Obj.used:Obj→Bool
 |.none=>false
 |_=>true
def Heap.frz (H:Heap)(S:Nat→Bool):Heap:=fun l=>if S l then .none else H l
def G.frz (g:G)(H:Heap)(S:Nat→Bool):G:=
 { g with
  per:=fun b=>g.per b || (match g.own b with
   |some (l,_)=>S l&&(H l).used
   |none=>false)
  own:=fun b=>match g.own b with
   |some (l,p)=>if S l&&(H l).used then none else some (l,p)
   |none=>none }
theorem Qbld (H:Heap)(S:Nat→Bool)(g:G)(w:World):Le g w (g.frz H S) w:=
 ⟨fun b h=>⟨by simp[G.frz,h],rfl⟩,fun _ _ h=>h,Jak _,fun _ _ _ h=>h,rfl,rfl,rfl⟩
theorem Qu6 {S:Nat→Bool}{m:Nat}(hm:¬(S m=true∧(H m).used=true)):Q8x g w (g.frz H S) w m:=by
 intro b q hb;refine⟨?_,rfl⟩;have:¬(S m&&(H m).used)=true:=by simpa using hm
 simp only[G.frz,hb];rw[if_neg this]
theorem Qa6o (hs:Sat H g w)(S:Nat→Bool):Stp H g w (H.frz S) (g.frz H S) w:=by
 have hle:=Qbld H S g w;refine⟨hle,fun m hm hn=>?_,⟨fun b hb=>?_,hs.names,fun b x hb=>?_,fun b m p hb=>?_,fun m=>?_⟩⟩
 ·refine⟨by simp only[Heap.frz,hn];split <;> rfl,?_⟩;exact Qu6 (by rw[hn];simp[Obj.used])
 ·obtain⟨h1,h2⟩:=hs.fresh b hb;simp[G.frz,h1,h2]
 ·have hb':(match g.own b with
   |some (l,p)=>if S l&&(H l).used then none else some (l,p)
   |none=>none)=some x:=hb
  show (g.per b || (match g.own b with
   |some (l,_)=>S l&&(H l).used
   |none=>false))=false
  cases ho:g.own b with
  |none=>rw[ho]at hb';simp at hb'
  |some y=>
   obtain⟨l,p⟩:=y;rw[ho]at hb';simp only at hb'⊢;have:=hs.excl b _ ho;by_cases hx:(S l&&(H l).used)=true
   ·rw[if_pos hx]at hb';simp at hb'
   ·simp[this,hx]
 ·have hb':(match g.own b with
   |some (l,p)=>if S l&&(H l).used then none else some (l,p)
   |none=>none)=some (m,p):=hb
  cases ho:g.own b with
  |none=>rw[ho]at hb';simp at hb'
  |some y=>
   obtain⟨l,q⟩:=y;rw[ho]at hb';simp only at hb';by_cases hx:(S l&&(H l).used)=true
   ·rw[if_pos hx]at hb';simp at hb'
   ·rw[if_neg hx]at hb';simp at hb';obtain⟨rfl,rfl⟩:=hb';exact hs.named b _ _ ho
 ·by_cases hS:S m=true
  ·simp[Heap.frz,hS,SatObj]
  ·have hH':H.frz S m=H m:=by simp[Heap.frz,hS]
   have hk:Q8x g w (g.frz H S) w m:=Qu6 (by simp[hS]);refine SatObj.keep (H':=H.frz S) hs hle hk hH' fun m' v left cur hc v' es hv=>?_;by_cases hS':S m'=true
   ·simp[Heap.frz,hS']at hv
   ·have:H.frz S m'=H m':=(by simp[Heap.frz,hS']);rw[this]at hv;exact .inl ⟨hv,Qu6 (by simp[hS'])⟩
inductive FrzC (H:Heap)(S:Nat→Bool):C→C→Prop
 |same (c:C) (h:c.isOw=false):FrzC H S c c
 |sl (fl:Bool) (sz:Nat) (rows rows':List (List C)) (hl:rows'.length=rows.length) (hr:∀(i:Nat) (r r':List C),rows[i]? = some r→rows'[i]? = some r'→r'.length=r.length)
   (hc:∀(i:Nat) (r r':List C) (j:Nat) (c c':C),rows[i]? = some r→rows'[i]? = some r'→r[j]? = some c→r'[j]? = some c'→FrzC H S c c'):FrzC H S (.sl fl sz rows) (.sl false sz rows')
 |pp (cells cells':List C) (hl:cells'.length=cells.length) (hc:∀(j:Nat) (c c':C),cells[j]? = some c→cells'[j]? = some c'→FrzC H S c c'):FrzC H S (.pp cells) (.pp cells')
 |vsl (l sz st n:Nat) (all rows rows':List (List C)) (hS:S l=true) (hH:H l=.vec sz all) (hb:st+n≤all.length) (hrows:rows=(all.drop st).take n)
   (hl:rows'.length=rows.length) (hr:∀(i:Nat) (r r':List C),rows[i]? = some r→rows'[i]? = some r'→r'.length=r.length)
   (hc:∀(i:Nat) (r r':List C) (j:Nat) (c c':C),rows[i]? = some r→rows'[i]? = some r'→r[j]? = some c→r'[j]? = some c'→FrzC H S c c'):FrzC H S (.vsl l sz st n) (.sl false sz rows')
 |ptr (l k:Nat) (all cells cells':List C) (hS:S l=true) (hH:H l=.st all) (hcells:cells=all.drop k) (hl:cells'.length=cells.length)
   (hc:∀(j:Nat) (c c':C),cells[j]? = some c→cells'[j]? = some c'→FrzC H S c c'):FrzC H S (.ptr l k) (.pp cells')
 |ow (sz:Nat) (rows rows':List (List C)) (hl:rows'.length=rows.length) (hr:∀(i:Nat) (r r':List C),rows[i]? = some r→rows'[i]? = some r'→r'.length=r.length)
   (hc:∀(i:Nat) (r r':List C) (j:Nat) (c c':C),rows[i]? = some r→rows'[i]? = some r'→r[j]? = some c→r'[j]? = some c'→FrzC H S c c'):FrzC H S (.ow sz rows) (.sl false sz rows')
theorem Qad {α:Type}{l l':List α}(h:l'.length=l.length){i:Nat}{x:α}(hx:l'[i]? = some x):∃y,l[i]? = some y:=by
 have:i<l'.length:=(Jo.1 hx).1;exact⟨l[i]'(by omega),Jq (by omega)⟩
theorem Qa2f {S:Nat→Bool}{b l:Nat}{p:List Nat}(ho:g.own b=some (l,p))(hS:S l=true)(hu:(H l).used=true):(g.frz H S).per b=true:=by
 simp[G.frz,ho,hS,hu]
theorem Qa2g (hs:Sat H g w){S:Nat→Bool}{c c':C}(h:FrzC H S c c') :
  (∀v,RepC w g c v→RepC w (g.frz H S) c' v)∧∀l p v,S l=true→(H l).used=true→RepO w g l p c v→RepC w (g.frz H S) c' v:=by
 have hle:=Qbld H S g w
 induction h with
 |same c h=>
  refine⟨fun v hv=>hv.mono hle,fun l p v _ _ hv=>?_⟩;exact (hv.plain_of fun sz rows hc=>by subst hc;simp[C.isOw]at h).mono hle
 |sl fl sz rows rows' hl hr hc ih=>
  have key:∀v,RepC w g (.sl fl sz rows) v→RepC w (g.frz H S) (.sl false sz rows') v:=by
   intro v hv
   cases hv with
   |slnil _ _ ad=>
    have:rows'=[]:=Jl.1 (by simpa using hl);subst this;exact .slnil _ _ _
   |sl _ _ _ b off cap val h1 h2 h3 h4 h5 h6 h7=>
    rw[←hl]at h1 h2 h3⊢;refine .sl false sz rows' b off cap val h1 (by simp) h3 (hle.per b h4).1 (fun i r' hr'=>?_) (fun i r' j c' hr' hc'=>?_) (fun i r' j c' hr' hc'=>?_)
    ·obtain⟨r,hr0⟩:=Qad hl hr';rw[hr i r r' hr0 hr'];exact h5 i r hr0
    ·obtain⟨r,hr0⟩:=Qad hl hr';obtain⟨c,hc0⟩:=Qad (hr i r r' hr0 hr') hc';exact h6 i r j c hr0 hc0
    ·obtain⟨r,hr0⟩:=Qad hl hr';obtain⟨c,hc0⟩:=Qad (hr i r r' hr0 hr') hc';exact (ih i r r' j c c' hr0 hr' hc0 hc').1 _ (h7 i r j c hr0 hc0)
  exact⟨key,fun l p v _ _ hv=>key v (hv.plain_of fun _ _ hc=>by simp at hc)⟩
 |pp cells cells' hl hc ih=>
  have key:∀v,RepC w g (.pp cells) v→RepC w (g.frz H S) (.pp cells') v:=by
   intro v hv
   cases hv with
   |pp _ b off val h1 h2 h3=>
    refine .pp cells' b off val (hle.per b h1).1 (fun j c' hc'=>?_) (fun j c' hc'=>?_)
    ·obtain⟨c,hc0⟩:=Qad hl hc';exact h2 j c hc0
    ·obtain⟨c,hc0⟩:=Qad hl hc';exact (ih j c c' hc0 hc').1 _ (h3 j c hc0)
  exact⟨key,fun l p v _ _ hv=>key v (hv.plain_of fun _ _ hc=>by simp at hc)⟩
 |vsl l sz st n all rows rows' hS hH hb hrows hl hr hc ih=>
  have key:∀v,RepC w g (.vsl l sz st n) v→RepC w (g.frz H S) (.sl false sz rows') v:=by
   intro v hv;have hlen:rows.length=n:=by rw[hrows];simp;omega
   cases hv with
   |vslnil _ _ _ ad=>
    have:rows'=[]:=Jl.1 (by omega);subst this;exact .slnil _ _ _
   |vsl _ _ _ _ cap b base T m h1 h2 h3 h4=>
    have hob:=hs.objs l;rw[hH]at hob;obtain⟨b',base',T',cs,val,r1,r2,r3,r4,r5,r6,r7,r8⟩:=SatVec.of hob h1;rw[h1]at r1;simp only[Jd,Js,true_and]at r1;obtain⟨rfl,rfl⟩:=r1;have hper:=Qa2f (g:=g) (H:=H) r2 hS (by rw[hH];rfl);have hget:∀(i:Nat) (r:List C),rows[i]? = some r→all[st+i]? = some r:=by
     intro i r hi;rw[hrows,Jaf]at hi;split at hi
     ·rw[J5]at hi;exact hi
     ·simp at hi
    have hn:n=rows'.length:=(by omega);rw[hn]at h2⊢;refine .sl false sz rows' b (base+st * sz) cap (fun i j=>val (st+i) j) (by omega) (by simp) h2 hper (fun i r' hr'=>?_) (fun i r' j c' hr' hc'=>?_) (fun i r' j c' hr' hc'=>?_)
    ·obtain⟨r,hr0⟩:=Qad hl hr';rw[hr i r r' hr0 hr'];exact r6 _ r (hget i r hr0)
    ·obtain⟨r,hr0⟩:=Qad hl hr';obtain⟨c,hc0⟩:=Qad (hr i r r' hr0 hr') hc';rw[Qc2 r3,show base+st * sz+i * sz+j=base+(st+i) * sz+j by rw[Jn];omega];exact r7 _ r j c (hget i r hr0) hc0
    ·obtain⟨r,hr0⟩:=Qad hl hr';obtain⟨c,hc0⟩:=Qad (hr i r r' hr0 hr') hc';exact (ih i r r' j c c' hr0 hr' hc0 hc').2 l _ _ hS (by rw[hH];rfl) (r8 _ r j c (hget i r hr0) hc0)
  exact⟨key,fun l p v _ _ hv=>key v (hv.plain_of fun _ _ hc=>by simp at hc)⟩
 |ptr l k all cells cells' hS hH hcells hl hc ih=>
  have key:∀v,RepC w g (.ptr l k) v→RepC w (g.frz H S) (.pp cells') v:=by
   intro v hv
   cases hv with
   |ptr _ _ b sz base h1=>
    have hob:=hs.objs l;rw[hH]at hob;obtain⟨b',sz',T,cs,r1,r2,r3,r4,r5⟩:=hob;rw[h1]at r1;simp only[Jd,Js]at r1;obtain⟨rfl,rfl,rfl⟩:=r1;have hper:=Qa2f (g:=g) (H:=H) r2 hS (by rw[hH];rfl);have hget:∀(j:Nat) (c:C),cells[j]? = some c→all[k+j]? = some c:=by
     intro j c hj;rw[hcells,J5]at hj;exact hj
    have hcs:∀(j:Nat) (c:C),all[j]? = some c→cs[j]? = some (cs.getD j undef):=by
     intro j c hj;have hlt:j<cs.size:=(by rw[r4];exact (Jo.1 hj).1);rw[Jj hlt,Jc,Jj hlt];rfl
    refine .pp cells' b (0+k) (fun j=>cs.getD (k+j) undef) hper (fun j c' hc'=>?_) (fun j c' hc'=>?_)
    ·obtain⟨c,hc0⟩:=Qad hl hc';rw[Qc2 r3,show 0+k+j=k+j by omega];exact hcs _ c (hget j c hc0)
    ·obtain⟨c,hc0⟩:=Qad hl hc';exact (ih j c c' hc0 hc').2 l _ _ hS (by rw[hH];rfl) (r5 _ c _ (hget j c hc0) (hcs _ c (hget j c hc0)))
  exact⟨key,fun l p v _ _ hv=>key v (hv.plain_of fun _ _ hc=>by simp at hc)⟩
 |ow sz rows rows' hl hr hc ih=>
  refine⟨fun v hv=>(by cases hv),fun l p v hS hu hv=>?_⟩
  cases hv with
  |plain _ _ _ h=>cases h
  |ownil _ _ ad=>
   have:rows'=[]:=Jl.1 (by simpa using hl);subst this;exact .slnil _ _ _
  |ow _ _ _ b off cap T cs val h1 h2 h3 h4 h5 h6 h7 h8=>
   have hper:=Qa2f (g:=g) (H:=H) h3 hS hu;rw[←hl]at h1 h2⊢;refine .sl false sz rows' b off cap val h1 (by simp) h2 hper (fun i r' hr'=>?_) (fun i r' j c' hr' hc'=>?_) (fun i r' j c' hr' hc'=>?_)
   ·obtain⟨r,hr0⟩:=Qad hl hr';rw[hr i r r' hr0 hr'];exact h6 i r hr0
   ·obtain⟨r,hr0⟩:=Qad hl hr';obtain⟨c,hc0⟩:=Qad (hr i r r' hr0 hr') hc';rw[Qc2 h4];exact h7 i r j c hr0 hc0
   ·obtain⟨r,hr0⟩:=Qad hl hr';obtain⟨c,hc0⟩:=Qad (hr i r r' hr0 hr') hc';exact (ih i r r' j c c' hr0 hr' hc0 hc').2 l _ _ hS hu (h8 i r j c hr0 hc0)
inductive FrzV (H:Heap)(S:Nat→Bool):V→V→Prop
 |c (a b:C) (h:FrzC H S a b):FrzV H S (.c a) (.c b)
 |ag (cs cs':List C) (hl:cs'.length=cs.length) (h:∀(j:Nat) (c c':C),cs[j]? = some c→cs'[j]? = some c'→FrzC H S c c'):FrzV H S (.ag cs) (.ag cs')
 |tup (xs xs':List V) (hl:xs'.length=xs.length) (h:∀(j:Nat) (x x':V),xs[j]? = some x→xs'[j]? = some x'→FrzV H S x x'):FrzV H S (.tup xs) (.tup xs')
 |unk (x:V):FrzV H S x .unk
theorem Qaua (hs:Sat H g w){S:Nat→Bool}{x x':V}(h:FrzV H S x x'):∀v,RepV w g x v→RepV w (g.frz H S) x' v:=by
 induction h with
 |c a b h=>
  intro v hv;exact .c _ _ ((Qa2g hs h).1 v hv.c_inv)
 |ag cs cs' hl h=>
  intro v hv
  cases hv with
  |ag _ vs h1 h2=>
   refine .ag cs' vs (by omega) fun j c' u hc' hu=>?_;obtain⟨c,hc⟩:=Qad hl hc';exact (Qa2g hs (h j c c' hc hc')).1 u (h2 j c u hc hu)
 |tup xs xs' hl h ih=>
  intro v hv
  cases hv with
  |tup _ vs h1 h2=>
   refine .tup xs' vs (by omega) fun j x' u hx' hu=>?_;obtain⟨x,hx⟩:=Qad hl hx';exact ih j x x' hx hx' u (h2 j x u hx hu)
 |unk x=>exact fun v _=>.unk v
abbrev frzK (K:V→Heap→Prop):V→Heap→Prop
 |.pn v,H'=>∃S,K (.pn v) (H'.frz S)
 |x,H'=>∃S x',FrzV H' S x x'∧K x' (H'.frz S)
theorem Qbh9 {K:V→Heap→Prop}{x:V}{v:Value}(h:frzK K x H)(hr:RepV w g x v):∃S x',FrzV H S x x'∧K x' (H.frz S):=by
 cases hr <;> exact h
theorem Qbcv {f:Nat}{args:List V}{K:V→Heap→Prop}(h:Ql P f args H (frzK K)):Ql P f args H K:=by
 refine⟨h.1,fun g w vs hs hl hv=>?_⟩;refine Calls.mono (h.2 g w vs hs hl hv) ?_;rintro e w' (⟨v,x,H',g',he,hx,hst,hr⟩|⟨v,H',g',he,hx,hst⟩)
 ·obtain⟨S,x',hf,hk⟩:=Qbh9 hx hr;exact .inl ⟨v,x',H'.frz S,g'.frz H' S,he,hk,hst.trans (Qa6o hst.sat S),Qaua hst.sat hf v hr⟩
 ·obtain⟨S,hk⟩:∃S,K (.pn v) (H'.frz S):=hx;exact .inr ⟨v,H'.frz S,g'.frz H' S,he,hk,hst.trans (Qa6o hst.sat S)⟩
theorem Qa8g {f:Nat}{args:List V}{K K':V→Heap→Prop}(h:Ql P f args H K)(hk:∀x H',K x H'→K' x H'):Ql P f args H K':=by
 refine⟨h.1,fun g w vs hs hl hv=>?_⟩;refine Calls.mono (h.2 g w vs hs hl hv) ?_;rintro e w' (⟨v,x,H',g',he,hx,hst,hr⟩|⟨v,H',g',he,hx,hst⟩)
 ·exact .inl ⟨v,x,H',g',he,hk x H' hx,hst,hr⟩
 ·exact .inr ⟨v,H',g',he,hk _ H' hx,hst⟩
def FrzK (H:Heap)(S:Nat→Bool)(c c':C):Prop:=c'=c∨(c.isOw=false∧FrzC H S c c')
inductive FrzO (H:Heap)(S:Nat→Bool):Obj→Obj→Prop
 |same (o:Obj):FrzO H S o o
 |st (cells cells':List C) (hl:cells'.length=cells.length) (h:∀(j:Nat) (c c':C),cells[j]? = some c→cells'[j]? = some c'→FrzK H S c c'):FrzO H S (.st cells) (.st cells')
 |vec (sz:Nat) (rows rows':List (List C)) (hl:rows'.length=rows.length) (hr:∀(i:Nat) (r r':List C),rows[i]? = some r→rows'[i]? = some r'→r'.length=r.length)
   (h:∀(i:Nat) (r r':List C) (j:Nat) (c c':C),rows[i]? = some r→rows'[i]? = some r'→r[j]? = some c→r'[j]? = some c'→FrzK H S c c'):FrzO H S (.vec sz rows) (.vec sz rows')
def FrzH (H:Heap)(S:Nat→Bool)(H':Heap):Prop:=∀m,(S m=true∧H' m=.none)∨(S m=false∧FrzO H S (H m) (H' m))
theorem Q0e (H:Heap)(S:Nat→Bool):FrzH H S (H.frz S):=fun m=>by
 cases h:S m with
 |true=>exact .inl ⟨rfl,by simp[Heap.frz,h]⟩
 |false=>exact .inr ⟨rfl,by simp[Heap.frz,h];exact .same _⟩
theorem FrzH.set {S:Nat→Bool}{H':Heap}(h:FrzH H S H'){l:Nat}{o:Obj}(hl:S l=false)(ho:FrzO H S (H l) o):FrzH H S (H'.set l o):=fun m=>by
 by_cases hm:m=l
 ·subst hm;rw[Heap.set_same];exact .inr ⟨hl,ho⟩
 ·rw[Heap.set_other _ _ hm];exact h m
theorem Qa76 (hs:Sat H g w){S:Nat→Bool}{H':Heap}(h:FrzH H S H'):Stp H g w H' (g.frz H S) w:=by
 have h0:=Qa6o hs S;have hle:=h0.le;have hkk:∀m,S m=false→Q8x g w (g.frz H S) w m:=fun m hm=>Qu6 (by simp[hm]);have hmv:∀(l:Nat) (p:List Nat) (c c':C) (v:Value),S l=false→FrzK H S c c'→RepO w g l p c v→RepO w (g.frz H S) l p c' v:=by
  intro l p c c' v hl hk hr;rcases hk with rfl|⟨h1,h2⟩
  ·exact hr.move hle fun q b hb=>⟨(hkk l hl b _ hb).1,rfl⟩
  ·exact .plain _ _ _ _ ((Qa2g hs h2).1 v (hr.plain_of fun sz rows hc=>by subst hc;simp[C.isOw]at h1))
 refine⟨hle,fun m hm hn=>?_,⟨h0.sat.fresh,h0.sat.names,h0.sat.excl,h0.sat.named,fun m=>?_⟩⟩
 ·refine⟨?_,Qu6 (by rw[hn];simp[Obj.used])⟩;rcases h m with ⟨_,h1⟩|⟨_,h1⟩
  ·exact h1
  ·rw[hn]at h1;generalize H' m=o at h1;cases h1;rfl
 ·rcases h m with ⟨_,h1⟩|⟨hS,h1⟩
  ·rw[h1];exact trivial
  ·have ho:=hs.objs m;generalize hA:H m=A at h1 ho;generalize hB:H' m=B at h1
   cases h1 with
   |same=>
    have:=SatObj.keep (H':=H') hs hle (hkk m hS) (hB.trans hA.symm) fun m' v left cur hc v' es hv=>?_
    ·rw[hB]at this;exact this
    ·rcases h m' with ⟨_,h2⟩|⟨hS',h2⟩
     ·rw[h2]at hv;simp at hv
     ·rw[hv]at h2;generalize hA':H m'=A' at h2;cases h2;exact .inl ⟨rfl,hkk m' hS'⟩
   |st cells cells' hl hc=>
    obtain⟨b,sz,T,cs,r1,r2,r3,r4,r5⟩:=ho;refine⟨b,sz,T,cs,r1,(hkk m hS b _ r2).1,r3,by rw[hl];exact r4,fun k c' v hc' hv=>?_⟩;obtain⟨c,hc0⟩:=Qad hl hc';exact hmv _ _ c c' v hS (hc k c c' hc0 hc') (r5 k c v hc0 hv)
   |vec sz rows rows' hl hr hc=>
    rcases ho with ⟨r1,r2⟩|⟨b,base,T,cs,val,r1,r2,r3,r4,r5,r6,r7,r8⟩
    ·refine .inl ⟨?_,r2⟩;subst r1;exact Jl.1 hl
    ·refine .inr ⟨b,base,T,cs,val,r1,(hkk m hS b _ r2).1,r3,by rw[hl];exact r4,by rw[hl];exact r5,fun i r' hr'=>?_,fun i r' j c' hr' hc'=>?_,fun i r' j c' hr' hc'=>?_⟩
     ·obtain⟨r,hr0⟩:=Qad hl hr';rw[hr i r r' hr0 hr'];exact r6 i r hr0
     ·obtain⟨r,hr0⟩:=Qad hl hr';obtain⟨c,hc0⟩:=Qad (hr i r r' hr0 hr') hc';exact r7 i r j c hr0 hc0
     ·obtain⟨r,hr0⟩:=Qad hl hr';obtain⟨c,hc0⟩:=Qad (hr i r r' hr0 hr') hc';exact hmv _ _ c c' _ hS (hc i r r' j c c' hr0 hr' hc0 hc') (r8 i r j c hr0 hc0)
abbrev finK (K:V→Heap→Prop):V→Heap→Prop
 |.pn v,H'=>K (.pn v) H'
 |x,H'=>∃S x' H2,FrzV H' S x x'∧FrzH H' S H2∧K x' H2
theorem Qbo1 {K:V→Heap→Prop}{x:C}:finK K (.c x) H=∃S x' H2,FrzV H S (.c x) x'∧FrzH H S H2∧K x' H2:=rfl
theorem Qbmk {K:V→Heap→Prop}{x:List C}:finK K (.ag x) H=∃S x' H2,FrzV H S (.ag x) x'∧FrzH H S H2∧K x' H2:=rfl
theorem Qbh6 {K:V→Heap→Prop}{x:List V}:finK K (.tup x) H=∃S x' H2,FrzV H S (.tup x) x'∧FrzH H S H2∧K x' H2:=rfl
theorem Qbml {K:V→Heap→Prop}{v:Value}:finK K (.pn v) H=K (.pn v) H:=rfl
attribute [go_sem] Qbo1 Qbmk Qbh6 Qbml
theorem Qbh7 {K:V→Heap→Prop}{x:V}{v:Value}(h:finK K x H)(hr:RepV w g x v):∃S x' H2,FrzV H S x x'∧FrzH H S H2∧K x' H2:=by
 cases hr <;> exact h
theorem Qagt {f:Nat}{args:List V}{K:V→Heap→Prop}(h:Ql P f args H (finK K)):Ql P f args H K:=by
 refine⟨h.1,fun g w vs hs hl hv=>?_⟩;refine Calls.mono (h.2 g w vs hs hl hv) ?_;rintro e w' (⟨v,x,H',g',he,hx,hst,hr⟩|⟨v,H',g',he,hx,hst⟩)
 ·obtain⟨S,x',H2,hf,hh,hk⟩:=Qbh7 hx hr;exact .inl ⟨v,x',H2,g'.frz H' S,he,hk,hst.trans (Qa76 hst.sat hh),Qaua hst.sat hf v hr⟩
 ·exact .inr ⟨v,H',g',he,hx,hst⟩
theorem Qhc {e e':Env}(S:Nat→Bool){H2:Heap}(h:∀t,FrzV H S (lk t e) (lk t e'))(hh:FrzH H S H2):Qblo e H e' H2:=by
 intro g w tmps hs hr;exact⟨g.frz H S,Qa76 hs hh,fun t=>Qaua hs (h t) _ (hr t)⟩
def un (H:Heap)(m:Nat):Bool:=!(H m).used
theorem Qa6t {m:Nat}(h:H m≠.none):un H m=false:=by
 unfold un;cases hm:H m <;> first|rfl|exact absurd hm h
theorem Qn7 {m:Nat}(h:H m=.none):un H m=true:=by simp[un,h,Obj.used]
theorem Qa68 {H':Heap}{m:Nat}(h:H m≠.none):H'.frz (un H) m=H' m:=by simp[Heap.frz,Qa6t h]
def C.plain:C→Bool
 |.int _ _|.bool _|.str _|.sl _ _ _|.pp _|.pnil|.mnil|.slb _|.stb _|.cm _ _ _|.fnil|.unk=>true
 |_=>false
theorem Qg {S:Nat→Bool}{c:C}(h:c.plain=true):FrzC H S c c:=.same c (by cases c <;> simp_all[C.plain,C.isOw])
theorem Qaub {S:Nat→Bool}{l sz n:Nat}{rows:List (List C)}(hS:S l=true)(hH:H l=.vec sz rows)(hn:n=rows.length)(hr:∀r∈rows,∀c∈r,c.isOw=false):FrzC H S (.vsl l sz 0 n) (.sl false sz rows):=by
 subst hn;refine .vsl l sz 0 rows.length rows rows rows hS hH (by omega) (by simp) rfl (fun i r r' h1 h2=>by rw[h1]at h2;simp at h2;rw[h2]) (fun i r r' j c c' h1 h2 h3 h4=>?_);rw[h1]at h2;simp at h2;subst h2;rw[h3]at h4;simp at h4;subst h4;exact .same _ (hr r (Jb h1) c (Jb h3))
theorem Qbdo {S:Nat→Bool}{fl:Bool}{sz:Nat}{rows:List (List C)}(hr:∀r∈rows,∀c∈r,c.isOw=false):FrzC H S (.sl fl sz rows) (.sl false sz rows):=by
 refine .sl fl sz rows rows rfl (fun i r r' h1 h2=>by rw[h1]at h2;simp at h2;rw[h2]) (fun i r r' j c c' h1 h2 h3 h4=>?_);rw[h1]at h2;simp at h2;subst h2;rw[h3]at h4;simp at h4;subst h4;exact .same _ (hr r (Jb h1) c (Jb h3))
inductive FrzL (H:Heap)(S:Nat→Bool):List C→List C→Prop
 |nil:FrzL H S [] []
 |cons {c c':C} {l l':List C} (h:FrzC H S c c') (t:FrzL H S l l'):FrzL H S (c::l) (c'::l')
theorem FrzL.spec {S:Nat→Bool}{l l':List C}(h:FrzL H S l l'):l'.length=l.length∧∀(j:Nat) (c c':C),l[j]? = some c→l'[j]? = some c'→FrzC H S c c':=by
 induction h with
 |nil=>exact⟨rfl,fun j c c' h=>by simp at h⟩
 |cons h t ih=>
  refine⟨by simp[ih.1],fun j c c' h1 h2=>?_⟩
  cases j with
  |zero=>simp at h1 h2;subst h1;subst h2;exact h
  |succ j=>simp at h1 h2;exact ih.2 j c c' h1 h2
theorem FrzL.ag {S:Nat→Bool}{l l':List C}(h:FrzL H S l l'):FrzV H S (.ag l) (.ag l'):=.ag _ _ h.spec.1 h.spec.2
inductive FrzKL (H:Heap)(S:Nat→Bool):List C→List C→Prop
 |nil:FrzKL H S [] []
 |same {c:C} {l l':List C} (t:FrzKL H S l l'):FrzKL H S (c::l) (c::l')
 |cons {c c':C} {l l':List C} (h:c.isOw=false) (h':FrzC H S c c') (t:FrzKL H S l l'):FrzKL H S (c::l) (c'::l')
theorem FrzKL.st {S:Nat→Bool}{l l':List C}(h:FrzKL H S l l'):FrzO H S (.st l) (.st l'):=by
 have:l'.length=l.length∧∀(j:Nat) (c c':C),l[j]? = some c→l'[j]? = some c'→FrzK H S c c':=by
  induction h with
  |nil=>exact⟨rfl,fun j c c' h=>by simp at h⟩
  |same t ih=>
   refine⟨by simp[ih.1],fun j c c' h1 h2=>?_⟩
   cases j with
   |zero=>simp at h1 h2;subst h1;subst h2;exact .inl rfl
   |succ j=>simp at h1 h2;exact ih.2 j c c' h1 h2
  |cons h h' t ih=>
   refine⟨by simp[ih.1],fun j c c' h1 h2=>?_⟩
   cases j with
   |zero=>simp at h1 h2;subst h1;subst h2;exact .inr ⟨h,h'⟩
   |succ j=>simp at h1 h2;exact ih.2 j c c' h1 h2
 exact .st _ _ this.1 this.2
end Go.AE
namespace Go.AE
variable {P:Program}{H0 H H':Heap}{E L:List (Nat×Obj)}
structure Kn (H0 H:Heap)(E L:List (Nat×Obj)):Prop where
 get:∀p∈E++L,H p.1=p.2∧p.2≠.none
 ext:∀p∈E,H0 p.1≠.none
 loc:∀p∈L,H0 p.1=.none
 dE:(E.map Prod.fst).Nodup
 dL:(L.map Prod.fst).Nodup
 chg:∀m,H0 m≠.none→m∉E.map Prod.fst→H m=H0 m
def Upd (H H':Heap)(U:List (Nat×Obj)):Prop:=(∀p∈U,H' p.1=p.2)∧∀m,H m≠.none→m∉U.map Prod.fst→H' m=H m
theorem Kn.start0 (H:Heap):Kn H H [] []:=⟨by simp,by simp,by simp,by simp,by simp,fun _ _ _=>rfl⟩
theorem Kn.start1 {l:Nat}{o:Obj}(h:H l=o)(ho:o≠.none):Kn H H [(l,o)] []:=
 ⟨by simp[h,ho],by simp[h,ho],by simp,by simp,by simp,fun _ _ _=>rfl⟩
theorem Kn.start2 {l m:Nat}{o q:Obj}(h:H l=o)(ho:o≠.none)(h2:H m=q)(hq:q≠.none)(hn:l≠m):Kn H H [(l,o),(m,q)] []:=
 ⟨by simp[h,ho,h2,hq],by simp[h,ho,h2,hq],by simp,by simp[hn],by simp,fun _ _ _=>rfl⟩
theorem Kn.e (hk:Kn H0 H E L)(i:Nat){l:Nat}{o:Obj}(h:E[i]? = some (l,o)):H l=o:=
 (hk.get (l,o) (Jg _ (Jb h))).1
theorem Kn.l (hk:Kn H0 H E L)(i:Nat){l:Nat}{o:Obj}(h:L[i]? = some (l,o)):H l=o:=
 (hk.get (l,o) (Jh _ (Jb h))).1
theorem Kn.free (hk:Kn H0 H E L)(i:Nat){l:Nat}{o:Obj}(h:L[i]? = some (l,o)):H0 l=.none:=hk.loc (l,o) (Jb h)
theorem Kn.un (hk:Kn H0 H E L)(i:Nat){l:Nat}{o:Obj}(h:L[i]? = some (l,o)):un H0 l=true:=Qn7 (hk.free i h)
theorem Kn.usedE (hk:Kn H0 H E L)(i:Nat){l:Nat}{o:Obj}(h:E[i]? = some (l,o)):H0 l≠.none:=hk.ext (l,o) (Jb h)
theorem Kn.ne (hk:Kn H0 H E L)(i j:Nat){l m:Nat}{o q:Obj}(h:E[i]? = some (l,o))(h2:L[j]? = some (m,q)):l≠m:=fun hh=>by
 subst hh;exact hk.usedE i h (hk.free j h2)
theorem Qb1 {L:List (Nat×Obj)}{p:Nat×Obj}(h:p∈L):p.1∈L.map Prod.fst:=List.mem_map_of_mem h
theorem Qfv {L:List (Nat×Obj)}(hd:(L.map Prod.fst).Nodup){i j:Nat}{p q:Nat×Obj}(hi:L[i]? = some p)(hj:L[j]? = some q)(h:p.1=q.1):i=j:=by
 have h1:(L.map Prod.fst)[i]? = some p.1:=by simp[hi]
 have h2:(L.map Prod.fst)[j]? = some q.1:=by simp[hj]
 have hlt:i<(L.map Prod.fst).length:=(Jo.1 h1).1;exact (List.getElem?_inj hlt hd).1 (by rw[h1,h2,h])
theorem Kn.neL (hk:Kn H0 H E L)(i j:Nat){l m:Nat}{o q:Obj}(h:L[i]? = some (l,o))(h2:L[j]? = some (m,q))(hij:i≠j):l≠m:=fun hh=>
 hij (Qfv hk.dL h h2 hh)
theorem Kn.newFree (hk:Kn H0 H E L){x:Nat}(hx:H x=.none):H0 x=.none∧x∉E.map Prod.fst∧x∉L.map Prod.fst:=by
 have hno:∀p∈E++L,p.1≠x:=fun p hp hh=>by
  obtain⟨h1,h2⟩:=hk.get p hp;rw[hh,hx]at h1;exact h2 h1.symm
 have hE:x∉E.map Prod.fst:=fun h=>by
  obtain⟨p,hp,hh⟩:=Jt.1 h;exact hno p (Jg _ hp) hh
 refine⟨?_,hE,fun h=>?_⟩
 ·cases h0:H0 x with
  |none=>rfl
  |_=>have:=hk.chg x (by rw[h0];simp) hE;rw[hx,h0]at this;simp at this
 ·obtain⟨p,hp,hh⟩:=Jt.1 h;exact hno p (Jh _ hp) hh
theorem Kn.alloc (hk:Kn H0 H E L){x:Nat}{o:Obj}(hx:H x=.none)(ho:o≠.none):Kn H0 (H.set x o) E (L++[(x,o)]):=by
 obtain⟨h1,h2,h3⟩:=hk.newFree hx;refine⟨fun p hp=>?_,hk.ext,fun p hp=>?_,hk.dE,?_,fun m hm hn=>?_⟩
 ·rw[←Jah]at hp;rcases Je.1 hp with hp|hp
  ·have:p.1≠x:=fun hh=>by
    rcases Je.1 hp with hp|hp
    ·exact h2 (hh▸Qb1 hp)
    ·exact h3 (hh▸Qb1 hp)
   rw[Heap.set_other _ _ this];exact hk.get p hp
  ·simp at hp;subst hp;exact⟨Heap.set_same _ _ _,ho⟩
 ·rcases Je.1 hp with hp|hp
  ·exact hk.loc p hp
  ·simp at hp;subst hp;exact h1
 ·rw[List.map_append];refine List.nodup_append.2 ⟨hk.dL,by simp,fun a ha b hb=>?_⟩;simp at hb;subst hb;exact fun hh=>h3 (hh▸ha)
 ·have:m≠x:=fun hh=>by subst hh;exact hm h1
  rw[Heap.set_other _ _ this];exact hk.chg m hm hn
theorem Qc6 {L:List (Nat×Obj)}{i:Nat}{x:Nat}{o o':Obj}(h:L[i]? = some (x,o)):(L.set i (x,o')).map Prod.fst=L.map Prod.fst:=by
 rw[Jap];refine List.ext_getElem? fun j=>?_;rw[J0];split
 ·rename_i hij
  subst hij;have hlt:=(Jo.1 h).1;rw[if_pos (by simpa using hlt)];simp[h]
 ·rfl
theorem Qb3 {α:Type}{L:List α}{i:Nat}{x p:α}(h:p∈L.set i x):p=x∨∃j,j≠i∧L[j]? = some p:=by
 obtain⟨j,hj⟩:=List.getElem?_of_mem h;rw[J0]at hj;split at hj
 ·split at hj
  ·simp at hj;exact .inl hj.symm
  ·simp at hj
 ·rename_i hn;exact .inr ⟨j,fun h=>hn h.symm,hj⟩
theorem Kn.setL (hk:Kn H0 H E L)(i:Nat){x:Nat}{o o':Obj}(h:L[i]? = some (x,o))(ho:o'≠.none):Kn H0 (H.set x o') E (L.set i (x,o')):=by
 have hf:=hk.free i h;refine⟨fun p hp=>?_,hk.ext,fun p hp=>?_,hk.dE,by rw[Qc6 h];exact hk.dL,fun m hm hn=>?_⟩
 ·rcases Je.1 hp with hp|hp
  ·have:p.1≠x:=fun hh=>hk.ext p hp (hh▸hf);rw[Heap.set_other _ _ this];exact hk.get p (Jg _ hp)
  ·rcases Qb3 hp with rfl|⟨j,hj,hp⟩
   ·exact⟨Heap.set_same _ _ _,ho⟩
   ·have:p.1≠x:=fun hh=>hj (Qfv hk.dL hp h hh);rw[Heap.set_other _ _ this];exact hk.get p (Jh _ (Jb hp))
 ·rcases Qb3 hp with rfl|⟨j,hj,hp⟩
  ·exact hf
  ·exact hk.loc p (Jb hp)
 ·have:m≠x:=fun hh=>by subst hh;exact hm hf
  rw[Heap.set_other _ _ this];exact hk.chg m hm hn
theorem Kn.setE (hk:Kn H0 H E L)(i:Nat){x:Nat}{o o':Obj}(h:E[i]? = some (x,o))(ho:o'≠.none):Kn H0 (H.set x o') (E.set i (x,o')) L:=by
 have hf:=hk.usedE i h;refine⟨fun p hp=>?_,fun p hp=>?_,hk.loc,by rw[Qc6 h];exact hk.dE,hk.dL,fun m hm hn=>?_⟩
 ·rcases Je.1 hp with hp|hp
  ·rcases Qb3 hp with rfl|⟨j,hj,hp⟩
   ·exact⟨Heap.set_same _ _ _,ho⟩
   ·have:p.1≠x:=fun hh=>hj (Qfv hk.dE hp h hh);rw[Heap.set_other _ _ this];exact hk.get p (Jg _ (Jb hp))
  ·have:p.1≠x:=fun hh=>hf (hh▸hk.loc p hp);rw[Heap.set_other _ _ this];exact hk.get p (Jh _ hp)
 ·rcases Qb3 hp with rfl|⟨j,hj,hp⟩
  ·exact hf
  ·exact hk.ext p (Jb hp)
 ·rw[Qc6 h]at hn;have:m≠x:=fun hh=>by subst hh;exact hn (Qb1 (p:=(m,o)) (Jb h))
  rw[Heap.set_other _ _ this];exact hk.chg m hm hn
theorem Kn.app (hk:Kn H0 H E L)(i:Nat){y y':Nat}{o o':Obj}(h:L[i]? = some (y,o))(hy:(H.set y .none) y'=.none)(ho:o'≠.none) :
  Kn H0 ((H.set y .none).set y' o') E (L.set i (y',o')):=by
 have hf:=hk.free i h;have hyf:H0 y'=.none∧y'∉E.map Prod.fst∧∀(j:Nat) (p:Nat×Obj),j≠i→L[j]? = some p→p.1≠y':=by
  by_cases hyy:y'=y
  ·subst hyy;refine⟨hf,fun hh=>?_,fun j p hj hp hh=>hj (Qfv hk.dL hp h hh)⟩;obtain⟨p,hp,hh⟩:=Jt.1 hh;exact hk.ext p hp (hh▸hf)
  ·rw[Heap.set_other _ _ hyy]at hy;obtain⟨h1,h2,h3⟩:=hk.newFree hy;exact⟨h1,h2,fun j p hj hp hh=>h3 (hh▸Qb1 (Jb hp))⟩
 obtain⟨h1,h2,h3⟩:=hyf;refine⟨fun p hp=>?_,hk.ext,fun p hp=>?_,hk.dE,?_,fun m hm hn=>?_⟩
 ·rcases Je.1 hp with hp|hp
  ·have a1:p.1≠y:=fun hh=>hk.ext p hp (hh▸hf);have a2:p.1≠y':=fun hh=>hk.ext p hp (hh▸h1);rw[Heap.set_other _ _ a2,Heap.set_other _ _ a1];exact hk.get p (Jg _ hp)
  ·rcases Qb3 hp with rfl|⟨j,hj,hp⟩
   ·exact⟨Heap.set_same _ _ _,ho⟩
   ·have a1:p.1≠y:=fun hh=>hj (Qfv hk.dL hp h hh);rw[Heap.set_other _ _ (h3 j p hj hp),Heap.set_other _ _ a1];exact hk.get p (Jh _ (Jb hp))
 ·rcases Qb3 hp with rfl|⟨j,hj,hp⟩
  ·exact h1
  ·exact hk.loc p (Jb hp)
 ·rw[Jap];refine J6.2 fun a b ha hb hab=>?_;rw[List.length_set,List.length_map]at ha hb;have gl:∀(j:Nat) (hj:j<L.length),j≠i→L[j].1≠y':=fun j hj hji=>h3 j L[j] hji (Jq hj);have hd:=J6.1 hk.dL a b (by simpa using ha) (by simpa using hb) hab;simp only[List.getElem_set,List.getElem_map]at hd⊢;by_cases e1:i=a
  ·subst e1;rw[if_pos rfl,if_neg (by omega)];exact fun hh=>gl b hb (by omega) hh.symm
  ·rw[if_neg e1];by_cases e2:i=b
   ·subst e2;rw[if_pos rfl];exact gl a ha (by omega)
   ·rw[if_neg e2];exact hd
 ·have a1:m≠y:=fun hh=>by subst hh;exact hm hf
  have a2:m≠y':=fun hh=>by subst hh;exact hm h1
  rw[Heap.set_other _ _ a2,Heap.set_other _ _ a1];exact hk.chg m hm hn
theorem Kn.callg (hk:Kn H0 H E L){U E2 L2:List (Nat×Obj)}(hu:Upd H H' U)(hE:E2.map Prod.fst=E.map Prod.fst)(hL:L2.map Prod.fst=L.map Prod.fst)
  (h:∀p∈E2++L2,p.2≠.none∧(p∈U∨(p∈E++L∧p.1∉U.map Prod.fst))) (hU:∀u∈U,u.1∈E.map Prod.fst∨u.1∈L.map Prod.fst):Kn H0 H' E2 L2:=by
 have hin:∀{A B:List (Nat×Obj)} {p:Nat×Obj},B.map Prod.fst=A.map Prod.fst→p∈B→∃q∈A,q.1=p.1:=fun hAB hp=>by
  have:=Qb1 hp;rw[hAB]at this;obtain⟨q,h1,h2⟩:=Jt.1 this;exact⟨q,h1,h2⟩
 refine⟨fun p hp=>?_,fun p hp=>?_,fun p hp=>?_,by rw[hE];exact hk.dE,by rw[hL];exact hk.dL,fun m hm hn=>?_⟩
 ·obtain⟨h1,h2⟩:=h p hp;refine⟨?_,h1⟩;rcases h2 with h2|⟨h2,h3⟩
  ·exact hu.1 p h2
  ·obtain⟨a1,a2⟩:=hk.get p h2;rw[hu.2 p.1 (by rw[a1];exact a2) h3,a1]
 ·obtain⟨q,hq,hh⟩:=hin hE hp;rw[←hh];exact hk.ext q hq
 ·obtain⟨q,hq,hh⟩:=hin hL hp;rw[←hh];exact hk.loc q hq
 ·rw[hE]at hn;have h0:=hk.chg m hm hn;rw[hu.2 m (by rw[h0];exact hm) (fun hh=>?_),h0];obtain⟨u,hu1,hu2⟩:=Jt.1 hh;rcases hU u hu1 with a|a
  ·exact hn (hu2▸a)
  ·obtain⟨q,hq,hh⟩:=Jt.1 a;exact hm (by rw[←hu2,←hh];exact hk.loc q hq)
theorem Kn.call0 (hk:Kn H0 H E L)(hu:Upd H H' []):Kn H0 H' E L:=hk.callg hu rfl rfl (fun p hp=>⟨(hk.get p hp).2,.inr ⟨hp,by simp⟩⟩) (by simp)
theorem Kn.callE (hk:Kn H0 H E L)(i:Nat){l:Nat}{o o':Obj}(h:E[i]? = some (l,o))(hu:Upd H H' [(l,o')])(ho:o'≠.none):Kn H0 H' (E.set i (l,o')) L:=by
 refine hk.callg hu (Qc6 h) rfl (fun p hp=>?_) (fun u hu=>by simp at hu;subst hu;exact .inl (Qb1 (p:=(l,o)) (Jb h)));rcases Je.1 hp with hp|hp
 ·rcases Qb3 hp with rfl|⟨j,hj,hp⟩
  ·exact⟨ho,.inl (by simp)⟩
  ·have hm:=Jg L (Jb hp);exact⟨(hk.get p hm).2,.inr ⟨hm,by simp;exact fun hh=>hj (Qfv hk.dE hp h hh)⟩⟩
 ·have hm:=Jh E hp;exact⟨(hk.get p hm).2,.inr ⟨hm,by simp;exact fun hh=>hk.usedE i h (hh▸hk.loc p hp)⟩⟩
theorem Kn.callL (hk:Kn H0 H E L)(i:Nat){l:Nat}{o o':Obj}(h:L[i]? = some (l,o))(hu:Upd H H' [(l,o')])(ho:o'≠.none):Kn H0 H' E (L.set i (l,o')):=by
 refine hk.callg hu rfl (Qc6 h) (fun p hp=>?_) (fun u hu=>by simp at hu;subst hu;exact .inr (Qb1 (p:=(l,o)) (Jb h)));rcases Je.1 hp with hp|hp
 ·have hm:=Jg L hp;exact⟨(hk.get p hm).2,.inr ⟨hm,by simp;exact fun hh=>hk.ext p hp (hh▸hk.free i h)⟩⟩
 ·rcases Qb3 hp with rfl|⟨j,hj,hp⟩
  ·exact⟨ho,.inl (by simp)⟩
  ·have hm:=Jh E (Jb hp);exact⟨(hk.get p hm).2,.inr ⟨hm,by simp;exact fun hh=>hj (Qfv hk.dL hp h hh)⟩⟩
theorem Kn.callEE (hk:Kn H0 H E L)(i j:Nat){l m:Nat}{o o' q q':Obj}(h:E[i]? = some (l,o))(h2:E[j]? = some (m,q))(hij:i≠j)(hu:Upd H H' [(l,o'),(m,q')])(ho:o'≠.none)(hq:q'≠.none) :
  Kn H0 H' ((E.set i (l,o')).set j (m,q')) L:=by
 have h2':(E.set i (l,o'))[j]? = some (m,q):=by rw[J0];rw[if_neg hij];exact h2
 refine hk.callg hu ((Qc6 h2').trans (Qc6 h)) rfl (fun p hp=>?_) (fun u hu=>?_)
 ·rcases Je.1 hp with hp|hp
  ·rcases Qb3 hp with rfl|⟨b,hb,hp⟩
   ·exact⟨hq,.inl (by simp)⟩
   ·rcases Qb3 (Jb hp)with rfl|⟨c,hc,hp'⟩
    ·exact⟨ho,.inl (by simp)⟩
    ·have hm:=Jg L (Jb hp');rw[J0]at hp;split at hp
     ·rename_i hib
      split at hp
      ·simp at hp;subst hp;exact⟨ho,.inl (by simp)⟩
      ·simp at hp
     ·rename_i hib
      refine⟨(hk.get p hm).2,.inr ⟨hm,?_⟩⟩;simp only[Jr,Jai,Jf,J2,or_false,not_or];exact⟨fun hh=>hib (Qfv hk.dE hp h hh).symm,fun hh=>hb (Qfv hk.dE hp h2 hh)⟩
  ·have hm:=Jh E hp;refine⟨(hk.get p hm).2,.inr ⟨hm,?_⟩⟩;simp only[Jr,Jai,Jf,J2,or_false,not_or];exact⟨fun hh=>hk.usedE i h (hh▸hk.loc p hp),fun hh=>hk.usedE j h2 (hh▸hk.loc p hp)⟩
 ·simp at hu;rcases hu with rfl|rfl
  ·exact .inl (Qb1 (p:=(l,o)) (Jb h))
  ·exact .inl (Qb1 (p:=(m,q)) (Jb h2))
theorem Kn.fin (hk:Kn H0 H E L):Upd H0 (H.frz (Go.AE.un H0)) E:=by
 refine⟨fun p hp=>?_,fun m hm hn=>?_⟩
 ·rw[Qa68 (hk.ext p hp)];exact (hk.get p (Jg _ hp)).1
 ·rw[Qa68 hm];exact hk.chg m hm hn
abbrev unK (H:Heap)(K:V→Heap→Prop):V→Heap→Prop
 |.pn v,H'=>K (.pn v) (H'.frz (un H))
 |x,H'=>∃x',FrzV H' (un H) x x'∧K x' (H'.frz (un H))
theorem Qbrq {K:V→Heap→Prop}{H0:Heap}{x:C}:unK H0 K (.c x) H=∃x',FrzV H (un H0) (.c x) x'∧K x' (H.frz (un H0)):=rfl
theorem Qbqb {K:V→Heap→Prop}{H0:Heap}{x:List C}:unK H0 K (.ag x) H=∃x',FrzV H (un H0) (.ag x) x'∧K x' (H.frz (un H0)):=rfl
theorem Qbn7 {K:V→Heap→Prop}{H0:Heap}{x:List V}:unK H0 K (.tup x) H=∃x',FrzV H (un H0) (.tup x) x'∧K x' (H.frz (un H0)):=rfl
theorem Qbn8 {K:V→Heap→Prop}{H0:Heap}:unK H0 K .unk H=∃x',FrzV H (un H0) .unk x'∧K x' (H.frz (un H0)):=rfl
theorem Qbqc {K:V→Heap→Prop}{H0:Heap}{v:Value}:unK H0 K (.pn v) H=K (.pn v) (H.frz (un H0)):=rfl
attribute [go_sem] Qbrq Qbqb Qbn7 Qbn8 Qbqc
theorem Q0 {f:Nat}{args:List V}{K:V→Heap→Prop}(h:Ql P f args H (unK H K)):Ql P f args H K:=
 Qbcv (Qa8g h fun x H' hx=>by
  cases x with
  |pn v=>exact⟨un H,hx⟩
  |_=>
   obtain⟨x',h1,h2⟩:=hx;exact⟨un H,x',h1,h2⟩)
theorem Kn.al (hk:Kn H0 H E L){x:Nat}{o:Obj}(hx:H x=.none)(h1:H'=H.set x o)(ho:o≠.none:=by nofun):Kn H0 H' E (L++[(x,o)]):=h1▸hk.alloc hx ho
theorem Kn.stL (hk:Kn H0 H E L)(i:Nat){x:Nat}{o o':Obj}(h:L[i]? = some (x,o))(h1:H'=H.set x o')(ho:o'≠.none:=by nofun):Kn H0 H' E (L.set i (x,o')):=h1▸hk.setL i h ho
theorem Kn.stE (hk:Kn H0 H E L)(i:Nat){x:Nat}{o o':Obj}(h:E[i]? = some (x,o))(h1:H'=H.set x o')(ho:o'≠.none:=by nofun):Kn H0 H' (E.set i (x,o')) L:=h1▸hk.setE i h ho
theorem Kn.ap (hk:Kn H0 H E L)(i:Nat){y y':Nat}{o o':Obj}(h:L[i]? = some (y,o))(hy:(H.set y .none) y'=.none)(h1:H'=(H.set y .none).set y' o')(ho:o'≠.none:=by nofun):Kn H0 H' E (L.set i (y',o')):=h1▸hk.app i h hy ho
end Go.AE
namespace Go.AE.Y
theorem Qo {x:Int}(h1:-(2^63)≤x)(h2:x<2^63):inR .i64 x:=by
 unfold inR;have a1:IntKind.min .i64=-(2^63):=by decide
 have a2:IntKind.max .i64=2^63-1:=by decide
 rw[a1,a2];omega
theorem Qa6y (b:UInt8):inR .i64 (b.toNat:Int):=Qo (by omega) (by have:=b.toNat_lt;omega)
def Qci (bs:List UInt8):List (List C):=bs.map fun b=>[.int .u8 b.toNat]
theorem Qb5 (bs:List UInt8):(Qci bs).length=bs.length:=by simp[Qci]
theorem Qab2 (bs:List UInt8)(i:Nat)(h:i<bs.length):(Qci bs).getD i []=[.int .u8 (bs.getD i 0).toNat]:=by
 simp[Qci,Jm,h]
theorem Qbof {a b:Int}(ha:0≤a)(hb:0≤b)(ha':a<2^62)(hb':b<2^62):0≤Qa8j .xor .i64 a b:=by
 obtain⟨m,rfl⟩:=J7 ha;obtain⟨n,rfl⟩:=J7 hb;have hm:m<2^62:=by omega
 have hn:n<2^62:=by omega
 have hx:m ^^^ n<2^62:=Nat.xor_lt_two_pow hm hn;have h1:(BitVec.ofInt (IntKind.bits .i64) (m:Int) ^^^ BitVec.ofInt (IntKind.bits .i64) (n:Int)).toNat=m ^^^ n:=by
  have hb:IntKind.bits .i64=64:=rfl;rw[hb,BitVec.toNat_xor];have e1:(BitVec.ofInt 64 (m:Int)).toNat=m:=by simp;omega
  have e2:(BitVec.ofInt 64 (n:Int)).toNat=n:=by simp;omega
  rw[e1,e2]
 simp only[Qa8j];rw[h1];simp only[IntKind.wrap];have hb:IntKind.bits .i64=64:=rfl;have hm:((m ^^^ n:Nat):Int) % 2 ^ 64=(m ^^^ n:Nat):=Int.emod_eq_of_lt (by omega) (by omega);rw[hb,hm];rw[if_neg]
 ·omega
 ·simp only[Ja,decide_eq_true_eq,not_and];intro _;omega
structure Rdr where
 l:Nat
 fl:Bool
 bs:List UInt8
def Rdr.o (R:Rdr)(k:Nat):Obj:=.st [.sl R.fl 1 (Qci R.bs),.int .i64 k]
theorem Rdr.o_ne (R:Rdr)(k:Nat):R.o k≠.none:=by simp[Rdr.o]
def Qk (ns:List Int):List (List C):=ns.map fun n=>[.int .i64 n]
theorem Qj (ns:List Int):(Qk ns).length=ns.length:=by simp[Qk]
theorem Qak (ns:List Int)(i:Nat)(h:i<ns.length):(Qk ns).getD i []=[.int .i64 (ns.getD i 0)]:=by
 simp[Qk,Jm,h]
theorem Qhd (a b:List Int):Qk (a++b)=Qk a++Qk b:=by simp[Qk]
theorem Qa2i (a:List Int)(n:Int):Qk a++[[.int .i64 n]]=Qk (a++[n]):=by simp[Qk]
theorem Qal (ns:List Int):∀r∈Qk ns,noOw r=true:=by
 intro r hr;simp[Qk]at hr;obtain⟨n,_,rfl⟩:=hr;rfl
def Qab (ss:List (List UInt8)):List (List C):=ss.map fun s=>[.str s]
theorem Qr (ss:List (List UInt8)):(Qab ss).length=ss.length:=by simp[Qab]
theorem Qbv (ss:List (List UInt8))(i:Nat)(h:i<ss.length):(Qab ss).getD i []=[.str (ss.getD i [])]:=by
 simp[Qab,Jm,h]
theorem Qbcf:Qab []=[]:=rfl
theorem Q6t (a:List (List UInt8))(n:List UInt8):Qab a++[[.str n]]=Qab (a++[n]):=by simp[Qab]
theorem Qc7 (ns:List (List UInt8)):∀r∈Qab ns,noOw r=true:=by
 intro r hr;simp[Qab]at hr;obtain⟨n,_,rfl⟩:=hr;rfl
theorem Q7i {rows:List (List C)}(h:∀r∈rows,noOw r=true):∀r∈rows,∀c∈r,c.isOw=false:=fun r hr c hc=>by
 have:=h r hr;simp only[noOw,J1]at this;simpa using this c hc
theorem noOw_app {a b:List (List C)}(ha:∀r∈a,noOw r=true)(hb:∀r∈b,noOw r=true):∀r∈a++b,noOw r=true:=fun r hr=>by
 rcases Je.1 hr with h|h
 ·exact ha r h
 ·exact hb r h
inductive Ex where
 |mk (op n:Int) (name:List UInt8) (kids:List Ex)
def Ex.op:Ex→Int|.mk op _ _ _=>op
def Ex.n:Ex→Int|.mk _ n _ _=>n
def Ex.name:Ex→List UInt8|.mk _ _ s _=>s
def Ex.kids:Ex→List Ex|.mk _ _ _ k=>k
mutual
def Ex.cells:Ex→List C
 |.mk op n name kids=>[.int .i64 op,.int .i64 n,.str name,.sl false 4 (Qy kids)]
def Qy:List Ex→List (List C)
 |[]=>[]
 |x::r=>x.cells::Qy r
end
theorem Ex.cells_eq (x:Ex):x.cells=[.int .i64 x.op,.int .i64 x.n,.str x.name,.sl false 4 (Qy x.kids)]:=by
 cases x;simp[Ex.cells,Ex.op,Ex.n,Ex.name,Ex.kids]
theorem Quw (l:List Ex):Qy l=l.map Ex.cells:=by
 induction l with
 |nil=>simp[Qy]
 |cons x r ih=>simp[Qy,ih]
theorem Qn (l:List Ex):(Qy l).length=l.length:=by simp[Quw]
theorem Qap (l:List Ex)(i:Nat)(h:i<l.length):(Qy l).getD i []=(l[i]'h).cells:=by
 simp[Quw,Jm,h]
theorem Qg7 (a:List Ex)(x:Ex):Qy a++[x.cells]=Qy (a++[x]):=by simp[Quw]
theorem Ex.noOw (x:Ex):Go.AE.noOw x.cells=true:=by rw[x.cells_eq];rfl
theorem Qbs (l:List Ex):∀r∈Qy l,Go.AE.noOw r=true:=by
 intro r hr;rw[Quw]at hr;obtain⟨x,_,rfl⟩:=Jt.1 hr;exact x.noOw
theorem Ex.cells_len (x:Ex):x.cells.length=4:=by rw[x.cells_eq];rfl
mutual
def Ex.size:Ex→Nat
 |.mk _ _ _ kids=>1+Qp kids
def Qp:List Ex→Nat
 |[]=>0
 |x::r=>x.size+Qp r
end
mutual
def Ex.ok:Ex→Prop
 |.mk op _ _ kids=>(op=10→kids.length=2)∧Qcx kids
def Qcx:List Ex→Prop
 |[]=>True
 |x::r=>x.ok∧Qcx r
end
theorem Qn8 {l:List Ex}(h:Qcx l):∀x∈l,x.ok:=by
 induction l with
 |nil=>simp
 |cons y r ih=>
  simp only[Qcx]at h;intro x hx;rcases Jf.1 hx with rfl|hx
  ·exact h.1
  ·exact ih h.2 x hx
theorem Qbdg {a b:List Ex}(ha:Qcx a)(hb:Qcx b):Qcx (a++b):=by
 induction a with
 |nil=>exact hb
 |cons x r ih=>simp only[Qcx]at ha;exact⟨ha.1,ih ha.2⟩
theorem Qey (a b:List Ex):Qp (a++b)=Qp a+Qp b:=by
 induction a with
 |nil=>simp[Qp]
 |cons x r ih=>simp[Qp,ih];omega
theorem Ex.size_pos (x:Ex):1≤x.size:=by cases x;simp[Ex.size]
theorem Qan {l:List Ex}{x:Ex}(h:x∈l):x.size≤Qp l:=by
 induction l with
 |nil=>simp at h
 |cons y r ih=>
  simp only[Qp];rcases Jf.1 h with rfl|h
  ·omega
  ·have:=ih h;omega
theorem Ex.size_kids (x:Ex):x.size=1+Qp x.kids:=by cases x;simp[Ex.size,Ex.kids]
theorem Ex.ok_kids {x:Ex}(h:x.ok):Qcx x.kids:=by cases x;simp only[Ex.ok]at h;exact h.2
theorem Ex.ok_and {x:Ex}(h:x.ok)(h1:x.op=10):x.kids.length=2:=by cases x;simp only[Ex.ok]at h;exact h.1 h1
theorem Ex.frz {H:Heap}{S:Nat→Bool}{fl:Bool}(x:Ex):FrzV H S (.ag [.int .i64 x.op,.int .i64 x.n,.str x.name,.sl fl 4 (Qy x.kids)]) (.ag x.cells):=by
 rw[x.cells_eq];exact (FrzL.cons (Qg rfl) (FrzL.cons (Qg rfl) (FrzL.cons (Qg rfl) (FrzL.cons (Qbdo (Q7i (Qbs _))) FrzL.nil)))).ag
end Go.AE.Y
