/- Part 2 of the proof: the engine, codes, walks and plain laws, each named where it stands. -/
import Derived.Test.YtdlbfkfpogdiiaaGreatDoorZA
import Derived.Test.YtdlbfkfpogdiiaaGreatDoorProg
open Nat (reduceEqDiff reduceAdd reduceLeDiff reduceLT)
set_option linter.unusedVariables false
set_option linter.unusedSimpArgs false
set_option maxRecDepth 4000
open Array renaming getD_eq_getD_getElem?->Jc,getElem?_eq_some_iff->Jj,getElem?_eq_getElem->Jk,getElem?_setIfInBounds_self_of_lt->Jr,getElem?_setIfInBounds_ne->J0
open Bool renaming and_eq_true->Ja,not_eq_true'->J1,or_eq_true->J5,false_and->Jaq
open Iff renaming rfl->Jai
open Int renaming eq_ofNat_of_zero_le->Jv,tmod_lt_of_pos->Jag,tmod_nonneg->Jan
open List renaming mem_of_getElem?->Jb,mem_append->Je,mem_cons->Jf,mem_append_left->Jg,getD_eq_getElem?_getD->Jh,mem_append_right->Ji,getElem?_eq_getElem->Jl,getElem?_eq_none->Jm,length_eq_zero_iff->Jn,mem_singleton->Jo,getElem?_eq_some_iff->Jq,map_cons->Js,mem_map->Ju,map_congr_left->Jw,append_of_mem->Jx,getElem?_set->J2,all_eq_true->J3,not_mem_nil->J4,getElem?_drop->J7,pairwise_iff_getElem->J8,any_eq_true->J9,length_cons->Jaa,length_eq_one_iff->Jab,length_nil->Jac,getElem?_take->Jah,append_assoc->Jaj,map_nil->Jak,countP_cons->Jal,getElem_mem->Jam,mem_range->Jar,take_zero->Jas,map_set->Jat
open Nat renaming add_mul->Jp,mul_le_mul_right->Jy,lt_or_ge->Jz,zero_add->Jad,mul_le_mul_left->Jae,le_refl->Jao,add_zero->Jau,zero_le->Jav
open Ne renaming symm->Jaf
open Option renaming map_some->Jap
open Option.some renaming injEq->Jd,inj->J6
open Prod.mk renaming injEq->Jt
namespace Go.AE
variable {P:Program}{H:Heap}{g:G}{w:World}{e:Env}{a:Act}{o:Oper}{p:Bool}
def Qu1 (z:Value)(sz:Nat)(q:Nat):Value:=z.cells[q % sz]!
theorem Q3o {z:Value}{sz:Nat}(hzs:z.cells.size=sz)(m:Nat):Builtin.zeroCells z.cells m=((List.range (m * sz)).map (Qu1 z sz)).toArray:=by
 subst hzs;apply Array.ext';simp[Builtin.zeroCells,Qu1,Array.toList_range]
theorem Qbk1 {el:TypeId}{i:TypeInfo}{z:Value}{sz:Nat}(hi:P.info? el=some i)(hzero:i.zero=some z)(hzs:z.cells.size=sz)(m:Nat)(w:World) :
  (if m * sz=0 then (pure #[]:Sem (Array Value))else do pure (Builtin.zeroCells (←zeroValue el).cells m)).run P w=.ok ((List.range (m * sz)).map (Qu1 z sz)).toArray w:=by
 split
 ·rename_i h;rw[h];simp
 ·simp[Qic hi hzero,Q3o hzs]
theorem Qad0 {ats:Array TypeId}{ty t t2 el:TypeId}{i:TypeInfo}{z:Value}{sz:Nat}(h0:ats[0]? = some t)(h1:ats[1]? = some t2)(hu:P.underlying t=some (.slice el))(hu2:P.underlying t2=some (.int .i64))
  (hi:P.info? el=some i) (hz:i.size=sz) (hzero:i.zero=some z) (hzs:z.cells.size=sz) (hby:i.bytes≤128) {base:Option Addr} {n cap m:Nat} (hm:m≤LIM) (hroom:n+m≤cap)
  {w':World} (hst:∀x,base=some x→(storeCells (x.add (n * sz)) ((List.range (m * sz)).map (Qu1 z sz))).run P w=.ok () w') (hnone:base=none→w'=w) :
  (Builtin.append_ ats ty #[.slice base n cap,.int .i64 m]).run P w=.ok (.slice base (n+m) cap) w':=by
 rw[Qh9]at hm;have hmul:m * i.bytes≤m * 128:=Jae _ hby;have hw:IntKind.i64.wrap (m:Int)=m:=by simp[IntKind.wrap,IntKind.signed,IntKind.bits];omega
 have hmi:¬(281474976710656<(m:Int) * (i.bytes:Int)):=by
  have:((m * i.bytes:Nat):Int)≤((m * 128:Nat):Int):=by exact_mod_cast hmul
  push_cast at this
  omega
 have hzm:=fun w=>Qbk1 (P:=P) hi hzero hzs m w;simp only[Builtin.append_,h0,h1];simp[Q4 hu,Q4 hu2,Qa8 hi,hz,asInt,asIntOf,hw,Qja hi,hmi,hroom];rw[if_neg (by omega)];split
 ·rename_i h
  rw[h]at hst
  cases base with
  |none=>simp[hnone rfl]
  |some x=>have:=hst x rfl;simp at this;simp[this]
 ·simp only[Qic hi hzero,Result.andThen,Q3o hzs]
  cases base with
  |none=>simp[hnone rfl]
  |some x=>simp[hst x rfl]
theorem Qawl {ats:Array TypeId}{ty t t2 el:TypeId}{i:TypeInfo}{z:Value}{sz:Nat}(h0:ats[0]? = some t)(h1:ats[1]? = some t2)(hu:P.underlying t=some (.slice el))(hu2:P.underlying t2=some (.int .i64))
  (hi:P.info? el=some i) (hz:i.size=sz) (hzero:i.zero=some z) (hzs:z.cells.size=sz) (hby:i.bytes≤128) (hby0:i.bytes≠0) {base:Option Addr} {n cap m:Nat} {f1:Nat→Value} (hroom:¬n+m≤cap) (hlim:n+m≤LIM)
  (hf1:(Builtin.firstCells sz n (.slice base n cap)).run P w.drew=.ok ((List.range (n * sz)).map f1).toArray w.drew) :
  ∃(newCap:Nat) (rest:Array Value),n+m≤newCap∧rest.size=(newCap-(n+m)) * sz∧
   (Builtin.append_ ats ty #[.slice base n cap,.int .i64 m]).run P w=.ok (.slice (some ⟨w.heap.size,0,none⟩) (n+m) newCap)
    (w.drew.alloc (.cells (((List.range (n * sz)).map f1).toArray++((List.range (m * sz)).map (Qu1 z sz)).toArray++rest) el)):=by
 rw[Qh9]at hlim;have hnc:=Qawi (Nat.lt_of_not_le hroom);have hmul:Builtin.nextslicecap (n+m) cap * i.bytes≤(2 * (n+m)+512) * 128:=Nat.mul_le_mul hnc hby;have hmul2:m * i.bytes≤m * 128:=Jae _ hby;have hw:IntKind.i64.wrap (m:Int)=m:=by simp[IntKind.wrap,IntKind.signed,IntKind.bits];omega
 have hmi:¬(281474976710656<(m:Int) * (i.bytes:Int)):=by
  have:((m * i.bytes:Nat):Int)≤((m * 128:Nat):Int):=by exact_mod_cast hmul2
  push_cast at this
  omega
 have hgr:¬(281474976710656<Builtin.nextslicecap (n+m) cap * i.bytes):=by omega
 have hmax:¬(9223372036854775807<(n:Int)+(m:Int)):=by omega
 generalize hnew:(Question.appendCap (n+m) cap el).cut (w.tape w.drawn (.appendCap (n+m) cap el))=newCap;refine⟨newCap,Builtin.zeroCells z.cells (newCap-(n+m)),?_,?_,?_⟩
 ·rw[←hnew];simp[Question.cut]
 ·simp[Builtin.zeroCells,hzs]
 ·simp only[Builtin.append_,h0,h1];simp[Q4 hu,Q4 hu2,Qa8 hi,hz,asInt,asIntOf,hw,Qja hi,hmi,hroom,hby0];rw[if_neg (by omega),if_neg (by omega),if_neg hgr];simp[Question.forced,hnew,hf1];split
  ·rename_i h
   rw[h];simp[Qic hi hzero,newRow]
  ·simp only[Qic hi hzero,Result.andThen,Q3o hzs];rw[←Array.append_assoc];simp[newRow]
theorem Qbt2 {sz m:Nat}{zr:List C}{A:C}{x' y':Operand}{ats:Array TypeId}{t t2 el:TypeId}{i:TypeInfo}{z:Value}{K:V→Heap→Prop}
  (hm:o.op=.call { callee:=.builtin .append,args:=#[x',y'],argTypes:=ats }) (h0:ats[0]? = some t) (h1:ats[1]? = some t2) (hu:P.underlying t=some (.slice el)) (hu2:P.underlying t2=some (.int .i64))
  (hi:P.info? el=some i) (hz:i.size=sz) (hzero:i.zero=some z) (hzs:z.cells.size=sz) (hby:i.bytes≤128) (hby0:i.bytes≠0) (hzl:Qav0 zr z=true)
  (hcx:RepC w g A (a.eval x')) (hqy:a.eval y'=.int .i64 m) (hml:m≤LIM) (hs:Sat H g w) (q5:appT H sz A (.sl false sz (List.replicate m zr)) K):EOk P H g w a o K:=by
 generalize hqx:a.eval x'=xv at hcx;have hexec:(execOp a.eval o).run P w=((Builtin.append_ ats o.type #[xv,.int .i64 m]).run P w).andThen fun v w'=>.ok (.value v) w':=by
  simp[execOp,hm,resolve,invoke,builtin,hqx,hqy]
 have hzr:=fun (w:World) (g:G)=>Qo5 (w:=w) (g:=g) hzl;have hzrl:zr.length=sz:=by
  have:=(hzr w g).1;omega
 obtain⟨R,hR⟩:∃R,List.replicate m zr=R:=⟨_,rfl⟩;rw[hR]at q5;have hRl:R.length=m:=by rw[←hR];simp
 have hRm:∀(i:Nat) (row:List C),R[i]? = some row→i<m∧row=zr:=by
  intro i row h;rw[←hR,List.getElem?_replicate]at h;split at h
  ·exact⟨‹_›,(J6 h).symm⟩
  ·cases h
 have by3:∀(i:Nat) (row:List C),R[i]? = some row→row.length=sz:=fun i row h=>by rw[(hRm i row h).2,hzrl]
 have fz:∀(w:World) (g:G) (j:Nat) (c:C),zr[j]? = some c→∀i,RepC w g c (Qu1 z sz (i * sz+j)):=by
  intro w g j c hj i;have hjs:j<sz:=by
   rw[←hzrl];exact (Jq.1 hj).1
  have e:(i * sz+j) % sz=j:=by rw[Nat.add_comm,Nat.add_mul_mod_self_right,Nat.mod_eq_of_lt hjs]
  have hg:z.cells[j]? = some z.cells[j]!:=by
   rw[getElem!_pos z.cells j (by omega)];exact Jk (by omega)
  rw[Qu1,e];exact (hzr w g).2 j c _ hj hg
 have f3:∀(w:World) (g:G) (i:Nat) (row:List C) (j:Nat) (c:C),R[i]? = some row→row[j]? = some c→RepC w g c (Qu1 z sz (i * sz+j)):=by
  intro w g i row j c h1 h2;rw[(hRm i row h1).2]at h2;exact fz w g j c h2 i
 have f2:∀q,q<m * sz→(Qu1 z sz q).oneCell'=true:=by
  intro q hq;obtain⟨a1,a2,a3⟩:=Qav9 hq;have:=fz w g (q % sz) (zr[q % sz]'(by omega)) (Jl (by omega)) (q / sz);rw[a3]at this;exact this.one
 clear hzl hzr hzrl fz hR;have hsd:=Qa0u hs;unfold appT at q5;obtain⟨_,_,q5⟩:=q5;simp only[rowsOf,lenC,hRl]at q5;split at q5
 ·
  rename_i z' rows
  obtain⟨rfl,c2,c3,c4,c5⟩:=q5;have hxv:∃ad,xv=.slice ad rows.length rows.length:=by
   cases hcx with
   |slnil _ _ ad=>exact⟨ad,rfl⟩
   |sl _ _ _ b off cap val hl hf hcap hper hrw hce hva=>rw[hf rfl];exact⟨_,rfl⟩
  obtain⟨ad,rfl⟩:=hxv;by_cases hm0:m=0
  ·have hrows:rows=[]:=by
    rcases c2 with h|h
    ·exact h
    ·exact absurd (Jn.1 (by omega)) h
   subst hrows;obtain⟨l,hl,hHl⟩:=hs.newName;have hrun:=Qad0 (P:=P) (w:=w) (ty:=o.type) (base:=ad) (n:=0) (cap:=0) (m:=m) h0 h1 hu hu2 hi hz hzero hzs hby hml (by omega) (w':=w)
    (fun x _=>by rw[hm0];simp[storeCells]) (fun _=>rfl)
   refine EOk.value (v:=.slice ad (0+m) 0) (by rw[hexec];simp only[Jac];rw[hrun];rfl) (c5 l hHl) ?_ ?_ (g':=g.newVirt l z')
   ·have hrB:R=[]:=Jn.1 (by omega);rw[hrB];exact Qux hs hl z'
   ·simp only[Jac,hm0,Jau];exact .c _ _ (.vslnil _ _ _ _)
  ·obtain⟨l,hl,hHl⟩:=hsd.sat.newName;have hcxd:=hcx.mono hsd.le;have hA:∀r∈rowsOf H (C.sl true z' rows),noOw r=true:=fun r hr=>c3 r (Jg _ hr);obtain⟨f',f1',f2',f3'⟩:=Q3h hsd.sat hcxd (s:=.sl true z' rows) trivial (sz:=z') rfl hA;simp only[lenC]at f1';obtain⟨newCap,rest,k1,k2,k3⟩:=Qawl (P:=P) (w:=w) (ty:=o.type) h0 h1 hu hu2 hi hz hzero hzs hby hby0 (base:=ad) (n:=rows.length) (cap:=rows.length) (m:=m) (by omega) c4 f1';have hget:=Qacw (n:=rows.length) (m:=m) (sz:=z') (f1:=f') (f:=Qu1 z z') (rest:=rest);generalize harr:(((List.range (rows.length * z')).map f').toArray++((List.range (m * z')).map (Qu1 z z')).toArray++rest)=arr at k3 hget;have hasz:arr.size=newCap * z':=by
    rw[←harr];simp[k2];rw[←Jp,←Jp];congr 1;omega
   have hst:=Qc9 hsd.sat hl z' 0 (.cells arr el) (.vec z' (rows++R)) (fun g' hg=>by
    subst hg;have hle:=Qjz hsd.sat hl z' 0 (.cells arr el);refine .inr (Qk6 (nb:=w.drew.heap.size) (base:=0) (T:=el) (arr:=arr) (n:=rows.length) (m:=m) (by simp[G.newObj]) (by simp[G.newObj]) (Qbo _ _)
     (by rw[hasz,Jad];exact Jy _ k1) c4 rfl (by omega) ?_ by3 ?_ ?_)
    ·cases hcx with
     |slnil=>simp
     |sl _ _ _ b off cap val hl hf hcap hper hrw hce hva=>exact hrw
    ·intro i row j c e1 e2;have hlr:row.length=z':=by
      cases hcx with
      |slnil=>simp at e1
      |sl _ _ _ b off cap val hl hf hcap hper hrw hce hva=>exact hrw _ _ e1
     refine⟨f' (i * z'+j),hget.1 i j ?_ ?_,.plain _ _ _ _ ((f3' i row j c e1 e2).mono hle)⟩
     ·rcases Jz i rows.length with h|h
      ·exact h
      ·rw[Jm h]at e1;simp at e1
     ·rw[←hlr];rcases Jz j row.length with h|h
      ·exact h
      ·rw[Jm h]at e2;simp at e2
    ·intro i row j c e1 e2;refine⟨Qu1 z z' (i * z'+j),hget.2 i j ?_ ?_,f3 _ _ i row j c e1 e2⟩
     ·rcases Jz i (R).length with h|h
      ·omega
      ·rw[Jm h]at e1;simp at e1
     ·rw[←by3 i row e1];rcases Jz j row.length with h|h
      ·exact h
      ·rw[Jm h]at e2;simp at e2)
   refine EOk.value (v:=.slice (some ⟨w.heap.size,0,none⟩) (rows.length+m) newCap) (by rw[hexec,k3];rfl) (c5 l hHl) (hsd.trans hst) ?_;have:=RepC.vsl (w:=w.drew.alloc (.cells arr el)) (g:=g.newObj l w.drew.heap.size z' 0) l z' 0 (rows.length+m) newCap w.heap.size 0 el arr.size (by simp[G.newObj]) k1
    (by simp only[World.shape?];rw[show w.heap.size=w.drew.heap.size from rfl,Qbo]) (by rw[hasz];simp)
   simpa using RepV.c _ _ this
 ·
  rename_i l z' st n
  split at q5
  ·rename_i y0 rows hH
   obtain⟨hzz1,hyy1,c2,hnB,c4,c5⟩:=q5;subst hyy1;subst hzz1;have hob:=hs.objs l;rw[hH]at hob;have hlne:H l≠.none:=by rw[hH];simp
   have hnomap:∀v es,H l≠.map v es:=by rw[hH];simp
   have hcases:(∃ad,xv=.slice ad 0 0∧n=0)∨∃b base cap T mm,xv=.slice (some ⟨b,base+st * z',none⟩) n cap∧g.io l=some (b,z',base)∧n≤cap∧w.shape? b=some (T,mm)∧base+(st+cap) * z'≤mm:=by
    cases hcx with
    |vslnil _ _ _ ad=>exact .inl ⟨ad,rfl,rfl⟩
    |vsl _ _ _ _ cap b base T mm hio hn hsh hmm=>exact .inr ⟨b,base,cap,T,mm,rfl,hio,hn,hsh,hmm⟩
   have htk:((rows.drop st).take n).length=n:=by simp;omega
   have hrowt:∀(i:Nat) (row:List C),((rows.drop st).take n)[i]? = some row→i<n∧rows[st+i]? = some row:=by
    intro i row h;simp only[Jah,J7]at h;split at h
    ·exact⟨by assumption,h⟩
    ·simp at h
   have jlt:∀{row:List C} {j:Nat} {c:C} {k:Nat},row.length=k→row[j]? = some c→j<k:=by
    intro row j c k hk hj;rw[←hk];rcases Jz j row.length with h|h
    ·exact h
    ·rw[Jm h]at hj;simp at hj
   have grow:∀(ad:Option Addr) (cap:Nat),xv=.slice ad n cap→¬n+m≤cap→EOk P H g w a o K:=by
    intro ad cap hxv hng;have hold:∃f':Nat→Value,(Builtin.firstCells z' n (.slice ad n cap)).run P w.drew=.ok ((List.range (n * z')).map f').toArray w.drew∧
      ∀(i:Nat) (row:List C) (j:Nat) (c:C),((rows.drop st).take n)[i]? = some row→row[j]? = some c→RepO w g l [st+i,j] c (f' (i * z'+j)):=by
     rcases hcases with ⟨ad',h1,h2⟩|⟨b,base,cap',T,mm,h1,h2,h3,h4,h5⟩
     ·rw[hxv]at h1;simp only[Value.slice.injEq]at h1;subst h2;refine⟨fun _=>undef,?_,fun i row j c e1 _=>by simp at e1⟩
      cases ad with
      |none=>simp[Builtin.firstCells]
      |some q=>simp[Builtin.firstCells,loadCells,loadCellsFrom]
     ·rw[hxv]at h1;simp only[Value.slice.injEq]at h1;obtain⟨rfl,_,rfl⟩:=h1;obtain⟨b',base',T',cs,val,r1,r2,r3,r4,r5,r6,r7,r8⟩:=SatVec.of hob h2;rw[h2]at r1;simp only[Jd,Jt,true_and]at r1;obtain⟨rfl,rfl⟩:=r1;have hfit:(st+n) * z'≤rows.length * z':=Jy _ c2;rw[Jp]at hfit;refine⟨fun q=>cs.getD (base+st * z'+q) undef,?_,fun i row j c e1 e2=>?_⟩
      ·simp only[Builtin.firstCells];refine run_loadCells _ _ _ _ fun j hj=>?_;rw[Qbw];rw[show w.drew.cell? ⟨b,base+st * z'+j,none⟩=w.cell? ⟨b,base+st * z'+j,none⟩ from rfl,Qd6 r3];rw[Jc,Jk (by omega)];rfl
      ·obtain⟨hi,e1'⟩:=hrowt i row e1;have:=r7 _ _ _ _ e1' e2;rw[Jp]at this;have e3:base+st * z'+(i * z'+j)=base+(st * z'+i * z')+j:=(by omega);show RepO _ _ _ _ _ (cs.getD (base+st * z'+(i * z'+j)) undef);rw[e3,Jc,this];exact r8 _ _ _ _ e1' e2
    obtain⟨f',f1',f3'⟩:=hold;obtain⟨newCap,rest,k1,k2,k3⟩:=Qawl (P:=P) (w:=w) (ty:=o.type) h0 h1 hu hu2 hi hz hzero hzs hby hby0 (base:=ad) (n:=n) (cap:=cap) (m:=m) hng c4 f1';have hget:=Qacw (n:=n) (m:=m) (sz:=z') (f1:=f') (f:=Qu1 z z') (rest:=rest);generalize harr:(((List.range (n * z')).map f').toArray++((List.range (m * z')).map (Qu1 z z')).toArray++rest)=arr at k3 hget;have hasz:arr.size=newCap * z':=by
     rw[←harr];simp[k2];rw[←Jp,←Jp];congr 1;omega
    obtain⟨l',hl',hHl'⟩:=hsd.sat.newName;have hll:l'≠l:=fun h=>(by subst h;exact hlne (hs.none_of_io hl'));have hst:=Qp3 hsd.sat (l:=l) (l':=l') hl' hlne (st:=st) (n:=n) (nb:=w.drew.heap.size) (sz:=z') (base:=0) (w':=w.drew.alloc (.cells arr el)) (rows:=(rows.drop st).take n++R)
     (.inr rfl) (by simp) (by simp) (by simp) (fun b hb hlt=>Qd5 _ _ hlt) (fun h=>absurd h (Nat.lt_irrefl _)) rfl rfl rfl (fun hle=>by
      refine Qk6 (nb:=w.drew.heap.size) (base:=0) (T:=el) (arr:=arr) (n:=n) (m:=m) (by simp[G.handOver]) (by simp[G.handOver]) (Qbo _ _)
       (by rw[hasz,Jad];exact Jy _ k1) c4 htk (by omega) (fun i row h=>?_) by3 (fun i row j c e1 e2=>?_) (fun i row j c e1 e2=>?_)
      ·obtain⟨hi,h'⟩:=hrowt i row h;rcases hob with ⟨r1,_⟩|⟨b',base',T',cs,val,r1,r2,r3,r4,r5,r6,r7,r8⟩
       ·rw[r1]at h';simp at h'
       ·exact r6 _ _ h'
      ·obtain⟨hi,h'⟩:=hrowt i row e1;have hrl:row.length=z':=by
        rcases hob with ⟨r1,_⟩|⟨b',base',T',cs,val,r1,r2,r3,r4,r5,r6,r7,r8⟩
        ·rw[r1]at h';simp at h'
        ·exact r6 _ _ h'
       refine⟨f' (i * z'+j),hget.1 i j hi (jlt hrl e2),?_⟩;refine (f3' i row j c e1 e2).move (hsd.le.trans hle) fun q b hb=>?_;have hbl:=Qaly hs hb;have hbn:b≠w.drew.heap.size:=(by simp only[World.size_drew];omega);exact⟨Qnd hb hi hbn,Qd5 _ _ hbl⟩
      ·refine⟨Qu1 z z' (i * z'+j),hget.2 i j ?_ (jlt (by3 i row e1) e2),f3 _ _ i row j c e1 e2⟩;rcases Jz i (R).length with h|h
       ·omega
       ·rw[Jm h]at e1;simp at e1) hnomap
    refine EOk.value (v:=.slice (some ⟨w.heap.size,0,none⟩) (n+m) newCap) (by rw[hexec,hxv,k3];rfl) (c5 l' (by rw[Heap.set_other _ _ hll];exact hHl')) (hsd.trans hst) ?_;have:=RepC.vsl (w:=w.drew.alloc (.cells arr el)) (g:=g.handOver l l' st n w.drew.heap.size z' 0) l' z' 0 (n+m) newCap w.heap.size 0 el arr.size (by simp[G.handOver]) k1
     (by simp only[World.shape?];rw[show w.heap.size=w.drew.heap.size from rfl,Qbo]) (by rw[hasz];simp)
    simpa using RepV.c _ _ this
   rcases hcases with ⟨ad,hxv,rfl⟩|⟨b,base,cap,T,mm,hxv,hio,hncap,hsh,hmm⟩
   ·by_cases hm0:m=0
    ·
     have hrun:=Qad0 (P:=P) (w:=w) (ty:=o.type) (base:=ad) (n:=0) (cap:=0) (m:=m) h0 h1 hu hu2 hi hz hzero hzs hby hml (by omega) (w':=w)
      (fun x _=>by rw[hm0];simp[storeCells]) (fun _=>rfl)
     have hd:=Qbbs hs l hnomap;obtain⟨l',hl',hHl'⟩:=hd.sat.newName;refine EOk.value (v:=.slice ad (0+m) 0) (by rw[hexec,hxv,hrun];rfl) (c5 l' hHl') ?_ ?_ (g':=g.newVirt l' z')
     ·have hrB:R=[]:=Jn.1 (by omega);rw[hrB];simp only[Jas,List.append_nil];exact hd.trans (Qux hd.sat hl' z')
     ·simp only[hm0,Jau];exact .c _ _ (.vslnil _ _ _ _)
    ·exact grow ad 0 hxv (by omega)
   ·by_cases hroom:n+m≤cap
    ·
     obtain⟨b',base',T',cs,val,r1,r2,r3,r4,r5,r6,r7,r8⟩:=SatVec.of hob hio;rw[hio]at r1;simp only[Jd,Jt,true_and]at r1;obtain⟨rfl,rfl⟩:=r1;have hmms:mm=cs.size∧T=T':=by
      simp only[World.shape?,r3,Jd,Jt]at hsh;exact⟨hsh.2.symm,hsh.1.symm⟩
     obtain⟨rfl,rfl⟩:=hmms;have hcapz:(st+(n+m)) * z'≤(st+cap) * z':=Jy _ (by omega);rw[Jp,Jp]at hcapz;have hfit:base+st * z'+n * z'+m * z'≤cs.size:=by
      rw[Jp]at hmm hcapz;omega
     have hfold:=fun k=>Qte (base+st * z'+n * z') ((List.range (m * z')).map (Qu1 z z')) 0 cs k (by simp;omega);generalize hcs':(((List.range (m * z')).map (Qu1 z z')).zipIdx 0).foldl (fun (cs:Array Value) (x:Value×Nat)=>cs.setIfInBounds (base+st * z'+n * z'+x.2) x.1) cs=cs' at hfold;have hstore:=Qf7 (P:=P) ((List.range (m * z')).map (Qu1 z z')) 0 w b (base+st * z'+n * z') cs T r3 (by simp;omega) (by
      intro v hv;simp only[Ju,Jar]at hv;obtain⟨q,hq,rfl⟩:=hv;exact f2 q hq)
     rw[hcs']at hstore;have hrun:=Qad0 (P:=P) (w:=w) (ty:=o.type) (base:=some ⟨b,base+st * z',none⟩) (n:=n) (cap:=cap) (m:=m) h0 h1 hu hu2 hi hz hzero hzs hby hml hroom (w':=World.putCells w b cs' T)
      (fun x hx=>by simp only[Jd]at hx;subst hx;rw[Qbw];exact hstore) (fun h=>by simp at h)
     have hblt:=Qsz r3;obtain⟨l',hl',hHl'⟩:=hs.newName;have hll:l'≠l:=fun h=>(by subst h;exact hlne (hs.none_of_io hl'));have hsz':cs'.size=cs.size:=(hfold 0).1;have hst:=Qp3 hs (l:=l) (l':=l') hl' hlne (st:=st) (n:=n) (nb:=b) (sz:=z') (base:=base+st * z') (w':=World.putCells w b cs' T) (rows:=(rows.drop st).take n++R)
      (.inl ⟨hblt,r2⟩) (by simp[World.putCells]) (by simp[World.putCells];exact hblt) (by simp[World.putCells];omega) (fun b' hb' _=>Qbi hb')
      (fun _ T0 k hk=>by
       simp only[World.shape?,r3,Jd,Jt]at hk;simp only[World.shape?,Qb7 hblt,hsz',Jd,Jt];exact hk) rfl rfl rfl (fun hle=>by
       refine Qk6 (nb:=b) (base:=base+st * z') (T:=T) (arr:=cs') (n:=n) (m:=m) (by simp[G.handOver]) (by simp[G.handOver]) (Qb7 hblt)
        (by rw[hsz',Jp];omega) c4 htk (by omega) (fun i row h=>r6 _ _ (hrowt i row h).2) by3 (fun i row j c e1 e2=>?_) (fun i row j c e1 e2=>?_)
       ·obtain⟨hi,h'⟩:=hrowt i row e1;have hj:=jlt (r6 _ _ h') e2;have hlt:=Qs1 hi hj;refine⟨val (st+i) j,?_,?_⟩
        ·rw[(hfold _).2,if_neg (by omega),←r7 _ _ _ _ h' e2];congr 1;rw[Jp];omega
        ·refine (r8 _ _ _ _ h' e2).move hle fun q b2 hb2=>?_;have hbn:b2≠b:=fun h=>(by subst h;rw[r2]at hb2;simp at hb2);exact⟨Qnd hb2 hi hbn,Qbi hbn⟩
       ·have hj:=jlt (by3 i row e1) e2;have hi:i<m:=by
         rcases Jz i (R).length with h|h
         ·omega
         ·rw[Jm h]at e1;simp at e1
        have hlt:=Qs1 hi hj;refine⟨Qu1 z z' (i * z'+j),?_,f3 _ _ i row j c e1 e2⟩;have hmul:(n+i) * z'=n * z'+i * z':=(by rw[Jp]);rw[(hfold _).2,if_pos (by simp;omega)];rw[show base+st * z'+(n+i) * z'+j-(base+st * z'+n * z'+0)=i * z'+j by omega];simp only[List.getElem?_map];rw[List.getElem?_range hlt];rfl) hnomap
     refine EOk.value (v:=.slice (some ⟨b,base+st * z',none⟩) (n+m) cap) (by rw[hexec,hxv,hrun];rfl) (c5 l' (by rw[Heap.set_other _ _ hll];exact hHl')) hst ?_;have:=RepC.vsl (w:=World.putCells w b cs' T) (g:=g.handOver l l' st n b z' (base+st * z')) l' z' 0 (n+m) cap b (base+st * z') T cs.size (by simp[G.handOver]) hroom
      (by simp only[World.shape?,Qb7 hblt,hsz']) (by rw[Jad];rw[Jp]at hmm;omega)
     simpa using RepV.c _ _ this
    ·exact grow _ cap hxv hroom
  ·exact q5.elim
 ·exact q5.elim
def Qbhy (P:Program)(el:TypeId)(sz:Nat):Bool:=
 match P.info? el with
 |some i=>i.size == sz&&decide (i.bytes≤128)&&decide (i.bytes≠0)&&(match i.zero with
  |some z=>z.cells.size == sz
  |none=>false)
 |none=>false
theorem Qadf {el:TypeId}{sz:Nat}(h:Qbhy P el sz=true):∃i z,P.info? el=some i∧i.size=sz∧i.zero=some z∧z.cells.size=sz∧i.bytes≤128∧i.bytes≠0:=by
 unfold Qbhy at h;split at h
 ·rename_i i hi
  simp only[Ja,decide_eq_true_eq,beq_iff_eq]at h;obtain⟨⟨⟨h1,h2⟩,h3⟩,h4⟩:=h;split at h4
  ·rename_i z hz;exact⟨i,z,hi,h1,hz,by simpa using h4,h2,h3⟩
  ·simp at h4
 ·simp at h
def mMap (P:Program)(t:TypeId)(tag:Nat):Bool:=
 match P.underlying t with
 |some (.map kt _)=>(match P.underlying kt with
  |some d=>Qbhj d tag
  |none=>false)
 |_=>false
theorem Qalj {t:TypeId}{tag:Nat}(h:mMap P t tag=true):∃kt et,P.underlying t=some (.map kt et)∧P.underlying kt=some (tagD tag):=by
 unfold mMap at h;split at h
 ·rename_i kt et hu
  split at h
  ·rename_i d hd;have:=Qadd h;subst this;exact⟨kt,et,hu,hd⟩
  ·simp at h
 ·simp at h
def mE (P:Program)(o:Oper):EOp→Bool
 |.alloc cells=>match o.op with
  |.alloc t=>Qa6e P t cells
  |_=>false
 |.boxm x=>match o.op with
  |.box _ x'=>mO x x'
  |_=>false
 |.sto n x y=>match o.op with
  |.store t x' y'=>Qar5 P t n&&mO x x'&&mO y y'
  |_=>false
 |.app sz x y=>match o.op with
  |.call { callee:=.builtin .append,args:=⟨[x',y']⟩,argTypes:=ats }=>mO x x'&&mO y y'&&(match ats[0]?,ats[1]? with
   |some t,some t2=>(match P.underlying t,P.underlying t2 with
    |some (.slice el),some (.slice _)=>Qbhy P el sz
    |_,_=>false)
   |_,_=>false)
  |_=>false
 |.apz sz zr x y=>match o.op with
  |.call { callee:=.builtin .append,args:=⟨[x',y']⟩,argTypes:=ats }=>mO x x'&&mO y y'&&(match ats[0]?,ats[1]? with
   |some t,some t2=>(match P.underlying t,P.underlying t2 with
    |some (.slice el),some (.int .i64)=>Qbhy P el sz&&Qa6e P el zr
    |_,_=>false)
   |_,_=>false)
  |_=>false
 |.mks sz zero x=>match o.op with
  |.makeSlice t x' y'=>mO x x'&&mO x y'&&zero.length == sz&&decide (sz≠0)&&(match P.underlying t with
   |some (.slice el)=>Qbhy P el sz&&Qa6e P el zero
   |_=>false)
  |_=>false
 |.mkm=>match o.op with
  |.makeMap _ none=>true
  |_=>false
 |.upd tag x k y=>match o.op with
  |.mapUpdate t x' k' y'=>mO x x'&&mO k k'&&mO y y'&&mMap P t tag
  |.insert t x' k' y'=>mO x x'&&mO k k'&&mO y y'&&mMap P t tag
  |_=>false
 |.del tag x k=>match o.op with
  |.call { callee:=.builtin .delete,args:=⟨[x',k']⟩,argTypes:=ats }=>mO x x'&&mO k k'&&o.dst.isNone&&(match ats[0]? with
   |some t=>mMap P t tag
   |none=>false)
  |_=>false
 |.clrm x=>match o.op with
  |.call { callee:=.builtin .clear,args:=⟨[x']⟩,argTypes:=ats }=>mO x x'&&(match ats[0]? with
   |some t=>(match P.underlying t with
    |some (.map _ _)=>true
    |_=>false)
   |none=>false)
  |_=>false
 |.clrs sz zero x=>match o.op with
  |.call { callee:=.builtin .clear,args:=⟨[x']⟩,argTypes:=ats }=>mO x x'&&zero.length == sz&&(match ats[0]? with
   |some t=>(match P.underlying t with
    |some (.slice el)=>Qa6e P el zero
    |_=>false)
   |none=>false)
  |_=>false
 |.call f xs=>match o.op with
  |.call { callee:=.value (.func f'),args:=aS,argTypes:=_ }=>f == f'&&mOs xs aS.toList
  |_=>false
 |.callv x xs=>match o.op with
  |.call { callee:=.value y,args:=aS,argTypes:=_ }=>mO x y&&mOs xs aS.toList
  |_=>false
 |.rng x=>match o.op with
  |.range t x'=>mO x x'&&(match P.underlying t with
   |some (.map _ _)=>true
   |_=>false)
  |_=>false
 |.rngs x=>match o.op with
  |.range t x'=>mO x x'&&(match P.underlying t with
   |some .string=>true
   |_=>false)
  |_=>false
 |.nxts x=>match o.op with
  |.next x' true=>mO x x'
  |_=>false
 |.nxt x=>match o.op with
  |.next x' false=>mO x x'
  |_=>false
 |.ent x=>match o.op with
  |.entry x'=>mO x x'
  |_=>false
 |.nilq x=>match o.op with
  |.binOp .eql t x' (.const (.slice none 0 0)) _=>mO x x'&&(match P.underlying t with
   |some (.slice _)=>true
   |_=>false)
  |_=>false
 |.cpy sz x y=>match o.op with
  |.call { callee:=.builtin .copy,args:=⟨[x',y']⟩,argTypes:=ats }=>mO x x'&&mO y y'&&(match ats[0]? with
   |some t=>(match P.underlying t with
    |some (.slice el)=>Qar5 P el sz
    |_=>false)
   |none=>false)
  |_=>false
 |.bslm sz parts=>match o.op with
  |.buildSlice t n parts'=>n == parts'.size&&decide (n * sz≤2 ^ 24)&&mRow 0 parts parts'.toList&&decide (sz≠0)&&(match P.underlying t with
   |some (.slice el)=>Qar5 P el sz&&(match P.info? el with
    |some i=>i.zero.isSome
    |none=>false)
   |_=>false)
  |_=>false
theorem Qaku {op:EOp}{K:V→Heap→Prop}(hm:mE P o op=true)(hs:Sat H g w)(he:EnvOk w g e a)(hp:p=true)(ho:op.eff P p e H K):EOk P H g w a o K:=by
 cases op with
 |alloc cells=>
  simp only[mE]at hm;split at hm
  ·obtain⟨i,z,h1,h2,h3⟩:=Qns hm;exact Qbpo ‹_› h1 h2 h3 hs ho
  ·simp at hm
 |boxm x=>
  simp only[mE]at hm;split at hm
  ·exact Qbr7 ‹_› hm hs he hp ho
  ·simp at hm
 |sto n x y=>
  simp only[mE]at hm;split at hm
  ·simp only[Ja]at hm;obtain⟨i,h1,h2⟩:=Qf2 hm.1.1;exact Qbua ‹_› h1 h2 hm.1.2 hm.2 hs he hp ho
  ·simp at hm
 |app sz x y=>
  simp only[mE]at hm;split at hm
  ·rename_i x' y' ats hop
   simp only[Ja]at hm;obtain⟨⟨h1,h2⟩,h3⟩:=hm;split at h3
   ·rename_i t t2 ht ht2
    split at h3
    ·rename_i el el2 hu hu2
     obtain⟨i,z,k1,k2,k3,k4,k5,k6⟩:=Qadf h3;exact Qbt1 hop ht ht2 hu hu2 k1 k2 k3 k4 k5 k6 h1 h2 hs he hp ho
    ·simp at h3
   ·simp at h3
  ·simp at hm
 |apz sz zr x y=>
  simp only[mE]at hm;split at hm
  ·rename_i x' y' ats hop
   simp only[Ja]at hm;obtain⟨⟨h1,h2⟩,h3⟩:=hm;split at h3
   ·rename_i t t2 ht ht2
    split at h3
    ·rename_i el hu hu2
     rw[Ja]at h3;obtain⟨i,z,k1,k2,k3,k4,k5,k6⟩:=Qadf h3.1;obtain⟨i',z',j1,j2,j3⟩:=Qns h3.2;rw[k1]at j1;obtain rfl:=J6 j1;rw[k3]at j2;obtain rfl:=J6 j2;simp only[EOp.eff]at ho;obtain⟨q1,q2,q3,q4,q5,q6,q7⟩:=ho;have hrx:=Qai he h1 hp q1;have e1:=Qpi he h2 hp q2 q4;rw[Qdk q3]at hrx;exact Qbt2 hop ht ht2 hu hu2 k1 k2 k3 k4 k5 k6 j3 hrx.c_inv (m:=(Q6 (y.v e)).toNat) (by rw[Int.toNat_of_nonneg q5];exact e1) (by omega) hs q7
    ·simp at h3
   ·simp at h3
  ·simp at hm
 |bslm sz parts=>
  simp only[mE]at hm;split at hm
  ·rename_i t n parts' hop
   simp only[Ja,decide_eq_true_eq,beq_iff_eq]at hm;obtain⟨⟨⟨⟨h1,h2⟩,h3⟩,h4⟩,h5⟩:=hm;split at h5
   ·rename_i el hel
    rw[Ja]at h5;obtain⟨i,hi,hz⟩:=Qf2 h5.1;have h6:=h5.2;rw[hi]at h6;obtain⟨z,hz'⟩:=Option.isSome_iff_exists.1 h6;obtain⟨k1,k2⟩:=Qall _ _ _ h3;exact Qbr8 hop hel hi hz' hz h4 h1 h2 (by simpa using k1) (fun j x y e1 e2=>by
     have:=k2 j x y e1 (by simpa using e2);exact⟨by simpa using this.1,this.2⟩) hs he hp ho
   ·simp at h5
  ·simp at hm
 |mks sz zero x=>
  simp only[mE]at hm;split at hm
  ·rename_i t x' y' hop
   simp only[Ja,decide_eq_true_eq,beq_iff_eq]at hm;obtain⟨⟨⟨⟨h1,h2⟩,h3⟩,h4⟩,h5⟩:=hm;split at h5
   ·rename_i el hu
    rw[Ja]at h5;obtain⟨i,z,k1,k2,k3,k4,k5,k6⟩:=Qadf h5.1;obtain⟨i',z',l1,l2,l3⟩:=Qns h5.2;rw[k1]at l1;simp at l1;subst l1;exact Qbt7 hop hu k1 k2 h4 l2 l3 h3 k5 h1 h2 hs he hp ho
   ·simp at h5
  ·simp at hm
 |mkm=>
  simp only[mE]at hm;split at hm
  ·exact Qbt6 ‹_› hs ho
  ·simp at hm
 |upd tag x k y=>
  simp only[mE]at hm;split at hm
  ·simp only[Ja]at hm;obtain⟨kt,et,h1,h2⟩:=Qalj hm.2;exact Qbsf (.inl ‹_›) h1 h2 hm.1.1.1 hm.1.1.2 hm.1.2 hs he hp ho
  ·simp only[Ja]at hm;obtain⟨kt,et,h1,h2⟩:=Qalj hm.2;exact Qbsf (.inr ‹_›) h1 h2 hm.1.1.1 hm.1.1.2 hm.1.2 hs he hp ho
  ·simp at hm
 |del tag x k=>
  simp only[mE]at hm;split at hm
  ·rename_i x' k' ats hop
   simp only[Ja]at hm;obtain⟨⟨⟨h1,h2⟩,h3⟩,h4⟩:=hm;split at h4
   ·rename_i t ht
    obtain⟨kt,et,k1,k2⟩:=Qalj h4;exact Qbt4 hop ht (by simpa using h3) k1 k2 h1 h2 hs he hp ho
   ·simp at h4
  ·simp at hm
 |clrm x=>
  simp only[mE]at hm;split at hm
  ·rename_i x' ats hop
   rw[Ja]at hm;obtain⟨h1,h2⟩:=hm;split at h2
   ·rename_i t ht
    split at h2
    ·exact Qbsa hop ht ‹_› h1 hs he hp ho
    ·simp at h2
   ·simp at h2
  ·simp at hm
 |clrs sz zero x=>
  simp only[mE]at hm;split at hm
  ·rename_i x' ats hop
   rw[Ja,Ja,beq_iff_eq]at hm;obtain⟨⟨h1,h3⟩,h2⟩:=hm;split at h2
   ·rename_i t ht
    split at h2
    ·rename_i el hu
     obtain⟨i,z,l1,l2,l3⟩:=Qns h2;exact Qbsb hop ht hu l1 l2 l3 h3 h1 hs he hp ho
    ·simp at h2
   ·simp at h2
  ·simp at hm
 |call f xs=>
  simp only[mE]at hm;split at hm
  ·simp only[Ja,beq_iff_eq]at hm;obtain⟨rfl,h2⟩:=hm;simp only[EOp.eff]at ho;exact Qbr9 ‹_› h2 hs he hp ho.1 ho.2
  ·simp at hm
 |callv x xs=>
  simp only[mE]at hm;split at hm
  ·simp only[Ja]at hm;exact Qbpp ‹_› hm.1 hm.2 hs he hp ho
  ·simp at hm
 |rng x=>
  simp only[mE]at hm;split at hm
  ·rename_i t x' hop
   rw[Ja]at hm;obtain⟨h1,h2⟩:=hm;split at h2
   ·exact Qbt9 hop ‹_› h1 hs he hp ho
   ·simp at h2
  ·simp at hm
 |rngs x=>
  simp only[mE]at hm;split at hm
  ·rename_i t x' hop
   rw[Ja]at hm;obtain⟨h1,h2⟩:=hm;split at h2
   ·exact Qbse hop ‹_› h1 hs he hp ho
   ·simp at h2
  ·simp at hm
 |nxts x=>
  simp only[mE]at hm;split at hm
  ·exact Qbsd ‹_› hm hs he hp ho
  ·simp at hm
 |nxt x=>
  simp only[mE]at hm;split at hm
  ·exact Qbt8 ‹_› hm hs he hp ho
  ·simp at hm
 |ent x=>
  simp only[mE]at hm;split at hm
  ·exact Qbt5 ‹_› hm hs he hp ho
  ·simp at hm
 |cpy sz x y=>
  simp only[mE]at hm;split at hm
  ·rename_i x' y' ats hop
   rw[Ja,Ja]at hm;obtain⟨⟨h1,h3⟩,h2⟩:=hm;split at h2
   ·rename_i t ht
    split at h2
    ·rename_i el hu
     obtain⟨i,l1,l2⟩:=Qf2 h2;exact Qbt3 hop ht hu l1 l2 h1 h3 hs he hp ho
    ·simp at h2
   ·simp at h2
  ·simp at hm
 |nilq x=>
  simp only[mE]at hm;split at hm
  ·rename_i t x' t' hop
   rw[Ja]at hm;obtain⟨h1,h2⟩:=hm;split at h2
   ·exact Qbsc hop ‹_› h1 rfl hs he hp ho
   ·simp at h2
  ·simp at hm
def mG (ops:Array Oper):Option (Nat×Bool)→Option (Nat×Bool)→Bool
 |none,none=>true
 |some (j,b),some (t,b')=>(match ops[j]? with
  |some o=>o.dst == some t
  |none=>false)&&b == b'
 |_,_=>false
def mDst (n:Nat)(d d':Option Nat):Bool:=
 d == d'&&(match d with
  |some t=>decide (t<n)
  |none=>true)
def Qqd (P:Program)(n:Nat)(ops:Array Oper)(o:Oper):Item→Bool
 |.f d g op=>mDst n o.dst d&&mG ops o.guard g&&mF P o op
 |.p d g f xs=>mDst n o.dst d&&mG ops o.guard g&&mE P o (.call f xs)
 |.e d g op=>mDst n o.dst d&&mG ops o.guard g&&mE P o op
 |.chk _ _ _=>false
def mIts (P:Program)(n:Nat)(ops:Array Oper):Nat→List Item→Bool
 |i,[]=>i == ops.size
 |i,x::r=>(match ops[i]? with
  |some o=>Qqd P n ops o x
  |none=>false)&&mIts P n ops (i+1) r
def Post (n:Nat)(H:Heap)(g:G)(w:World)(K:Env→Heap→Prop)(a:Act)(w':World):Prop:=
 ∃e' H' g',K e' H'∧Stp H g w H' g' w'∧EnvOk w' g' e' a∧a.defers=[]∧a.tmps.size=n
theorem EnvOk.mono {g':G}{w':World}(hle:Le g w g' w')(h:EnvOk w g e a):EnvOk w' g' e a:=fun t=>(h t).mono hle
theorem EnvOk.put {n:Nat}{d:Option Nat}{x:V}{v:Value}(h:EnvOk w g e a)(hv:RepV w g x v)(hn:a.tmps.size=n)(hd:∀t,d=some t→t<n):EnvOk w g (putE d x e) (a.put d v):=by
 intro t
 cases d with
 |none=>exact h t
 |some s=>
  have hs:=hd s rfl;simp only[putE,lk,Act.put];by_cases ht:t=s
  ·subst ht;rw[if_pos rfl];have:(a.tmps.setIfInBounds t v).getD t undef=v:=by
    rw[Jc,Jr (by omega)];rfl
   rw[this];exact hv
  ·rw[if_neg ht];have:(a.tmps.setIfInBounds s v).getD t undef=a.tmps.getD t undef:=by
    rw[Jc,J0 (Jaf ht),←Jc]
   rw[this];exact h t
theorem Qcg (a:Act)(d:Option Nat)(v:Value):(a.put d v).tmps.size=a.tmps.size∧(a.put d v).defers=a.defers:=by
 cases d <;> simp[Act.put]
theorem Qsx {n:Nat}{ops:Array Oper}{gd:Option (Nat×Bool)}(hm:mG ops o.guard gd=true)(he:EnvOk w g e a)(ho:gdO e gd):Region.wanted o (yielded ops a.tmps)=gdB e gd:=by
 unfold Region.wanted
 cases hg:o.guard with
 |none=>
  cases gd with
  |none=>rfl
  |some x=>rw[hg]at hm;simp[mG]at hm
 |some jb=>
  obtain⟨j,b⟩:=jb
  cases gd with
  |none=>rw[hg]at hm;simp[mG]at hm
  |some tb=>
   obtain⟨t,b'⟩:=tb;rw[hg]at hm;simp only[mG,Ja,beq_iff_eq]at hm;obtain⟨h1,rfl⟩:=hm;split at h1
   ·rename_i oj hoj
    simp at h1;simp only[yielded,hoj,Option.bind_some,h1];have hv:=he t;simp only[gdO]at ho;simp only[gdB];have hget:∀c,a.tmps.getD t undef=.bool c→a.tmps[t]? = some (.bool c):=by
     intro c hc;rw[Jc]at hc
     cases hx:a.tmps[t]? with
     |none=>rw[hx]at hc;simp[undef]at hc
     |some y=>rw[hx]at hc;simp at hc;rw[hc]
    have hno:a.tmps.getD t undef=undef→∀c,a.tmps[t]?≠some (.bool c):=by
     intro hu c hc;rw[Jc,hc]at hu;simp[undef]at hu
    split at ho
    ·rename_i c hlk
     rw[hlk]at hv;have:=hget _ hv.c_inv.bool_inv;simp only[hlk];simp[this]
    ·rename_i q c hlk
     rw[hlk]at hv;simp only[hlk]
     cases hv with
     |gd _ _ _ k1 k2=>
      cases q with
      |true=>
       have:=hget _ (k1 rfl).c_inv.bool_inv;simp[this]
      |false=>
       have:=hno (k2 rfl);simp only[Jaq]
       cases hx:a.tmps[t]? with
       |none=>simp
       |some y=>cases y <;> simp_all
    ·rename_i q v hnb hlk
     rw[hlk]at hv;subst ho;have e0:gdB e (some (t,b))=false:=by
      simp only[gdB,hlk]
      cases v with
      |c x=>cases x <;> simp
      |_=>rfl
     refine Eq.trans ?_ e0.symm
     cases hv with
     |gd _ _ _ k1 k2=>
      have:=hno (k2 rfl)
      cases hx:a.tmps[t]? with
      |none=>simp
      |some y=>cases y <;> simp_all
    ·exact ho.elim
   ·simp at h1
theorem Qfe {n:Nat}{d d':Option Nat}(h:mDst n d d'=true):d=d'∧∀t,d=some t→t<n:=by
 unfold mDst at h;rw[Ja]at h;refine⟨by simpa using h.1,fun t ht=>?_⟩;subst ht;simpa using h.2
theorem Qbbi {f:Nat}{xs:List Opd}{r:V}(hm:mE P o (.call f xs)=true)(hs:Sat H g w)(he:EnvOk w g e a)(hp:p=true)(hf:∀x∈xs,x.fine p e)(hc:Qbk4 P f (xs.map fun x=>x.v e) r) :
  EOk P H g w a o (fun v H'=>v=r∧H'=H):=
 Qaku (op:=.call f xs) hm hs he hp ⟨hf,hc.2 H _ ⟨rfl,rfl⟩⟩
theorem Qa5j {KP:Value→Heap→Prop}{K:V→Heap→Prop}{x:V}{v:Value}(h:Qa5h KP K x H)(hr:RepV w g x v):K x H:=by
 cases hr <;> exact h
theorem Qbco {n:Nat}{ops:Array Oper}{i:Nat}{x:Item}{rest:List Item}{KP:Value→Heap→Prop}{K:Env→Heap→Prop}{Q:Exit→Act→World→Prop}{next:Act→World→Prop}(hoi:ops[i]? = some o)(hm:Qqd P n ops o x=true)
  (hs:Sat H g w) (he:EnvOk w g e a) (hn:a.tmps.size=n) (hd:a.defers=[]) (hr:regT P (x::rest) e H KP K)
  (hpan:∀v H' g' w',KP v H'→Stp H g w H' g' w'→Q (.panic [{ v:=v,recovered:=false }]) a w')
  (hnext:∀e' H' g' a' w',regT P rest e' H' KP K→Stp H g w H' g' w'→EnvOk w' g' e' a'→a'.tmps.size=n→a'.defers=[]→next a' w') :
  (if Region.wanted o (yielded ops a.tmps)then o.wp P a w next Q∨(o.asks P a w∧LetsOut Q)else next (a.put o.dst undef) w):=by
 cases x with
 |f d gd op=>
  simp only[Qqd,Ja]at hm;obtain⟨⟨h1,h2⟩,h3⟩:=hm;obtain⟨hd1,hd2⟩:=Qfe h1;simp only[regT]at hr;obtain⟨r1,r2,r3⟩:=hr;rw[Qsx (n:=n) h2 he r1];by_cases hg:gdB e gd=true
  ·rw[if_pos hg];obtain⟨v,w',g',k1,k2,k3,k4⟩:=Qa09 h3 hs he hg (r2 hg);left;unfold Oper.wp;rw[k1,Oper.upon_value,hd1];refine hnext _ _ _ _ _ (r3 fun _=>k4) k2 (((he.mono k2.le).put (n:=n) ?_ hn (hd1▸hd2))) (by rw[(Qcg _ _ _).1,hn]) (by rw[(Qcg _ _ _).2,hd])
   cases gd with
   |none=>exact k3
   |some tb=>exact .gd _ _ _ (fun _=>k3) (fun h=>by rw[hg]at h;simp at h)
  ·rw[if_neg hg];have hg':gdB e gd=false:=by simpa using hg
   rw[hd1];refine hnext _ _ _ _ _ (r3 fun h=>absurd h hg) (.refl hs) (he.put (n:=n) ?_ hn (hd1▸hd2)) (by rw[(Qcg _ _ _).1,hn]) (by rw[(Qcg _ _ _).2,hd])
   cases gd with
   |none=>simp[gdB]at hg'
   |some tb=>exact .gd _ _ _ (fun h=>absurd h hg) (fun _=>rfl)
 |p d gd f xs=>
  simp only[Qqd,Ja]at hm;obtain⟨⟨h1,h2⟩,h3⟩:=hm;obtain⟨hd1,hd2⟩:=Qfe h1;simp only[regT]at hr;obtain⟨r1,v0,r2,r3⟩:=hr;rw[Qsx (n:=n) h2 he r1];by_cases hg:gdB e gd=true
  ·rw[if_pos hg];obtain⟨s1,s2⟩:=r2 hg;left;refine Qbbi h3 hs he hg s1 s2 Q next (fun x v w' H' g' hk hst hrep=>?_) fun v w' H' g' hk _=>absurd hk.1.symm (s2.1 v);obtain⟨rfl,rfl⟩:=hk;rw[hd1];refine hnext _ _ _ _ _ r3 hst (((he.mono hst.le).put (n:=n) ?_ hn (hd1▸hd2))) (by rw[(Qcg _ _ _).1,hn]) (by rw[(Qcg _ _ _).2,hd])
   cases gd with
   |none=>exact hrep
   |some tb=>exact .gd _ _ _ (fun _=>hrep) (fun h=>by rw[hg]at h;simp at h)
  ·rw[if_neg hg];have hg':gdB e gd=false:=by simpa using hg
   rw[hd1];refine hnext _ _ _ _ _ r3 (.refl hs) (he.put (n:=n) ?_ hn (hd1▸hd2)) (by rw[(Qcg _ _ _).1,hn]) (by rw[(Qcg _ _ _).2,hd])
   cases gd with
   |none=>simp[gdB]at hg'
   |some tb=>exact .gd _ _ _ (fun h=>absurd h hg) (fun _=>rfl)
 |e d gd op=>
  simp only[Qqd,Ja]at hm;obtain⟨⟨h1,h2⟩,h3⟩:=hm;obtain⟨hd1,hd2⟩:=Qfe h1;simp only[regT]at hr;obtain⟨r1,r2,r3⟩:=hr;rw[Qsx (n:=n) h2 he r1];by_cases hg:gdB e gd=true
  ·rw[if_pos hg];left;refine Qaku h3 hs he hg (r2 hg) Q next (fun x v w' H' g' hk hst hrep=>?_) fun v w' H' g' hk hst=>hpan v H' g' w' hk hst;rw[hd1];exact hnext _ _ _ _ _ (Qa5j hk hrep) hst (((he.mono hst.le).put (n:=n) hrep hn (hd1▸hd2))) (by rw[(Qcg _ _ _).1,hn]) (by rw[(Qcg _ _ _).2,hd])
  ·rw[if_neg hg];have hg':gdB e gd=false:=by simpa using hg
   rw[hd1];exact hnext _ _ _ _ _ (r3 hg') (.refl hs) (he.put (n:=n) (.unk _) hn (hd1▸hd2)) (by rw[(Qcg _ _ _).1,hn]) (by rw[(Qcg _ _ _).2,hd])
 |chk d gd op=>simp[Qqd]at hm
theorem Qagh {n:Nat}{ops:Array Oper}{KP:Value→Heap→Prop}{K:Env→Heap→Prop}{Q:Exit→Act→World→Prop}{H0:Heap}{g0:G}{w0:World}(hQ:∀a' w',Post n H0 g0 w0 K a' w'→Q .normal a' w')
  (hP:∀v a' w',Post n H0 g0 w0 (fun _ H'=>KP v H') a' w'→Q (.panic [{ v:=v,recovered:=false }]) a' w') :
  ∀(its:List Item) (i:Nat) (e:Env) (H:Heap) (g:G) (w:World) (a:Act),mIts P n ops i its=true→Stp H0 g0 w0 H g w→EnvOk w g e a→a.tmps.size=n→a.defers=[]→regT P its e H KP K→
   wpOps P ops Q (List.range' i its.length) a w
 |[],i,e,H,g,w,a,_,hst,he,hn,hd,hr=>hQ a w ⟨e,H,g,hr,hst,he,hd,hn⟩
 |x::rest,i,e,H,g,w,a,hm,hst,he,hn,hd,hr=>by
  simp only[mIts,Ja]at hm;obtain⟨h1,h2⟩:=hm;split at h1
  ·rename_i o ho
   simp only[Jaa,List.range'_succ,wpOps,ho];have:=Qbco (Q:=Q) (next:=wpOps P ops Q (List.range' (i+1) rest.length)) ho h1 hst.sat he hn hd hr (fun v H' g' w' k1 k2=>hP v a w' ⟨e,H',g',k1,hst.trans k2,he.mono k2.le,hd,hn⟩) fun e' H' g' a' w' k1 k2 k3 k4 k5=>
    Qagh hQ hP rest (i+1) e' H' g' w' a' h2 (hst.trans k2) k3 k4 k5 k1
   simpa using this
  ·simp at h1
theorem Qba5 {n:Nat}{ops:Array Oper}:∀(its:List Item) (i:Nat),mIts P n ops i its=true→i+its.length=ops.size
 |[],i,h=>by simpa[mIts]using h
 |x::r,i,h=>by
  simp only[mIts,Ja]at h;have:=Qba5 r (i+1) h.2;simp only[Jaa];omega
end Go.AE
namespace Go.AE
variable {P:Program}
def optL:Option Opd→List Opd
 |none=>[]
 |some x=>[x]
def FOp.opds:FOp→List Opd
 |.mv x=>[x]
 |.pick c a b=>[c,a,b]
 |.bin _ _ a b=>[a,b]
 |.not a=>[a]
 |.fad _ a=>[a]
 |.iad _ a i=>[a,i]
 |.ld _ _ a=>[a]
 |.nck a=>[a]
 |.len a=>[a]
 |.lenx a=>[a]
 |.lens a=>[a]
 |.lensx a=>[a]
 |.lenm a=>[a]
 |.sli _ a lo hi=>a::(optL lo++optL hi)
 |.slis a lo hi=>a::(optL lo++optL hi)
 |.ext a _=>[a]
 |.asl _ a=>[a]
 |.aslp _ a hi=>a::optL hi
 |.ldg _ _ _=>[]
 |.ldo _ _=>[]
 |.aslg _ _ _=>[]
 |.iax _ _ a i=>[a,i]
 |.slm _ a hi=>[a,hi]
 |.iaa _ _ a i=>[a,i]
 |.fld _ _ _ a=>[a]
 |.idx a i=>[a,i]
 |.bld _ parts=>parts.map fun p=>p.2.2
 |.bsl _ parts=>parts
 |.box a=>[a]
 |.cvt _ a=>[a]
 |.mkf _ caps=>caps
 |.lup _ _ m k=>[m,k]
 |.lup2 _ _ m k=>[m,k]
 |.mx a b=>[a,b]
 |.mn a b=>[a,b]
def EOp.opds:EOp→List Opd
 |.alloc _=>[]
 |.boxm a=>[a]
 |.sto _ a v=>[a,v]
 |.app _ a b=>[a,b]
 |.apz _ _ a n=>[a,n]
 |.mks _ _ n=>[n]
 |.mkm=>[]
 |.upd _ m k v=>[m,k,v]
 |.del _ m k=>[m,k]
 |.clrm m=>[m]
 |.clrs _ _ m=>[m]
 |.call _ args=>args
 |.callv f args=>f::args
 |.rng m=>[m]
 |.nxt it=>[it]
 |.rngs m=>[m]
 |.nxts it=>[it]
 |.ent it=>[it]
 |.nilq a=>[a]
 |.bslm _ parts=>parts
 |.cpy _ a b=>[a,b]
def FOp.hfree:FOp→Bool
 |.iad _ _ _=>false
 |.ld _ _ _=>false
 |.len _=>false
 |.lenx _=>false
 |.lenm _=>false
 |.sli _ _ _ _=>false
 |.lup _ _ _ _=>false
 |.asl _ _=>false
 |.ldg _ _ _=>false
 |.ldo _ _=>false
 |.aslg _ _ _=>false
 |.lup2 _ _ _ _=>false
 |_=>true
theorem Opd.v_congr {e e':Env}{x:Opd}(h:x.raw e'=x.raw e):x.v e'=x.v e:=by
 simp only[Opd.v,h]
theorem Opd.fine_congr {e e':Env}{x:Opd}{p:Bool}(h:x.raw e'=x.raw e):x.fine p e'↔x.fine p e:=by
 simp only[Opd.fine,h]
theorem Qyt {e e':Env}{x:Option Opd}{p:Bool}(h:∀y∈optL x,y.raw e'=y.raw e) :
  (x.map fun y=>Q6 (y.v e'))=(x.map fun y=>Q6 (y.v e))∧(optF p x e'↔optF p x e)∧(optI x e'↔optI x e):=by
 cases x with
 |none=>exact⟨rfl,Jai,Jai⟩
 |some y=>
  have:=h y (by simp[optL]);simp only[Jap,optF,optI,Opd.v_congr this,Opd.fine_congr this,and_self]
theorem FOp.congr {op:FOp}{e e':Env}{H:Heap}{p:Bool}(h:∀x∈op.opds,x.raw e'=x.raw e) :
  op.val e' H=op.val e H∧(op.obl p e' H↔op.obl p e H):=by
 cases op <;> simp only[FOp.opds,Jf,J4,or_false,forall_eq_or_imp,forall_eq,Je,Ju,forall_exists_index,and_imp]at h
 case sli sz a lo hi=>
  have h1:=Opd.v_congr h.1;have h2:=Qyt (x:=lo) (p:=p) fun y hy=>h.2 y (.inl hy);have h3:=Qyt (x:=hi) (p:=p) fun y hy=>h.2 y (.inr hy);simp only[FOp.val,FOp.obl,h1,h2.1,h3.1,h2.2.1,h3.2.1,h2.2.2,h3.2.2,Opd.fine_congr h.1,and_self]
 case ldg n b l=>exact⟨rfl,Jai⟩
 case ldo b l=>exact⟨rfl,Jai⟩
 case aslg n b l=>exact⟨rfl,Jai⟩
 case aslp n a hi=>
  have h1:=Opd.v_congr h.1;have h3:=Qyt (x:=hi) (p:=p) fun y hy=>h.2 y hy;simp only[FOp.val,FOp.obl,h1,h3.1,h3.2.1,h3.2.2,Opd.fine_congr h.1,and_self]
 case slis a lo hi=>
  have h1:=Opd.v_congr h.1;have h2:=Qyt (x:=lo) (p:=p) fun y hy=>h.2 y (.inl hy);have h3:=Qyt (x:=hi) (p:=p) fun y hy=>h.2 y (.inr hy);simp only[FOp.val,FOp.obl,h1,h2.1,h3.1,h2.2.1,h3.2.1,h2.2.2,h3.2.2,Opd.fine_congr h.1,and_self]
 case bld zero parts=>
  have h1:∀x∈parts,x.2.2.raw e'=x.2.2.raw e:=fun x hx=>h _ x hx rfl;refine⟨?_,?_⟩
  ·simp only[FOp.val];have:(parts.map fun p=>(p.1,(p.2.2.v e').cells))=parts.map fun p=>(p.1,(p.2.2.v e).cells):=
    Jw fun x hx=>by rw[Opd.v_congr (h1 x hx)]
   rw[this]
  ·simp only[FOp.obl];exact forall_congr' fun x=>forall_congr' fun hx=>by rw[Opd.fine_congr (h1 x hx),Opd.v_congr (h1 x hx)]
 case bsl sz parts=>
  refine⟨?_,?_⟩
  ·simp only[FOp.val];have:(parts.map fun x=>(x.v e').cells)=parts.map fun x=>(x.v e).cells:=
    Jw fun x hx=>by rw[Opd.v_congr (h x hx)]
   rw[this]
  ·simp only[FOp.obl];exact forall_congr' fun x=>forall_congr' fun hx=>by rw[Opd.fine_congr (h x hx),Opd.v_congr (h x hx)]
 case mkf f caps=>
  refine⟨?_,?_⟩
  ·simp only[FOp.val];have:(caps.map fun x=>(x.v e').c1)=caps.map fun x=>(x.v e).c1:=
    Jw fun x hx=>by rw[Opd.v_congr (h x hx)]
   rw[this]
  ·simp only[FOp.obl];exact forall_congr' fun x=>forall_congr' fun hx=>by rw[Opd.fine_congr (h x hx),Opd.v_congr (h x hx)]
 case pick c a b=>
  simp only[FOp.val,FOp.obl,Opd.v_congr h.1,Opd.v_congr h.2.1,Opd.v_congr h.2.2,Opd.fine_congr h.1,true_and];constructor <;> rintro⟨k1,k2⟩ <;> refine⟨k1,?_⟩ <;> split at k2 <;> first|exact k2.elim|skip
  ·rw[Opd.fine_congr h.2.1,Opd.fine_congr h.2.2]at k2;exact k2
  ·rw[Opd.fine_congr h.2.1,Opd.fine_congr h.2.2];exact k2
 all_goals first
  |(have h1:=Opd.v_congr h;simp only[FOp.val,FOp.obl,h1,Opd.fine_congr h,and_self])
  |(have h1:=Opd.v_congr h.1;have h2:=Opd.v_congr h.2;simp only[FOp.val,FOp.obl,h1,h2,Opd.fine_congr h.1,Opd.fine_congr h.2,and_self])
theorem FOp.hcongr {op:FOp}{e:Env}{H H':Heap}{p:Bool}(h:op.hfree=true):op.val e H'=op.val e H∧(op.obl p e H'↔op.obl p e H):=by
 cases op <;> first|(simp[FOp.hfree]at h;done)|exact⟨rfl,Jai⟩
theorem Qac2 {e e':Env}{xs:List Opd}(h:∀x∈xs,x.raw e'=x.raw e):(xs.map fun x=>x.v e')=(xs.map fun x=>x.v e):=
 Jw fun x hx=>Opd.v_congr (h x hx)
theorem Q7z {e e':Env}{xs:List Opd}{p:Bool}(h:∀x∈xs,x.raw e'=x.raw e):(∀x∈xs,x.fine p e')↔(∀x∈xs,x.fine p e):=
 forall_congr' fun x=>forall_congr' fun hx=>Opd.fine_congr (h x hx)
theorem EOp.congr {op:EOp}{e e':Env}{H:Heap}{p:Bool}{K:V→Heap→Prop}(h:∀x∈op.opds,x.raw e'=x.raw e)(he:op.eff P p e H K):op.eff P p e' H K:=by
 cases op
 case call f xs=>
  simp only[EOp.opds]at h;simp only[EOp.eff]at he⊢;rw[Qac2 h,Q7z h];exact he
 case callv f xs=>
  simp only[EOp.opds,Jf,forall_eq_or_imp]at h;simp only[EOp.eff]at he⊢;rw[Qac2 h.2,Q7z h.2,Opd.fine_congr h.1,Opd.v_congr h.1];exact he
 case bslm sz parts=>
  simp only[EOp.opds]at h;simp only[EOp.eff]at he⊢;have:(parts.map fun x=>(x.v e').cells)=parts.map fun x=>(x.v e).cells:=
   Jw fun x hx=>by rw[Opd.v_congr (h x hx)]
  rw[this];exact⟨fun x hx=>by rw[Opd.fine_congr (h x hx),Opd.v_congr (h x hx)];exact he.1 x hx,he.2⟩
 all_goals simp only[EOp.opds,Jf,J4,or_false,forall_eq_or_imp,forall_eq]at h
 all_goals first
  |exact he
  |(simp only[EOp.eff,Opd.v_congr h,Opd.fine_congr h]at he⊢;exact he)
  |(simp only[EOp.eff,Opd.v_congr h.1,Opd.fine_congr h.1,Opd.v_congr h.2,Opd.fine_congr h.2]at he⊢;exact he)
  |(simp only[EOp.eff,Opd.v_congr h.1,Opd.fine_congr h.1,Opd.v_congr h.2.1,Opd.fine_congr h.2.1,Opd.v_congr h.2.2,Opd.fine_congr h.2.2]at he⊢;exact he)
def Item.dst:Item→Option Nat
 |.f d _ _=>d
 |.p d _ _ _=>d
 |.e d _ _=>d
 |.chk _ _ _=>none
def Item.gd:Item→Option (Nat×Bool)
 |.f _ g _=>g
 |.p _ g _ _=>g
 |.e _ g _=>g
 |.chk _ g _=>g
def Item.opds:Item→List Opd
 |.f _ _ op=>op.opds
 |.p _ _ _ xs=>xs
 |.e _ _ op=>op.opds
 |.chk _ _ op=>op.opds
def Opd.tm:Opd→List Nat
 |.t n=>[n]
 |_=>[]
def Item.looks (x:Item):List Nat:=x.opds.flatMap Opd.tm++(match x.gd with
 |some (t,_)=>[t]
 |none=>[])
theorem Qbir {e e':Env}{x:Opd}(h:∀t∈x.tm,lk t e'=lk t e):x.raw e'=x.raw e:=by
 cases x with
 |t n=>simpa[Opd.raw,Opd.tm]using h
 |k v=>rfl
theorem Qa1k {e e':Env}{x:Item}(h:∀t∈x.looks,lk t e'=lk t e):∀y∈x.opds,y.raw e'=y.raw e:=fun y hy=>
 Qbir fun t ht=>h t (Jg _ (List.mem_flatMap.2 ⟨y,hy,ht⟩))
theorem Qblx {e e':Env}{gd:Option (Nat×Bool)}(h:∀t b,gd=some (t,b)→lk t e'=lk t e):gdB e' gd=gdB e gd∧(gdO e' gd↔gdO e gd):=by
 cases gd with
 |none=>exact⟨rfl,Jai⟩
 |some x=>
  obtain⟨t,b⟩:=x;have:=h t b rfl;simp only[gdB,gdO,this,and_self]
theorem Qba4 {e e':Env}{x:Item}(h:∀t∈x.looks,lk t e'=lk t e):gdB e' x.gd=gdB e x.gd∧(gdO e' x.gd↔gdO e x.gd):=
 Qblx fun t b hg=>h t (Ji _ (by rw[hg];simp))
theorem Qax8 (ks:List Nat)(e:Env)(t:Nat):lk t (trim ks e)=if t∈ks then lk t e else .unk:=by
 unfold trim
 induction ks with
 |nil=>simp[lk]
 |cons k ks ih=>
  simp only[Js,lk,ih,Jf];by_cases h:t=k
  ·subst h;simp
  ·simp[h]
end Go.AE
namespace Go.AE
variable {P:Program}{H:Heap}{g:G}{w:World}{e:Env}{a:Act}
def Item.isE:Item→Bool
 |.e _ _ _=>true
 |_=>false
def Item.isChk:Item→Bool
 |.chk _ _ _=>true
 |_=>false
def Item.isFl:Item→Bool
 |.f _ _ _=>true
 |.p _ _ _ _=>true
 |_=>false
def Item.hf:Item→Bool
 |.f _ _ op=>op.hfree
 |_=>true
def Item.isFa:Item→Bool
 |.e (some _) none (.alloc _)=>true
 |_=>false
abbrev Row:=Nat×Item
def Qac1 (ms:List Nat)(o:Oper):Nat→List Edge→Nat
 |s,[]=>s
 |s,ed::r=>Qac1 ms o (if Region.binds .any ed then s ||| (2 ^ ed.on ||| ms.getD ed.on 0)else s) r
def dIn (d:Option Nat)(l:List Nat):Bool:=
 match d with
 |some t=>l.contains t
 |none=>false
def flo (fa i:Nat):Bool:=i == fa || (decide (100000≤fa)&&(fa-100000).testBit i)
def Qbbf (ms:List Nat)(fa:Nat)(x y:Row):Bool:=
 x.1 != y.1&&!((ms.getD x.1 0).testBit y.1)&&(match x.2.dst with
  |some t=>y.2.dst != some t
  |none=>true)
 &&(!(dIn y.2.dst x.2.looks) || (ms.getD y.1 0).testBit x.1)
 &&(!(dIn x.2.dst y.2.looks) || (ms.getD y.1 0).testBit x.1)
 &&(!x.2.isE || flo fa y.1 || (ms.getD y.1 0).testBit x.1)
def Qaxx (j:Nat):List Row→Bool
 |[]=>false
 |y::r=>y.2.isChk&&(y.1 == j || Qaxx j r)
def Qbc5 (P:Program)(n:Nat)(ops:Array Oper)(ms:List Nat)(fa:Nat)(pre:List Row)(y:Row)(rest:List Row):Bool:=
 match ops[y.1]? with
 |none=>false
 |some o=>match y.2 with
  |.chk d gd op=>Qqd P n ops o (.f (some d) gd op)&&pre.any (fun z=>!z.2.isChk&&z.1 == y.1&&z.2.looks == y.2.looks&&z.2.dst == some d&&!z.2.hf)
    &&pre.all (fun z=>z.2.isChk || !(dIn z.2.dst y.2.looks) || (ms.getD y.1 0).testBit z.1)
  |_=>Qqd P n ops o y.2&&o.after.toList.all (fun ed=>!Region.binds .any ed || pre.any fun z=>!z.2.isChk&&z.1 == ed.on)
    &&ms.getD y.1 0 == Qac1 ms o 0 o.after.toList&&!(dIn y.2.dst y.2.looks)
    &&pre.all (fun z=>z.2.isChk || Qbbf ms fa z y)&&(!flo fa y.1 || y.2.isFa)
    &&(!y.2.isE || pre.all (fun z=>z.2.isChk || z.2.hf || (ms.getD y.1 0).testBit z.1 || Qaxx z.1 rest))
def Qa2q (P:Program)(n:Nat)(ops:Array Oper)(ms:List Nat)(fa:Nat):List Row→List Row→Bool
 |_,[]=>true
 |pre,y::r=>Qbc5 P n ops ms fa pre y r&&Qa2q P n ops ms fa (pre++[y]) r
def Qbq4:List Oper→List Nat→List Nat
 |[],ms=>ms
 |o::r,ms=>Qbq4 r (ms++[Qac1 ms o 0 o.after.toList])
def Qbqw (P:Program)(n:Nat)(ops:Array Oper)(fa:Nat)(ord:List Nat)(its:List Item):Bool:=
 ord.length == its.length&&Region.noSelect ops&&Qa2q P n ops (Qbq4 ops.toList []) fa [] (ord.zip its)
  &&(List.range ops.size).all fun i=>(ord.zip its).any fun y=>!y.2.isChk&&y.1 == i
theorem Q8g {n:Nat}{ops:Array Oper}{ms:List Nat}{fa:Nat}:∀(L pre:List Row),Qa2q P n ops ms fa pre L=true→
  ∀A y B,L=A++y::B→Qbc5 P n ops ms fa (pre++A) y B=true
 |[],_,_,A,y,B,h=>by simp at h
 |x::r,pre,hm,A,y,B,h=>by
  simp only[Qa2q,Ja]at hm
  cases A with
  |nil=>
   simp at h;obtain⟨rfl,rfl⟩:=h;simpa using hm.1
  |cons a A=>
   simp at h;obtain⟨rfl,rfl⟩:=h;have:=Q8g _ _ hm.2 A y B rfl;simpa[Jaj]using this
theorem Qafy {ms:List Nat}{o:Oper}{j:Nat}:∀(l:List Edge) (s:Nat),(Qac1 ms o s l).testBit j=true→
  s.testBit j=true∨∃ed∈l,Region.binds .any ed=true∧(ed.on=j∨(ms.getD ed.on 0).testBit j=true)
 |[],s,h=>.inl h
 |ed::r,s,h=>by
  simp only[Qac1]at h;rcases Qafy r _ h with h1|⟨x,hx,h1⟩
  ·by_cases hb:Region.binds .any ed=true
   ·rw[if_pos hb]at h1;simp only[Nat.testBit_or,J5]at h1;rcases h1 with h1|h1|h1
    ·exact .inl h1
    ·rw[Nat.testBit_two_pow]at h1;exact .inr ⟨ed,by simp,hb,.inl (by simpa using h1)⟩
    ·exact .inr ⟨ed,by simp,hb,.inr h1⟩
   ·rw[if_neg hb]at h1;exact .inl h1
  ·exact .inr ⟨x,by simp[hx],h1⟩
theorem dIn_iff {d:Option Nat}{l:List Nat}:dIn d l=true↔∃t,d=some t∧t∈l:=by
 cases d <;> simp[dIn]
structure PairOk (ms:List Nat)(fa:Nat)(x y:Row):Prop where
 ne:x.1≠y.1
 top:(ms.getD x.1 0).testBit y.1=false
 dst:∀t,x.2.dst=some t→y.2.dst≠some t
 war:∀t,y.2.dst=some t→t∈x.2.looks→(ms.getD y.1 0).testBit x.1=true
 raw:∀t,x.2.dst=some t→t∈y.2.looks→(ms.getD y.1 0).testBit x.1=true
 ord:x.2.isE=true→¬flo fa y.1=true→(ms.getD y.1 0).testBit x.1=true
theorem Qa6r {ms:List Nat}{fa:Nat}{x y:Row}(h:Qbbf ms fa x y=true):PairOk ms fa x y:=by
 simp only[Qbbf,Ja,bne_iff_ne,J5,J1,beq_iff_eq]at h;obtain⟨⟨⟨⟨⟨h1,h2⟩,h3⟩,h4⟩,h5⟩,h6⟩:=h;refine⟨h1,h2,?_,?_,?_,?_⟩
 ·intro t ht;rw[ht]at h3;simpa using h3
 ·intro t ht hm;rcases h4 with h4|h4
  ·have:=dIn_iff.2 ⟨t,ht,hm⟩;rw[this]at h4;simp at h4
  ·exact h4
 ·intro t ht hm;rcases h5 with h5|h5
  ·have:=dIn_iff.2 ⟨t,ht,hm⟩;rw[this]at h5;simp at h5
  ·exact h5
 ·intro hx hy;rcases h6 with (h6|h6)|h6
  ·rw[hx]at h6;simp at h6
  ·exact absurd h6 hy
  ·exact h6
structure RowOk (P:Program)(n:Nat)(ops:Array Oper)(ms:List Nat)(fa:Nat)(pre:List Row)(y:Row)(rest:List Row)(o:Oper):Prop where
 op:ops[y.1]? = some o
 item:Qqd P n ops o y.2=true
 aft:∀ed∈o.after,Region.binds .any ed=true→∃z∈pre,z.2.isChk=false∧z.1=ed.on
 anc:∀j,(ms.getD y.1 0).testBit j=true→∃ed∈o.after,Region.binds .any ed=true∧(ed.on=j∨(ms.getD ed.on 0).testBit j=true)
 self:∀t,y.2.dst=some t→t∉y.2.looks
 pair:∀z∈pre,z.2.isChk=false→PairOk ms fa z y
 isFa:flo fa y.1=true→y.2.isFa=true
 cover:y.2.isE=true→∀z∈pre,z.2.isChk=false→z.2.hf=false→(ms.getD y.1 0).testBit z.1=false→Qaxx z.1 rest=true
theorem Qbc6 {n:Nat}{ops:Array Oper}{ms:List Nat}{fa:Nat}{pre:List Row}{y:Row}{rest:List Row}(h:Qbc5 P n ops ms fa pre y rest=true)(hc:y.2.isChk=false) :
  ∃o,RowOk P n ops ms fa pre y rest o:=by
 obtain⟨i,x⟩:=y;unfold Qbc5 at h
 cases ho:ops[i]? with
 |none=>simp[ho]at h
 |some o=>
  simp only[ho]at h;have key:(Qqd P n ops o x&&o.after.toList.all (fun ed=>!Region.binds .any ed || pre.any fun z=>!z.2.isChk&&z.1 == ed.on)
    &&ms.getD i 0 == Qac1 ms o 0 o.after.toList&&!(dIn x.dst x.looks)
    &&pre.all (fun z=>z.2.isChk || Qbbf ms fa z (i,x))&&(!flo fa i || x.isFa)
    &&(!x.isE || pre.all (fun z=>z.2.isChk || z.2.hf || (ms.getD i 0).testBit z.1 || Qaxx z.1 rest)))=true:=by
   cases x with
   |chk=>simp[Item.isChk]at hc
   |f=>exact h
   |p=>exact h
   |e=>exact h
  simp only[Ja,J3,J5,J1,beq_iff_eq,bne_iff_ne,J9]at key;obtain⟨⟨⟨⟨⟨⟨h1,h2⟩,h3⟩,h4⟩,h5⟩,h6⟩,h7⟩:=key;refine⟨o,ho,h1,?_,?_,?_,?_,?_,?_⟩
  ·intro ed hed hb;rcases h2 ed (by simpa using hed)with h|⟨z,hz,h⟩
   ·rw[hb]at h;simp at h
   ·exact⟨z,hz,h.1,h.2⟩
  ·intro j hj;simp only at hj;rw[h3]at hj;rcases Qafy _ _ hj with h|⟨ed,hed,h⟩
   ·simp at h
   ·exact⟨ed,by simpa using hed,h⟩
  ·intro t ht hm;have:=dIn_iff.2 ⟨t,ht,hm⟩;simp only at this;rw[this]at h4;simp at h4
  ·intro z hz hzc;rcases h5 z hz with h|h
   ·rw[hzc]at h;simp at h
   ·exact Qa6r h
  ·intro hf;rcases h6 with h|h
   ·exact absurd hf (by rw[h];decide)
   ·exact h
  ·intro hE z hz hzc hzh hzt;rcases h7 with h|h
   ·simp only at hE;rw[hE]at h;simp at h
   ·rcases h z hz with ((h|h)|h)|h
    ·rw[hzc]at h;simp at h
    ·rw[hzh]at h;simp at h
    ·simp only at hzt;rw[hzt]at h;simp at h
    ·exact h
theorem Qbb6 {n:Nat}{ops:Array Oper}{ms:List Nat}{fa:Nat}{pre:List Row}{i d:Nat}{gd:Option (Nat×Bool)}{op:FOp}{rest:List Row}(h:Qbc5 P n ops ms fa pre (i,.chk d gd op) rest=true) :
  ∃o,ops[i]? = some o∧Qqd P n ops o (.f (some d) gd op)=true∧(∃z∈pre,z.2.isChk=false∧z.1=i∧z.2.looks=(Item.f (some d) gd op).looks∧z.2.dst=some d∧z.2.hf=false)∧
   ∀z∈pre,z.2.isChk=false→∀t,z.2.dst=some t→t∈(Item.f (some d) gd op).looks→(ms.getD i 0).testBit z.1=true:=by
 unfold Qbc5 at h
 cases ho:ops[i]? with
 |none=>simp[ho]at h
 |some o=>
  simp only[ho,Ja,J9,J3,J5,J1,beq_iff_eq]at h;obtain⟨⟨h1,z,hz,⟨⟨⟨h2,h3⟩,h4⟩,h5⟩,h6⟩,h7⟩:=h;refine⟨o,rfl,h1,⟨z,hz,h2,h3,h4,h5,h6⟩,?_⟩;intro z hz hzc t ht hm;rcases h7 z hz with (h|h)|h
  ·rw[hzc]at h;simp at h
  ·have:=dIn_iff.2 ⟨t,ht,hm⟩;change dIn z.2.dst (Item.chk d gd op).looks=true at this;rw[this]at h;simp at h
  ·exact h
abbrev dn (listed:Array Bool)(i:Nat):Prop:=listed.getD i false=true
def Rdy (P:Program)(x:Item)(e:Env)(H:Heap)(v:V):Prop:=
 match x with
 |.f _ gd op=>gdO e gd∧(gdB e gd=true→op.obl (gdB e gd) e H)∧v=gdV gd (gdB e gd) (op.val e H)
 |.p _ gd f xs=>gdO e gd∧∃r,(gdB e gd=true→(∀y∈xs,y.fine (gdB e gd) e)∧Qbk4 P f (xs.map fun y=>y.v e) r)∧v=gdV gd (gdB e gd) r
 |_=>False
theorem Rdy.congr {x:Item}{e e':Env}{v:V}(h:∀t∈x.looks,lk t e'=lk t e)(hr:Rdy P x e H v):Rdy P x e' H v:=by
 have h1:=Qa1k h;have h2:=Qba4 h
 cases x with
 |f d gd op=>
  simp only[Item.gd]at h2;simp only[Item.opds]at h1;have h3:=FOp.congr (H:=H) (p:=gdB e gd) h1;simp only[Rdy]at hr⊢;rw[h2.1,h2.2,h3.1,h3.2];exact hr
 |p d gd f xs=>
  simp only[Item.gd]at h2;simp only[Item.opds]at h1;simp only[Rdy]at hr⊢;rw[h2.1,h2.2,Qac2 h1,Q7z h1];exact hr
 |e=>exact hr
 |chk=>exact hr
theorem Rdy.hcongr {x:Item}{e:Env}{H':Heap}{v:V}(h:x.hf=true)(hr:Rdy P x e H v):Rdy P x e H' v:=by
 cases x with
 |f d gd op=>
  have h3:=FOp.hcongr (e:=e) (H:=H) (H':=H') (p:=gdB e gd) (op:=op) h;simp only[Rdy]at hr⊢;rw[h3.1,h3.2];exact hr
 |p d gd f xs=>exact hr
 |e=>exact hr
 |chk=>exact hr
theorem Qbp4 {n:Nat}{ops:Array Oper}{i:Nat}{o:Oper}{x:Item}{v:V}{Q:Exit→Act→World→Prop}{next:Act→World→Prop}(hoi:ops[i]? = some o)(hm:Qqd P n ops o x=true)
  (hr:Rdy P x e H v) (hs:Sat H g w) (he:EnvOk w g (trim x.looks e) a)
  (hnext:∀u w' g',Stp H g w H g' w'→RepV w' g' v u→next (a.put x.dst u) w') :
  wpOp P ops Q i next a w:=by
 have hr':Rdy P x (trim x.looks e) H v:=hr.congr fun t ht=>by rw[Qax8,if_pos ht]
 unfold wpOp;rw[hoi];simp only
 cases x with
 |f d gd op=>
  simp only[Qqd,Ja]at hm;obtain⟨⟨h1,h2⟩,h3⟩:=hm;obtain⟨hd1,hd2⟩:=Qfe h1;simp only[Rdy]at hr';obtain⟨r1,r2,r3⟩:=hr';rw[Qsx (n:=n) h2 he r1];by_cases hg:gdB (trim (Item.f d gd op).looks e) gd=true
  ·rw[if_pos hg];obtain⟨u,w',g',k1,k2,k3,k4⟩:=Qa09 h3 hs he hg (r2 hg);left;unfold Oper.wp;rw[k1,Oper.upon_value,hd1];refine hnext u w' g' k2 ?_;rw[r3]
   cases gd with
   |none=>exact k3
   |some tb=>exact .gd _ _ _ (fun _=>k3) (fun h=>by rw[hg]at h;simp at h)
  ·rw[if_neg hg];have hg':gdB (trim (Item.f d gd op).looks e) gd=false:=by simpa using hg
   rw[hd1];refine hnext _ _ g (.refl hs) ?_;rw[r3]
   cases gd with
   |none=>simp[gdB]at hg'
   |some tb=>exact .gd _ _ _ (fun h=>absurd h hg) (fun _=>rfl)
 |p d gd f xs=>
  simp only[Qqd,Ja]at hm;obtain⟨⟨h1,h2⟩,h3⟩:=hm;obtain⟨hd1,hd2⟩:=Qfe h1;simp only[Rdy]at hr';obtain⟨r1,v0,r2,r3⟩:=hr';rw[Qsx (n:=n) h2 he r1];by_cases hg:gdB (trim (Item.p d gd f xs).looks e) gd=true
  ·rw[if_pos hg];obtain⟨s1,s2⟩:=r2 hg;left;refine Qbbi h3 hs he hg s1 s2 Q next (fun y u w' H' g' hk hst hrep=>?_) fun v w' H' g' hk _=>absurd hk.1.symm (s2.1 v);obtain⟨rfl,rfl⟩:=hk;rw[hd1];refine hnext _ _ g' hst ?_;rw[r3]
   cases gd with
   |none=>exact hrep
   |some tb=>exact .gd _ _ _ (fun _=>hrep) (fun h=>by rw[hg]at h;simp at h)
  ·rw[if_neg hg];have hg':gdB (trim (Item.p d gd f xs).looks e) gd=false:=by simpa using hg
   rw[hd1];refine hnext _ _ g (.refl hs) ?_;rw[r3]
   cases gd with
   |none=>simp[gdB]at hg'
   |some tb=>exact .gd _ _ _ (fun h=>absurd h hg) (fun _=>rfl)
 |e=>exact hr'.elim
 |chk=>exact hr'.elim
theorem Qbpe {n:Nat}{ops:Array Oper}{i:Nat}{o:Oper}{d:Option Nat}{gd:Option (Nat×Bool)}{op:EOp}{K:V→Heap→Prop}{Q:Exit→Act→World→Prop}{next:Act→World→Prop}(hoi:ops[i]? = some o)
  (hm:Qqd P n ops o (.e d gd op)=true) (hs:Sat H g w) (he:EnvOk w g (trim (Item.e d gd op).looks e) a)
  (h1:gdO e gd) (h2:gdB e gd=true→op.eff P (gdB e gd) e H K) (h3:gdB e gd=false→K .unk H)
  (hnext:∀x u w' H' g',K x H'→Stp H g w H' g' w'→RepV w' g' x u→next (a.put d u) w') (hpan:∀v w' H' g',K (.pn v) H'→Stp H g w H' g' w'→Q (.panic [{ v:=v,recovered:=false }]) a w') :
  wpOp P ops Q i next a w:=by
 have hlk:∀t∈(Item.e d gd op).looks,lk t (trim (Item.e d gd op).looks e)=lk t e:=fun t ht=>by rw[Qax8,if_pos ht]
 have c1:=Qa1k hlk;have c2:=Qba4 hlk;simp only[Item.gd]at c2;simp only[Item.opds]at c1;unfold wpOp;rw[hoi];simp only;simp only[Qqd,Ja]at hm;obtain⟨⟨m1,m2⟩,m3⟩:=hm;obtain⟨hd1,hd2⟩:=Qfe m1;rw[Qsx (n:=n) m2 he (c2.2.2 h1),c2.1];by_cases hg:gdB e gd=true
 ·rw[if_pos hg];left;refine Qaku m3 hs he hg (EOp.congr c1 (h2 hg)) Q next (fun x u w' H' g' hk hst hrep=>?_) hpan;rw[hd1];exact hnext x u w' H' g' hk hst hrep
 ·rw[if_neg hg];rw[hd1];exact hnext .unk undef w H g (h3 (by simpa using hg)) (.refl hs) (.unk _)
structure Early (g0:G)(H:Heap)(g:G)(w:World)(a:Act)(x:Item):Prop where
 ok:∃(d:Nat) (cells:List C) (l b sz:Nat) (T:TypeId) (cs:Array Value),x=.e (some d) none (.alloc cells)∧g.io l=some (b,sz,0)∧g.own b=some (l,[])∧w.heap[b]? = some (.cells cs T (0,0))∧
  cs.size=cells.length∧(∀(k:Nat) (c:C) (v:Value),cells[k]? = some c→cs[k]? = some v→RepC w g c v)∧H l=.none∧g0.io l=none∧RepV w g (.c (.ptr l 0)) (a.tmps.getD d undef)
theorem Early.mono {g0:G}{x:Item}{H':Heap}{g':G}{w':World}{a':Act}(h:Early g0 H g w a x)(hs:Stp H g w H' g' w')(ha:∀d,x.dst=some d→a'.tmps.getD d undef=a.tmps.getD d undef):Early g0 H' g' w' a' x:=by
 obtain⟨d,cells,l,b,sz,T,cs,h1,h2,h3,h4,h5,h6,h7,h8,h9⟩:=h.ok;obtain⟨k1,k2⟩:=hs.fr l (by rw[h2];simp) h7;obtain⟨k3,k4⟩:=k2 b [] h3;refine⟨d,cells,l,b,sz,T,cs,h1,hs.le.io _ _ h2,k3,k4.trans h4,h5,fun k c v p q=>(h6 k c v p q).mono hs.le,k1,h8,?_⟩;rw[ha d (by rw[h1];rfl)];exact h9.mono hs.le
theorem Early.ptr {g0:G}{x:Item}(h:Early g0 H g w a x):∃d l b sz,x.dst=some d∧g.io l=some (b,sz,0)∧b<w.heap.size∧H l=.none∧a.tmps.getD d undef=.pointer (some ⟨b,0,none⟩):=by
 obtain⟨d,cells,l,b,sz,T,cs,h1,h2,h3,h4,h5,h6,h7,h8,h9⟩:=h.ok;refine⟨d,l,b,sz,by rw[h1];rfl,h2,(Jj.1 h4).1,h7,?_⟩;have hr:=h9.c_inv;generalize a.tmps.getD d undef=vv at hr⊢
 cases hr with
 |ptr _ _ b' sz' q h=>
  rw[h2]at h;simp only[Jd,Jt]at h;obtain⟨rfl,rfl,rfl⟩:=h;rfl
theorem Early.other {g0:G}{x:Item}(h:Early g0 H g w a x){l:Nat}{o:Obj}{u:Value}(hr:RepV w g (.c (.ptr l 0)) u)(hne:∀d,x.dst=some d→u≠a.tmps.getD d undef):Early g0 (H.set l o) g w a x:=by
 obtain⟨d,cells,l',b,sz,T,cs,h1,h2,h3,h4,h5,h6,h7,h8,h9⟩:=h.ok;have hll:l'≠l:=fun e=>by
  subst e;have k:=h9.c_inv;have k2:=hr.c_inv;have hq:=hne d (by rw[h1];rfl);generalize a.tmps.getD d undef=vv at k hq
  cases k with
  |ptr _ _ b1 s1 q1 e1=>
   cases k2 with
   |ptr _ _ b2 s2 q2 e2=>
    rw[e1]at e2;simp only[Jd,Jt]at e2;obtain⟨rfl,rfl,rfl⟩:=e2;exact hq rfl
 exact⟨d,cells,l',b,sz,T,cs,h1,h2,h3,h4,h5,h6,by rw[Heap.set_other _ _ hll];exact h7,h8,h9⟩
theorem Qbca {n:Nat}{ops:Array Oper}{i:Nat}{o:Oper}{x:Item}{g0:G}{Q:Exit→Act→World→Prop}{next:Act→World→Prop}(hoi:ops[i]? = some o)(hm:Qqd P n ops o x=true)(hf:x.isFa=true)
  (hs:Sat H g w) (h0:∀l y,g0.io l=some y→g.io l=some y) (hn:a.tmps.size=n)
  (hnext:∀u w' g',Stp H g w H g' w'→Early g0 H g' w' (a.put x.dst u) x→(∀x',Early g0 H g w a x'→∀d,x'.dst=some d→a.tmps.getD d undef≠u)→next (a.put x.dst u) w') :
  wpOp P ops Q i next a w:=by
 cases x with
 |e d gd op=>
  cases op with
  |alloc cells=>
   cases d with
   |none=>simp[Item.isFa]at hf
   |some d=>
    cases gd with
    |some=>simp[Item.isFa]at hf
    |none=>
     simp only[Qqd,Ja]at hm;obtain⟨⟨m1,m2⟩,m3⟩:=hm;obtain⟨hd1,hd2⟩:=Qfe m1;have hdn:=hd2 d hd1;simp only[mE]at m3;split at m3
     ·rename_i t hop
      obtain⟨i1,z,z1,z2,z3⟩:=Qns m3;obtain⟨l,hl,hH⟩:=hs.newName;have hr:=Qo5 (w:=w) (g:=g) z3;have hle:=Qjz hs hl cells.length 0 (.cells z.cells t);have hst:=Qc9 hs hl cells.length 0 (.cells z.cells t) .none (fun g' hg=>trivial);rw[Heap.set_self _ _ _ hH]at hst;have hg0:g0.io l=none:=by
       cases hx:g0.io l with
       |none=>rfl
       |some y=>rw[h0 l y hx]at hl;simp at hl
      have hw:Region.wanted o (yielded ops a.tmps)=true:=by
       unfold Region.wanted
       cases hgd:o.guard with
       |none=>rfl
       |some jb=>rw[hgd]at m2;simp[mG]at m2
      unfold wpOp;rw[hoi];simp only;rw[if_pos hw];left;unfold Oper.wp;have hrun:(execOp a.eval o).run P w=.ok (.value (.pointer (some ⟨w.heap.size,0,none⟩))) (w.alloc (.cells z.cells t)):=by
       simp[execOp,hop,Instr.alloc,Qic z1 z2,newVar,newRow]
      rw[hrun,Oper.upon_value,hd1];refine hnext _ _ _ hst ⟨d,cells,l,w.heap.size,cells.length,t,z.cells,rfl,by simp[G.newObj],by simp[G.newObj],Qbo _ _,hr.1,fun k c v p q=>(hr.2 k c v p q).mono hle,hH,hg0,?_⟩ (fun x' hx' d' hd' hh=>?_)
      ·have:(a.put (Item.e (some d) none (.alloc cells)).dst (.pointer (some ⟨w.heap.size,0,none⟩))).tmps.getD d undef=.pointer (some ⟨w.heap.size,0,none⟩):=by
        simp only[Item.dst,Act.put];rw[Jc,Jr (by omega)];rfl
       rw[this];exact .c _ _ (.ptr l 0 w.heap.size cells.length 0 (by simp[G.newObj]))
      ·obtain⟨d1,l1,b1,sz1,p1,p2,p3,p4,p5⟩:=hx'.ptr;rw[p1]at hd';obtain rfl:=J6 hd';rw[p5]at hh;have:=congrArg (fun v=>match v with
        |Value.pointer (some a)=>a.block
        |_=>0) hh
       simp only at this;omega
     ·simp at m3
  |_=>cases d <;> (try cases gd) <;> simp[Item.isFa]at hf
 |_=>simp[Item.isFa]at hf
theorem Qbgq {H0:Heap}{g0:G}{w0:World}{x:Item}(hst:Stp H0 g0 w0 H g w)(h:Early g0 H g w a x) :
  ∃d cells l,x=.e (some d) none (.alloc cells)∧H l=.none∧Stp H0 g0 w0 (H.set l (.st cells)) g w∧RepV w g (.c (.ptr l 0)) (a.tmps.getD d undef):=by
 obtain⟨d,cells,l,b,sz,T,cs,h1,h2,h3,h4,h5,h6,h7,h8,h9⟩:=h.ok;refine⟨d,cells,l,h1,h7,⟨hst.le,fun m hm hn=>?_,⟨hst.sat.fresh,hst.sat.names,hst.sat.excl,hst.sat.named,fun m=>?_⟩⟩,h9⟩
 ·have hml:m≠l:=fun h=>by subst h;exact hm h8
  rw[Heap.set_other _ _ hml];exact hst.fr m hm hn
 ·by_cases hml:m=l
  ·subst hml;rw[Heap.set_same];exact⟨b,sz,T,cs,h2,h3,h4,h5,fun k c v p q=>.plain _ _ _ _ (h6 k c v p q)⟩
  ·have hH':=Heap.set_other H (.st cells) hml;rw[hH',←hH'];refine SatObj.keep hst.sat (.refl _ _) (fun b q hb=>⟨hb,rfl⟩) hH' fun m' v left cur hc v' es hv=>?_;by_cases hm':m'=l
   ·subst hm';rw[Heap.set_same]at hv;simp at hv
   ·rw[Heap.set_other _ _ hm']at hv;exact .inl ⟨hv,fun b q hb=>⟨hb,rfl⟩⟩
structure Fix where
 P:Program
 n:Nat
 ops:Array Oper
 ms:List Nat
 fa:Nat
 L:List Row
 H0:Heap
 g0:G
 w0:World
 KP:Value→Heap→Prop
 K:Env→Heap→Prop
def Fix.anc (F:Fix)(i j:Nat):Prop:=(F.ms.getD i 0).testBit j=true
def Qle (F:Fix)(listed:Array Bool)(pre:List Row)(y:Row)(t:Nat)(z:Row):Prop:=
 z∈pre∧z.2.isChk=false∧¬dn listed z.1∧z.2.dst=some t∧F.anc y.1 z.1
def Pend (F:Fix)(listed:Array Bool)(a:Act)(w:World)(pre:List Row)(e:Env)(H:Heap)(g:G)(y:Row):Prop:=
 ∃(o:Oper) (x:Item) (ei:Env) (v:V),F.ops[y.1]? = some o∧Qqd F.P F.n F.ops o x=true∧x.dst=y.2.dst∧x.looks=y.2.looks∧(y.2.hf=true→x.hf=true)∧
  Rdy F.P x ei H v∧(∀d,y.2.dst=some d→lk d e=v)∧
  ∀t∈y.2.looks,(∀z,Qle F listed pre y t z→lk t ei=lk t e)∧((¬∃z,Qle F listed pre y t z)→RepV w g (lk t ei) (a.tmps.getD t undef))
structure DInv (F:Fix)(listed:Array Bool)(a:Act)(w:World)(pre post:List Row)(e:Env)(H:Heap)(g:G):Prop where
 split:F.L=pre++post
 rest:Qwj F.P (post.map Prod.snd) e H F.KP F.K
 stp:Stp F.H0 F.g0 F.w0 H g w
 size:a.tmps.size=F.n
 defers:a.defers=[]
 lsz:listed.size=F.ops.size
 closed:∀i,dn listed i→∀j,F.anc i j→dn listed j
 eDone:∀y∈pre,y.2.isE=true→dn listed y.1
 postDone:∀y∈post,y.2.isChk=false→dn listed y.1→flo F.fa y.1=true∧Early F.g0 H g w a y.2
 pend:∀y∈pre,y.2.isFl=true→¬dn listed y.1→Qaxx y.1 post=true∨Pend F listed a w pre e H g y
 temps:∀t,(∃y∈pre,y.2.isChk=false∧¬dn listed y.1∧y.2.dst=some t)∨(∃y∈post,y.2.isChk=false∧flo F.fa y.1=true∧dn listed y.1∧y.2.dst=some t)∨RepV w g (lk t e) (a.tmps.getD t undef)
 ne:∀y∈post,∀z∈post,y.2.isChk=false→z.2.isChk=false→dn listed y.1→dn listed z.1→y.1≠z.1→∀d d',y.2.dst=some d→z.2.dst=some d'→a.tmps.getD d undef≠a.tmps.getD d' undef
structure FixOk (F:Fix):Prop where
 rows:Qa2q F.P F.n F.ops F.ms F.fa [] F.L=true
 all:∀i,i<F.ops.size→∃y∈F.L,y.2.isChk=false∧y.1=i
theorem FixOk.row {F:Fix}(hF:FixOk F){A B:List Row}{y:Row}(h:F.L=A++y::B)(hc:y.2.isChk=false):∃o,RowOk F.P F.n F.ops F.ms F.fa A y B o:=by
 have:=Q8g _ _ hF.rows A y B h;exact Qbc6 this hc
def Qakl (F:Fix)(x y:Row):Prop:=∃A B,F.L=A++y::B∧x∈A
theorem FixOk.pair {F:Fix}(hF:FixOk F){x y:Row}(h:Qakl F x y)(hx:x.2.isChk=false)(hy:y.2.isChk=false):PairOk F.ms F.fa x y:=by
 obtain⟨A,B,h1,h2⟩:=h;obtain⟨o,ho⟩:=hF.row h1 hy;exact ho.pair x h2 hx
theorem Qb9 {F:Fix}{pre post:List Row}(h:F.L=pre++post){x y:Row}(hx:x∈pre)(hy:y∈post):Qakl F x y:=by
 obtain⟨s,t,rfl⟩:=Jx hy;exact⟨pre++s,t,by rw[h];simp,by simp[hx]⟩
theorem Qdc {F:Fix}{pre post:List Row}{y x:Row}(h:F.L=pre++y::post)(hx:x∈post):Qakl F y x:=
 Qb9 (pre:=pre++[y]) (by simpa using h) (by simp) hx
theorem Qac3 {F:Fix}{x y:Row}(hx:x∈F.L)(hy:y∈F.L):x=y∨Qakl F x y∨Qakl F y x:=by
 obtain⟨s,t,h⟩:=Jx hx;have:y∈s++x::t:=h▸hy;rcases Je.1 this with k|k
 ·exact .inr (.inr ⟨s,t,h,k⟩)
 ·rcases Jf.1 k with k|k
  ·exact .inl k.symm
  ·exact .inr (.inl (Qdc h k))
theorem FixOk.inj {F:Fix}(hF:FixOk F){x y:Row}(hx:x∈F.L)(hy:y∈F.L)(hxc:x.2.isChk=false)(hyc:y.2.isChk=false)(h:x.1=y.1):x=y:=by
 rcases Qac3 hx hy with k|k|k
 ·exact k
 ·exact absurd h (hF.pair k hxc hyc).ne
 ·exact absurd h.symm (hF.pair k hyc hxc).ne
theorem FixOk.injDst {F:Fix}(hF:FixOk F){x y:Row}(hx:x∈F.L)(hy:y∈F.L)(hxc:x.2.isChk=false)(hyc:y.2.isChk=false){t:Nat}(h1:x.2.dst=some t)(h2:y.2.dst=some t):x=y:=by
 rcases Qac3 hx hy with k|k|k
 ·exact k
 ·exact absurd h2 ((hF.pair k hxc hyc).dst t h1)
 ·exact absurd h1 ((hF.pair k hyc hxc).dst t h2)
theorem Qph {x:Item}(h:x.isFl=true):x.isChk=false∧x.isE=false:=by
 cases x <;> simp_all[Item.isFl,Item.isChk,Item.isE]
theorem Qa1c {x:Item}(h:x.isE=true):x.isChk=false∧x.isFl=false:=by
 cases x <;> simp_all[Item.isFl,Item.isChk,Item.isE]
theorem Qqx {j:Nat}{y:Row}{r:List Row}(h:Qaxx j (y::r)=true):y.2.isChk=true∧(y.1=j∨Qaxx j r=true):=by
 simpa[Qaxx]using h
theorem DInv.passFl {F:Fix}(hF:FixOk F){listed:Array Bool}{pre r:List Row}{y:Row}(hI:DInv F listed a w pre (y::r) e H g)(hy:y.2.isFl=true)(v:V)(hr:Rdy F.P y.2 e H v)
  (hrest:Qwj F.P (r.map Prod.snd) (putE y.2.dst v e) H F.KP F.K) (hnd:¬dn listed y.1):DInv F listed a w (pre++[y]) r (putE y.2.dst v e) H g:=by
 obtain⟨hyc,hye⟩:=Qph hy;obtain⟨o,ho⟩:=hF.row hI.split hyc;have hL:y∈F.L:=by rw[hI.split];simp
 have hpre:∀z∈pre,z∈F.L:=fun z hz=>by rw[hI.split];simp[hz]
 have hpost:∀z∈r,z∈F.L:=fun z hz=>by rw[hI.split];simp[hz]
 have hlk:∀t,y.2.dst≠some t→lk t (putE y.2.dst v e)=lk t e:=by
  intro t ht
  cases hd:y.2.dst with
  |none=>rfl
  |some d=>
   simp only[putE,lk];rw[if_neg];intro h;subst h;exact ht hd
 have hlkd:∀t,y.2.dst=some t→lk t (putE y.2.dst v e)=v:=by
  intro t ht;rw[ht];simp[putE,lk]
 refine⟨by rw[hI.split];simp,hrest,hI.stp,hI.size,hI.defers,hI.lsz,hI.closed,?_,?_,?_,?_,fun y' hy' z' hz'=>hI.ne y' (by simp[hy']) z' (by simp[hz'])⟩
 ·intro z hz hzE;rcases Je.1 hz with k|k
  ·exact hI.eDone z k hzE
  ·simp at k;subst k;rw[hye]at hzE;simp at hzE
 ·exact fun z hz=>hI.postDone z (by simp[hz])
 ·intro z hz hzf hzn;obtain⟨hzc,hze⟩:=Qph hzf;right;rcases Je.1 hz with k|k
  ·rcases hI.pend z k hzf hzn with h|h
   ·have:=(Qqx h).1;rw[hyc]at this;simp at this
   ·obtain⟨o',x,ei,u,p1,p2,p3,p4,p5,p6,p7,p8⟩:=h;refine⟨o',x,ei,u,p1,p2,p3,p4,p5,p6,?_,?_⟩
    ·intro d hd;rw[hlk d fun h=>(hF.pair (Qb9 hI.split k (by simp)) hzc hyc).dst d hd h];exact p7 d hd
    ·intro t ht;obtain⟨q1,q2⟩:=p8 t ht;have hb:∀z',Qle F listed (pre++[y]) z t z'→Qle F listed pre z t z':=by
      rintro z' ⟨b1,b2,b3,b4,b5⟩;refine⟨?_,b2,b3,b4,b5⟩;rcases Je.1 b1 with b|b
      ·exact b
      ·simp at b;subst b;have:=(hF.pair (Qb9 hI.split k (by simp)) hzc hyc).top;rw[Fix.anc,this]at b5;simp at b5
     refine⟨?_,?_⟩
     ·intro z' hz';have hz'':=hb z' hz';rw[q1 z' hz'',hlk];intro h;exact (hF.pair (Qb9 hI.split hz''.1 (by simp)) hz''.2.1 hyc).dst t hz''.2.2.2.1 h
     ·intro hno;refine q2 fun ⟨z',b1,b2⟩=>hno ⟨z',?_,b2⟩;simp[b1]
  ·simp at k;subst k;refine⟨o,z.2,e,v,ho.op,ho.item,rfl,rfl,id,hr,hlkd,?_⟩;intro t ht;have hself:z.2.dst≠some t:=fun h=>ho.self t h ht;refine⟨?_,?_⟩
   ·intro z' hz';rw[hlk t hself]
   ·intro hno;rcases hI.temps t with ⟨y',k1,k2,k3,k4⟩|⟨y',k1,k2,k3,k4,k5⟩|k
    ·exact absurd ⟨y',by simp[k1],k2,k3,k4,(hF.pair (Qb9 hI.split k1 (by simp)) k2 hzc).raw t k4 ht⟩ hno
    ·exfalso;rcases Jf.1 k1 with h|h
     ·subst h;exact hself k5
     ·have:=(hF.pair (Qdc hI.split h) hzc k2).war t k5 ht;exact hnd (hI.closed _ k4 _ this)
    ·exact k
 ·intro t;by_cases ht:y.2.dst=some t
  ·exact .inl ⟨y,by simp,hyc,hnd,ht⟩
  ·rw[hlk t ht];rcases hI.temps t with ⟨y',k1,k2,k3,k4⟩|⟨y',k1,k2,k3,k4,k5⟩|k
   ·exact .inl ⟨y',by simp[k1],k2,k3,k4⟩
   ·rcases Jf.1 k1 with h|h
    ·subst h;exact absurd k5 ht
    ·exact .inr (.inl ⟨y',h,k2,k3,k4,k5⟩)
   ·exact .inr (.inr k)
theorem DInv.passChk {F:Fix}(hF:FixOk F){listed:Array Bool}{pre r:List Row}{j d:Nat}{gd:Option (Nat×Bool)}{op:FOp}(hI:DInv F listed a w pre ((j,.chk d gd op)::r) e H g) :
  DInv F listed a w (pre++[(j,.chk d gd op)]) r e H g:=by
 have hrow:=Q8g _ _ hF.rows pre _ _ hI.split;obtain⟨o,c1,c2,⟨y0,c3,c4,c5,c6,c7,c8⟩,c9⟩:=Qbb6 hrow;have hrest:=hI.rest;simp only[Js,Qwj]at hrest;obtain⟨⟨r1,r2,r3⟩,r4⟩:=hrest;have hpre:∀z∈pre,z∈F.L:=fun z hz=>by rw[hI.split];simp[hz]
 have hbe:∀z t z',Qle F listed (pre++[(j,.chk d gd op)]) z t z'↔Qle F listed pre z t z':=by
  intro z t z';constructor
  ·rintro⟨b1,b2⟩;refine⟨?_,b2⟩;rcases Je.1 b1 with b|b
   ·exact b
   ·simp at b;subst b;simp[Item.isChk]at b2
  ·rintro⟨b1,b2⟩;exact⟨by simp[b1],b2⟩
 refine⟨by rw[hI.split];simp,r4,hI.stp,hI.size,hI.defers,hI.lsz,hI.closed,?_,?_,?_,?_,fun y' hy' z' hz'=>hI.ne y' (by simp[hy']) z' (by simp[hz'])⟩
 ·intro z hz hzE;rcases Je.1 hz with k|k
  ·exact hI.eDone z k hzE
  ·simp at k;subst k;simp[Item.isE]at hzE
 ·exact fun z hz=>hI.postDone z (by simp[hz])
 ·intro z hz hzf hzn;obtain⟨hzc,hze⟩:=Qph hzf;have k:z∈pre:=by
   rcases Je.1 hz with k|k
   ·exact k
   ·simp at k;subst k;simp[Item.isChk]at hzc
  have hold:Pend F listed a w pre e H g z→Pend F listed a w (pre++[(j,.chk d gd op)]) e H g z:=by
   rintro⟨o',x,ei,u,p1,p2,p3,p4,p5,p6,p7,p8⟩;refine⟨o',x,ei,u,p1,p2,p3,p4,p5,p6,p7,fun t ht=>?_⟩;simp only[hbe];exact p8 t ht
  rcases hI.pend z k hzf hzn with h|h
  ·rcases (Qqx h).2 with h'|h'
   ·right;simp only at h';have hz0:z=y0:=hF.inj (hpre _ k) (hpre _ c3) hzc c4 (by rw[c5,←h']);subst hz0;refine⟨o,.f (some d) gd op,e,gdV gd (gdB e gd) (op.val e H),by rw[c5];exact c1,c2,by rw[c7];rfl,c6.symm,fun h=>by rw[c8]at h;simp at h,⟨r1,r2,rfl⟩,?_,?_⟩
    ·intro d' hd';rw[c7]at hd';simp at hd';subst hd';exact r3
    ·intro t ht;simp only[hbe];refine⟨fun _ _=>trivial,fun hno=>?_⟩;rcases hI.temps t with ⟨y',k1,k2,k3,k4⟩|⟨y',k1,k2,k3,k4,k5⟩|k'
     ·exfalso;refine hno ⟨y',k1,k2,k3,k4,?_⟩;have:=c9 y' k1 k2 t k4 (by rw[←c6];exact ht);rw[Fix.anc,c5];exact this
     ·exfalso;rcases Jf.1 k1 with h|h
      ·subst h;simp[Item.isChk]at k2
      ·have:=(hF.pair (Qb9 (pre:=pre++[(j,.chk d gd op)]) (by rw[hI.split];simp) (by simp[k]) h) hzc k2).war t k5 ht;exact hzn (hI.closed _ k4 _ this)
     ·exact k'
   ·exact .inl h'
  ·exact .inr (hold h)
 ·intro t;rcases hI.temps t with ⟨y',k1,k2,k3,k4⟩|⟨y',k1,k2,k3,k4,k5⟩|k
  ·exact .inl ⟨y',by simp[k1],k2,k3,k4⟩
  ·rcases Jf.1 k1 with h|h
   ·subst h;simp[Item.isChk]at k2
   ·exact .inr (.inl ⟨y',h,k2,k3,k4,k5⟩)
  ·exact .inr (.inr k)
theorem Qnq {d:Option Nat}{v:V}{e:Env}{t:Nat}(h:d≠some t):lk t (putE d v e)=lk t e:=by
 cases d with
 |none=>rfl
 |some s=>
  simp only[putE,lk];rw[if_neg];intro k;subst k;exact h rfl
theorem Qawg {d:Option Nat}{v:V}{e:Env}{t:Nat}(h:d=some t):lk t (putE d v e)=v:=by
 subst h;simp[putE,lk]
theorem Qlg {a:Act}{d:Option Nat}{u:Value}{t:Nat}(h:d≠some t):(a.put d u).tmps.getD t undef=a.tmps.getD t undef:=by
 cases d with
 |none=>rfl
 |some s=>
  have:s≠t:=fun k=>by subst k;exact h rfl
  simp only[Act.put];rw[Jc,J0 this,←Jc]
theorem Qbbj {a:Act}{d:Option Nat}{u:Value}{t:Nat}(h:d=some t)(ht:t<a.tmps.size):(a.put d u).tmps.getD t undef=u:=by
 subst h;simp only[Act.put];rw[Jc,Jr ht];rfl
theorem Qcz {listed:Array Bool}{i j:Nat}(hi:i<listed.size):dn (listed.setIfInBounds i true) j↔j=i∨dn listed j:=by
 by_cases h:j=i
 ·subst h;simp[dn,hi]
 ·simp only[dn,getD_set_ne false (Jaf h),h,false_or]
theorem Qaa7 {n:Nat}{ops:Array Oper}{o:Oper}{x:Item}(h:Qqd P n ops o x=true):∀t,x.dst=some t→t<n:=by
 intro t ht;cases x <;> simp only[Qqd,Ja]at h
 case f d gd op=>obtain⟨h1,h2⟩:=Qfe h.1.1;simp only[Item.dst]at ht;exact h2 t (h1.trans ht)
 case p d gd f xs=>obtain⟨h1,h2⟩:=Qfe h.1.1;simp only[Item.dst]at ht;exact h2 t (h1.trans ht)
 case e d gd op=>obtain⟨h1,h2⟩:=Qfe h.1.1;simp only[Item.dst]at ht;exact h2 t (h1.trans ht)
 case chk=>simp at h
theorem DInv.passE {F:Fix}(hF:FixOk F){listed:Array Bool}{pre r:List Row}{y:Row}(hI:DInv F listed a w pre (y::r) e H g)(hy:y.2.isE=true)(hyn:¬dn listed y.1)(hyf:¬flo F.fa y.1=true)
  (hanc:∀j,F.anc y.1 j→dn listed j) {v:V} {u:Value} {w':World} {H':Heap} {g':G}
  (hrest:Qwj F.P (r.map Prod.snd) (putE y.2.dst v e) H' F.KP F.K) (hst:Stp H g w H' g' w') (hv:RepV w' g' v u) :
  DInv F (listed.setIfInBounds y.1 true) (a.put y.2.dst u) w' (pre++[y]) r (putE y.2.dst v e) H' g':=by
 obtain⟨hyc,hyl⟩:=Qa1c hy;obtain⟨o,ho⟩:=hF.row hI.split hyc;have hlt:y.1<listed.size:=by rw[hI.lsz];exact (Jj.1 ho.op).1
 have hpre:∀z∈pre,z∈F.L:=fun z hz=>by rw[hI.split];simp[hz]
 have hbz:∀z∈pre,Qakl F z y:=fun z hz=>Qb9 hI.split hz (by simp);refine⟨by rw[hI.split];simp,hrest,hI.stp.trans hst,by rw[(Qcg _ _ _).1];exact hI.size,by rw[(Qcg _ _ _).2];exact hI.defers,by simp[hI.lsz],?_,?_,?_,?_,?_,?_⟩
 ·intro i hi j hj;rw[Qcz hlt]at hi⊢;rcases hi with rfl|hi
  ·exact .inr (hanc j hj)
  ·exact .inr (hI.closed i hi j hj)
 ·intro z hz hzE;rw[Qcz hlt];rcases Je.1 hz with k|k
  ·exact .inr (hI.eDone z k hzE)
  ·simp at k;subst k;exact .inl rfl
 ·intro z hz hzc hzd;have hzy:=hF.pair (Qdc hI.split hz) hyc hzc;rw[Qcz hlt]at hzd;obtain⟨k1,k2⟩:=hI.postDone z (by simp[hz]) hzc (hzd.resolve_left (Jaf hzy.ne));exact⟨k1,k2.mono hst fun d hd=>Qlg fun h=>hzy.dst d h hd⟩
 ·intro z hz hzf hzn;obtain⟨hzc,hze⟩:=Qph hzf;rw[Qcz hlt]at hzn;have hzn':¬dn listed z.1:=fun h=>hzn (.inr h);have k:z∈pre:=by
   rcases Je.1 hz with k|k
   ·exact k
   ·simp at k;subst k;rw[hyl]at hzf;simp at hzf
  have hp:=hF.pair (hbz z k) hzc hyc;by_cases hh:z.2.hf=true
  ·right;rcases hI.pend z k hzf hzn' with h|h
   ·have:=(Qqx h).1;rw[hyc]at this;simp at this
   ·obtain⟨o',x,ei,u',p1,p2,p3,p4,p5,p6,p7,p8⟩:=h;refine⟨o',x,ei,u',p1,p2,p3,p4,p5,p6.hcongr (p5 hh),?_,?_⟩
    ·intro d hd;rw[Qnq fun h=>hp.dst d hd h];exact p7 d hd
    ·intro t ht;obtain⟨q1,q2⟩:=p8 t ht;have hyt:y.2.dst≠some t:=fun h=>by
      have:=hp.war t h ht;exact hzn' (hanc _ this)
     have hb:∀z',Qle F (listed.setIfInBounds y.1 true) (pre++[y]) z t z'↔Qle F listed pre z t z':=by
      intro z';constructor
      ·rintro⟨b1,b2,b3,b4,b5⟩;rw[Qcz hlt]at b3;refine⟨?_,b2,fun h=>b3 (.inr h),b4,b5⟩;rcases Je.1 b1 with b|b
       ·exact b
       ·simp at b;subst b;exact absurd b4 hyt
      ·rintro⟨b1,b2,b3,b4,b5⟩;refine⟨by simp[b1],b2,?_,b4,b5⟩;rw[Qcz hlt];rintro (h|h)
       ·exact (hF.pair (hbz z' b1) b2 hyc).ne h
       ·exact b3 h
     simp only[hb,Qnq hyt,Qlg hyt];exact⟨q1,fun h=>(q2 h).mono hst.le⟩
  ·left;have:=ho.cover hy z k hzc (by simpa using hh);refine this ?_
   cases hx:(F.ms.getD y.1 0).testBit z.1 with
   |false=>rfl
   |true=>exact absurd (hanc _ hx) hzn'
 ·intro t;by_cases ht:y.2.dst=some t
  ·right;right;rw[Qawg ht,Qbbj ht (by rw[hI.size];exact Qaa7 ho.item t ht)];exact hv
  ·rw[Qnq ht,Qlg ht];rcases hI.temps t with ⟨y',k1,k2,k3,k4⟩|⟨y',k1,k2,k3,k4,k5⟩|k
   ·refine .inl ⟨y',by simp[k1],k2,?_,k4⟩;rw[Qcz hlt];rintro (h|h)
    ·exact (hF.pair (hbz y' k1) k2 hyc).ne h
    ·exact k3 h
   ·rcases Jf.1 k1 with h|h
    ·subst h;exact absurd k3 hyf
    ·exact .inr (.inl ⟨y',h,k2,k3,(Qcz hlt).2 (.inr k4),k5⟩)
   ·exact .inr (.inr (k.mono hst.le))
 ·intro y' hy' z' hz' hyc' hzc' hyd hzd hne d d' hd hd';have p1:=hF.pair (Qdc hI.split hy') hyc hyc';have p2:=hF.pair (Qdc hI.split hz') hyc hzc';rw[Qcz hlt]at hyd hzd;rw[Qlg fun h=>p1.dst d h hd,Qlg fun h=>p2.dst d' h hd'];exact hI.ne y' (by simp[hy']) z' (by simp[hz']) hyc' hzc' (hyd.resolve_left (Jaf p1.ne)) (hzd.resolve_left (Jaf p2.ne)) hne d d' hd hd'
theorem DInv.passFa {F:Fix}(hF:FixOk F){listed:Array Bool}{pre r:List Row}{y:Row}(hI:DInv F listed a w pre (y::r) e H g)(hyc:y.2.isChk=false)(hyn:dn listed y.1) :
  ∃e' H',DInv F listed a w (pre++[y]) r e' H' g:=by
 obtain⟨hyf,hea⟩:=hI.postDone y (by simp) hyc hyn;obtain⟨d,cells,l,h1,h2,h3,h4⟩:=Qbgq hI.stp hea;obtain⟨d0,cells0,l0,b0,sz0,T0,cs0,e1,e2,e3,e4,e5,e6,e7,e8,e9⟩:=hea.ok;obtain⟨o,ho⟩:=hF.row hI.split hyc;have hy:y.2.isE=true:=by rw[h1];rfl
 have hyl:=(Qa1c hy).2;have hyd:y.2.dst=some d:=by rw[h1];rfl
 have hbz:∀z∈pre,Qakl F z y:=fun z hz=>Qb9 hI.split hz (by simp);have hrest:=hI.rest;simp only[Js,h1,Qwj,gdO,gdB,true_and,EOp.eff]at hrest;have hrest':=hrest.1 trivial l h2;refine⟨putE (some d) (.c (.ptr l 0)) e,H.set l (.st cells),?_⟩;refine⟨by rw[hI.split];simp,hrest',h3,hI.size,hI.defers,hI.lsz,hI.closed,?_,?_,?_,?_,fun y' hy' z' hz'=>hI.ne y' (by simp[hy']) z' (by simp[hz'])⟩
 ·intro z hz hzE;rcases Je.1 hz with k|k
  ·exact hI.eDone z k hzE
  ·simp at k;subst k;exact hyn
 ·intro z hz hzc hzd;obtain⟨k1,k2⟩:=hI.postDone z (by simp[hz]) hzc hzd;refine⟨k1,k2.other h4 fun d' hd'=>?_⟩;exact hI.ne y (by simp) z (by simp[hz]) hyc hzc hyn hzd (hF.pair (Qdc hI.split hz) hyc hzc).ne d d' hyd hd'
 ·intro z hz hzf hzn;obtain⟨hzc,hze⟩:=Qph hzf;have k:z∈pre:=by
   rcases Je.1 hz with k|k
   ·exact k
   ·simp at k;subst k;rw[hyl]at hzf;simp at hzf
  have hp:=hF.pair (hbz z k) hzc hyc;by_cases hh:z.2.hf=true
  ·right;rcases hI.pend z k hzf hzn with h|h
   ·have:=(Qqx h).1;rw[hyc]at this;simp at this
   ·obtain⟨o',x,ei,u',p1,p2,p3,p4,p5,p6,p7,p8⟩:=h;refine⟨o',x,ei,u',p1,p2,p3,p4,p5,p6.hcongr (p5 hh),?_,?_⟩
    ·intro d' hd';rw[Qnq fun h=>hp.dst d' hd' (by rw[hyd];exact h)];exact p7 d' hd'
    ·intro t ht;obtain⟨q1,q2⟩:=p8 t ht;have hyt:some d≠some t:=fun h=>by
      have:=hp.war t (by rw[hyd];exact h) ht;exact hzn (hI.closed _ hyn _ this)
     have hb:∀z',Qle F listed (pre++[y]) z t z'↔Qle F listed pre z t z':=by
      intro z';constructor
      ·rintro⟨b1,b2,b3,b4,b5⟩;refine⟨?_,b2,b3,b4,b5⟩;rcases Je.1 b1 with b|b
       ·exact b
       ·simp at b;subst b;rw[hyd]at b4;exact absurd b4 hyt
      ·rintro⟨b1,b2⟩;exact⟨by simp[b1],b2⟩
     simp only[hb,Qnq hyt];exact⟨q1,q2⟩
  ·left;refine ho.cover hy z k hzc (by simpa using hh) ?_
   cases hx:(F.ms.getD y.1 0).testBit z.1 with
   |false=>rfl
   |true=>exact absurd (hI.closed _ hyn _ hx) hzn
 ·intro t;by_cases ht:some d=some t
  ·right;right;rw[Qawg ht];simp at ht;subst ht;exact h4
  ·rw[Qnq ht];rcases hI.temps t with ⟨y',k1,k2,k3,k4⟩|⟨y',k1,k2,k3,k4,k5⟩|k
   ·exact .inl ⟨y',by simp[k1],k2,k3,k4⟩
   ·rcases Jf.1 k1 with h|h
    ·subst h;rw[hyd]at k5;exact absurd k5 ht
    ·exact .inr (.inl ⟨y',h,k2,k3,k4,k5⟩)
   ·exact .inr (.inr k)
theorem DInv.doneFl {F:Fix}(hF:FixOk F){listed:Array Bool}{pre post:List Row}{y:Row}(hI:DInv F listed a w pre post e H g)(hyp:y∈pre)(hy:y.2.isFl=true)(hyn:¬dn listed y.1)
  (hanc:∀j,F.anc y.1 j→dn listed j) {v:V} {u:Value} {w':World} {g':G} (hvd:∀d,y.2.dst=some d→lk d e=v)
  (hst:Stp H g w H g' w') (hv:RepV w' g' v u) :
  DInv F (listed.setIfInBounds y.1 true) (a.put y.2.dst u) w' pre post e H g':=by
 obtain⟨hyc,hye⟩:=Qph hy;have hyL:y∈F.L:=by rw[hI.split];simp[hyp]
 obtain⟨A,B,hAB⟩:=Jx hyL;obtain⟨o,ho⟩:=hF.row hAB hyc;have hlt:y.1<listed.size:=by rw[hI.lsz];exact (Jj.1 ho.op).1
 have hpre:∀z∈pre,z∈F.L:=fun z hz=>by rw[hI.split];simp[hz]
 refine⟨hI.split,hI.rest,hI.stp.trans hst,by rw[(Qcg _ _ _).1];exact hI.size,by rw[(Qcg _ _ _).2];exact hI.defers,by simp[hI.lsz],?_,?_,?_,?_,?_,?_⟩
 ·intro i hi j hj;rw[Qcz hlt]at hi⊢;rcases hi with rfl|hi
  ·exact .inr (hanc j hj)
  ·exact .inr (hI.closed i hi j hj)
 ·intro z hz hzE;rw[Qcz hlt];exact .inr (hI.eDone z hz hzE)
 ·intro z hz hzc hzd;have hzy:=hF.pair (Qb9 hI.split hyp hz) hyc hzc;rw[Qcz hlt]at hzd;obtain⟨k1,k2⟩:=hI.postDone z hz hzc (hzd.resolve_left (Jaf hzy.ne));exact⟨k1,k2.mono hst fun d hd=>Qlg fun h=>hzy.dst d h hd⟩
 ·intro z hz hzf hzn;obtain⟨hzc,hze⟩:=Qph hzf;rw[Qcz hlt]at hzn;have hzn':¬dn listed z.1:=fun h=>hzn (.inr h);have hzy:z≠y:=fun h=>hzn (.inl (by rw[h]));rcases hI.pend z hz hzf hzn' with h|h
  ·exact .inl h
  ·right;obtain⟨o',x,ei,u',p1,p2,p3,p4,p5,p6,p7,p8⟩:=h;refine⟨o',x,ei,u',p1,p2,p3,p4,p5,p6,p7,?_⟩;intro t ht;obtain⟨q1,q2⟩:=p8 t ht;have hb:∀z',Qle F (listed.setIfInBounds y.1 true) pre z t z'→Qle F listed pre z t z':=by
    rintro z' ⟨b1,b2,b3,b4,b5⟩;rw[Qcz hlt]at b3;exact⟨b1,b2,fun h=>b3 (.inr h),b4,b5⟩
   refine⟨fun z' hz'=>q1 z' (hb z' hz'),fun hno=>?_⟩;by_cases hyt:y.2.dst=some t
   ·have hbe:Qle F listed pre z t y:=by
     refine⟨hyp,hyc,hyn,hyt,?_⟩;rcases Qac3 hyL (hpre z hz)with k|k|k
     ·exact absurd k.symm hzy
     ·exact (hF.pair k hyc hzc).raw t hyt ht
     ·exact absurd (hanc _ ((hF.pair k hzc hyc).war t hyt ht)) hzn'
    rw[q1 y hbe,hvd t hyt,Qbbj hyt (by rw[hI.size];exact Qaa7 ho.item t hyt)];exact hv
   ·rw[Qlg hyt];refine (q2 fun ⟨z',b⟩=>hno ⟨z',?_⟩).mono hst.le;obtain⟨b1,b2,b3,b4,b5⟩:=b;refine⟨b1,b2,?_,b4,b5⟩;rw[Qcz hlt];rintro (h|h)
    ·have:=hF.inj (hpre _ b1) hyL b2 hyc h;subst this;exact hyt b4
    ·exact b3 h
 ·intro t;by_cases ht:y.2.dst=some t
  ·right;right;rw[hvd t ht,Qbbj ht (by rw[hI.size];exact Qaa7 ho.item t ht)];exact hv
  ·rw[Qlg ht];rcases hI.temps t with ⟨y',k1,k2,k3,k4⟩|⟨y',k1,k2,k3,k4,k5⟩|k
   ·refine .inl ⟨y',k1,k2,?_,k4⟩;rw[Qcz hlt];rintro (h|h)
    ·have:=hF.inj (hpre _ k1) hyL k2 hyc h;subst this;exact ht k4
    ·exact k3 h
   ·exact .inr (.inl ⟨y',k1,k2,k3,(Qcz hlt).2 (.inr k4),k5⟩)
   ·exact .inr (.inr (k.mono hst.le))
 ·intro y' hy' z' hz' hyc' hzc' hyd hzd hne d d' hd hd';have p1:=hF.pair (Qb9 hI.split hyp hy') hyc hyc';have p2:=hF.pair (Qb9 hI.split hyp hz') hyc hzc';rw[Qcz hlt]at hyd hzd;rw[Qlg fun h=>p1.dst d h hd,Qlg fun h=>p2.dst d' h hd'];exact hI.ne y' hy' z' hz' hyc' hzc' (hyd.resolve_left (Jaf p1.ne)) (hzd.resolve_left (Jaf p2.ne)) hne d d' hd hd'
theorem DInv.doneFa {F:Fix}(hF:FixOk F){listed:Array Bool}{pre post:List Row}{y:Row}(hI:DInv F listed a w pre post e H g)(hyp:y∈post)(hyc:y.2.isChk=false)(hyf:flo F.fa y.1=true)(hyn:¬dn listed y.1)
  (hanc:∀j,F.anc y.1 j→dn listed j) {u:Value} {w':World} {g':G}
  (hst:Stp H g w H g' w') (hv:Early F.g0 H g' w' (a.put y.2.dst u) y.2) (hnew:∀x',Early F.g0 H g w a x'→∀d,x'.dst=some d→a.tmps.getD d undef≠u) :
  DInv F (listed.setIfInBounds y.1 true) (a.put y.2.dst u) w' pre post e H g':=by
 have hyL:y∈F.L:=by rw[hI.split];simp[hyp]
 obtain⟨A,B,hAB⟩:=Jx hyL;obtain⟨o,ho⟩:=hF.row hAB hyc;have hlt:y.1<listed.size:=by rw[hI.lsz];exact (Jj.1 ho.op).1
 have hpre:∀z∈pre,z∈F.L:=fun z hz=>by rw[hI.split];simp[hz]
 have hpost:∀z∈post,z∈F.L:=fun z hz=>by rw[hI.split];simp[hz]
 refine⟨hI.split,hI.rest,hI.stp.trans hst,by rw[(Qcg _ _ _).1];exact hI.size,by rw[(Qcg _ _ _).2];exact hI.defers,by simp[hI.lsz],?_,?_,?_,?_,?_,?_⟩
 ·intro i hi j hj;rw[Qcz hlt]at hi⊢;rcases hi with rfl|hi
  ·exact .inr (hanc j hj)
  ·exact .inr (hI.closed i hi j hj)
 ·intro z hz hzE;rw[Qcz hlt];exact .inr (hI.eDone z hz hzE)
 ·intro z hz hzc hzd;rw[Qcz hlt]at hzd;rcases hzd with h|h
  ·have:=hF.inj (hpost _ hz) hyL hzc hyc h;subst this;exact⟨hyf,hv⟩
  ·obtain⟨k1,k2⟩:=hI.postDone z hz hzc h;refine⟨k1,k2.mono hst fun d hd=>Qlg fun hh=>?_⟩;have:=hF.injDst (hpost _ hz) hyL hzc hyc hd hh;subst this;exact hyn h
 ·intro z hz hzf hzn;obtain⟨hzc,hze⟩:=Qph hzf;rw[Qcz hlt]at hzn;have hzn':¬dn listed z.1:=fun h=>hzn (.inr h);rcases hI.pend z hz hzf hzn' with h|h
  ·exact .inl h
  ·right;obtain⟨o',x,ei,u',p1,p2,p3,p4,p5,p6,p7,p8⟩:=h;refine⟨o',x,ei,u',p1,p2,p3,p4,p5,p6,p7,?_⟩;intro t ht;obtain⟨q1,q2⟩:=p8 t ht;have hyt:y.2.dst≠some t:=fun h=>by
    have:=(hF.pair (Qb9 hI.split hz hyp) hzc hyc).war t h ht;exact hzn' (hanc _ this)
   have hb:∀z',Qle F (listed.setIfInBounds y.1 true) pre z t z'↔Qle F listed pre z t z':=by
    intro z';constructor
    ·rintro⟨b1,b2,b3,b4,b5⟩;rw[Qcz hlt]at b3;exact⟨b1,b2,fun h=>b3 (.inr h),b4,b5⟩
    ·rintro⟨b1,b2,b3,b4,b5⟩;refine⟨b1,b2,?_,b4,b5⟩;rw[Qcz hlt];rintro (h|h)
     ·exact (hF.pair (Qb9 hI.split b1 hyp) b2 hyc).ne h
     ·exact b3 h
   simp only[hb,Qlg hyt];exact⟨q1,fun h=>(q2 h).mono hst.le⟩
 ·intro t;by_cases ht:y.2.dst=some t
  ·exact .inr (.inl ⟨y,hyp,hyc,hyf,(Qcz hlt).2 (.inl rfl),ht⟩)
  ·rw[Qlg ht];rcases hI.temps t with ⟨y',k1,k2,k3,k4⟩|⟨y',k1,k2,k3,k4,k5⟩|k
   ·refine .inl ⟨y',k1,k2,?_,k4⟩;rw[Qcz hlt];rintro (h|h)
    ·exact (hF.pair (Qb9 hI.split k1 hyp) k2 hyc).ne h
    ·exact k3 h
   ·exact .inr (.inl ⟨y',k1,k2,k3,(Qcz hlt).2 (.inr k4),k5⟩)
   ·exact .inr (.inr (k.mono hst.le))
 ·have hlast:∀z'∈post,z'.2.isChk=false→dn listed z'.1→z'.1≠y.1→∀d d',y.2.dst=some d→z'.2.dst=some d'→(a.put y.2.dst u).tmps.getD d undef≠(a.put y.2.dst u).tmps.getD d' undef:=by
   intro z' hz' hzc' hzd hne d d' hd hd';obtain⟨_,k2⟩:=hI.postDone z' hz' hzc' hzd;rw[Qbbj hd (by rw[hI.size];exact Qaa7 ho.item d hd),Qlg fun h=>hne (by rw[hF.injDst (hpost _ hz') hyL hzc' hyc hd' h])];exact fun h=>hnew _ k2 d' hd' h.symm
  intro y' hy' z' hz' hyc' hzc' hyd hzd hne d d' hd hd';rw[Qcz hlt]at hyd hzd;by_cases h1:y'.1=y.1
  ·have:=hF.inj (hpost _ hy') hyL hyc' hyc h1;subst this;exact hlast z' hz' hzc' (hzd.resolve_left fun h=>hne h.symm) (fun h=>hne h.symm) d d' hd hd'
  ·by_cases h2:z'.1=y.1
   ·have:=hF.inj (hpost _ hz') hyL hzc' hyc h2;subst this;exact (hlast y' hy' hyc' (hyd.resolve_left h1) h1 d' d hd' hd).symm
   ·rw[Qlg fun h=>h1 (by rw[hF.injDst (hpost _ hy') hyL hyc' hyc hd h]),Qlg fun h=>h2 (by rw[hF.injDst (hpost _ hz') hyL hzc' hyc hd' h])];exact hI.ne y' hy' z' hz' hyc' hzc' (hyd.resolve_left h1) (hzd.resolve_left h2) hne d d' hd hd'
def Qbpd (listed:Array Bool)(post:List Row):Prop:=post=[]∨∃y r,post=y::r∧y.2.isE=true∧¬dn listed y.1
theorem Qac0 {F:Fix}(hF:FixOk F){listed:Array Bool}:∀(post pre:List Row) (e:Env) (H:Heap),DInv F listed a w pre post e H g→
  ∃pre' post' e' H',DInv F listed a w pre' post' e' H' g∧Qbpd listed post'
 |[],pre,e,H,hI=>⟨pre,[],e,H,hI,.inl rfl⟩
 |(i,x)::r,pre,e,H,hI=>by
  have hnE:x.isE=false→x.isChk=false→¬dn listed i:=by
   intro hx hc hd;obtain⟨_,hea⟩:=hI.postDone (i,x) (by simp) hc hd;obtain⟨d,cells,l,b,sz,T,cs,h1,_⟩:=hea.ok;simp only at h1;rw[h1]at hx;simp[Item.isE]at hx
  have hrest:=hI.rest
  cases x with
  |chk d gd op=>exact Qac0 hF r _ e H (hI.passChk hF)
  |f d gd op=>
   simp only[Js,Qwj]at hrest;exact Qac0 hF r _ _ H (hI.passFl hF rfl _ ⟨hrest.1,hrest.2.1,rfl⟩ hrest.2.2 (hnE rfl rfl))
  |p d gd f xs=>
   simp only[Js,Qwj]at hrest;obtain⟨r1,v,r2,r3⟩:=hrest;exact Qac0 hF r _ _ H (hI.passFl hF rfl _ ⟨r1,v,r2,rfl⟩ r3 (hnE rfl rfl))
  |e d gd op=>
   by_cases hd:dn listed i
   ·obtain⟨e',H',hI'⟩:=hI.passFa hF rfl hd;exact Qac0 hF r _ e' H' hI'
   ·exact⟨pre,_,e,H,hI,.inr ⟨_,r,rfl,rfl,hd⟩⟩
theorem Qa06 {α:Type}{p q:α→Bool}:∀(l:List α),(∀x∈l,q x=true→p x=true)→(∃x∈l,p x=true∧q x=false)→l.countP q<l.countP p
 |[],_,h=>by simp at h
 |x::r,h1,h2=>by
  have hle:r.countP q≤r.countP p:=List.countP_mono_left fun y hy=>h1 y (by simp[hy]);obtain⟨y,hy,k1,k2⟩:=h2;rcases Jf.1 hy with rfl|hy
  ·simp only[Jal,k1,k2];simp;omega
  ·have:=Qa06 r (fun y hy=>h1 y (by simp[hy])) ⟨y,hy,k1,k2⟩;have hx:=h1 x (by simp);simp only[Jal]
   cases hq:q x with
   |true=>rw[hx hq];simp;omega
   |false=>simp;split <;> omega
def unl (F:Fix)(listed:Array Bool):Nat:=(List.range F.ops.size).countP fun i=>!listed.getD i false
theorem Qbai {F:Fix}(hF:FixOk F){listed:Array Bool}(hsz:listed.size=F.ops.size)(hr:Region.ready .any F.ops listed=[]):∀(B A:List Row),F.L=A++B→
  (∀y∈A,y.2.isChk=false→dn listed y.1)→∀y∈B,y.2.isChk=false→dn listed y.1
 |[],A,h,hA,y,hy,hc=>by simp at hy
 |x::r,A,h,hA,y,hy,hc=>by
  have hx:x.2.isChk=false→dn listed x.1:=by
   intro hxc;obtain⟨o,ho⟩:=hF.row h hxc;have hlt:x.1<listed.size:=by rw[hsz];exact (Jj.1 ho.op).1
   by_cases hd:dn listed x.1
   ·exact hd
   ·exfalso;have:x.1∈Region.ready .any F.ops listed:=by
     rw[mem_ready];refine⟨?_,o,ho.op,fun ed hed hb=>?_⟩
     ·simp only[dn]at hd;rw[Jc,Jk hlt]at hd⊢;simpa using hd
     ·obtain⟨z,hz,h1,h2⟩:=ho.aft ed hed hb;rw[←h2];exact hA z hz h1
    rw[hr]at this;simp at this
  rcases Jf.1 hy with rfl|hy
  ·exact hx hc
  ·refine Qbai hF hsz hr r (A++[x]) (by rw[h];simp) ?_ y hy hc;intro z hz hzc;rcases Je.1 hz with k|k
   ·exact hA z k hzc
   ·simp at k;subst k;exact hx hzc
theorem Qbao {F:Fix}(hF:FixOk F){listed:Array Bool}{pre post:List Row}(hI:DInv F listed a w pre post e H g)(hst:Qbpd listed post)(hr:Region.ready .any F.ops listed=[]) :
  Post F.n F.H0 F.g0 F.w0 F.K a w:=by
 have hall:=Qbai hF hI.lsz hr F.L [] rfl (by simp);rcases hst with rfl|⟨y,r,rfl,hy,hd⟩
 ·refine⟨e,H,g,hI.rest,hI.stp,fun t=>?_,hI.defers,hI.size⟩;rcases hI.temps t with ⟨y',k1,k2,k3,k4⟩|⟨y',k1,_⟩|k
  ·exact absurd (hall y' (by rw[hI.split];simp[k1]) k2) k3
  ·simp at k1
  ·exact k
 ·exact absurd (hall y (by rw[hI.split];simp) (Qa1c hy).1) hd
theorem Qbgp {F:Fix}(hF:FixOk F){Q:Exit→Act→World→Prop}(hQ:∀a' w',Post F.n F.H0 F.g0 F.w0 F.K a' w'→Q .normal a' w')(hP:∀v a' w' H' g',F.KP v H'→Stp F.H0 F.g0 F.w0 H' g' w'→a'.defers=[]→a'.tmps.size=F.n→Q (.panic [{ v:=v,recovered:=false }]) a' w') :
  ∀(fuel:Nat) (listed:Array Bool) (a:Act) (w:World) (pre post:List Row) (e:Env) (H:Heap) (g:G),DInv F listed a w pre post e H g→Qbpd listed post→unl F listed≤fuel→
   wpAny F.P .any F.ops Q fuel listed a w:=by
 intro fuel
 induction fuel with
 |zero=>
  intro listed a w pre post e H g hI hst hu;have hr:Region.ready .any F.ops listed=[]:=by
   rw[List.eq_nil_iff_forall_not_mem];intro i hi;rw[mem_ready]at hi;obtain⟨h1,o,h2,h3⟩:=hi;have hlt:i<F.ops.size:=(Jj.1 h2).1;have:0<unl F listed:=by
    unfold unl;rw[List.countP_pos_iff];refine⟨i,by simp[hlt],?_⟩;have hlt':i<listed.size:=(by rw[hI.lsz];exact hlt);rw[Jc,Jk hlt']at h1⊢;simpa using h1
   omega
  exact⟨hr,hQ _ _ (Qbao hF hI hst hr)⟩
 |succ fuel ih=>
  intro listed a w pre post e H g hI hst hu;refine⟨fun hr=>hQ _ _ (Qbao hF hI hst hr),?_⟩;intro i hi;rw[mem_ready]at hi;obtain⟨h1,o,h2,h3⟩:=hi;have hlt:i<F.ops.size:=(Jj.1 h2).1;have hlt':i<listed.size:=by rw[hI.lsz];exact hlt
  have hnd:¬dn listed i:=by
   simp only[dn];rw[Jc,Jk hlt']at h1⊢;simpa using h1
  have hu':unl F (listed.setIfInBounds i true)≤fuel:=by
   have:unl F (listed.setIfInBounds i true)<unl F listed:=by
    refine Qa06 _ ?_ ⟨i,by simp[hlt],?_,?_⟩
    ·intro j hj hq;by_cases hij:i=j
     ·subst hij;simp[hlt']at hq
     ·rw[getD_set_ne false hij]at hq;exact hq
    ·simpa[dn]using hnd
    ·simp[hlt']
   omega
  obtain⟨y,hyL,hyc,hyi⟩:=hF.all i hlt;subst hyi;obtain⟨A,B,hAB⟩:=Jx hyL;obtain⟨o',ho⟩:=hF.row hAB hyc;have hoo:o'=o:=by have:=ho.op;rw[h2]at this;simpa using this.symm
  subst hoo;have hanc:∀j,F.anc y.1 j→dn listed j:=by
   intro j hj;obtain⟨ed,k1,k2,k3⟩:=ho.anc j hj;rcases k3 with k3|k3
   ·rw[←k3];exact h3 ed k1 k2
   ·exact hI.closed _ (h3 ed k1 k2) j k3
  have hgo:∀a' w' pre' post' e' H' g',DInv F (listed.setIfInBounds y.1 true) a' w' pre' post' e' H' g'→wpAny F.P .any F.ops Q fuel (listed.setIfInBounds y.1 true) a' w':=by
   intro a' w' pre' post' e' H' g' hI';obtain⟨p2,q2,e2,H2,hI2,hs2⟩:=Qac0 hF post' pre' e' H' hI';exact ih _ a' w' p2 q2 e2 H2 g' hI2 hs2 hu'
  have hmem:y∈pre∨y∈post:=by
   have:y∈pre++post:=hI.split▸hyL;exact Je.1 this
  have hearly:flo F.fa y.1=true→y∈post→wpOp F.P F.ops Q y.1 (wpAny F.P .any F.ops Q fuel (listed.setIfInBounds y.1 true)) a w:=by
   intro hfa hyp;refine Qbca h2 ho.item (ho.isFa hfa) hI.stp.sat (fun l z hz=>hI.stp.le.io l z hz) hI.size (g0:=F.g0) fun u w' g' k1 k2 k3=>?_;exact hgo _ _ _ _ _ _ _ (hI.doneFa hF hyp hyc hfa hnd hanc k1 k2 k3)
  rcases hmem with hyp|hyp
  ·
   have hfl:y.2.isFl=true:=by
    have hE:=hI.eDone y hyp;revert hE hyc;cases y.2 <;> simp_all[Item.isFl,Item.isChk,Item.isE]
   rcases hI.pend y hyp hfl hnd with h|h
   ·exfalso;rcases hst with rfl|⟨z,r,rfl,hz,_⟩
    ·simp[Qaxx]at h
    ·have:=(Qqx h).1;rw[(Qa1c hz).1]at this;simp at this
   ·obtain⟨o2,x,ei,v,p1,p2,p3,p4,p5,p6,p7,p8⟩:=h;rw[h2]at p1;simp only[Jd]at p1;subst p1;have hno:∀t,¬∃z,Qle F listed pre y t z:=by
     rintro t ⟨z,b1,b2,b3,b4,b5⟩;exact b3 (hanc _ b5)
    refine Qbp4 (n:=F.n) h2 p2 p6 hI.stp.sat ?_ fun u w' g' k1 k2=>?_
    ·intro t;rw[Qax8];split
     ·rename_i ht
      rw[p4]at ht;exact (p8 t ht).2 (hno t)
     ·exact .unk _
    ·rw[p3];exact hgo _ _ _ _ _ _ _ (hI.doneFl hF hyp hfl hnd hanc p7 k1 k2)
  ·by_cases hfa:flo F.fa y.1=true
   ·exact hearly hfa hyp
   ·rcases hst with rfl|⟨z,r,rfl,hz,hzd⟩
    ·simp at hyp
    ·have hyz:y=z:=by
      rcases Jf.1 hyp with k|k
      ·exact k
      ·exfalso;have:=(hF.pair (Qdc hI.split k) (Qa1c hz).1 hyc).ord hz hfa;exact hzd (hanc _ this)
     subst hyz;have hrest:=hI.rest;have him:=ho.item;have hpass:=@DInv.passE;obtain⟨yi,yx⟩:=y
     cases yx with
     |e d gd op=>
      simp only[Js,Qwj]at hrest;obtain⟨r1,r2,r3⟩:=hrest;refine Qbpe (n:=F.n) h2 him hI.stp.sat ?_ r1 r2 r3 (fun x u w' H' g' k1 k2 k3=>?_) fun v w' H' g' k1 k2=>hP v a w' H' g' k1 (hI.stp.trans k2) hI.defers hI.size
      ·intro t;rw[Qax8];split
       ·rename_i ht
        rcases hI.temps t with ⟨y',b1,b2,b3,b4⟩|⟨y',b1,b2,b3,b4,b5⟩|k
        ·exfalso;exact b3 (hanc _ ((hF.pair (Qb9 hI.split b1 (by simp)) b2 hyc).raw t b4 ht))
        ·exfalso;rcases Jf.1 b1 with h|h
         ·subst h;exact hnd b4
         ·have:=(hF.pair (Qdc hI.split h) hyc b2).war t b5 ht;exact hnd (hI.closed _ b4 _ this)
        ·exact k
       ·exact .unk _
      ·exact hgo _ _ _ _ _ _ _ (hI.passE hF hz hnd hfa hanc (Qa5j k1 k3) k2 k3)
     |f=>simp[Item.isE]at hz
     |p=>simp[Item.isE]at hz
     |chk=>simp[Item.isE]at hz
theorem Qbkr (hs:Sat H g w)(k:Nat):Stp H g w H g { w with drawn:=k }:=by
 have hle:Le g w g { w with drawn:=k }:=⟨fun _ h=>⟨h,rfl⟩,fun _ _ h=>h,Jao _,fun _ _ _ h=>h,rfl,rfl,rfl⟩;have hk:∀l,Qacz g w g { w with drawn:=k } l:=fun l b q hb=>⟨hb,rfl⟩;exact⟨hle,fun l _ hn=>⟨hn,fun b p hb=>⟨hb,rfl⟩⟩,hs.fresh,hs.names,hs.excl,hs.named,fun l=>SatObj.keep_all hs hle hk l⟩
theorem Qbb9 {n id fa:Nat}{ord:List Nat}{ops:Array Oper}{its:List Item}{KP:Value→Heap→Prop}{K:Env→Heap→Prop}{Q:Exit→Act→World→Prop}(Qad:P.follows .mixedOrders=true)(hm:Qbqw P n ops fa ord its=true)(hs:Sat H g w)(he:EnvOk w g e a)(hn:a.tmps.size=n)(hd:a.defers=[])
  (hr:Qwj P its e H KP K) (hQ:∀a' w',Post n H g w K a' w'→Q .normal a' w') (hP:∀v a' w',Post n H g w (fun _ H'=>KP v H') a' w'→Q (.panic [{ v:=v,recovered:=false }]) a' w'):(Code.region id ops true).wp P Q a w:=by
 simp only[Qbqw,Ja,beq_iff_eq,J3,Jar,J9,J1]at hm;obtain⟨⟨⟨m1,m2⟩,m3⟩,m4⟩:=hm;let F:Fix:={ P,n,ops,ms:=Qbq4 ops.toList [],fa,L:=ord.zip its,H0:=H,g0:=g,w0:=w,KP,K };have hF:FixOk F:=⟨m3,fun i hi=>m4 i hi⟩;have hmap:(ord.zip its).map Prod.snd=its:=by
  rw[List.map_snd_zip];omega
 have hst:=Qbkr hs (w.drawn+1);have hnl:∀i,¬dn (Array.replicate ops.size false) i:=by
  intro i h;simp only[dn,Jc,Array.getElem?_replicate]at h;split at h <;> simp at h
 have hI:DInv F (Array.replicate ops.size false) a { w with drawn:=w.drawn+1 } [] (ord.zip its) e H g:=by
  refine⟨rfl,by rw[hmap];exact hr,hst,hn,hd,by simp[F],fun i hi=>absurd hi (hnl i),by simp,fun y _ _ h=>absurd h (hnl _),by simp,fun t=>?_,fun y _ z _ _ _ h=>absurd h (hnl _)⟩;exact .inr (.inr ((he t).mono hst.le))
 obtain⟨p2,q2,e2,H2,hI2,hs2⟩:=Qac0 hF _ _ _ _ hI;refine wp_region_any Qad ?_;refine Qbgp hF hQ (fun v a' w' H' g' k1 k2 k3 k4=>hP v a' w' ⟨[],H',g',k1,k2,fun t=>.unk _,k3,k4⟩) ops.size _ a _ p2 q2 e2 H2 g hI2 hs2 ?_;exact Nat.le_trans List.countP_le_length (by simp[F])
theorem Qbf9 {c:Code}{Q:Exit→Act→World→Prop}(I:Nat→Act→World→Prop)(h₀:∃n,I n a w)
  (round:∀n a w,I n a w→c.wp P (Exit.then (fun a' w'=>∃m,m<n∧I m a' w') Q) a w):(Code.loop c).wp P Q a w:=by
 intro b k cs;have key:∀n a w,I n a w→∃e a' w',Q e a' w'∧Arrives P (lone (b.at a (.code c::.inLoop c::k)) cs w) b k cs e a' w':=by
  intro n
  induction n using Nat.strongRecOn with
  |_ n ih=>
   intro a w hI;obtain⟨e,a₁,w₁,hq,harr⟩:=round n a w hI b (.inLoop c::k) cs
   cases e with
   |normal=>
    obtain⟨m,hlt,hI₁⟩:=hq;obtain⟨e₂,a₂,w₂,hq₂,harr₂⟩:=ih m hlt a₁ w₁ hI₁;exact⟨e₂,a₂,w₂,hq₂,.of_steps (Steps.trans harr (.one step_inLoop)) harr₂⟩
   |exit id=>exact⟨_,a₁,w₁,hq,.pass (x:=.inLoop c) rfl (fun _ _=>.inl (by simp)) harr⟩
   |goto l=>exact⟨_,a₁,w₁,hq,.pass (x:=.inLoop c) rfl (fun _ _=>.inl (by simp)) harr⟩
   |ret=>exact⟨_,a₁,w₁,hq,.pass (x:=.inLoop c) rfl (fun _ _=>.inl (by simp)) harr⟩
   |panic ch=>exact⟨_,a₁,w₁,hq,.pass (x:=.inLoop c) rfl (fun _ _=>.inl (by simp)) harr⟩
   |outgrown=>exact⟨_,a₁,w₁,hq,.pass (x:=.inLoop c) rfl (fun _ _=>.inl (by simp)) harr⟩
 obtain⟨n,hn⟩:=h₀;obtain⟨e,a',w',hq,harr⟩:=key n a w hn;exact⟨e,a',w',hq,.of_steps (.one step_loop) harr⟩
def xm:Exit→Option X
 |.normal=>some .nrm
 |.exit id=>some (.exit id)
 |.ret=>some .ret
 |.panic [{ v:=v,recovered:=false,goexit:=false }]=>some (.pan v)
 |_=>none
theorem Qbby {ch:List PanicEntry}{x:X}(h:xm (.panic ch)=some x):∃v,x=.pan v∧ch=[{ v:=v,recovered:=false }]:=by
 unfold xm at h;split at h <;> simp_all
def Qbgd (n:Nat)(H:Heap)(g:G)(w:World)(Q:X→Env→Heap→Prop)(x:Exit)(a:Act)(w':World):Prop:=
 ∃x',xm x=some x'∧Post n H g w (Q x') a w'
def mC (P:Program)(n:Nat):Code→SC→Bool
 |c,.seq .gh s=>mC P n c s
 |.skip,.skip=>true
 |.region _ ops false,.reg its _=>mIts P n ops 0 its
 |.region _ ops true,.dreg fa ord its _=>Qbqw P n ops fa ord its
 |.seq c d,.seq s t=>mC P n c s&&mC P n d t
 |.cond x c d,.cond y s t=>mO y x&&mC P n c s&&mC P n d t
 |.block i c,.block j s=>i == j&&mC P n c s
 |.loop c,.loop s=>mC P n c s
 |.exit i,.exit j=>i == j
 |.ret,.ret=>true
 |.scope c,.scope s=>mC P n c s
 |.label _,.skip=>true
 |_,_=>false
theorem Qbkv {ks:List Nat}(h:EnvOk w g e a):EnvOk w g (trim ks e) a:=by
 intro t;unfold trim
 induction ks with
 |nil=>exact .unk _
 |cons k ks ih=>
  simp only[Js,lk];split
  ·rename_i ht;subst ht;exact h t
  ·exact ih
theorem Post.trans {n:Nat}{H':Heap}{g':G}{w' w'':World}{K:Env→Heap→Prop}(h:Stp H g w H' g' w')(k:Post n H' g' w' K a w''):Post n H g w K a w'':=by
 obtain⟨e2,H2,g2,k1,k2,k3,k4,k5⟩:=k;exact⟨e2,H2,g2,k1,h.trans k2,k3,k4,k5⟩
theorem Qbb7 (Qad:P.follows .mixedOrders=true){n:Nat}:∀(s:SC) (c:Code) (Q:X→Env→Heap→Prop) (e:Env) (H:Heap),mC P n c s=true→Q8 P s Q e H→
  ∀(g:G) (w:World) (a:Act),Sat H g w→EnvOk w g e a→a.defers=[]→a.tmps.size=n→c.wp P (Qbgd n H g w Q) a w:=by
 intro s
 induction s with
 |skip=>
  intro c Q e H hm hc g w a hs he hd hn
  cases c with
  |skip=>exact wp_skip ⟨.nrm,rfl,e,H,g,hc,.refl hs,he,hd,hn⟩
  |label l=>exact wp_label ⟨.nrm,rfl,e,H,g,hc,.refl hs,he,hd,hn⟩
  |_=>simp[mC]at hm
 |reg its keep=>
  intro c Q e H hm hc g w a hs he hd hn
  cases c with
  |region id ops dr'=>
   cases dr' with
   |true=>simp[mC]at hm
   |false=>
    simp only[mC]at hm;simp only[Q8]at hc;have hQ:∀a' w',Post n H g w (fun e' H'=>Q .nrm (trim keep e') H') a' w'→Qbgd n H g w Q .normal a' w':=by
     rintro a' w' ⟨e2,H2,g2,k1,k2,k3,k4,k5⟩;exact⟨.nrm,rfl,_,H2,g2,k1,k2,Qbkv k3,k4,k5⟩
    have hP:∀v a' w',Post n H g w (fun _ H'=>X.panK Q v H') a' w'→Qbgd n H g w Q (.panic [{ v:=v,recovered:=false }]) a' w':=by
     rintro v a' w' ⟨e2,H2,g2,k1,k2,k3,k4,k5⟩;exact⟨.pan v,rfl,[],H2,g2,k1,k2,fun t=>.unk _,k4,k5⟩
    have hl:=Qba5 its 0 hm;refine wp_region ?_;rw[List.range_eq_range',←hl,Jad];exact Qagh hQ hP its 0 e H g w a hm (.refl hs) he hn hd hc
  |_=>simp[mC]at hm
 |dreg fa ord its keep=>
  intro c Q e H hm hc g w a hs he hd hn
  cases c with
  |region id ops dr'=>
   cases dr' with
   |false=>simp[mC]at hm
   |true=>
    simp only[mC]at hm;simp only[Q8]at hc;have hQ:∀a' w',Post n H g w (fun e' H'=>Q .nrm (trim keep e') H') a' w'→Qbgd n H g w Q .normal a' w':=by
     rintro a' w' ⟨e2,H2,g2,k1,k2,k3,k4,k5⟩;exact⟨.nrm,rfl,_,H2,g2,k1,k2,Qbkv k3,k4,k5⟩
    have hP:∀v a' w',Post n H g w (fun _ H'=>X.panK Q v H') a' w'→Qbgd n H g w Q (.panic [{ v:=v,recovered:=false }]) a' w':=by
     rintro v a' w' ⟨e2,H2,g2,k1,k2,k3,k4,k5⟩;exact⟨.pan v,rfl,[],H2,g2,k1,k2,fun t=>.unk _,k4,k5⟩
    exact Qbb9 Qad hm hs he hn hd hc hQ hP
  |_=>simp[mC]at hm
 |seq s t ihs iht=>
  intro c Q e H hm hc g w a hs he hd hn;by_cases hg:s=.gh
  ·subst hg;have hm':mC P n c t=true:=by simpa[mC]using hm
   simp only[Q8]at hc;obtain⟨e1,H1,h1,h2⟩:=hc;obtain⟨g1,k1,k2⟩:=h1 g w (fun t=>a.tmps.getD t undef) hs he;refine wp_mono (iht c Q e1 H1 hm' h2 g1 w a k1.sat k2 hd hn) ?_;rintro x a' w' ⟨x',q1,q2⟩;exact⟨x',q1,q2.trans k1⟩
  ·cases c with
   |seq c d=>
    have hm':mC P n c s=true∧mC P n d t=true:=by
     cases s <;> first|(exact absurd rfl hg)|simpa[mC]using hm
    simp only[Q8]at hc;refine wp_seq (wp_mono (ihs c _ e H hm'.1 hc g w a hs he hd hn) ?_);rintro x a' w' ⟨x',q1,e2,H2,g2,k1,k2,k3,k4,k5⟩
    cases x with
    |normal=>
     simp only[xm,Jd]at q1;subst q1;refine wp_mono (iht d Q e2 H2 hm'.2 k1 g2 w' a' k2.sat k3 k4 k5) ?_;rintro x2 a2 w2 ⟨x2',r1,r2⟩;exact⟨x2',r1,r2.trans k2⟩
    |exit id=>
     simp only[xm,Jd]at q1;subst q1;exact⟨_,rfl,e2,H2,g2,k1,k2,k3,k4,k5⟩
    |ret=>
     simp only[xm,Jd]at q1;subst q1;exact⟨_,rfl,e2,H2,g2,k1,k2,k3,k4,k5⟩
    |panic ch=>
     obtain⟨v,rfl,rfl⟩:=Qbby q1;exact⟨_,rfl,e2,H2,g2,k1,k2,k3,k4,k5⟩
    |_=>simp[xm]at q1
   |_=>cases s <;> first|(exact absurd rfl hg)|simp[mC]at hm
 |cond y s t ihs iht=>
  intro c Q e H hm hc g w a hs he hd hn;cases c <;> simp[mC]at hm
  rename_i x c d
  obtain⟨⟨h1,h2⟩,h3⟩:=hm;simp only[Q8]at hc;obtain⟨b,k1,k2,k3⟩:=hc;have hr:=Qbo0 he h1;rw[k1]at hr;have hb:=hr.c_inv.bool_inv;exact wp_cond_split hb (fun hbt=>ihs c Q e H h2 (k2 hbt) g w a hs he hd hn) (fun hbt=>iht d Q e H h3 (k3 hbt) g w a hs he hd hn)
 |block id s ih=>
  intro c Q e H hm hc g w a hs he hd hn;cases c <;> simp[mC]at hm
  rename_i id' c
  obtain⟨rfl,h2⟩:=hm;simp only[Q8]at hc;refine wp_block (wp_mono (ih c _ e H h2 hc g w a hs he hd hn) ?_);rintro x a' w' ⟨x',q1,e2,H2,g2,k1,k2⟩
  cases x with
  |normal=>
   simp only[xm,Jd]at q1;subst q1;exact⟨.nrm,rfl,e2,H2,g2,k1,k2⟩
  |exit id2=>
   simp only[xm,Jd]at q1;subst q1;simp only[X.inBlock]at k1;simp only[Exit.inBlock];split
   ·rename_i h;subst h;rw[if_pos rfl]at k1;exact⟨.nrm,rfl,e2,H2,g2,k1,k2⟩
   ·rename_i h;rw[if_neg h]at k1;exact⟨.exit id2,rfl,e2,H2,g2,k1,k2⟩
  |ret=>
   simp only[xm,Jd]at q1;subst q1;exact⟨.ret,rfl,e2,H2,g2,k1,k2⟩
  |panic ch=>
   obtain⟨v,rfl,rfl⟩:=Qbby q1;exact⟨.pan v,rfl,e2,H2,g2,k1,k2⟩
  |_=>simp[xm]at q1
 |loop s ih=>
  intro c Q e H hm hc g w a hs he hd hn;cases c <;> simp[mC]at hm
  rename_i c
  simp only[Q8]at hc;obtain⟨I,⟨m0,h0⟩,hround⟩:=hc;refine Qbf9 (fun m a' w'=>Post n H g w (I m) a' w') ⟨m0,e,H,g,h0,.refl hs,he,hd,hn⟩ ?_;rintro m a1 w1 ⟨e1,H1,g1,k1,k2,k3,k4,k5⟩;refine wp_mono (ih c _ e1 H1 hm (hround m e1 H1 k1) g1 w1 a1 k2.sat k3 k4 k5) ?_;rintro x a' w' ⟨x',q1,e2,H2,g2,r1,r2,r3,r4,r5⟩
  cases x with
  |normal=>
   simp only[xm,Jd]at q1;subst q1;obtain⟨m',hlt,hI⟩:=r1;exact⟨m',hlt,e2,H2,g2,hI,k2.trans r2,r3,r4,r5⟩
  |exit id=>
   simp only[xm,Jd]at q1;subst q1;exact⟨_,rfl,e2,H2,g2,r1,k2.trans r2,r3,r4,r5⟩
  |ret=>
   simp only[xm,Jd]at q1;subst q1;exact⟨_,rfl,e2,H2,g2,r1,k2.trans r2,r3,r4,r5⟩
  |panic ch=>
   obtain⟨v,rfl,rfl⟩:=Qbby q1;exact⟨_,rfl,e2,H2,g2,r1,k2.trans r2,r3,r4,r5⟩
  |_=>simp[xm]at q1
 |exit id=>
  intro c Q e H hm hc g w a hs he hd hn;cases c <;> simp[mC]at hm;subst hm;exact wp_exit ⟨.exit _,rfl,e,H,g,hc,.refl hs,he,hd,hn⟩
 |ret=>
  intro c Q e H hm hc g w a hs he hd hn;cases c <;> simp[mC]at hm;exact wp_ret ⟨.ret,rfl,e,H,g,hc,.refl hs,he,hd,hn⟩
 |gh=>
  intro c Q e H hm hc g w a hs he hd hn;cases c <;> simp[mC]at hm
 |scope s ih=>
  intro c Q e H hm hc g w a hs he hd hn;cases c <;> simp[mC]at hm
  rename_i c
  simp only[Q8]at hc;refine wp_scope_straight (wp_mono (ih c Q e H hm hc g w a hs he hd hn) ?_);rintro x a' w' ⟨x',q1,q2⟩
  cases x with
  |goto l=>simp[xm]at q1
  |_=>exact⟨x',q1,q2⟩
def mR (P:Program):ResultVar→RS→Bool
 |.tmp t,.tmp t'=>t == t'
 |.cell t ty,.cell t' n agg=>t == t'&&Qa1l P ty n agg
 |_,_=>false
def mRs (P:Program):List ResultVar→List RS→Bool
 |[],[]=>true
 |x::r,y::s=>mR P x y&&mRs P r s
 |_,_=>false
def mFn (P:Program)(f:FuncId)(nargs n:Nat)(s:SC)(rs:List RS):Bool:=
 fnOk P f&&(match P.funcs[f]? with
  |some fn=>(match fn.body with
   |some c=>fn.ntmps == n&&decide (nargs≤n)&&mC P n c s&&mRs P fn.results.toList rs
   |none=>false)
  |none=>false)
theorem Qbsv {n:Nat}{x:ResultVar}{y:RS}(hm:mR P x y=true)(hs:Sat H g w)(he:EnvOk w g e a)(ho:y.op.obl true e H) :
  ∃v,(match x with
   |.tmp t=>(pure (a.tmps.getD t undef):Sem Value)
   |.cell t ty=>do loadVar ty (←asAddr (a.tmps.getD t undef))).run P w=.ok v w∧RepV w g (y.op.val e H) v:=by
 cases x with
 |tmp t=>
  cases y with
  |tmp t'=>
   simp[mR]at hm;subst hm;have hr:=Qai (x:=.t t) (y:=.tmp t) he (by simp[mO]) rfl ho;exact⟨a.tmps.getD t undef,rfl,hr⟩
  |cell=>simp[mR]at hm
 |cell t ty=>
  cases y with
  |tmp=>simp[mR]at hm
  |cell t' n agg=>
   simp only[mR,Ja,beq_iff_eq]at hm;obtain⟨rfl,h2⟩:=hm;obtain⟨d,i,k1,k2,k3,k4,k5⟩:=Qnr h2;obtain ⟨v, w', g', r1, r2, r3, _⟩ := s_ld (o := { dst := none, op := .load ty (.tmp t), type := 0, pos := "", after := #[], guard := none }) (x := .t t) (x' := .tmp t) rfl k1 k2 k3 k4 k5 (by simp [mO]) hs he rfl ho
   simp only[RS.op,FOp.obl]at ho;obtain⟨o1,o2,o3,o4,o5⟩:=ho;have hrr:=Qai (x:=.t t) (y:=.tmp t) he (by simp[mO]) rfl o1;rw[Qdk o2]at hrr;obtain⟨b,q,hv,_⟩:=Qav2 hs hrr.c_inv o3;have hv':a.tmps.getD t undef=.pointer (some ⟨b,q,none⟩):=hv;have hcell := Qa40 (P := P) (o := { dst := none, op := .load ty (.tmp t), type := 0, pos := "", after := #[], guard := none }) (x := .t t) (x' := .tmp t) rfl k1 k2 k3 k4 k5 (by simp [mO]) hs he rfl ⟨o1, o2, o3, o4, o5⟩
   obtain⟨v2,q1,q2⟩:=hcell;refine⟨v2,?_,q2⟩;simp only[execOp,Instr.loadAt,Act.eval,hv',Instr.sureAddr,Sem.run_bind,Sem.run_pure,Result.andThen_ok]at q1;simp only[hv',asAddr,Sem.run_bind,Sem.run_pure,Result.andThen_ok]
   cases hl:(loadVar ty ⟨b,q,none⟩).run P w with
   |ok u w2=>rw[hl]at q1;simp at q1;obtain⟨rfl,rfl⟩:=q1;rfl
   |halt h w2=>rw[hl]at q1;simp at q1
def rRun (tmps:Array Value):ResultVar→Sem Value
 |.tmp t=>pure (tmps.getD t undef)
 |.cell a t=>do loadVar t (←asAddr (tmps.getD a undef))
theorem Qa6t {P:Program}{w:World}{tmps:Array Value}:∀(l:List ResultVar) (vs:List Value),l.length=vs.length→
  (∀(j:Nat) (x:ResultVar) (v:Value),l[j]? = some x→vs[j]? = some v→(rRun tmps x).run P w=.ok v w)→(l.mapM (rRun tmps)).run P w=.ok vs w:=by
 intro l
 induction l with
 |nil=>intro vs hl _;cases vs with
  |nil=>simp
  |cons=>simp at hl
 |cons x r ih=>
  intro vs hl h
  cases vs with
  |nil=>simp at hl
  |cons v vs=>
   have h0:=h 0 x v rfl rfl;have ih':=ih vs (by simpa using hl) fun j y u h1 h2=>h (j+1) y u (by simpa using h1) (by simpa using h2);simp only[List.mapM_cons,Sem.run_bind,h0,Result.andThen_ok,ih',Sem.run_pure]
theorem Qbqx {n:Nat}:∀(l:List ResultVar) (rs:List RS),mRs P l rs=true→Sat H g w→EnvOk w g e a→(∀r∈rs,r.op.obl true e H)→
  ∃vs:List Value,l.length=vs.length∧vs.length=rs.length∧(∀(j:Nat) (x:ResultVar) (v:Value),l[j]? = some x→vs[j]? = some v→(rRun a.tmps x).run P w=.ok v w)∧
   (∀(j:Nat) (x:V) (u:Value),(rs.map fun r=>r.op.val e H)[j]? = some x→vs[j]? = some u→RepV w g x u):=by
 intro l
 induction l with
 |nil=>
  intro rs hm hs he ho
  cases rs with
  |nil=>exact⟨[],rfl,rfl,by simp,by simp⟩
  |cons=>simp[mRs]at hm
 |cons x r ih=>
  intro rs hm hs he ho
  cases rs with
  |nil=>simp[mRs]at hm
  |cons y rs=>
   simp only[mRs,Ja]at hm;obtain⟨v,h1,h2⟩:=Qbsv (n:=n) hm.1 hs he (ho y (by simp));obtain⟨vs,k1,k2,k3,k4⟩:=ih rs hm.2 hs he fun z hz=>ho z (by simp[hz]);refine⟨v::vs,by simp[k1],by simp[k2],?_,?_⟩
   ·intro j z u hz hu
    cases j with
    |zero=>
     simp at hz hu;subst hz;subst hu;exact h1
    |succ j=>exact k3 j z u (by simpa using hz) (by simpa using hu)
   ·intro j z u hz hu
    cases j with
    |zero=>
     simp at hz hu;subst hz;subst hu;exact h2
    |succ j=>exact k4 j z u (by simpa using hz) (by simpa using hu)
theorem Qbc3 {fn:Func}{rs:List RS}(hm:mRs P fn.results.toList rs=true)(hs:Sat H g w)(he:EnvOk w g e a){K:V→Heap→Prop}(ho:Q7 rs e H K) :
  ∃v x,(results fn a.tmps).run P w=.ok v w∧K x H∧RepV w g x v:=by
 obtain⟨h1,h2⟩:=ho;obtain⟨vs,k1,k2,k3,k4⟩:=Qbqx (n:=0) _ _ hm hs he h1;have hr:=Qa6t (P:=P) (w:=w) (tmps:=a.tmps) _ _ k1 k3;have hrun:(results fn a.tmps).run P w=.ok (if h:vs.toArray.size=1 then vs.toArray[0]else .tuple vs.toArray) w:=by
  have:results fn a.tmps=(do let vs ←fn.results.mapM (rRun a.tmps);pure (if h:vs.size=1 then vs[0]else .tuple vs)):=by
   unfold results;rfl
  rw[this,Array.mapM_eq_mapM_toList];simp only[Sem.run_bind,Sem.run_map,hr,Result.andThen_ok,Sem.run_pure]
 by_cases hl:vs.length=1
 ·obtain⟨v,rfl⟩:∃v,vs=[v]:=Jab.mp hl;obtain⟨r,rfl⟩:∃r,rs=[r]:=Jab.mp (by omega);exact⟨v,_,by simpa using hrun,h2,k4 0 _ v (by simp) rfl⟩
 ·have hsz:¬vs.toArray.size=1:=by simpa using hl
  rw[dif_neg hsz]at hrun;refine⟨_,.tup (rs.map fun r=>r.op.val e H),hrun,?_,.tup _ _ (by simp[k2]) k4⟩;split at h2
  ·rename_i r;simp at k2;omega
  ·exact h2
def Qq (rs:List RS)(K:V→Heap→Prop):X→Env→Heap→Prop
 |.nrm,e,H=>Q7 rs e H K
 |.ret,e,H=>Q7 rs e H K
 |.exit _,_,_=>False
 |.pan v,_,H=>K (.pn v) H
theorem Qbry:∀(args:List V) (i t:Nat),lk t (zipE i args)=if i≤t then args.getD (t-i) .unk else .unk:=by
 intro args
 induction args with
 |nil=>intro i t;simp[zipE,lk]
 |cons v r ih=>
  intro i t;simp only[zipE,lk,ih];split
  ·rename_i h;subst h;simp
  ·rename_i h
   split
   ·rw[if_pos (by omega)];have:t-i=(t-(i+1))+1:=(by omega);rw[this];simp
   ·rw[if_neg (by omega)]
theorem Qb (Qad:P.follows .mixedOrders=true){f n:Nat}{s:SC}{rs:List RS}{args:List V}{H:Heap}{K:V→Heap→Prop}
  (hm:mFn P f args.length n s rs=true) (hc:Q8 P s (Qq rs K) (zipE 0 args) H):Qj P f args H K:=by
 simp only[mFn,Ja]at hm;obtain⟨hok,hm⟩:=hm;refine⟨hok,?_⟩;intro g w vs hs hl hv
 cases hf:P.funcs[f]? with
 |none=>rw[hf]at hm;simp at hm
 |some fn=>
  rw[hf]at hm;simp only at hm
  cases hb:fn.body with
  |none=>rw[hb]at hm;simp at hm
  |some c=>
   rw[hb]at hm;simp only[Ja,beq_iff_eq,decide_eq_true_eq]at hm;obtain⟨⟨⟨h1,h2⟩,h3⟩,h4⟩:=hm;refine calls_of_wp hf hb ?_;have he:EnvOk w g (zipE 0 args) { tmps:=vs.toArray++Array.replicate (fn.ntmps-vs.toArray.size) undef,defers:=[] }:=by
    intro t;rw[Qbry,if_pos (Jav _),Nat.sub_zero];by_cases ht:t<args.length
    ·have ht':t<vs.length:=(by omega);have hg:(vs.toArray++Array.replicate (fn.ntmps-vs.toArray.size) undef).getD t undef=vs[t]:=by
      simp[Array.getD,ht',Array.getElem_append];intro h;omega
     rw[hg];exact hv t _ _ (by rw[Jh,Jl ht];rfl) (Jl ht')
    ·rw[Jh,Jm (by omega)];exact .unk _
   refine wp_mono (Qbb7 Qad s c _ (zipE 0 args) H h3 hc g w _ hs he rfl (by simp;omega)) ?_;rintro x a' w' ⟨x',q1,e2,H2,g2,k1,k2,k3,k4,k5⟩;have key:Q7 rs e2 H2 K→a'.defers=[]∧∃v,(results fn a'.tmps).run P w'=.ok v w'∧((∃v' x H' g',Ending.returned v=.returned v'∧K x H'∧Stp H g w H' g' w'∧RepV w' g' x v')∨(∃v' H' g',Ending.returned v=.panicked [{ v:=v',recovered:=false }]∧K (.pn v') H'∧Stp H g w H' g' w')):=by
    intro hret;obtain⟨v,x,r1,r2,r3⟩:=Qbc3 h4 k2.sat k3 hret;exact⟨k4,v,r1,.inl ⟨v,x,H2,g2,rfl,r2,k2,r3⟩⟩
   cases x with
   |normal=>
    simp only[xm,Jd]at q1;subst q1;exact key k1
   |ret=>
    simp only[xm,Jd]at q1;subst q1;exact key k1
   |exit id=>
    simp only[xm,Jd]at q1;subst q1;exact k1.elim
   |panic ch=>
    obtain⟨v,rfl,rfl⟩:=Qbby q1;exact⟨k4,.inr ⟨v,H2,g2,rfl,k1,k2⟩⟩
   |_=>simp[xm]at q1
end Go.AE
namespace Go.AE
variable {P:Program}{H:Heap}{e:Env}
def X.sq (P:Program)(b:SC)(Q:X→Env→Heap→Prop):X→Env→Heap→Prop:=X.next (Q8 P b Q) Q
theorem Qbrn {KP:Value→Heap→Prop}{K:V→Heap→Prop}{x:C}:Qa5h KP K (.c x) H=K (.c x) H:=rfl
theorem Qbok {KP:Value→Heap→Prop}{K:V→Heap→Prop}{x:List C}:Qa5h KP K (.ag x) H=K (.ag x) H:=rfl
theorem Qa5i {KP:Value→Heap→Prop}{K:V→Heap→Prop}{x:List V}:Qa5h KP K (.tup x) H=K (.tup x) H:=rfl
theorem Qbkp {KP:Value→Heap→Prop}{K:V→Heap→Prop}:Qa5h KP K .unk H=K .unk H:=rfl
theorem Qbol {KP:Value→Heap→Prop}{K:V→Heap→Prop}{v:Value}:Qa5h KP K (.pn v) H=KP v H:=rfl
theorem Qbtj {b:SC}{Q:X→Env→Heap→Prop}:X.sq P b Q .nrm e H=Q8 P b Q e H:=rfl
theorem Qbtk {b:SC}{Q:X→Env→Heap→Prop}:X.sq P b Q .ret e H=Q .ret e H:=rfl
theorem Qbri {b:SC}{Q:X→Env→Heap→Prop}{i:Nat}:X.sq P b Q (.exit i) e H=Q (.exit i) e H:=rfl
theorem Qbsk {i:Nat}{Q:X→Env→Heap→Prop}:X.inBlock i Q .nrm e H=Q .nrm e H:=rfl
theorem Qbsl {i:Nat}{Q:X→Env→Heap→Prop}:X.inBlock i Q .ret e H=Q .ret e H:=rfl
theorem Qbqb {i:Nat}{Q:X→Env→Heap→Prop}:X.inBlock i Q (.exit i) e H=Q .nrm e H:=by simp[X.inBlock]
theorem Qbl0 {i j:Nat}{Q:X→Env→Heap→Prop}(h:(j == i)=false):X.inBlock i Q (.exit j) e H=Q (.exit j) e H:=by
 have:j≠i:=by simpa using h
 simp[X.inBlock,this]
theorem Qg {a b:SC}{Q:X→Env→Heap→Prop}(h:Q8 P a (X.sq P b Q) e H):Q8 P (.seq a b) Q e H:=h
theorem Qbif {K K':Env→Heap→Prop}{Q:X→Env→Heap→Prop}:X.next K (X.next K' Q)=X.next K Q:=by
 funext x e H
 cases x <;> rfl
theorem Q5 {a b c:SC}{Q:X→Env→Heap→Prop}(h:Q8 P (.seq a (.seq b c)) Q e H):Q8 P (.seq (.seq a b) c) Q e H:=by
 simp only[Q8]at h⊢;rw[Qbif];exact h
theorem Qp {its:List Item}{keep:List Nat}{Q:X→Env→Heap→Prop}(h:regT P its e H (X.panK Q) fun e' H'=>Q .nrm (trim keep e') H'):Q8 P (.reg its keep) Q e H:=h
theorem Qe8 {fa:Nat}{ord:List Nat}{its:List Item}{keep:List Nat}{Q:X→Env→Heap→Prop}(h:Qwj P its e H (X.panK Q) fun e' H'=>Q .nrm (trim keep e') H'):Q8 P (.dreg fa ord its keep) Q e H:=h
theorem Qa {its:List Item}{keep:List Nat}{b:SC}{Q:X→Env→Heap→Prop}(h:regT P its e H (X.panK Q) fun e' H'=>Q8 P b Q (trim keep e') H'):Q8 P (.seq (.reg its keep) b) Q e H:=h
theorem Qaf {fa:Nat}{ord:List Nat}{its:List Item}{keep:List Nat}{b:SC}{Q:X→Env→Heap→Prop}(h:Qwj P its e H (X.panK Q) fun e' H'=>Q8 P b Q (trim keep e') H'):Q8 P (.seq (.dreg fa ord its keep) b) Q e H:=h
theorem Qc {t:Opd}{a b:SC}{Q:X→Env→Heap→Prop}{c:Bool}(hc:t.raw e=.c (.bool c))(h1:c=true→Q8 P a Q e H)(h2:c=false→Q8 P b Q e H):Q8 P (.cond t a b) Q e H:=⟨c,hc,h1,h2⟩
theorem Qe {i:Nat}{a:SC}{Q:X→Env→Heap→Prop}(h:Q8 P a (X.inBlock i Q) e H):Q8 P (.block i a) Q e H:=h
theorem Q1 {i:Nat}{Q:X→Env→Heap→Prop}(h:Q (.exit i) e H):Q8 P (.exit i) Q e H:=h
theorem Qi {Q:X→Env→Heap→Prop}(h:Q .ret e H):Q8 P .ret Q e H:=h
theorem Qf {Q:X→Env→Heap→Prop}(h:Q .nrm e H):Q8 P .skip Q e H:=h
theorem Q2 {a:SC}{Q:X→Env→Heap→Prop}(I:Nat→Env→Heap→Prop)(n:Nat)(h0:I n e H)
  (h:∀n e1 H1,I n e1 H1→Q8 P a (X.next (fun e2 H2=>∃m,m<n∧I m e2 H2) Q) e1 H1):Q8 P (.loop a) Q e H:=⟨I,⟨n,h0⟩,h⟩
theorem Qblu {e:Env}:gdO e none=True:=rfl
theorem Qblt {e:Env}:gdB e none=true:=rfl
theorem Qblv {p:Bool}{v:V}:gdV none p v=v:=rfl
theorem Qblw {p:Bool}{v:V}{x:Nat×Bool}:gdV (some x) p v=.gd p v:=rfl
theorem Qboq {e:Env}:trim [] e=[]:=rfl
theorem Qbku {k:Nat}{ks:List Nat}{e:Env}:trim (k::ks) e=(k,lk k e)::trim ks e:=rfl
theorem Qbor {a:Prop}:(true=true→a)=a:=by simp
theorem Qbgx {a:Prop}:(false=true→a)=True:=by simp
theorem Qbkw {a:Prop}:(true=false→a)=True:=by simp
theorem Qbch {a:Prop}:(false=false→a)=a:=by simp
theorem Qbty {a:Prop}:(a∧True)=a:=by simp
theorem Qbu5 {a:Prop}:(True∧a)=a:=by simp
theorem Qbu6 {a:Prop}:(True→a)=a:=by simp
theorem Qbue {a:Prop}:(a→True)=True:=by simp
theorem b_f {b:Bool}:(b == false) = !b:=by cases b <;> rfl
theorem b_t {b:Bool}:(b == true)=b:=by cases b <;> rfl
theorem Qbl3 {a:Prop}:(a→a)=True:=by simp
theorem Qbhb {a b:Prop}:(a→b→a)=True:=propext ⟨fun _=>trivial,fun _ h _=>h⟩
theorem Qbhc {a b:Prop}:(a→a∧b)=(a→b):=propext ⟨fun h x=>(h x).2,fun h x=>⟨x,h x⟩⟩
theorem Qbqd {a b:Prop}:(a→a→b)=(a→b):=by simp
theorem Qa6o {α:Type}{p:α→Prop}:(∀x∈([]:List α),p x)=True:=by simp
def Qa5k (H:Heap)(p:C)(vs:List C)(K:V→Heap→Prop):Prop:=
 match p with
 |.ptr l k=>match H l with
  |.st cells=>k+vs.length≤cells.length∧∀H',H'=H.set l (.st (Q7t cells k vs))→K .unk H'
  |_=>False
 |.ep (.vsl l sz st n) z i k=>match H l with
  |.vec y rows=>y=sz∧z=sz∧i<n∧st+n≤rows.length∧k+vs.length≤sz∧
    ∀H',H'=H.set l (.vec sz (rows.set (st+i) (Q7t (rows.getD (st+i) []) k vs)))→K .unk H'
  |_=>False
 |_=>False
def appQ (H:Heap)(sz:Nat)(a b:C)(K:V→Heap→Prop):Prop:=
 okSl H b∧b.elemSz=sz∧match a with
 |.sl true z rows=>z=sz∧(rows=[]∨rowsOf H b≠[])∧(∀r∈rows++rowsOf H b,noOw r=true)∧rows.length+lenC b≤LIM∧
   ∀l,H l=.none→∀H',H'=H.set l (.vec sz (rows++rowsOf H b))→K (.c (.vsl l sz 0 (rows.length+lenC b))) H'
 |.vsl l z st n=>match H l with
  |.vec y rows=>z=sz∧y=sz∧st+n≤rows.length∧(∀r∈rowsOf H b,noOw r=true)∧n+lenC b≤LIM∧
    ∀l',(H.set l .none) l'=.none→∀H',H'=(H.set l .none).set l' (.vec sz ((rows.drop st).take n++rowsOf H b))→
     K (.c (.vsl l' sz 0 (n+lenC b))) H'
  |_=>False
 |_=>False
def updQ (H:Heap)(tag:Nat)(m k:C)(v:V)(K:V→Heap→Prop):Prop:=
 match m with
 |.mp l=>match H l with
  |.map n es=>Qo7 tag k es∧es.length+1≤LIM∧∀H',H'=H.set l (.map (n+1) (Q7w k v es))→K .unk H'
  |_=>False
 |_=>False
def delQ (H:Heap)(tag:Nat)(m k:C)(K:V→Heap→Prop):Prop:=
 match m with
 |.mp l=>match H l with
  |.map n es=>Qo7 tag k es∧∀H',H'=H.set l (.map (n+1) (delE k es))→K .unk H'
  |_=>False
 |.mnil=>Qo7 tag k []∧K .unk H
 |_=>False
theorem Qa4 {α:Type}{a:α}{p:α→Prop}:(∀x,x=a→p x)=p a:=propext ⟨fun h=>h a rfl,fun h x hx=>hx▸h⟩
section
variable {p:Bool}{K:V→Heap→Prop}
theorem Qbkq {a:C}{vs:List C}:Qars H a vs K=Qa5k H a vs K:=by
 cases a with
 |ptr l k=>simp only[Qars,Qa5k];cases hh:H l <;> simp only[hh,Qa4]
 |ep s z i k=>
  cases s with
  |vsl l sz st n=>simp only[Qars,Qa5k];cases hh:H l <;> simp only[hh,Qa4]
  |_=>rfl
 |_=>rfl
theorem Qbgi {sz:Nat}{a b:C}:appT H sz a b K=appQ H sz a b K:=by
 unfold appT appQ;refine congrArg (And _) (congrArg (And _) ?_)
 cases a with
 |sl fl z rows=>cases fl <;> simp only[Qa4]
 |vsl l z st n=>simp only[];cases hh:H l <;> simp only[hh,Qa4]
 |_=>rfl
theorem Qbru {tag:Nat}{m k:C}{v:V}:updT H tag m k v K=updQ H tag m k v K:=by
 cases m with
 |mp l=>simp only[updT,updQ];cases hh:H l <;> simp only[hh,Qa4]
 |_=>rfl
theorem Qbpn {tag:Nat}{m k:C}:delT H tag m k K=delQ H tag m k K:=by
 cases m with
 |mp l=>simp only[delT,delQ];cases hh:H l <;> simp only[hh,Qa4]
 |_=>rfl
theorem Qbgr {cells:List C}:(EOp.alloc cells).eff P p e H K=∀l,H l=.none→∀H',H'=H.set l (.st cells)→K (.c (.ptr l 0)) H':=by simp only[EOp.eff,Qa4]
theorem Qblc {a:Opd}:(EOp.boxm a).eff P p e H K=(a.fine p e∧(a.v e).cells≠[]∧∀l,H l=.none→∀H',H'=H.set l (.st (a.v e).cells)→K (.c (.ptr l 0)) H'):=by simp only[EOp.eff,Qa4]
theorem Qbpz {n:Nat}{a v:Opd}:(EOp.sto n a v).eff P p e H K=(a.fine p e∧v.fine p e∧(a.v e).isC∧(v.v e).cells.length=n∧0<n∧Qa5k H (a.v e).c1 (v.v e).cells K):=by simp only[EOp.eff,Qbkq]
theorem Qbpq {sz:Nat}{a b:Opd}:(EOp.app sz a b).eff P p e H K=(a.fine p e∧b.fine p e∧(a.v e).isC∧(b.v e).isC∧appQ H sz (a.v e).c1 (b.v e).c1 K):=by simp only[EOp.eff,Qbgi]
theorem Qbpr {sz:Nat}{zr:List C}{a n:Opd}:(EOp.apz sz zr a n).eff P p e H K=(a.fine p e∧n.fine p e∧(a.v e).isC∧Qwk (n.v e)∧0≤Q6 (n.v e)∧Q6 (n.v e)≤LIM∧appQ H sz (a.v e).c1 (.sl false sz (List.replicate (Q6 (n.v e)).toNat zr)) K):=by simp only[EOp.eff,Qbgi]
theorem Qbpw {sz:Nat}{zero:List C}{n:Opd}:(EOp.mks sz zero n).eff P p e H K=(n.fine p e∧Qwk (n.v e)∧0≤Q6 (n.v e)∧Q6 (n.v e)≤LIM∧
   ∀l,H l=.none→∀H',H'=H.set l (.vec sz (List.replicate (Q6 (n.v e)).toNat zero))→K (.c (.vsl l sz 0 (Q6 (n.v e)).toNat)) H'):=by simp only[EOp.eff,Qa4]
theorem Qbpv:EOp.mkm.eff P p e H K=∀l,H l=.none→∀H',H'=H.set l (.map 0 [])→K (.c (.mp l)) H':=by simp only[EOp.eff,Qa4]
theorem Qbp0 {tag:Nat}{m k v:Opd}:(EOp.upd tag m k v).eff P p e H K=(m.fine p e∧k.fine p e∧v.fine p e∧(m.v e).isC∧(k.v e).isC∧(v.v e).cells≠[]∧updQ H tag (m.v e).c1 (k.v e).c1 (v.v e) K):=by simp only[EOp.eff,Qbru]
theorem Qbpt {tag:Nat}{m k:Opd}:(EOp.del tag m k).eff P p e H K=(m.fine p e∧k.fine p e∧(m.v e).isC∧(k.v e).isC∧delQ H tag (m.v e).c1 (k.v e).c1 K):=by simp only[EOp.eff,Qbpn]
theorem Qblf {m:Opd}:(EOp.clrm m).eff P p e H K=(m.fine p e∧match m.v e with
  |.c (.mp l)=>match H l with
   |.map n _=>∀H',H'=H.set l (.map (n+1) [])→K .unk H'
   |_=>False
  |_=>False):=by
 simp only[EOp.eff];refine congrArg (And _) ?_
 cases m.v e with
 |c x=>cases x with
  |mp l=>simp only[];cases hh:H l <;> simp only[hh,Qa4]
  |_=>rfl
 |_=>rfl
theorem Qblg {sz:Nat}{zero:List C}{m:Opd}:(EOp.clrs sz zero m).eff P p e H K=(m.fine p e∧match m.v e with
  |.c (.vsl l z st n)=>z=sz∧match H l with
   |.vec y rows=>y=sz∧st+n≤rows.length∧∀H',H'=H.set l (.vec sz (rows.take st++List.replicate n zero++rows.drop (st+n)))→K .unk H'
   |_=>False
  |_=>False):=by
 simp only[EOp.eff];refine congrArg (And _) ?_
 cases m.v e with
 |c x=>cases x with
  |vsl l z st n=>simp only[];refine congrArg (And _) ?_;cases hh:H l <;> simp only[hh,Qa4]
  |_=>rfl
 |_=>rfl
theorem Qble {f:Nat}{args:List Opd}:(EOp.call f args).eff P p e H K=((∀x∈args,x.fine p e)∧Qj P f (args.map fun x=>x.v e) H K):=rfl
theorem Qbgs {f:Opd}{args:List Opd}:(EOp.callv f args).eff P p e H K=(f.fine p e∧(∀x∈args,x.fine p e)∧match f.v e with
  |.c (.fn n caps)=>Qj P n ((args.map fun x=>x.v e)++caps.map .c) H K
  |_=>False):=rfl
theorem Qbpy {m:Opd}:(EOp.rng m).eff P p e H K=(m.fine p e∧match m.v e with
  |.c (.mp l)=>match H l with
   |.map n es=>es.Nodup∧∀i,H i=.none→∀H',H'=H.set i (.iter (some (l,n)) es none)→K (.c (.itr i)) H'
   |_=>False
  |.c .mnil=>∀i,H i=.none→∀H',H'=H.set i (.iter none [] none)→K (.c (.itr i)) H'
  |_=>False):=by
 simp only[EOp.eff];refine congrArg (And _) ?_
 cases m.v e with
 |c x=>cases x with
  |mp l=>simp only[];cases hh:H l <;> simp only[hh,Qa4]
  |mnil=>simp only[Qa4]
  |_=>rfl
 |_=>rfl
theorem Qblj {a:Opd}:(EOp.rngs a).eff P p e H K=(a.fine p e∧match a.v e with
  |.c (.str s)=>∀i,H i=.none→∀H',H'=H.set i (.sit s 0)→K (.c (.itr i)) H'
  |_=>False):=by
 simp only[EOp.eff];refine congrArg (And _) ?_
 cases a.v e with
 |c x=>cases x with
  |str s=>simp only[Qa4]
  |_=>rfl
 |_=>rfl
theorem Qbli {it:Opd}:(EOp.nxts it).eff P p e H K=(it.fine p e∧match it.v e with
  |.c (.itr i)=>match H i with
   |.sit s q=>(s.length≤q→K (.tup [.c (.bool false)]) H)∧
     ∀(c:Int) (wd:Nat),q<s.length→1≤wd→((s.getD q 0).toNat<128→c=((s.getD q 0).toNat:Int)∧wd=1)→(128≤(s.getD q 0).toNat→128≤c)→
      ∀H',H'=H.set i (.sit s (q+wd))→K (.tup [.c (.bool true),.c (.int .i64 q),.c (.int .i32 c)]) H'
   |_=>False
  |_=>False):=by
 simp only[EOp.eff];refine congrArg (And _) ?_
 cases it.v e with
 |c x=>cases x with
  |itr i=>
   simp only[];cases hh:H i <;> simp only[Qa4]
  |_=>rfl
 |_=>rfl
theorem Qbpx {it:Opd}:(EOp.nxt it).eff P p e H K=(it.fine p e∧match it.v e with
  |.c (.itr i)=>match H i with
   |.iter none left _=>K (.tup [.c (.bool false)]) H
   |.iter (some (l,n)) left cur=>(∃es,H l=.map n es)∧(left=[]→K (.tup [.c (.bool false)]) H)∧
     ∀x left',x∈left→(∀y,y∈left'↔y∈left∧y≠x)→left'.Nodup→left'.length+1=left.length→
      ∀H',H'=H.set i (.iter (some (l,n)) left' (some x))→K (.tup [.c (.bool true),.c x.1,x.2]) H'
   |_=>False
  |_=>False):=by
 simp only[EOp.eff];refine congrArg (And _) ?_
 cases it.v e with
 |c x=>cases x with
  |itr i=>
   simp only[]
   cases hh:H i with
   |iter m left cur=>cases m with
    |none=>rfl
    |some y=>simp only[Qa4]
   |_=>rfl
  |_=>rfl
 |_=>rfl
theorem Qbpu {it:Opd}:(EOp.ent it).eff P p e H K=(it.fine p e∧match it.v e with
  |.c (.itr i)=>match H i with
   |.iter (some (l,n)) left (some x)=>(∃es,H l=.map n es)∧K (.tup [.c x.1,x.2]) H
   |_=>False
  |_=>False):=rfl
def cpyQ (H:Heap)(sz:Nat)(a b:C)(K:V→Heap→Prop):Prop:=
 okSl H b∧b.elemSz=sz∧match a with
 |.vsl l z st n=>match H l with
  |.vec y rows=>z=sz∧y=sz∧st+n≤rows.length∧lenC b≤n∧(∀r∈rowsOf H b,noOw r=true)∧
    ∀H',H'=H.set l (.vec sz (rows.take st++rowsOf H b++rows.drop (st+lenC b)))→K (.c (.int .i64 (lenC b))) H'
  |_=>False
 |_=>False
theorem Qbpm {sz:Nat}{a b:C}:cpyT H sz a b K=cpyQ H sz a b K:=by
 unfold cpyT cpyQ;refine congrArg (And _) (congrArg (And _) ?_)
 cases a with
 |vsl l z st n=>simp only[];cases hh:H l <;> simp only[hh,Qa4]
 |_=>rfl
theorem Qbps {sz:Nat}{a b:Opd}:(EOp.cpy sz a b).eff P p e H K=(a.fine p e∧b.fine p e∧(a.v e).isC∧(b.v e).isC∧cpyQ H sz (a.v e).c1 (b.v e).c1 K):=by simp only[EOp.eff,Qbpm]
theorem Qbld {sz:Nat}{parts:List Opd}:(EOp.bslm sz parts).eff P p e H K=((∀x∈parts,x.fine p e∧(x.v e).cells.length=sz)∧∀l,H l=.none→∀H',H'=H.set l (.vec sz (parts.map fun x=>(x.v e).cells))→K (.c (.vsl l sz 0 parts.length)) H'):=by simp only[EOp.eff,Qa4]
theorem Qblh {a:Opd}:(EOp.nilq a).eff P p e H K=(a.fine p e∧match a.v e with
  |.c (.sl _ _ rows)=>∀b:Bool,(b=true→rows=[])→K (.c (.bool b)) H
  |_=>False):=rfl
end
theorem Qaa4 {k:IntKind}{n:Int}:(C.int k n).isOw=false:=rfl
theorem Qbhf {b:Bool}:(C.bool b).isOw=false:=rfl
theorem Q30 {s:List UInt8}:(C.str s).isOw=false:=rfl
theorem Qalg {f:Bool}{sz:Nat}{r:List (List C)}:(C.sl f sz r).isOw=false:=rfl
theorem Qbql {c:List C}:(C.pp c).isOw=false:=rfl
theorem Qbqh {c:C}{a i k:Nat}:(C.ep c a i k).isOw=false:=rfl
theorem Qbhi:C.pnil.isOw=false:=rfl
theorem Qbma {l k:Nat}:(C.ptr l k).isOw=false:=rfl
theorem Qbme {l a b c:Nat}:(C.vsl l a b c).isOw=false:=rfl
theorem Qbqj {l:Nat}:(C.mp l).isOw=false:=rfl
theorem Qbhh:C.mnil.isOw=false:=rfl
theorem Qbmc {n:Nat}:(C.stb n).isOw=false:=rfl
theorem Qbmb {n:Nat}:(C.slb n).isOw=false:=rfl
theorem Qbqg {a:Bool}{k:List C}{r:List (List C)}:(C.cm a k r).isOw=false:=rfl
theorem Qbqi {f:Nat}{c:List C}:(C.fn f c).isOw=false:=rfl
theorem Qbhg:C.fnil.isOw=false:=rfl
theorem Qbl9 {l:Nat}:(C.itr l).isOw=false:=rfl
theorem Qbmd:C.unk.isOw=false:=rfl
theorem Qbqk {sz:Nat}{r:List (List C)}:(C.ow sz r).isOw=true:=rfl
theorem Qbqs {f:Bool}{sz:Nat}{r:List (List C)}:lenC (.sl f sz r)=r.length:=rfl
theorem Qba3 {l a b c:Nat}:lenC (.vsl l a b c)=c:=rfl
theorem Qbgt {f:Bool}{sz:Nat}{r:List (List C)}:(C.sl f sz r).elemSz=sz:=rfl
theorem Qbcb {l a b c:Nat}:(C.vsl l a b c).elemSz=a:=rfl
theorem Qbiw {f:Bool}{sz:Nat}{r:List (List C)}:rowsOf H (.sl f sz r)=r:=rfl
theorem Qbc8 {l a st n:Nat}:rowsOf H (.vsl l a st n)=match H l with
  |.vec _ rows=>(rows.drop st).take n
  |_=>[]:=rfl
theorem Qbq6 {f:Bool}{sz:Nat}{r:List (List C)}:okSl H (.sl f sz r)=True:=rfl
theorem Qbm7 {l sz st n:Nat}:okSl H (.vsl l sz st n)=match H l with
  |.vec z rows=>z=sz∧st+n≤rows.length
  |_=>False:=rfl
section
variable {K:V→Heap→Prop}
theorem Qbpf {sz z:Nat}{rows:List (List C)}{b:C}:appQ H sz (.sl true z rows) b K=(okSl H b∧b.elemSz=sz∧z=sz∧(rows=[]∨rowsOf H b≠[])∧(∀r∈rows++rowsOf H b,noOw r=true)∧rows.length+lenC b≤LIM∧
   ∀l,H l=.none→∀H',H'=H.set l (.vec sz (rows++rowsOf H b))→K (.c (.vsl l sz 0 (rows.length+lenC b))) H'):=rfl
theorem Qbk6 {sz l z st n:Nat}{b:C}:appQ H sz (.vsl l z st n) b K=(okSl H b∧b.elemSz=sz∧match H l with
  |.vec y rows=>z=sz∧y=sz∧st+n≤rows.length∧(∀r∈rowsOf H b,noOw r=true)∧n+lenC b≤LIM∧
    ∀l',(H.set l .none) l'=.none→∀H',H'=(H.set l .none).set l' (.vec sz ((rows.drop st).take n++rowsOf H b))→
     K (.c (.vsl l' sz 0 (n+lenC b))) H'
  |_=>False):=rfl
end
theorem Qbrh {lo hi:Option Int}{fl:Bool}{sz:Nat}{rows:List (List C)}:sliC lo hi (.sl fl sz rows)=.sl (fl&&(hi.isNone || rows.isEmpty)) sz ((rows.take (hi.getD rows.length).toNat).drop (lo.getD 0).toNat):=rfl
theorem Qbob {lo hi:Option Int}{l sz st n:Nat}:sliC lo hi (.vsl l sz st n)=.vsl l sz (st+(lo.getD 0).toNat) ((hi.getD n).toNat-(lo.getD 0).toNat):=rfl
attribute [go_sem] Qbps cpyQ Qbrn Qbok Qa5i Qbkp Qbol b_f b_t Qbl3 Qbhb Qbhc Qbqd regT Qwj putE lk Qblu Qblt Qblv Qblw gdO gdB Opd.v Opd.raw Opd.fine V.bare V.fine FOp.val FOp.obl FOp.fct Qbgr Qblc Qbpz Qbpq Qbpr Qbpw Qbpv Qbp0 Qbpt Qblf Qblg Qble Qbgs Qbpy Qbpx Qblj Qbli Qbpu Qblh Qbld Qboq Qbku
 V.c1 V.isC V.isAg V.cells Qpb Qbc0 fadC binC binO Qa6d noOw Qa5k Qbpf Qbk6 updQ delQ zipE Qabk Qbrh Qbob bnds Qbq6 Qbm7 Qbqs Qba3 Qbiw Qbc8 Qbgt Qbcb Qaa4 Qbhf Q30 Qalg Qbql Qbqh Qbhi Qbma Qbme Qbqj Qbhh Qbmc Qbmb Qbqg Qbqi Qbhg Qbl9 Qbmd Qbqk Qwk Qbl7 Q6 Qbna Qbor Qbgx Qbkw Qbch Qbty Qbu5 Qbu6 Qbue
 Qbtj Qbtk Qbri Qbsk Qbsl Qbqb Js Jak Q7t List.take_succ_cons Jas List.take_nil List.drop_succ_cons List.drop_zero List.drop_nil
 Jaa Jac List.all_cons List.all_nil List.headD_cons Bool.not_false Bool.not_true Bool.and_true Bool.true_and Bool.and_false Jaq and_self eq_self Bool.false_eq_true List.cons_append List.nil_append Jav Jao not_true_eq_false not_false_eq_true ite_true ite_false ne_eq Jap Option.map_none Option.getD_some Option.getD_none Option.isNone_some Option.isNone_none List.isEmpty_nil List.isEmpty_cons Bool.or_true Bool.true_or Bool.or_false Bool.false_or optI optF Int.toNat_natCast Int.natCast_nonneg Int.add_sub_cancel List.forall_mem_cons Qa6o
end Go.AE
namespace Go.AE
abbrev fI (d : Nat) (o : FOp) : Item := .f (some d) none o
abbrev eI (d : Nat) (o : EOp) : Item := .e (some d) none o
abbrev gT (d t : Nat) (o : FOp) : Item := .f (some d) (some (t, true)) o
abbrev gF (d t : Nat) (o : FOp) : Item := .f (some d) (some (t, false)) o
abbrev kI (n : Int) : Opd := .k (.c (.int .i64 n))
abbrev mJ (d a : Nat) : Item := .f (some d) none (.mv (.t a))
abbrev fJ (d n a : Nat) : Item := .f (some d) none (.fad n (.t a))
abbrev lJ (d a : Nat) : Item := .f (some d) none (.ld 1 false (.t a))
abbrev tJ (d n a : Nat) : Item := .f (some d) none (.ld n true (.t a))
abbrev nJ (d a : Nat) : Item := .f (some d) none (.len (.t a))
abbrev kJ (d a : Nat) : Item := .f (some d) none (.nck (.t a))
abbrev oJ (d a : Nat) : Item := .f (some d) none (.not (.t a))
abbrev iJ (d n a b : Nat) : Item := .f (some d) none (.iad n (.t a) (.t b))
abbrev bJ (d : Nat) (o : BinOp) (a b : Nat) : Item := .f (some d) none (.bin 0 o (.t a) (.t b))
abbrev cJ (d : Nat) (o : BinOp) (a : Nat) (n : Int) : Item := .f (some d) none (.bin 0 o (.t a) (.k (.c (.int .i64 n))))
abbrev gTm (d g a : Nat) : Item := .f (some d) (some (g, true)) (.mv (.t a))
abbrev gFm (d g a : Nat) : Item := .f (some d) (some (g, false)) (.mv (.t a))
abbrev gTf (d g n a : Nat) : Item := .f (some d) (some (g, true)) (.fad n (.t a))
abbrev gFf (d g n a : Nat) : Item := .f (some d) (some (g, false)) (.fad n (.t a))
abbrev gTl (d g a : Nat) : Item := .f (some d) (some (g, true)) (.ld 1 false (.t a))
abbrev gFl (d g a : Nat) : Item := .f (some d) (some (g, false)) (.ld 1 false (.t a))
abbrev aJ (d f : Nat) (l : List Opd) : Item := .e (some d) none (.call f l)
abbrev sJ (k a b : Nat) : Item := .e none none (.sto k (.t a) (.t b))
abbrev fB (d : Nat) (b : Bool) : Item := .f (some d) none (.mv (.k (.c (.bool b))))
abbrev zJ (d : Nat) (n : Int) : Item := .f (some d) none (.mv (.k (.c (.int .i64 n))))
abbrev hJ (d a : Nat) : Item := .chk d none (.ld 1 false (.t a))
abbrev pT (d a b : Nat) : Item := .f (some d) none (.pick (.t a) (.k (.c (.bool true))) (.t b))
abbrev pF (d a b : Nat) : Item := .f (some d) none (.pick (.t a) (.t b) (.k (.c (.bool false))))
abbrev xJ (d k a b : Nat) : Item := .e (some d) none (.app k (.t a) (.t b))
abbrev vJ (d a : Nat) : Item := .f (some d) none (.box (.t a))
abbrev sR (l : List Item) (k : List Nat) (n : SC) : SC := .seq (.reg l k) n
abbrev cX (t i : Nat) (n : SC) : SC := .seq (.cond (.t t) .skip (.exit i)) n
abbrev bL (i : Nat) (l : SC) : SC := .block i (.loop l)
abbrev cT (t : Nat) (a b : SC) : SC := .cond (.t t) a b
theorem Qbtr : Int.toNat 0 = 0 := rfl
theorem Qbts : Int.toNat 1 = 1 := rfl
theorem Qbrp : Int.toNat 2000 = 2000 := rfl
attribute [go_sem] sJ fB zJ hJ pT pF xJ vJ mJ fJ lJ tJ nJ kJ oJ iJ bJ cJ gTm gFm gTf gFf gTl gFl aJ fI eI gT gF kI false_implies Qbtr Qbts Qbrp
end Go.AE
namespace Go.AE.Y
abbrev Qpg:Nat:=4
abbrev Qg2:Nat:=17
abbrev Qdw:Nat:=19
abbrev Qdz:Nat:=20
abbrev Qhe:Nat:=21
abbrev Qfr:Nat:=22
abbrev Qhf:Nat:=23
abbrev Qnx:Nat:=24
abbrev Qny:Nat:=36
abbrev Qala:Nat:=51
abbrev Qada:Nat:=52
abbrev Q3q:Nat:=53
abbrev Qak9:Nat:=57
abbrev Qak8:Nat:=59
abbrev Qg4:Nat:=67
abbrev Qqu:Nat:=68
abbrev Qaz:Nat:=69
abbrev Qam:Nat:=70
abbrev Qcb:Nat:=71
abbrev Qez:Nat:=75
abbrev Qd8:Nat:=76
abbrev Qs5:Nat:=77
abbrev Qalc:Nat:=78
abbrev Qn6:Nat:=79
abbrev Qed:Nat:=80
abbrev Qdp:Nat:=81
abbrev Qjl:Nat:=82
abbrev Qg8:Nat:=83
abbrev Qdq:Nat:=84
abbrev Qch:Nat:=85
abbrev Qbu:Nat:=86
abbrev Qd0:Nat:=87
abbrev Qcc:Nat:=88
abbrev Qtb:Nat:=89
abbrev Qe0:Nat:=90
abbrev Qfb:Nat:=91
abbrev Qav:Nat:=92
abbrev Qax:Nat:=102
abbrev Qz:Nat:=103
abbrev Qak5:Nat:=104
abbrev Qeb:Nat:=105
abbrev Qnw:Nat:=109
abbrev Qs7:Nat:=111
abbrev Qee:Nat:=113
abbrev Qx9:Nat:=119
abbrev Qnz:Nat:=120
abbrev Qaay:Nat:=121
abbrev Qcv:Nat:=126
abbrev Qyd:Nat:=128
abbrev Qn4:Nat:=129
abbrev Qak7:Nat:=135
abbrev Qbq:Nat:=136
abbrev Qi3:Nat:=137
abbrev Qds:Nat:=138
abbrev Qhc:Nat:=140
abbrev Qd7:Nat:=145
abbrev Qcx:Nat:=146
abbrev Qd9:Nat:=147
abbrev Qg5:Nat:=148
abbrev Qs6:Nat:=149
abbrev Qcm:Nat:=150
abbrev Qg3:Nat:=151
abbrev Qg6:Nat:=152
abbrev Qbn:Nat:=153
abbrev Qi1:Nat:=156
abbrev Qbc:Nat:=161
abbrev Qa6:Nat:=162
abbrev Qah:Nat:=163
abbrev Qao:Nat:=164
abbrev Qa56:Nat:=165
abbrev Qadc:Nat:=166
abbrev Qi2:Nat:=167
abbrev Qck:Nat:=168
abbrev Qdt:Nat:=169
abbrev Qcf:Nat:=170
abbrev Qfa:Nat:=171
abbrev Qd1:Nat:=172
abbrev Qqb:Nat:=173
abbrev Qef:Nat:=174
abbrev Qea:Nat:=175
abbrev Q3t:Nat:=188
abbrev Qyc:Nat:=189
abbrev Qjk:Nat:=191
abbrev Qcl:Nat:=192
abbrev Qjx:Nat:=194
abbrev Qhb:Nat:=195
abbrev Qas:Nat:=204
abbrev Qn3:Nat:=205
abbrev Qpd:Nat:=206
abbrev Qn0:Nat:=207
abbrev Qdu:Nat:=208
abbrev Qn1:Nat:=209
abbrev Q70:Nat:=210
abbrev Qm9:Nat:=211
abbrev Qn2:Nat:=212
abbrev Qs8:Nat:=213
abbrev Qcn:Nat:=214
abbrev Qaaw:Nat:=225
abbrev Qa55:Nat:=227
abbrev Qe2:Nat:=230
abbrev Qc2:Nat:=231
abbrev Qdv:Nat:=232
abbrev Qdi:Nat:=233
abbrev Qu4:Nat:=234
abbrev Qya:Nat:=235
abbrev Qk8:Nat:=236
abbrev Qci:Nat:=237
abbrev Qbb:Nat:=240
abbrev Qcj:Nat:=241
abbrev Qdg:Nat:=242
abbrev Qa7:Nat:=243
abbrev Qg7:Nat:=244
abbrev Qye:Nat:=245
abbrev Qa3:Nat:=246
abbrev Qdn:Nat:=247
abbrev Qa2:Nat:=248
abbrev Qbh:Nat:=249
abbrev Qba:Nat:=250
abbrev Qaxw:Nat:=251
abbrev Q3w:Nat:=252
abbrev Qaa1:Nat:=253
abbrev Qjy:Nat:=254
abbrev Qft:Nat:=255
abbrev Qha:Nat:=256
abbrev Qfs:Nat:=257
abbrev Qg9:Nat:=258
abbrev Qs4:Nat:=268
abbrev Qn5:Nat:=269
abbrev Q71:Nat:=272
abbrev Qfu:Nat:=277
abbrev Qe9:Nat:=278
abbrev Qs3:Nat:=279
abbrev Qp9:Nat:=280
abbrev Q3r:Nat:=281
abbrev Qs2:Nat:=282
abbrev Qqc:Nat:=283
abbrev Qdm:Nat:=284
abbrev Qbv:Nat:=285
abbrev Qaxv:Nat:=286
abbrev Qake:Nat:=287
abbrev Qqv:Nat:=297
abbrev Qcw:Nat:=298
abbrev Qnb:Nat:=299
abbrev Qec:Nat:=300
abbrev Qe3:Nat:=302
abbrev Qe1:Nat:=303
abbrev Qp8:Nat:=304
abbrev Qdr:Nat:=316
abbrev Qadb:Nat:=317
abbrev Qtd:Nat:=318
abbrev Q3v:Nat:=319
abbrev Qalb:Nat:=320
abbrev Qta:Nat:=329
abbrev Qeg:Nat:=330
abbrev Qno:Nat:=331
abbrev Qnn:Nat:=332
abbrev Qjn:Nat:=340
abbrev Qaa0:Nat:=341
abbrev Qjm:Nat:=342
abbrev Qnc:Nat:=343
abbrev Qtc:Nat:=350
abbrev Qdh:Nat:=351
abbrev Qpf:Nat:=352
abbrev Qpe:Nat:=356
abbrev Qna:Nat:=357
abbrev Qs9:Nat:=358
abbrev Qakc:Nat:=359
abbrev Qakd:Nat:=360
abbrev Qaaz:Nat:=361
abbrev Qyf:Nat:=368
abbrev Qqa:Nat:=372
abbrev Q3s:Nat:=373
abbrev Qjo:Nat:=374
abbrev Qak6:Nat:=375
abbrev Qhd:Nat:=376
abbrev Qac9:Nat:=377
abbrev Qyb:Nat:=378
abbrev Q3u:Nat:=379
abbrev Qaax:Nat:=380
abbrev Qhg:Nat:=1
abbrev Qbp:Nat:=2
open Go.Proofs.Tryz
def Qat7:SC:=cT 24 (sR [zJ 4 0] [4] .ret) .skip
def Qat8:SC:=cT 36 (sR [mJ 37 0,kJ 38 37,fJ 39 0 38,lJ 40 39,mJ 41 5,iJ 42 1 40 41,lJ 43 42,fI 44 (.cvt .i64 (.t 43)),mJ 45 1,bJ 46 .rem 44 45,mJ 4 46] [4] .ret) .skip
def Qat9:SC:=sR [mJ 96 6,mJ 97 1,bJ 98 .rem 96 97,mJ 4 98] [4] .ret
def Qaua:SC:=sR [mJ 92 6,mJ 93 6,cJ 94 .quo 93 64,bJ 95 .xor 92 94,mJ 6 95] [1,6] Qat9
def Qaub:SC:=.seq (.dreg 46 [0,1,2,3,4,5,6,7,8,9,10,11,12,13,14,15,16,17,18,19,20,21,22,23,24,25,26,27,28,29,30,31,32,33,34,35,36,37,38,39,40,41,42,43,44,45] ( mJ 47 0::kJ 48 47::fJ 49 0 48::lJ 50 49::mJ 51 5::mJ 52 0::kJ 53 52::fJ 54 0 53::lJ 55 54::nJ 56 55::bJ 57 .rem 51 56::iJ 58 1 50 57::lJ 59 58::fI 60 (.cvt .i64 (.t 59))::cJ 61 .mul 60 131::mJ 62 0::kJ 63 62::fJ 64 0 63::lJ 65 64::mJ 66 5::cJ 67 .mul 66 7::cJ 68 .add 67 3::mJ 69 0::kJ 70 69::fJ 71 0 70::lJ 72 71::nJ 73 72::bJ 74 .rem 68 73::iJ 75 1 65 74::lJ 76 75::fI 77 (.cvt .i64 (.t 76))::cJ 78 .mul 77 1117::bJ 79 .add 61 78::mJ 80 5::cJ 81 .mul 80 29::bJ 82 .add 79 81::mJ 83 5::mJ 84 0::kJ 85 84::fJ 86 0 85::lJ 87 86::nJ 88 87::bJ 89 .quo 83 88::cJ 90 .mul 89 53::bJ 91 .add 82 90::mJ 6 91::[]) [1,6]) Qaua
def Qauc:SC:=.seq (sR [mJ 30 5,mJ 31 0,kJ 32 31,fJ 33 0 32,lJ 34 33,nJ 35 34,bJ 36 .lss 30 35] [0,1,5,36] Qat8) Qaub
def Qaud:SC:=sR [mJ 25 0,kJ 26 25,fJ 27 1 26,lJ 28 27,cJ 29 .sub 28 1,mJ 5 29] [0,1,5] Qauc
def Qaue:SC:=.seq (sR [mJ 15 1,cJ 16 .lss 15 1,mJ 17 16,gFm 18 17 0,gF 19 17 (.nck (.t 18)),gFf 20 17 0 19,gFl 21 17 20,gF 22 17 (.len (.t 21)),gF 23 17 (.bin 0 .eql (.t 22) (kI 0)),pT 24 17 23] [0,1,24] Qat7) Qaud
def Qauf:SC:=sR [mJ 7 0,mJ 8 0,kJ 9 8,fJ 10 1 9,lJ 11 10,cJ 12 .add 11 1,kJ 13 7,fJ 14 1 13,sJ 1 14 12] [0,1] Qaue
def Qa3f:SC:=sR [zJ 4 0] [0,1] Qauf
def Qpr:List RS:=[.tmp 4]
theorem Qa1w:mFn prog Qz 2 99 Qa3f Qpr=true:=by kernel_rfl
def Q7f:List Item:=[iJ 10 1 5 9,lJ 11 10,mJ 4 11]
def Qazr:SC:=sR (mJ 5 1::mJ 6 0::mJ 7 1::nJ 8 7::aJ 9 Qz [.t 6,.t 8]::Q7f) [4] .ret
def Qa72:SC:=sR [zJ 4 0] [0,1] Qazr
theorem Qa6j:mFn prog Qax 2 12 Qa72 Qpr=true:=by kernel_rfl
def Qso:List Item:=[oJ 11 10]
def Qaj7:SC:=cT 11 (sR [fB 2 false] [2] .ret) .skip
def Qsp:List Item:=[sJ 3 5 23]
def Qex:List Item:=[gF 41 36 (.not (.t 40)),pT 42 36 41]
def Qjg:List Item:=gF 34 28 (.not (.t 33))::pT 35 28 34::mJ 36 35::gFf 37 36 2 5::gFl 38 36 37::gF 39 36 (.len (.t 38))::.e (some 40) (some (36,false)) (.call Qcv [.t 39,kI 1,kI 160])::Qex
def Qsq:List Item:=oJ 27 26::mJ 28 27::gFf 29 28 1 5::gFl 30 28 29::gFf 31 28 0 5::gFl 32 28 31::.e (some 33) (some (28,false)) (.call Qcv [.t 30,.t 32,kI 300])::Qjg
def s_sp_UnitValid_6:SC:=cT 42 (sR [fB 2 false] [2] .ret) .skip
def Qjh:List Item:=[gF 74 69 (.not (.t 73)),pT 75 69 74]
def Qwi:SC:=cT 75 (sR [fB 2 false] [2] .ret) .skip
def Qaj8:SC:=sR (mJ 67 3::cJ 68 .gtr 67 800::mJ 69 68::gF 70 69 (.ld 1 true (.t 1))::gFm 71 69 4::gFm 72 69 6::.e (some 73) (some (69,false)) (.call Qadc [.t 70,.t 71,.t 72])::Qjh) [1,3,4,5,6,75] Qwi
def Qsm:SC:=.reg [mJ 48 6,cJ 49 .add 48 1,mJ 6 49] [1,3,4,5,6]
def Qafq:SC:=.seq (.block 3 (.seq (.dreg 18 [0,1,2,3,4,5,6,7,8,9,10,11,12,13,14,15,16,17] ( mJ 50 3::fJ 51 2 5::lJ 52 51::mJ 53 6::iJ 54 5 52 53::fJ 55 1 54::lJ 56 55::nJ 57 56::bJ 58 .add 50 57::fJ 59 2 5::lJ 60 59::mJ 61 6::iJ 62 5 60 61::fJ 63 0 62::lJ 64 63::nJ 65 64::bJ 66 .add 58 65::mJ 3 66::[]) [1,3,4,5,6]) Qaj8)) Qsm
def Qacr:SC:=.seq (sR [mJ 43 6,fJ 44 2 5,lJ 45 44,nJ 46 45,bJ 47 .lss 43 46] [1,3,4,5,6,47] (cT 47 .skip (.exit 2))) Qafq
def Qsn:SC:=sR [zJ 6 0] [1,3,4,5,6] (bL 2 Qacr)
def Qafr:SC:=.seq (sR (fJ 24 0 5::lJ 25 24::aJ 26 Qcv [.t 25,kI 0,kI 3]::Qsq) [1,3,4,5,42] s_sp_UnitValid_6) Qsn
def Qje:SC:=.reg [mJ 17 4,cJ 18 .add 17 1,mJ 4 18] [1,3,4]
def Qafs:SC:=.seq (.block 1 (sR (fJ 19 0 1::lJ 20 19::mJ 21 4::iJ 22 3 20 21::tJ 23 3 22::eI 5 (.alloc [.int .i64 0,.int .i64 0,.sl true 5 []])::Qsp) [1,3,4,5] Qafr)) Qje
def Qacs:SC:=.seq (sR [mJ 12 4,fJ 13 0 1,lJ 14 13,nJ 15 14,bJ 16 .lss 12 15] [1,3,4,16] (cT 16 .skip (.exit 0))) Qafs
def Qjf:SC:=sR [fB 2 true] [2] .ret
def Qaft:SC:=.seq (sR [zJ 4 0] [1,3,4] (bL 0 Qacs)) Qjf
def Qafu:SC:=sR [zJ 3 0] [1,3] Qaft
def Qafv:SC:=.seq (sR (fJ 7 0 1::lJ 8 7::nJ 9 8::aJ 10 Qcv [.t 9,kI 1,kI 4]::Qso) [1,11] Qaj7) Qafu
def Qavy:SC:=sR [vJ 1 0,fB 2 false] [1] Qafv
def Qfh:List RS:=[.tmp 2]
theorem Qask:mFn prog Qn6 1 76 Qavy Qfh=true:=by kernel_rfl
def Qarm:List Item:=[sJ 1 3 5]
def Qarn:List Item:=[fJ 20 0 3,sJ 1 20 19]
def Qaro:List Item:=hJ 14 13::fI 18 (.bsl 3 [.t 17])::xJ 19 3 14 18::Qarn
def Qbfv:SC:=.reg [mJ 11 4,cJ 12 .add 11 1,mJ 4 12] [1,2,3,4]
def Qbfw:SC:=.seq (.block 1 (.dreg 9 [0,1,2,3,4,1,5,6,7,8] ( fJ 13 0 3::lJ 14 13::tJ 15 1 1::mJ 16 4::aJ 17 Qa56 [.t 15,.t 16]::Qaro) [1,2,3,4])) Qbfv
def Qa94:SC:=.seq (sR [mJ 6 4,fJ 7 0 1,lJ 8 7,nJ 9 8,bJ 10 .lss 6 9] [1,2,3,4,10] (cT 10 .skip (.exit 0))) Qbfw
def Qbfx:SC:=sR [tJ 21 1 3,sJ 1 2 21] [2] .ret
def Qbfy:SC:=.seq (sR [zJ 4 0] [1,2,3,4] (bL 0 Qa94)) Qbfx
def Qbfz:SC:=sR (fI 5 (.bld [.sl true 3 []] [])::eI 3 (.alloc [.sl true 3 []])::Qarm) [1,2,3] Qbfy
def Qboa:SC:=sR [vJ 1 0,eI 2 (.alloc [.sl true 3 []])] [1,2] Qbfz
def Qbbq:List RS:=[.cell 2 1 true]
theorem Qbm4:mFn prog Qalc 1 22 Qboa Qbbq=true:=by kernel_rfl
def Qapb:List Item:=[mJ 3 13]
def Qapc:List Item:=fI 12 (.bld [.pnil,.sl true 3 [],.sl true 1 [],.int .i64 0,.int .i64 0] [(0,1,.t 8),(4,1,.t 11)])::eI 13 (.boxm (.t 12))::Qapb
def Qapd:List Item:=[mJ 4 16]
def Qape:List Item:=[hJ 26 25,.chk 27 none (.len (.t 26)),.chk 28 none (.iad 1 (.t 22) (.t 27)),hJ 29 28,sJ 3 5 32]
def Qapf:List Item:=eI 5 (.alloc [.str [],.sl true 1 [],.sl true 5 []])::Qape
def Qapg:List Item:=hJ 26 25::.chk 27 none (.len (.t 26))::.chk 28 none (.iad 1 (.t 22) (.t 27))::hJ 29 28::aJ 32 Qs8 [.t 21,.t 29,.t 31]::Qapf
def Qaph:List Item:=[kJ 41 33,fJ 42 1 41,sJ 1 42 40]
def Qbea:SC:=.dreg 11 [0,1,2,3,4,5,6,7,8,9,10] ( mJ 33 3::mJ 34 3::kJ 35 34::fJ 36 1 35::lJ 37 36::tJ 38 3 5::fI 39 (.bsl 3 [.t 38])::xJ 40 3 37 39::Qaph) [0,2,3,4]
def Qbeb:SC:=.reg [mJ 19 4,cJ 20 .sub 19 1,mJ 4 20] [0,2,3,4]
def Qbec:SC:=.seq (.block 1 (.seq (.dreg 12 [0,1,2,3,4,5,6,7,8,9,10,5,6,7,8,11,12,5,6,7,8,13] ( mJ 21 3::fI 22 (.bsl 1 [.k (.c (.str [102])),.k (.c (.str [103])),.k (.c (.str [104]))])::mJ 23 3::kJ 24 23::fJ 25 1 24::lJ 26 25::nJ 27 26::iJ 28 1 22 27::lJ 29 28::mJ 30 0::aJ 31 Qz [.t 30,kI 3]::Qapg) [0,2,3,4,5]) Qbea)) Qbeb
def Qa3p:SC:=.seq (sR [mJ 17 4,cJ 18 .gtr 17 0] [0,2,3,4,18] (cT 18 .skip (.exit 0))) Qbec
def Qag3:List Item:=[sJ 3 6 47]
def Qag4:List Item:=eI 6 (.alloc [.str [],.sl true 1 [],.sl true 5 []])::Qag3
def Qag5:List Item:=eI 47 (.call Qs8 [.t 43,.k (.c (.str [109])),.t 46])::Qag4
def Qag6:List Item:=[hJ 52 51,.chk 54 none (.ld 3 true (.t 6)),sJ 1 7 57]
def Qag7:List Item:=fI 57 (.bld [.sl true 3 []] [(0,1,.t 56)])::eI 7 (.alloc [.sl true 3 []])::Qag6
def Qag8:List Item:=.chk 54 none (.ld 3 true (.t 6))::xJ 56 3 53 55::Qag7
def Qag9:List Item:=[oJ 60 59]
def Qa8t:SC:=cT 60 (sR [fI 61 (.bld [.int .i64 0,.int .i64 0,.str [],.sl true 4 []] [(0,1,kI 1),(1,1,kI 1)]),fI 62 (.bsl 4 [.t 61]),fI 63 (.bld [.int .i64 0,.str [],.sl true 4 [],.sl true 5 [],.sl true 5 []] [(0,1,kI 3),(2,1,.t 62)]),fI 64 (.bsl 5 [.t 63]),fI 65 (.bld [.str [],.sl true 1 [],.sl true 5 []] [(0,1,.k (.c (.str [109]))),(2,1,.t 64)]),fI 66 (.bsl 3 [.t 65]),fI 67 (.bld [.sl true 3 []] [(0,1,.t 66)]),sJ 1 2 67] [2] .ret) .skip
def Qa8u:SC:=sR [tJ 68 1 7,sJ 1 2 68] [2] .ret
def Qa8v:SC:=.seq (.seq (.seq .gh (.reg (tJ 58 1 7::aJ 59 Qcn [.t 58]::Qag9) [2,7,60])) Qa8t) Qa8u
def Qa8w:SC:=.seq (.dreg 10 [0,1,2,3,4,6,7,5,6,8,9,10,4,6,11] ( fI 48 (.bsl 3 [])::mJ 49 3::kJ 50 49::fJ 51 1 50::lJ 52 51::tJ 54 3 6::fI 55 (.bsl 3 [.t 54])::xJ 53 3 48 52::Qag8) [2,7]) Qa8v
def Qa8x:SC:=sR (mJ 43 3::mJ 44 0::fI 45 (.bsl 1 [kI 0,kI 1,kI 2,kI 1])::aJ 46 Qax [.t 44,.t 45]::Qag5) [2,3,6] Qa8w
def Qa8y:SC:=.seq (sR (mJ 14 0::fI 15 (.bsl 1 [kI 0,kI 1,kI 1,kI 2])::aJ 16 Qax [.t 14,.t 15]::Qapd) [0,2,3,4] (bL 0 Qa3p)) Qa8x
def Qa8z:SC:=sR (mJ 8 0::mJ 9 0::fI 10 (.bsl 1 [kI 14,kI 20,kI 8,kI 26])::aJ 11 Qax [.t 9,.t 10]::Qapc) [0,2,3] Qa8y
def Qbnv:SC:=sR [eI 2 (.alloc [.sl true 3 []])] [0,2] Qa8z
theorem Qbmw:mFn prog Qaay 1 69 Qbnv Qbbq=true:=by kernel_rfl
def Qahp:List Item:=[mJ 5 41]
def Qa9u:SC:=cT 37 (sR (mJ 38 5::mJ 39 6::fI 40 (.bsl 1 [.t 39])::xJ 41 1 38 40::Qahp) [1,2,5,6] (.exit 2)) .skip
def Qa9v:SC:=.reg [mJ 25 7,cJ 26 .add 25 1,mJ 7 26] [1,2,5,6,7]
def Qa9w:SC:=.seq (.block 3 (sR [fJ 27 2 2,lJ 28 27,mJ 29 6,iJ 30 5 28 29,fJ 31 4 30,lJ 32 31,mJ 33 7,iJ 34 1 32 33,lJ 35 34,mJ 36 1,bJ 37 .eql 35 36] [1,2,5,6,7,37] Qa9u)) Qa9v
def Qa4n:SC:=.seq (sR [mJ 16 7,fJ 17 2 2,lJ 18 17,mJ 19 6,iJ 20 5 18 19,fJ 21 4 20,lJ 22 21,nJ 23 22,bJ 24 .lss 16 23] [1,2,5,6,7,24] (cT 24 .skip (.exit 2))) Qa9w
def Qap7:SC:=.reg [mJ 14 6,cJ 15 .add 14 1,mJ 6 15] [1,2,5,6]
def Qa9x:SC:=.seq (.block 1 (sR [zJ 7 0] [1,2,5,6,7] (bL 2 Qa4n))) Qap7
def Qa4o:SC:=.seq (sR [mJ 9 6,fJ 10 2 2,lJ 11 10,nJ 12 11,bJ 13 .lss 9 12] [1,2,5,6,13] (cT 13 .skip (.exit 0))) Qa9x
def Qap8:SC:=sR [mJ 42 5,mJ 4 42] [4] .ret
def Qa9y:SC:=.seq (sR [zJ 6 0] [1,2,5,6] (bL 0 Qa4o)) Qap8
def Qa4m:SC:=sR [fI 8 (.bsl 1 []),mJ 5 8] [1,2,5] Qa9y
def Qbj5:SC:=sR [vJ 2 0,fI 4 (.mv (.k (.c (.sl true 1 []))))] [1,2] Qa4m
theorem Qbic:mFn prog Q3w 2 43 Qbj5 Qpr=true:=by kernel_rfl
def Qbnh:SC:=sR [mJ 7 0,mJ 8 1,bJ 9 .geq 7 8,mJ 10 9,gTm 11 10 0,gTm 12 10 2,gT 13 10 (.bin 0 .leq (.t 11) (.t 12)),pF 14 10 13,mJ 6 14] [6] .ret
def Qbs9:SC:=sR [fB 6 false] [0,1,2] Qbnh
def Qbo3:List RS:=[.tmp 6]
theorem Qbsw:mFn prog Qcv 3 15 Qbs9 Qbo3=true:=by kernel_rfl
def Qahl:List Item:=[sJ 3 7 18]
def Qahm:List Item:=[sJ 5 8 23]
def Qa9o:SC:=cT 30 (sR [fB 6 false] [6] .ret) .skip
def Qa9p:SC:=cT 33 (.reg [zJ 9 0] [1,2,3,7,8,9]) (sR [fB 6 false] [6] .ret)
def Qa9q:SC:=cT 31 (.reg [zJ 9 2] [1,2,3,7,8,9]) (sR [cJ 34 .eql 25 3,mJ 33 34] [1,2,3,7,8,33] Qa9p)
def Qa9r:SC:=cT 26 (sR [fJ 28 3 8,lJ 29 28,cJ 30 .neq 29 0] [1,2,3,7,8,9,30] Qa9o) (sR [cJ 32 .eql 25 2,mJ 31 32] [1,2,3,7,8,25,31] Qa9q)
def Qa9s:SC:=.block 0 (sR [cJ 27 .eql 25 1,mJ 26 27] [1,2,3,7,8,9,25,26] Qa9r)
def Qp1:List Item:=[gT 51 44 (.not (.t 50)),gF 52 40 (.pick (.t 44) (.t 51) (.k (.c (.bool false)))),pT 53 40 52]
def s_l7Block_8:SC:=cT 53 (sR [fB 6 false] [6] .ret) .skip
def Qahn:List Item:=[oJ 71 70]
def Qa38:SC:=cT 71 (sR [fB 6 false] [6] .ret) .skip
def Qa39:SC:=.reg [mJ 59 10,cJ 60 .add 59 1,mJ 10 60] [1,2,3,7,8,10]
def Qa4a:SC:=.seq (.block 2 (.seq (.dreg 11 [0,1,2,3,4,5,6,7,8,9,10] ( fJ 61 4 8::lJ 62 61::mJ 63 10::iJ 64 1 62 63::lJ 65 64::fJ 66 2 7::lJ 67 66::nJ 68 67::cJ 69 .sub 68 1::aJ 70 Qcv [.t 65,kI 1,.t 69]::Qahn) [1,2,3,7,8,10,71]) Qa38)) Qa39
def Qaz5:SC:=.seq (sR [mJ 54 10,fJ 55 4 8,lJ 56 55,nJ 57 56,bJ 58 .lss 54 57] [1,2,3,7,8,10,58] (cT 58 .skip (.exit 1))) Qa4a
def Qacm:List Item:=[oJ 87 86]
def Qa4b:SC:=cT 87 (sR [fB 6 false] [6] .ret) .skip
def Qa4c:SC:=.reg [mJ 77 11,cJ 78 .add 77 1,mJ 11 78] [1,2,3,7,8,11]
def Qa4d:SC:=.seq (.block 4 (.seq (.dreg 9 [0,1,2,3,4,5,6,7,8] ( tJ 79 1 3::mJ 80 1::fJ 81 1 8::lJ 82 81::mJ 83 11::iJ 84 4 82 83::tJ 85 4 84::aJ 86 Qaxw [.t 79,.t 80,.t 85]::Qacm) [1,2,3,7,8,11,87]) Qa4b)) Qa4c
def Qaz6:SC:=.seq (sR [mJ 72 11,fJ 73 1 8,lJ 74 73,nJ 75 74,bJ 76 .lss 72 75] [1,2,3,7,8,11,76] (cT 76 .skip (.exit 3))) Qa4d
def Qacn:List Item:=[mJ 12 90]
def Qnj:List Item:=[gF 134 123 (.not (.t 133)),pT 135 123 134]
def Quk:List Item:=gF 121 112 (.not (.t 120))::pT 122 112 121::mJ 123 122::gFf 124 123 0 8::gFl 125 123 124::gFm 126 123 13::gF 127 123 (.iad 2 (.t 125) (.t 126))::gFf 128 123 0 127::gFl 129 123 128::gFf 130 123 1 7::gFl 131 123 130::gF 132 123 (.bin 0 .sub (.t 131) (kI 1))::.e (some 133) (some (123,false)) (.call Qcv [.t 129,kI 0,.t 132])::Qnj
def Qahg:SC:=cT 135 (sR [fB 6 false] [6] .ret) .skip
def Qahh:SC:=.reg [mJ 96 13,cJ 97 .add 96 1,mJ 13 97] [2,7,8,12,13]
def Qa4e:SC:=.seq (.block 6 (.seq (.dreg 38 [0,1,2,3,4,5,6,7,8,9,10,11,12,13,14,15,16,17,18,19,20,21,22,23,24,25,26,27,28,29,30,31,32,33,34,35,36,37] ( mJ 98 2::cJ 99 .eql 98 0::mJ 100 99::gFf 101 100 0 8::gFl 102 100 101::gFm 103 100 13::gF 104 100 (.iad 2 (.t 102) (.t 103))::gFf 105 100 1 104::gFl 106 100 105::gF 107 100 (.len (.t 106))::gFm 108 100 12::gF 109 100 (.len (.t 108))::gF 110 100 (.bin 0 .neq (.t 107) (.t 109))::pT 111 100 110::mJ 112 111::gF 113 112 (.ld 3 true (.t 7))::gFf 114 112 0 8::gFl 115 112 114::gFm 116 112 13::gF 117 112 (.iad 2 (.t 115) (.t 116))::gFf 118 112 1 117::gFl 119 112 118::.e (some 120) (some (112,false)) (.call Qaa1 [.t 113,.t 119])::Quk) [2,7,8,12,13,135]) Qahg)) Qahh
def Qaz7:SC:=.seq (sR [mJ 91 13,fJ 92 0 8,lJ 93 92,nJ 94 93,bJ 95 .lss 91 94] [2,7,8,12,13,95] (cT 95 .skip (.exit 5))) Qa4e
def Qahi:SC:=sR [fB 6 true] [6] .ret
def Qa4f:SC:=.seq (sR [zJ 13 0] [2,7,8,12,13] (bL 5 Qaz7)) Qahi
def Qa4g:SC:=sR (tJ 88 3 7::mJ 89 2::aJ 90 Q3w [.t 88,.t 89]::Qacn) [2,7,8,12] Qa4f
def Qa4h:SC:=.seq (sR [zJ 11 0] [1,2,3,7,8,11] (bL 3 Qaz6)) Qa4g
def Qahj:SC:=.seq (sR [zJ 10 0] [1,2,3,7,8,10] (bL 1 Qaz5)) Qa4h
def Qahk:SC:=.seq (sR (fJ 35 4 8::lJ 36 35::nJ 37 36::mJ 38 9::bJ 39 .neq 37 38::mJ 40 39::gFf 41 40 2 8::gFl 42 40 41::gF 43 40 (.bin 0 .neq (.t 42) (kI 1))::gFm 44 40 43::gTf 45 44 3 8::gTl 46 44 45::gTf 47 44 1 7::gTl 48 44 47::gT 49 44 (.bin 0 .sub (.t 48) (kI 1))::.e (some 50) (some (44,true)) (.call Qcv [.t 46,kI 0,.t 49])::Qp1) [1,2,3,7,8,53] s_l7Block_8) Qahj
def Qa4i:SC:=.seq (sR [fJ 24 2 8,lJ 25 24] [1,2,3,7,8,9,25] Qa9s) Qahk
def Qa4j:SC:=sR [zJ 9 1] [1,2,3,7,8,9] Qa4i
def Qa4k:SC:=sR (fJ 19 2 7::lJ 20 19::mJ 21 2::iJ 22 5 20 21::tJ 23 5 22::eI 8 (.alloc [.sl true 2 [],.sl true 4 [],.int .i64 0,.int .i64 0,.sl true 1 []])::Qahm) [1,2,3,7,8] Qa4j
def Qa4l:SC:=sR (fJ 14 0 3::lJ 15 14::mJ 16 1::iJ 17 3 15 16::tJ 18 3 17::eI 7 (.alloc [.int .i64 0,.int .i64 0,.sl true 5 []])::Qahl) [1,2,3,7] Qa4k
def Qbj2:SC:=sR [vJ 3 0,fB 6 false] [1,2,3] Qa4l
theorem Qbia:mFn prog Qadc 3 136 Qbj2 Qbo3=true:=by kernel_rfl
def Qa4q:List Item:=[sJ 3 5 13]
def Qa4r:List Item:=[mJ 6 19]
def Qa4s:List Item:=[hJ 29 28,.chk 30 none (.len (.t 29)),bJ 34 .add 30 33,kJ 35 27,fJ 36 1 35,fJ 37 1 36,sJ 1 37 34]
def Qa4t:List Item:=[kJ 59 45,fJ 60 5 59,sJ 1 60 58]
def Qbn6:SC:=.reg [mJ 43 7,cJ 44 .add 43 1,mJ 7 44] [4,5,6,7]
def Qbn7:SC:=.seq (.block 1 (.dreg 17 [0,1,2,3,4,5,6,7,8,9,10,11,12,13,14,15,16] ( mJ 45 6::mJ 46 6::kJ 47 46::fJ 48 5 47::lJ 49 48::fJ 50 1 5::lJ 51 50::mJ 52 7::iJ 53 1 51 52::lJ 54 53::mJ 55 7::fI 56 (.bld [.str [],.int .i64 0,.int .i64 0] [(0,1,.t 54),(1,1,.t 55),(2,1,kI 0)])::fI 57 (.bsl 3 [.t 56])::xJ 58 3 49 57::Qa4t) [4,5,6,7])) Qbn6
def Qbkf:SC:=.seq (sR [mJ 38 7,fJ 39 1 5,lJ 40 39,nJ 41 40,bJ 42 .lss 38 41] [4,5,6,7,42] (cT 42 .skip (.exit 0))) Qbn7
def Qa4u:List Item:=[mJ 8 71]
def Qa4v:List Item:=fI 70 (.bsl 1 [])::aJ 71 Qa2 [.t 67,kI 1,.t 69,kI 0,.t 70]::Qa4u
def Qbn8:SC:=sR [mJ 76 6,kJ 77 76,fJ 78 1 77,tJ 79 3 78,sJ 3 4 79] [4] .ret
def Qbj6:SC:=sR [mJ 72 6,mJ 73 8,fI 74 (.bsl 1 []),aJ 75 Qba [.t 72,kI 3,.t 73,.t 74,kI 0]] [4,6] Qbn8
def Qbj7:SC:=sR (mJ 67 6::mJ 68 6::aJ 69 Qbh [.t 68]::Qa4v) [4,6,8] Qbj6
def Qbj8:SC:=sR [mJ 63 6,fJ 64 2 5,lJ 65 64,aJ 66 Qdn [.t 63,.t 65]] [4,6] Qbj7
def Qbj9:SC:=sR [mJ 61 6,aJ 62 Qa3 [.t 61]] [4,5,6] Qbj8
def Qbka:SC:=.seq (sR [zJ 7 0] [4,5,6,7] (bL 0 Qbkf)) Qbj9
def Qbkb:SC:=.seq (.dreg 12 [0,1,2,3,4,5,6,2,3,7,8,9,10,11] ( mJ 27 6::fJ 28 1 5::lJ 29 28::nJ 30 29::fJ 31 2 5::lJ 32 31::aJ 33 Qye [.t 32]::Qa4s) [4,5,6]) Qbka
def Qbkc:SC:=sR [mJ 20 6,fJ 21 1 5,lJ 22 21,nJ 23 22,kJ 24 20,fJ 25 1 24,fJ 26 0 25,sJ 1 26 23] [4,5,6] Qbkb
def Qbkd:SC:=sR (tJ 14 1 2::fJ 15 1 5::lJ 16 15::nJ 17 16::fI 18 (.bld [.sl true 3 [],.int .i64 0,.int .i64 0,.sl true 5 [],.int .i64 0,.sl true 3 [],.int .i64 0,.sl true 1 []] [(0,1,.t 14),(6,1,.t 17)])::eI 19 (.boxm (.t 18))::Qa4r) [4,5,6] Qbkc
def Qbke:SC:=sR (fJ 9 0 2::lJ 10 9::mJ 11 1::iJ 12 3 10 11::tJ 13 3 12::eI 5 (.alloc [.str [],.sl true 1 [],.sl true 5 []])::Qa4q) [2,4,5] Qbkd
def Qbtc:SC:=sR [vJ 2 0,eI 4 (.alloc [.int .i64 0,.int .i64 0,.sl true 5 []])] [1,2,4] Qbke
def Qbo4:List RS:=[.cell 4 3 true]
theorem Qbsy:mFn prog Qa56 2 80 Qbtc Qbo4=true:=by kernel_rfl
def Qacg:List Item:=[sJ 3 7 26]
def Qach:List Item:=fI 26 (.bld [.str [],.sl true 1 [],.sl true 5 []] [(0,1,.t 19),(1,1,.t 25)])::eI 7 (.alloc [.str [],.sl true 1 [],.sl true 5 []])::Qacg
def Qaci:List Item:=[fJ 29 2 7,sJ 1 29 28]
def Quj:List Item:=[gT 41 35 (.bin 0 .gtr (.t 40) (kI 0)),pF 42 35 41]
def Qacj:List Item:=[fJ 59 2 7,sJ 1 59 58]
def Qack:List Item:=hJ 52 51::fI 55 (.bsl 4 [.t 54])::fI 56 (.bld [.int .i64 0,.str [],.sl true 4 [],.sl true 5 [],.sl true 5 []] [(0,1,kI 7),(2,1,.t 55)])::fI 57 (.bsl 5 [.t 56])::xJ 58 5 52 57::Qacj
def Qa3l:SC:=.dreg 10 [0,1,2,3,1,4,5,6,7,8,9] ( fJ 51 2 7::lJ 52 51::mJ 53 0::aJ 54 Qbv [.t 53,kI 2]::Qack) [6,7]
def s_l3Gen_fn_7:SC:=cT 42 (sR [mJ 43 0,mJ 44 0,kJ 45 44,fJ 46 4 45,lJ 47 46,cJ 48 .sub 47 1,kJ 49 43,fJ 50 4 49,sJ 1 50 48] [0,6,7] Qa3l) .skip
def Q1g:SC:=sR [tJ 60 3 7,sJ 3 6 60] [6] .ret
def Qa3m:SC:=.seq (sR (mJ 30 0::kJ 31 30::fJ 32 4 31::lJ 33 32::cJ 34 .gtr 33 0::mJ 35 34::gTm 36 35 0::gT 37 35 (.nck (.t 36))::gTf 38 35 0 37::gTl 39 35 38::.e (some 40) (some (35,true)) (.call Qz [.t 39,kI 4])::Quj) [0,6,7,42] s_l3Gen_fn_7) Q1g
def Qazt:SC:=sR (mJ 27 0::aJ 28 Qdm [.t 27,kI 3]::Qaci) [0,6,7] Qa3m
def Qazu:SC:=sR (mJ 19 1::fI 20 (.bsl 1 [])::mJ 21 0::kJ 22 21::fJ 23 2 22::lJ 24 23::xJ 25 1 20 24::Qach) [0,6,7] Qazt
def Qazv:SC:=sR [mJ 14 0,mJ 15 2,cJ 16 .sub 15 1,kJ 17 14,fJ 18 3 17,sJ 1 18 16] [0,1,6] Qazu
def Qazw:SC:=sR [mJ 8 0,fI 9 (.bsl 1 [.k (.c (.str [97])),.k (.c (.str [98])),.k (.c (.str [99]))]),mJ 10 2,fI 11 (.sli 1 (.t 9) none (some (.t 10))),kJ 12 8,fJ 13 2 12,sJ 1 13 11] [0,1,2,6] Qazv
def Qbd9:SC:=sR [eI 6 (.alloc [.str [],.sl true 1 [],.sl true 5 []])] [0,1,2,6] Qazw
def Q32:List RS:=[.cell 6 3 true]
theorem Qbcx:mFn prog Qs8 3 61 Qbd9 Q32=true:=by kernel_rfl
def Qe5:List Item:=[oJ 8 7]
def Qaaj:SC:=cT 8 (sR [fB 2 false] [2] .ret) .skip
def Qe6:List Item:=[oJ 22 21]
def Qaak:SC:=cT 22 (sR [fB 2 false] [2] .ret) .skip
def Qaal:SC:=.reg [mJ 14 3,cJ 15 .add 14 1,mJ 3 15] [1,3]
def Qaam:SC:=.seq (.block 1 (sR (fJ 16 0 1::lJ 17 16::mJ 18 3::iJ 19 3 17 18::tJ 20 3 19::aJ 21 Qaxv [.t 20]::Qe6) [1,3,22] Qaak)) Qaal
def Q6q:SC:=.seq (sR [mJ 9 3,fJ 10 0 1,lJ 11 10,nJ 12 11,bJ 13 .lss 9 12] [1,3,13] (cT 13 .skip (.exit 0))) Qaam
def Qe7:List Item:=[cJ 25 .leq 24 40,mJ 2 25]
def Qaan:SC:=sR (tJ 23 1 1::aJ 24 Qake [.t 23]::Qe7) [2] .ret
def Qaao:SC:=.seq (sR [zJ 3 0] [1,3] (bL 0 Q6q)) Qaan
def Q6p:SC:=.seq (sR (fJ 4 0 1::lJ 5 4::nJ 6 5::aJ 7 Qcv [.t 6,kI 1,kI 4]::Qe5) [1,8] Qaaj) Qaao
def Qafo:SC:=sR [vJ 1 0,fB 2 false] [1] Q6p
theorem Qq4:mFn prog Qcn 1 26 Qafo Qfh=true:=by kernel_rfl
def Qaxb:List Item:=[sJ 3 7 12]
def Qafe:List Item:=[gF 22 17 (.not (.t 21)),pT 23 17 22]
def Qaxc:List Item:=oJ 16 15::mJ 17 16::gF 18 17 (.ld 3 true (.t 7))::gFf 19 17 2 5::gFl 20 17 19::.e (some 21) (some (17,false)) (.call Qaa1 [.t 18,.t 20])::Qafe
def s_l7Ins_3:SC:=cT 23 (sR [fB 6 false] [6] .ret) .skip
def Qaff:List Item:=[gF 38 34 (.not (.t 37)),gFm 39 34 38,gTf 40 39 1 5,gTl 41 39 40,gT 42 39 (.bin 0 .neq (.t 41) (kI (-1))),gF 43 34 (.pick (.t 39) (.t 42) (.k (.c (.bool false)))),pT 44 34 43]
def Qaxd:List Item:=fI 33 (.bin 1 .neq (.t 26) (.t 32))::mJ 34 33::gFf 35 34 0 5::gFl 36 34 35::.e (some 37) (some (34,false)) (.call Q3v [.t 36])::Qaff
def Qaxe:List Item:=hJ 28 27::hJ 30 29::aJ 32 Qcv [.t 28,kI 0,.t 31]::Qaxd
def s_l7Ins_7:SC:=cT 44 (sR [fB 6 false] [6] .ret) .skip
def Q33:List Item:=[mJ 53 52,gTf 54 53 2 5,gTl 55 53 54,gT 56 53 (.len (.t 55)),gTf 57 53 0 3,gTl 58 53 57,gTf 59 53 3 5,gTl 60 53 59,gT 61 53 (.iad 3 (.t 58) (.t 60)),gTf 62 53 0 61,gTl 63 53 62,gT 64 53 (.bin 0 .eql (.t 56) (.t 63)),pF 65 53 64,mJ 6 65]
def Qbj3:SC:=cT 47 (.seq (.dreg 19 [0,1,2,3,4,5,6,7,8,9,10,11,12,13,14,15,16,17,18] ( fJ 48 3 5::lJ 49 48::mJ 50 1::cJ 51 .sub 50 1::aJ 52 Qcv [.t 49,kI 0,.t 51]::Q33) [6]) .ret) .skip
def Q9v:List Item:=[pF 77 73 76,mJ 78 77,gTf 79 78 3 5,gTl 80 78 79,gT 81 78 (.bin 0 .eql (.t 80) (kI 0)),gTm 82 78 81,gFf 83 82 0 5,gFl 84 82 83,gF 85 82 (.bin 0 .eql (.t 84) (kI 1)),gT 86 78 (.pick (.t 82) (.k (.c (.bool true))) (.t 85)),pF 87 78 86,mJ 6 87]
def Qap6:List Item:=hJ 67 66::.chk 68 none (.len (.t 67))::bJ 72 .eql 68 71::mJ 73 72::gTf 74 73 3 5::gTl 75 73 74::.e (some 76) (some (73,true)) (.call Qcv [.t 75,kI 0,kI 255])::Q9v
def Qbfi:SC:=.seq (.dreg 23 [0,1,2,3,4,5,1,2,6,7,8,9,10,11,12,13,14,15,16,17,18,19,20,21,22] ( fJ 66 2 5::lJ 67 66::nJ 68 67::fJ 69 0 5::lJ 70 69::aJ 71 Qalb [.t 70]::Qap6) [6]) .ret
def Qaw9:SC:=.seq (sR [fJ 45 0 5,lJ 46 45,cJ 47 .eql 46 14] [1,3,5,47] Qbj3) Qbfi
def Qaxa:SC:=.seq (.seq (.dreg 21 [0,1,3,4,5,6,7,2,4,6,8,9,10,11,12,13,14,15,16,17,18,19,20] ( fJ 24 0 5::lJ 25 24::fJ 27 1 5::lJ 28 27::fJ 29 1 7::lJ 30 29::cJ 31 .sub 30 1::aJ 26 Q3v [.t 25]::Qaxe) [1,3,5,44]) s_l7Ins_7) Qaw9
def Qbfj:SC:=.seq (sR (fJ 13 0 5::lJ 14 13::aJ 15 Qcv [.t 14,kI 1,kI 14]::Qaxc) [1,3,5,7,23] s_l7Ins_3) Qaxa
def Qbfk:SC:=sR (fJ 8 0 3::lJ 9 8::mJ 10 1::iJ 11 3 9 10::tJ 12 3 11::eI 7 (.alloc [.int .i64 0,.int .i64 0,.sl true 5 []])::Qaxb) [1,3,5,7] Qbfj
def Qbrf:SC:=sR [vJ 3 0,vJ 5 2,fB 6 false] [1,3,5] Qbfk
theorem Qbq0:mFn prog Qaxw 3 88 Qbrf Qbo3=true:=by kernel_rfl
def Qap9:List Item:=[oJ 20 19]
def Qbfl:SC:=cT 20 (sR [fB 4 false] [4] .ret) .skip
def Qbfm:SC:=.reg [mJ 10 5,cJ 11 .add 10 1,mJ 5 11] [1,2,5]
def Qbfn:SC:=.seq (.block 1 (.seq (.dreg 9 [0,1,2,3,4,5,6,7,8] ( mJ 12 1::mJ 13 5::iJ 14 1 12 13::lJ 15 14::fJ 16 1 2::lJ 17 16::cJ 18 .sub 17 1::aJ 19 Qcv [.t 15,kI 0,.t 18]::Qap9) [1,2,5,20]) Qbfl)) Qbfm
def Qa9z:SC:=.seq (sR [mJ 6 5,mJ 7 1,nJ 8 7,bJ 9 .lss 6 8] [1,2,5,9] (cT 9 .skip (.exit 0))) Qbfn
def Qbfo:SC:=sR [fB 4 true] [4] .ret
def Qbfp:SC:=.seq (sR [zJ 5 0] [1,2,5] (bL 0 Qa9z)) Qbfo
def Qbn5:SC:=sR [vJ 2 0,fB 4 false] [1,2] Qbfp
theorem Qbm2:mFn prog Qaa1 2 21 Qbn5 Qpr=true:=by kernel_rfl
def Qaqf:List Item:=[bJ 33 .add 26 32,mJ 3 33]
def Qaqg:List Item:=.chk 29 none (.iad 5 (.t 27) (.t 28))::hJ 31 30::bJ 26 .add 19 25::aJ 32 Qye [.t 31]::Qaqf
def Qaqh:List Item:=.chk 22 none (.iad 5 (.t 20) (.t 21))::hJ 24 23::.chk 29 none (.iad 5 (.t 27) (.t 28))::hJ 31 30::bJ 19 .add 11 18::aJ 25 Qye [.t 24]::Qaqg
def Qbfq:SC:=.reg [mJ 9 4,cJ 10 .add 9 1,mJ 4 10] [0,3,4]
def Qbfr:SC:=.seq (.block 1 (.dreg 24 [0,1,2,3,4,5,6,9,10,11,12,13,16,17,18,19,20,7,11,13,18,20,8,14,18,20,15,21,22,23] ( mJ 11 3::mJ 12 0::mJ 13 4::iJ 14 5 12 13::fJ 15 0 14::lJ 16 15::cJ 17 .eql 16 1::mJ 20 0::mJ 21 4::iJ 22 5 20 21::fJ 23 3 22::lJ 24 23::mJ 27 0::mJ 28 4::iJ 29 5 27 28::fJ 30 4 29::lJ 31 30::aJ 18 Qadb [.t 17]::Qaqh) [0,3,4])) Qbfq
def Qa90:SC:=.seq (sR [mJ 5 4,mJ 6 0,nJ 7 6,bJ 8 .lss 5 7] [0,3,4,8] (cT 8 .skip (.exit 0))) Qbfr
def Qbfs:SC:=sR [mJ 34 3,mJ 2 34] [2] .ret
def Qbft:SC:=.seq (sR [zJ 4 0] [0,3,4] (bL 0 Qa90)) Qbfs
def Qbfu:SC:=sR [zJ 3 0] [0,3] Qbft
def Qbn9:SC:=sR [zJ 2 0] [0] Qbfu
theorem Qbm3:mFn prog Qye 1 35 Qbn9 Qfh=true:=by kernel_rfl
def Qv3:List Item:=[kJ 15 3,fJ 16 1 15,fJ 17 2 16,sJ 1 17 14]
def Qaqi:SC:=sR [mJ 18 0,kJ 19 18,fJ 20 1 19,fJ 21 2 20,lJ 22 21,nJ 23 22,cJ 24 .sub 23 1,mJ 2 24] [2] .ret
def Qaqj:SC:=sR (mJ 3 0::mJ 4 0::kJ 5 4::fJ 6 1 5::fJ 7 2 6::lJ 8 7::fI 9 (.bsl 2 [])::fI 10 (.bsl 4 [])::fI 11 (.bsl 1 [])::fI 12 (.bld [.sl true 2 [],.sl true 4 [],.int .i64 0,.int .i64 0,.sl true 1 []] [(0,1,.t 9),(1,1,.t 10),(4,1,.t 11)])::fI 13 (.bsl 5 [.t 12])::xJ 14 5 8 13::Qv3) [0] Qaqi
def Qa0b:SC:=sR [zJ 2 0] [0] Qaqj
theorem Qaym:mFn prog Qa3 1 25 Qa0b Qfh=true:=by kernel_rfl
def Qari:SC:=.reg [mJ 15 5,cJ 16 .add 15 1,mJ 5 16] [0,1,4,5]
def Qarj:SC:=.seq (.block 1 (.reg [mJ 17 0,mJ 18 1,mJ 19 5,iJ 20 5 18 19,tJ 21 5 20,aJ 22 Qtd [.t 17,.t 21]] [0,1,4,5])) Qari
def Qajs:SC:=.seq (sR [mJ 11 5,mJ 12 1,nJ 13 12,bJ 14 .lss 11 13] [0,1,4,5,14] (cT 14 .skip (.exit 0))) Qarj
def Qark:SC:=.reg [mJ 23 0,mJ 24 0,kJ 25 24,fJ 26 5 25,lJ 27 26,mJ 28 4,fI 29 (.sli 3 (.t 27) none (some (.t 28))),kJ 30 23,fJ 31 5 30,sJ 1 31 29] []
def Qarl:SC:=.seq (sR [zJ 5 0] [0,1,4,5] (bL 0 Qajs)) Qark
def Qa0l:SC:=sR [mJ 6 0,kJ 7 6,fJ 8 5 7,lJ 9 8,nJ 10 9,mJ 4 10] [0,1,4] Qarl
def Qtn:List RS:=[]
theorem Qayo:mFn prog Qdn 2 32 Qa0l Qtn=true:=by kernel_rfl
def Q7s:List Item:=[kJ 34 22,fJ 35 1 34,sJ 1 35 33]
def Qa0d:SC:=sR [mJ 36 2,mJ 10 36] [10] .ret
def Qa0e:SC:=sR (mJ 22 11::mJ 23 11::kJ 24 23::fJ 25 1 24::lJ 26 25::mJ 27 1::mJ 28 2::mJ 29 4::mJ 30 3::fI 31 (.bld [.int .i64 0,.int .i64 0,.sl true 1 [],.int .i64 0] [(0,1,.t 27),(1,1,.t 28),(2,1,.t 29),(3,1,.t 30)])::fI 32 (.bsl 4 [.t 31])::xJ 33 4 26 32::Q7s) [2] Qa0d
def Qa0f:SC:=.seq (.dreg 11 [0,1,2,3,4,5,6,7,8,9,10] ( mJ 12 0::kJ 13 12::fJ 14 1 13::fJ 15 2 14::lJ 16 15::mJ 17 0::kJ 18 17::fJ 19 4 18::lJ 20 19::iJ 21 5 16 20::mJ 11 21::[]) [1,2,3,4,11]) Qa0e
def Qa92:SC:=sR [zJ 10 0] [0,1,2,3,4] Qa0f
def Qamf:List RS:=[.tmp 10]
theorem Qa6m:mFn prog Qa2 5 37 Qa92 Qamf=true:=by kernel_rfl
def Qaqv:SC:=sR [mJ 13 0,kJ 14 13,fJ 15 1 14,fJ 16 1 15,lJ 17 16,cJ 18 .sub 17 1,mJ 2 18] [2] .ret
def Qaqw:SC:=sR [mJ 3 0,mJ 4 0,kJ 5 4,fJ 6 1 5,fJ 7 1 6,lJ 8 7,cJ 9 .add 8 1,kJ 10 3,fJ 11 1 10,fJ 12 1 11,sJ 1 12 9] [0] Qaqv
def Qa0c:SC:=sR [zJ 2 0] [0] Qaqw
theorem Qayn:mFn prog Qbh 1 19 Qa0c Qfh=true:=by kernel_rfl
def Qavf:SC:=.reg [mJ 33 0,mJ 34 4,kJ 35 33,fJ 36 4 35,sJ 1 36 34] []
def Qavg:SC:=sR [mJ 29 10,mJ 30 3,kJ 31 29,fJ 32 4 31,sJ 1 32 30] [0,4] Qavf
def Qavh:SC:=sR [mJ 25 10,mJ 26 2,kJ 27 25,fJ 28 3 27,sJ 1 28 26] [0,3,4,10] Qavg
def Qavi:SC:=sR [mJ 21 10,mJ 22 1,kJ 23 21,fJ 24 2 23,sJ 1 24 22] [0,2,3,4,10] Qavh
def Qa4x:SC:=.seq (.dreg 11 [0,1,2,3,4,5,6,7,8,9,10] ( mJ 11 0::kJ 12 11::fJ 13 1 12::fJ 14 2 13::lJ 15 14::mJ 16 0::kJ 17 16::fJ 18 4 17::lJ 19 18::iJ 20 5 15 19::mJ 10 20::[]) [0,1,2,3,4,10]) Qavi
theorem Qa17:mFn prog Qba 5 37 Qa4x Qtn=true:=by kernel_rfl
def Qve:List Item:=[mJ 7 18]
def Qvf:List Item:=[mJ 6 34]
def Qvg:List Item:=xJ 34 5 30 33::Qvf
def Qaof:SC:=.reg [mJ 28 7,cJ 29 .sub 28 1,mJ 7 29] [0,1,5,6,7]
def Qaog:SC:=.seq (.block 1 (.reg (mJ 30 6::mJ 31 0::mJ 32 1::aJ 33 Qta [.t 31,.t 32]::Qvg) [0,1,5,6,7])) Qaof
def Qai4:SC:=.seq (sR [mJ 19 7,cJ 20 .gtr 19 0,mJ 21 20,gTm 22 21 0,gT 23 21 (.nck (.t 22)),gTf 24 21 4 23,gTl 25 21 24,gT 26 21 (.bin 0 .gtr (.t 25) (kI 0)),pF 27 21 26] [0,1,5,6,7,27] (cT 27 .skip (.exit 0))) Qaog
def Qaoh:SC:=sR [mJ 39 6,mJ 4 39] [4] .ret
def Qaoi:SC:=sR [mJ 35 0,mJ 36 5,kJ 37 35,fJ 38 2 37,sJ 1 38 36] [6] Qaoh
def Qaoj:SC:=.seq (sR (mJ 13 0::kJ 14 13::fJ 15 0 14::lJ 16 15::fI 17 (.bsl 1 [kI 2,kI 3,kI 1,kI 4])::aJ 18 Qax [.t 16,.t 17]::Qve) [0,1,5,6,7] (bL 0 Qai4)) Qaoi
def Qaok:SC:=sR [fI 12 (.bsl 5 []),mJ 6 12] [0,1,5,6] Qaoj
def Qai3:SC:=sR [mJ 8 0,kJ 9 8,fJ 10 2 9,lJ 11 10,mJ 5 11] [0,1,5] Qaok
def Qazs:SC:=sR [fI 4 (.mv (.k (.c (.sl true 5 []))))] [0,1] Qai3
theorem Qayg:mFn prog Qdm 2 40 Qazs Qpr=true:=by kernel_rfl
def Q09:List Item:=[hJ 12 11,hJ 16 15,sJ 4 5 18]
def Q1a:List Item:=eI 5 (.alloc [.int .i64 0,.int .i64 0,.str [],.sl true 4 []])::Q09
def Qo0:List Item:=[gF 31 25 (.bin 0 .gtr (.t 30) (kI 0)),pT 32 25 31]
def s_l3Gen_expr_3:SC:=cT 32 (sR [tJ 33 4 5,sJ 4 4 33] [4] .ret) .skip
def Q1b:List Item:=[hJ 37 36,hJ 41 40,hJ 45 44,.chk 46 none (.len (.t 45)),.chk 48 none (.iad 3 (.t 37) (.t 47)),.chk 49 none (.ld 3 true (.t 48)),sJ 3 6 49]
def Q1c:List Item:=hJ 37 36::iJ 48 3 37 47::tJ 49 3 48::eI 6 (.alloc [.str [],.sl true 1 [],.sl true 5 []])::Q1b
def Q1d:List Item:=[sJ 4 7 52]
def Q1e:List Item:=[fJ 73 3 7,sJ 1 73 72]
def Q1f:List Item:=hJ 61 60::fI 71 (.bsl 4 [.t 70])::xJ 72 4 61 71::Q1e
def Qauh:SC:=.reg [mJ 58 8,cJ 59 .add 58 1,mJ 8 59] [0,4,6,7,8]
def Qaol:SC:=.seq (.block 1 (.dreg 15 [0,1,2,3,4,5,6,7,8,9,10,1,11,12,13,14] ( fJ 60 3 7::lJ 61 60::mJ 62 0::kJ 63 62::fJ 64 0 63::lJ 65 64::mJ 66 0::kJ 67 66::fJ 68 2 67::lJ 69 68::aJ 70 Qeb [.t 65,.t 69,kI 2]::Q1f) [0,4,6,7,8])) Qauh
def Qai5:SC:=.seq (sR [mJ 53 8,fJ 54 1 6,lJ 55 54,nJ 56 55,bJ 57 .lss 53 56] [0,4,6,7,8,57] (cT 57 .skip (.exit 0))) Qaol
def Qvh:List Item:=[cJ 79 .eql 78 0]
def Qaom:SC:=cT 79 (sR [tJ 80 4 7,sJ 4 4 80] [4] .ret) .skip
def Qvi:List Item:=[.chk 87 none (.ld 4 true (.t 7)),fI 97 (.bsl 4 [.t 87,.t 96]),fI 98 (.bld [.int .i64 0,.int .i64 0,.str [],.sl true 4 []] [(0,1,.t 86),(3,1,.t 97)]),sJ 4 4 98]
def Qvj:List Item:=.chk 87 none (.ld 4 true (.t 7))::hJ 91 90::hJ 95 94::aJ 96 Qeb [.t 91,.t 95,kI 2]::Qvi
def Qaon:SC:=.seq (.dreg 19 [0,1,2,3,4,6,7,8,9,10,11,12,13,14,5,6,10,14,15,6,16,17,18] ( mJ 81 0::kJ 82 81::fJ 83 0 82::lJ 84 83::fI 85 (.bsl 1 [kI 3,kI 4,kI 8,kI 10])::tJ 87 4 7::mJ 88 0::kJ 89 88::fJ 90 0 89::lJ 91 90::mJ 92 0::kJ 93 92::fJ 94 2 93::lJ 95 94::aJ 86 Qax [.t 84,.t 85]::Qvj) [4]) .ret
def Qaoo:SC:=.seq (sR (mJ 74 0::kJ 75 74::fJ 76 0 75::lJ 77 76::aJ 78 Qz [.t 77,kI 2]::Qvh) [0,4,7,79] Qaom) Qaon
def Qaop:SC:=.seq (sR [zJ 8 0] [0,4,6,7,8] (bL 0 Qai5)) Qaoo
def Qaoq:SC:=sR (fJ 50 0 6::lJ 51 50::fI 52 (.bld [.int .i64 0,.int .i64 0,.str [],.sl true 4 []] [(0,1,kI 13),(2,1,.t 51)])::eI 7 (.alloc [.int .i64 0,.int .i64 0,.str [],.sl true 4 []])::Q1d) [0,4,6,7] Qaop
def Q08:SC:=.seq (.dreg 16 [0,1,2,3,4,5,6,7,8,9,10,11,12,13,3,14,15,16,3,7,11,12,14,15,17] ( mJ 34 0::kJ 35 34::fJ 36 1 35::lJ 37 36::mJ 38 0::kJ 39 38::fJ 40 0 39::lJ 41 40::mJ 42 0::kJ 43 42::fJ 44 1 43::lJ 45 44::nJ 46 45::aJ 47 Qz [.t 41,.t 46]::Q1c) [0,4,6]) Qaoq
def Qaor:SC:=.seq (sR (mJ 19 0::kJ 20 19::fJ 21 1 20::lJ 22 21::nJ 23 22::cJ 24 .eql 23 0::mJ 25 24::gFm 26 25 0::gF 27 25 (.nck (.t 26))::gFf 28 25 0 27::gFl 29 25 28::.e (some 30) (some (25,false)) (.call Qz [.t 29,kI 4])::Qo0) [0,4,5,32] s_l3Gen_expr_3) Q08
def Qaos:SC:=.seq (.dreg 10 [0,1,2,3,4,5,6,7,8,9,10,3,7,11] ( mJ 9 0::kJ 10 9::fJ 11 0 10::lJ 12 11::mJ 13 0::kJ 14 13::fJ 15 2 14::lJ 16 15::mJ 17 1::aJ 18 Qeb [.t 12,.t 16,.t 17]::Q1a) [0,4,5]) Qaor
def Qa3k:SC:=sR [eI 4 (.alloc [.int .i64 0,.int .i64 0,.str [],.sl true 4 []])] [0,1,4] Qaos
def Qps:List RS:=[.cell 4 4 true]
theorem Qa1z:mFn prog Qbv 2 99 Qa3k Qps=true:=by kernel_rfl
def Qaod:List Item:=[oJ 17 16]
def Qbnq:SC:=cT 17 (sR [fB 2 false] [2] .ret) .skip
def Qbnr:SC:=.reg [mJ 9 3,cJ 10 .add 9 1,mJ 3 10] [1,3]
def Qbns:SC:=.seq (.block 1 (sR (fJ 11 1 1::lJ 12 11::mJ 13 3::iJ 14 1 12 13::lJ 15 14::aJ 16 Qeg [.t 15]::Qaod) [1,3,17] Qbnq)) Qbnr
def Qbjn:SC:=.seq (sR [mJ 4 3,fJ 5 1 1,lJ 6 5,nJ 7 6,bJ 8 .lss 4 7] [1,3,8] (cT 8 .skip (.exit 0))) Qbns
def Q05:List Item:=[pF 31 27 30,mJ 2 31]
def Qaoe:List Item:=mJ 21 20::gTf 22 21 1 1::gTl 23 21 22::gT 24 21 (.len (.t 23))::gT 25 21 (.bin 0 .leq (.t 24) (kI 3))::pF 26 21 25::mJ 27 26::gTf 28 27 2 1::gTl 29 27 28::.e (some 30) (some (27,true)) (.call Qno [.t 29,kI 4])::Q05
def Qbnt:SC:=sR (fJ 18 0 1::lJ 19 18::aJ 20 Qeg [.t 19]::Qaoe) [2] .ret
def Qbnu:SC:=.seq (sR [zJ 3 0] [1,3] (bL 0 Qbjn)) Qbnt
def Qbta:SC:=sR [vJ 1 0,fB 2 false] [1] Qbnu
theorem Qbo1:mFn prog Qaxv 1 32 Qbta Qfh=true:=by kernel_rfl
def Qaey:List Item:=[bJ 20 .add 12 19,mJ 3 20]
def Qbjh:SC:=.reg [mJ 10 4,cJ 11 .add 10 1,mJ 4 11] [1,3,4]
def Qbji:SC:=.seq (.block 1 (.reg (mJ 12 3::fJ 13 0 1::lJ 14 13::mJ 15 4::iJ 16 3 14 15::fJ 17 2 16::lJ 18 17::aJ 19 Qnn [.t 18]::Qaey) [1,3,4])) Qbjh
def Qbd5:SC:=.seq (sR [mJ 5 4,fJ 6 0 1,lJ 7 6,nJ 8 7,bJ 9 .lss 5 8] [1,3,4,9] (cT 9 .skip (.exit 0))) Qbji
def Qbjj:SC:=sR [mJ 21 3,mJ 2 21] [2] .ret
def Qbjk:SC:=.seq (sR [zJ 4 0] [1,3,4] (bL 0 Qbd5)) Qbjj
def Qbjl:SC:=sR [zJ 3 0] [1,3] Qbjk
def Qbrd:SC:=sR [vJ 1 0,zJ 2 0] [1] Qbjl
theorem Qbh7:mFn prog Qake 1 22 Qbrd Qfh=true:=by kernel_rfl
def Qaho:List Item:=[mJ 5 4,gTm 6 5 0,gT 7 5 (.bin 0 .neq (.t 6) (kI 12)),pF 8 5 7,mJ 9 8,gTm 10 9 0,gT 11 9 (.bin 0 .neq (.t 10) (kI 13)),pF 12 9 11,mJ 2 12]
def Qa9t:SC:=sR (mJ 3 0::aJ 4 Qcv [.t 3,kI 1,kI 14]::Qaho) [2] .ret
def Qbj4:SC:=sR [fB 2 false] [0] Qa9t
theorem Qbib:mFn prog Q3v 1 13 Qbj4 Qfh=true:=by kernel_rfl
def Qap5:List Item:=[mJ 24 23,gFm 25 24 0,gF 26 24 (.bin 0 .eql (.t 25) (kI 12)),pT 27 24 26,mJ 21 27]
def Qbfd:SC:=cT 21 (sR [zJ 2 2] [2] .ret) .skip
def Qbfe:SC:=cT 6 (sR [zJ 2 1] [2] .ret) (sR (mJ 22 0::aJ 23 Qcv [.t 22,kI 3,kI 9]::Qap5) [21] Qbfd)
def Qbff:SC:=cT 3 (sR [zJ 2 0] [2] .ret) (sR [mJ 7 0,cJ 8 .eql 7 2,mJ 9 8,gFm 10 9 0,gF 11 9 (.bin 0 .eql (.t 10) (kI 10)),pT 12 9 11,mJ 13 12,gFm 14 13 0,gF 15 13 (.bin 0 .eql (.t 14) (kI 11)),pT 16 13 15,mJ 17 16,gFm 18 17 0,gF 19 17 (.bin 0 .eql (.t 18) (kI 13)),pT 20 17 19,mJ 6 20] [0,6] Qbfe)
def Qbfg:SC:=sR [zJ 2 (-1)] [2] .ret
def Qbfh:SC:=.seq (.block 0 (sR [mJ 4 0,cJ 5 .eql 4 1,mJ 3 5] [0,3] Qbff)) Qbfg
def Qbn4:SC:=sR [zJ 2 0] [0] Qbfh
theorem Qbm1:mFn prog Qalb 1 28 Qbn4 Qfh=true:=by kernel_rfl
def Qa9l:SC:=cT 3 (sR [zJ 2 1] [2] .ret) .skip
def Qa9m:SC:=sR [zJ 2 0] [2] .ret
def Qa9n:SC:=.seq (sR [mJ 3 0] [3] Qa9l) Qa9m
def Qbj1:SC:=sR [zJ 2 0] [0] Qa9n
theorem Qbh9:mFn prog Qadb 1 4 Qbj1 Qfh=true:=by kernel_rfl
def Qavq:SC:=cT 11 (sR [mJ 12 0,tJ 13 5 3,aJ 14 Qtc [.t 12,.t 13]] [] .ret) .skip
def Q2j:List Item:=[mJ 4 32]
def Q2k:List Item:=fI 31 (.bsl 1 [.t 30])::xJ 32 1 23 31::Q2j
def Qavr:SC:=.reg [mJ 21 5,cJ 22 .add 21 1,mJ 5 22] [0,3,4,5]
def Qavs:SC:=.seq (.block 1 (.reg (mJ 23 4::mJ 24 0::fJ 25 2 3::lJ 26 25::mJ 27 5::iJ 28 4 26 27::tJ 29 4 28::aJ 30 Qdh [.t 24,.t 29]::Q2k) [0,3,4,5])) Qavr
def Qarh:SC:=.seq (sR [mJ 16 5,fJ 17 2 3,lJ 18 17,nJ 19 18,bJ 20 .lss 16 19] [0,3,4,5,20] (cT 20 .skip (.exit 0))) Qavs
def Q2l:List Item:=[kJ 58 44,fJ 59 5 58,sJ 1 59 57]
def Qavt:SC:=.reg [mJ 60 0,mJ 61 0,kJ 62 61,fJ 63 6 62,lJ 64 63,cJ 65 .add 64 1,kJ 66 60,fJ 67 6 66,sJ 1 67 65] []
def Qavu:SC:=.seq (.dreg 17 [0,1,2,3,4,5,6,7,8,9,10,11,12,13,14,15,16] ( mJ 44 0::mJ 45 0::kJ 46 45::fJ 47 5 46::lJ 48 47::fJ 49 1 3::lJ 50 49::mJ 51 0::kJ 52 51::fJ 53 6 52::lJ 54 53::fI 55 (.bld [.str [],.int .i64 0,.int .i64 0] [(0,1,.t 50),(1,1,.t 54),(2,1,kI 0)])::fI 56 (.bsl 3 [.t 55])::xJ 57 3 48 56::Q2l) [0]) Qavt
def Q2m:List Item:=[mJ 75 4,aJ 76 Qa2 [.t 70,kI 2,.t 74,kI 0,.t 75]]
def Qwd:List Item:=[.chk 91 none (.iad 1 (.t 90) (kI 0)),hJ 92 91,aJ 96 Qba [.t 89,kI 3,.t 92,.t 93,.t 95]]
def Qwe:List Item:=[mJ 6 100]
def Qwf:List Item:=[mJ 7 102]
def Qwg:List Item:=[mJ 8 104]
def Qaqz:SC:=.reg [mJ 127 0,mJ 128 8,fI 129 (.bsl 1 [.t 128]),mJ 130 8,aJ 131 Qba [.t 127,kI 1,kI 0,.t 129,.t 130]] []
def Qaq0:SC:=sR [mJ 123 0,fJ 124 4 3,lJ 125 124,aJ 126 Qdn [.t 123,.t 125]] [0,8] Qaqz
def Qaq1:SC:=sR [mJ 118 0,mJ 119 8,fI 120 (.bsl 1 [.t 119]),mJ 121 7,aJ 122 Qba [.t 118,kI 1,kI 0,.t 120,.t 121]] [0,3,8] Qaq0
def Qaq2:SC:=sR [mJ 114 0,fJ 115 3 3,lJ 116 115,aJ 117 Qdn [.t 114,.t 116]] [0,3,7,8] Qaq1
def Qaq3:SC:=sR [mJ 105 0,mJ 106 4,fI 107 (.iad 1 (.t 106) (kI 0)),lJ 108 107,mJ 109 6,mJ 110 7,fI 111 (.bsl 1 [.t 109,.t 110]),mJ 112 6,aJ 113 Qba [.t 105,kI 2,.t 108,.t 111,.t 112]] [0,3,7,8] Qaq2
def Qaq4:SC:=sR (mJ 103 0::aJ 104 Qa3 [.t 103]::Qwg) [0,3,4,6,7,8] Qaq3
def Qaq5:SC:=sR (mJ 101 0::aJ 102 Qa3 [.t 101]::Qwf) [0,3,4,6,7] Qaq4
def Qaq6:SC:=cT 97 (sR (mJ 99 0::aJ 100 Qa3 [.t 99]::Qwe) [0,3,4,6] Qaq5) .skip
def Qaq7:SC:=cT 87 (.dreg 8 [0,1,2,3,4,5,6,2,3,7] ( mJ 89 0::mJ 90 4::fI 91 (.iad 1 (.t 90) (kI 0))::lJ 92 91::fI 93 (.bsl 1 [])::mJ 94 0::aJ 95 Qa3 [.t 94]::Qwd) []) (sR [cJ 98 .eql 34 5,mJ 97 98] [0,3,4,97] Qaq6)
def Qaq8:SC:=cT 82 (.reg [mJ 84 0,mJ 85 4,aJ 86 Qa2 [.t 84,kI 12,kI (-1),kI 0,.t 85]] []) (sR [cJ 88 .eql 34 7,mJ 87 88] [0,3,4,34,87] Qaq7)
def Qaq9:SC:=cT 77 (.reg [mJ 79 0,mJ 80 4,aJ 81 Qa2 [.t 79,kI 13,kI (-1),kI 0,.t 80]] []) (sR [cJ 83 .eql 34 4,mJ 82 83] [0,3,4,34,82] Qaq8)
def Qara:SC:=cT 68 (.reg (mJ 70 0::mJ 71 0::fJ 72 1 3::lJ 73 72::aJ 74 Qpf [.t 71,.t 73]::Q2m) []) (sR [cJ 78 .eql 34 3,mJ 77 78] [0,3,4,34,77] Qaq9)
def Qarb:SC:=cT 35 (sR [mJ 37 0,mJ 38 0,kJ 39 38,fJ 40 6 39,lJ 41 40,mJ 42 4,aJ 43 Qa2 [.t 37,kI 2,.t 41,kI 0,.t 42]] [0,3] Qavu) (sR [cJ 69 .eql 34 2,mJ 68 69] [0,3,4,34,68] Qara)
def Qarc:SC:=.block 2 (sR [cJ 36 .eql 34 1,mJ 35 36] [0,3,4,34,35] Qarb)
def Qard:SC:=.seq (.seq .gh (.reg [fJ 33 0 3,lJ 34 33] [0,3,4,34])) Qarc
def Qare:SC:=.seq (sR [zJ 5 0] [0,3,4,5] (bL 0 Qarh)) Qard
def Qarf:SC:=sR [fI 15 (.bsl 1 []),mJ 4 15] [0,3,4] Qare
def Qarg:SC:=.seq (sR [fJ 9 0 3,lJ 10 9,cJ 11 .eql 10 6] [0,3,11] Qavq) Qarf
def Qa4z:SC:=sR [vJ 3 1] [0,3] Qarg
theorem Qa19:mFn prog Qtd 2 132 Qa4z Qtn=true:=by kernel_rfl
def Q1q:List Item:=[mJ 5 19]
def Q1r:List Item:=[fI 42 (.bsl 4 [.t 41]),fI 43 (.bld [.int .i64 0,.str [],.sl true 4 [],.sl true 5 [],.sl true 5 []] [(0,1,kI 2),(1,1,.t 39),(2,1,.t 42)]),fI 44 (.bsl 5 [.t 43]),mJ 4 44]
def Q1s:List Item:=aJ 41 Qbv [.t 40,kI 3]::Q1r
def Q1t:List Item:=[fI 52 (.bsl 5 [.t 51]),mJ 4 52]
def Q1u:List Item:=aJ 51 Qpe [.t 48,.t 50]::Q1t
def Q1v:List Item:=[fI 62 (.bsl 4 [.t 61]),fI 63 (.bld [.int .i64 0,.str [],.sl true 4 [],.sl true 5 [],.sl true 5 []] [(0,1,kI 3),(2,1,.t 62)]),fI 64 (.bsl 5 [.t 63]),mJ 4 64]
def Q1w:List Item:=[fI 72 (.bsl 4 [.t 69,.t 71]),fI 73 (.bld [.int .i64 0,.str [],.sl true 4 [],.sl true 5 [],.sl true 5 []] [(0,1,kI 4),(2,1,.t 72)]),fI 74 (.bsl 5 [.t 73]),mJ 4 74]
def Q1x:List Item:=mJ 70 0::aJ 71 Qbv [.t 70,kI 2]::Q1w
def Q1y:List Item:=[fI 80 (.bsl 4 [.t 79]),fI 81 (.bld [.int .i64 0,.int .i64 0,.str [],.sl true 4 []] [(0,1,kI 12),(3,1,.t 80)]),fI 82 (.bsl 4 [.t 81]),fI 83 (.bld [.int .i64 0,.str [],.sl true 4 [],.sl true 5 [],.sl true 5 []] [(0,1,kI 3),(2,1,.t 82)]),fI 84 (.bsl 5 [.t 83]),mJ 4 84]
def Q1z:List Item:=[sJ 5 6 95]
def Qvm:List Item:=fI 95 (.bld [.int .i64 0,.str [],.sl true 4 [],.sl true 5 [],.sl true 5 []] [(0,1,kI 5),(2,1,.t 90),(3,1,.t 94)])::eI 6 (.alloc [.int .i64 0,.str [],.sl true 4 [],.sl true 5 [],.sl true 5 []])::Q1z
def Qvn:List Item:=fI 90 (.bsl 4 [.t 89])::mJ 91 0::mJ 92 1::cJ 93 .sub 92 1::aJ 94 Qdm [.t 91,.t 93]::Qvm
def Qvo:List Item:=[cJ 101 .eql 100 0]
def Qvp:List Item:=[fJ 106 4 6,sJ 1 106 105]
def Qao0:SC:=cT 101 (.reg (mJ 102 0::mJ 103 1::cJ 104 .sub 103 1::aJ 105 Qdm [.t 102,.t 104]::Qvp) [6]) .skip
def Q1o:SC:=sR [tJ 107 5 6,fI 108 (.bsl 5 [.t 107]),mJ 4 108] [4] .ret
def Qao1:SC:=.seq (sR (mJ 96 0::kJ 97 96::fJ 98 0 97::lJ 99 98::aJ 100 Qz [.t 99,kI 2]::Qvo) [0,1,6,101] Qao0) Q1o
def Qlc:List Item:=[gT 118 112 (.bin 0 .eql (.t 117) (kI 0)),pF 119 112 118,mJ 109 119]
def Qvq:List Item:=[fI 122 (.bsl 4 [.t 121]),fI 123 (.bld [.int .i64 0,.str [],.sl true 4 [],.sl true 5 [],.sl true 5 []] [(0,1,kI 7),(2,1,.t 122)]),fI 124 (.bsl 5 [.t 123]),mJ 4 124]
def Q1p:SC:=cT 109 (sR (mJ 120 0::aJ 121 Qbv [.t 120,kI 2]::Qvq) [4] .ret) .skip
def Qao2:SC:=cT 85 (sR (mJ 88 0::aJ 89 Qbv [.t 88,kI 3]::Qvn) [0,1,6] Qao1) (sR (mJ 110 5::cJ 111 .eql 110 11::mJ 112 111::gTm 113 112 0::gT 114 112 (.nck (.t 113))::gTf 115 112 0 114::gTl 116 112 115::.e (some 117) (some (112,true)) (.call Qz [.t 116,kI 3])::Qlc) [0,1,109] Q1p)
def Qao3:SC:=cT 75 (sR (mJ 78 0::aJ 79 Qna [.t 78]::Q1y) [4] .ret) (sR [mJ 86 5,cJ 87 .lss 86 11,mJ 85 87] [0,1,5,85] Qao2)
def Qao4:SC:=cT 65 (sR (mJ 68 0::aJ 69 Qna [.t 68]::Q1x) [4] .ret) (sR [mJ 76 5,cJ 77 .eql 76 8,mJ 75 77] [0,1,5,75] Qao3)
def Qao5:SC:=cT 53 (sR (mJ 60 0::aJ 61 Qbv [.t 60,kI 3]::Q1v) [4] .ret) (sR [mJ 66 5,cJ 67 .eql 66 7,mJ 65 67] [0,1,5,65] Qao4)
def Qao6:SC:=cT 45 (sR (mJ 48 0::mJ 49 0::aJ 50 Qbv [.t 49,kI 3]::Q1u) [4] .ret) (sR [mJ 54 5,cJ 55 .lss 54 7,mJ 56 55,gFm 57 56 1,gF 58 56 (.bin 0 .lss (.t 57) (kI 2)),pT 59 56 58,mJ 53 59] [0,1,5,53] Qao5)
def Qao7:SC:=cT 20 (.seq (.dreg 15 [0,1,2,3,4,5,6,7,9,8,10,11,12,13,14] ( mJ 31 0::kJ 32 31::fJ 33 0 32::lJ 34 33::mJ 35 0::kJ 36 35::fJ 37 2 36::lJ 38 37::mJ 40 0::aJ 39 Qbq [.t 34,.t 38]::Q1s) [4]) .ret) (sR [mJ 46 5,cJ 47 .lss 46 5,mJ 45 47] [0,1,5,45] Qao6)
def Qvr:List Item:=[mJ 4 127]
def Qo1:SC:=sR (mJ 125 0::mJ 126 1::aJ 127 Qs9 [.t 125,.t 126]::Qvr) [4] .ret
def Qao8:SC:=.seq (.block 0 (sR [mJ 21 5,cJ 22 .lss 21 3,mJ 23 22,gTm 24 23 0,gT 25 23 (.nck (.t 24)),gTf 26 23 2 25,gTl 27 23 26,gT 28 23 (.len (.t 27)),gT 29 23 (.bin 0 .gtr (.t 28) (kI 0)),pF 30 23 29,mJ 20 30] [0,1,5,20] Qao7)) Qo1
def Qao9:SC:=sR (mJ 15 0::kJ 16 15::fJ 17 0 16::lJ 18 17::aJ 19 Qz [.t 18,kI 13]::Q1q) [0,1,5] Qao8
def Qapa:SC:=sR [mJ 7 0,mJ 8 0,kJ 9 8,fJ 10 4 9,lJ 11 10,cJ 12 .sub 11 1,kJ 13 7,fJ 14 4 13,sJ 1 14 12] [0,1] Qao9
def Qa3o:SC:=sR [fI 4 (.mv (.k (.c (.sl true 5 []))))] [0,1] Qapa
theorem Qa11:mFn prog Qta 2 128 Qa3o Qpr=true:=by kernel_rfl
def Qow:List Item:=[gF 13 10 (.bin 0 .eql (.t 12) (kI 0)),pT 14 10 13]
def Q9e:List Item:=[sJ 4 6 17]
def s_l2Expr_2:SC:=cT 14 (sR (mJ 15 0::mJ 16 1::aJ 17 Qyc [.t 15,.t 16]::Q9e) [6] .ret) .skip
def Q9f:List Item:=[cJ 20 .eql 19 0]
def Q9g:List Item:=[fI 29 (.bsl 4 [.t 28]),fI 30 (.bld [.int .i64 0,.int .i64 0,.str [],.sl true 4 []] [(0,1,.t 23),(3,1,.t 29)]),sJ 4 6 30]
def Q9h:List Item:=mJ 24 0::mJ 25 1::mJ 26 2::cJ 27 .sub 26 1::aJ 28 Qeb [.t 24,.t 25,.t 27]::Q9g
def Qbdv:SC:=cT 20 (sR (mJ 21 0::fI 22 (.bsl 1 [kI 11,kI 12,kI 11])::aJ 23 Qax [.t 21,.t 22]::Q9h) [6] .ret) .skip
def Q9i:List Item:=[mJ 7 33]
def Q9j:List Item:=[fI 45 (.bsl 4 [.t 39,.t 44]),fI 46 (.bld [.int .i64 0,.int .i64 0,.str [],.sl true 4 []] [(0,1,.t 34),(3,1,.t 45)]),sJ 4 6 46]
def Q9k:List Item:=mJ 40 0::mJ 41 1::mJ 42 2::cJ 43 .sub 42 1::aJ 44 Qeb [.t 40,.t 41,.t 43]::Q9j
def Qa7i:SC:=sR (mJ 34 7::mJ 35 0::mJ 36 1::mJ 37 2::cJ 38 .sub 37 1::aJ 39 Qeb [.t 35,.t 36,.t 38]::Q9k) [6] .ret
def Qa7j:SC:=sR (mJ 31 0::fI 32 (.bsl 1 [kI 3,kI 3,kI 4,kI 5,kI 6,kI 7,kI 8,kI 9,kI 10])::aJ 33 Qax [.t 31,.t 32]::Q9i) [0,1,2,6,7] Qa7i
def Q9d:SC:=.seq (sR (mJ 18 0::aJ 19 Qz [.t 18,kI 7]::Q9f) [0,1,2,6,20] Qbdv) Qa7j
def Qa7k:SC:=.seq (sR (mJ 8 2::cJ 9 .lss 8 2::mJ 10 9::gFm 11 10 0::.e (some 12) (some (10,false)) (.call Qz [.t 11,kI 4])::Qow) [0,1,2,6,14] s_l2Expr_2) Q9d
def Qbnk:SC:=sR [eI 6 (.alloc [.int .i64 0,.int .i64 0,.str [],.sl true 4 []])] [0,1,2,6] Qa7k
def Qth:List RS:=[.cell 6 4 true]
theorem Qba6:mFn prog Qeb 3 47 Qbnk Qth=true:=by kernel_rfl
def Qfp:List Item:=[gT 13 10 (.not (.t 12)),pF 14 10 13,mJ 2 14]
def Qqr:List Item:=mJ 5 4::gTm 6 5 0::gT 7 5 (.lens (.t 6))::gT 8 5 (.bin 0 .leq (.t 7) (kI 4))::pF 9 5 8::mJ 10 9::gTm 11 10 0::.e (some 12) (some (10,true)) (.call Qakd [.t 11])::Qfp
def Qa0p:SC:=sR (mJ 3 0::aJ 4 Qakc [.t 3,kI 1]::Qqr) [2] .ret
def Qbaa:SC:=sR [fB 2 false] [0] Qa0p
theorem Qals:mFn prog Qeg 1 15 Qbaa Qfh=true:=by kernel_rfl
def Q11:List Item:=[oJ 18 17]
def Qa89:SC:=cT 18 (sR [fB 4 false] [4] .ret) .skip
def Qa9a:SC:=.reg [mJ 10 5,cJ 11 .add 10 1,mJ 5 11] [0,1,5]
def Qa9b:SC:=.seq (.block 1 (sR (mJ 12 0::mJ 13 5::iJ 14 5 12 13::tJ 15 5 14::mJ 16 1::aJ 17 Qaaz [.t 15,.t 16]::Q11) [0,1,5,18] Qa89)) Qa9a
def Qa3q:SC:=.seq (sR [mJ 6 5,mJ 7 0,nJ 8 7,bJ 9 .lss 6 8] [0,1,5,9] (cT 9 .skip (.exit 0))) Qa9b
def Qa9c:SC:=sR [fB 4 true] [4] .ret
def Qa9d:SC:=.seq (sR [zJ 5 0] [0,1,5] (bL 0 Qa3q)) Qa9c
def Qbjo:SC:=sR [fB 4 false] [0,1] Qa9d
theorem Qa12:mFn prog Qno 2 19 Qbjo Qpr=true:=by kernel_rfl
def Q03:List Item:=[bJ 27 .add 20 26,mJ 3 27]
def Q04:List Item:=.chk 23 none (.iad 5 (.t 21) (.t 22))::hJ 25 24::bJ 20 .add 13 19::aJ 26 Qnn [.t 25]::Q03
def Qa8n:SC:=.reg [mJ 11 4,cJ 12 .add 11 1,mJ 4 12] [0,3,4]
def Qa8o:SC:=.seq (.block 1 (.dreg 16 [0,1,2,3,4,5,8,9,10,11,12,6,10,12,7,13,14,15] ( mJ 13 3::mJ 14 0::mJ 15 4::iJ 16 5 14 15::fJ 17 3 16::lJ 18 17::mJ 21 0::mJ 22 4::iJ 23 5 21 22::fJ 24 4 23::lJ 25 24::aJ 19 Qnn [.t 18]::Q04) [0,3,4])) Qa8n
def Qa3i:SC:=.seq (sR [mJ 7 4,mJ 8 0,nJ 9 8,bJ 10 .lss 7 9] [0,3,4,10] (cT 10 .skip (.exit 0))) Qa8o
def Qa8p:SC:=sR [mJ 28 3,mJ 2 28] [2] .ret
def Qa8q:SC:=.seq (sR [zJ 4 0] [0,3,4] (bL 0 Qa3i)) Qa8p
def Qa8r:SC:=sR [mJ 5 0,nJ 6 5,mJ 3 6] [0,3] Qa8q
def Qbjm:SC:=sR [zJ 2 0] [0] Qa8r
theorem Qa1x:mFn prog Qnn 1 29 Qbjm Qfh=true:=by kernel_rfl
def Q2f:List Item:=[mJ 4 9]
def Q2g:List Item:=[mJ 5 11]
def Q2h:List Item:=[mJ 6 13]
def Q2i:List Item:=[mJ 7 24]
def Qavj:SC:=.reg [mJ 36 0,mJ 37 4,fI 38 (.bsl 1 [.t 37]),mJ 39 6,aJ 40 Qba [.t 36,kI 1,kI 0,.t 38,.t 39]] []
def Qavk:SC:=sR [mJ 32 0,fJ 33 3 3,lJ 34 33,aJ 35 Qdn [.t 32,.t 34]] [0,4,6] Qavj
def Qavl:SC:=sR [mJ 25 0,mJ 26 7,mJ 27 5,mJ 28 6,fI 29 (.bsl 1 [.t 27,.t 28]),mJ 30 5,aJ 31 Qba [.t 25,kI 2,.t 26,.t 29,.t 30]] [0,3,4,6] Qavk
def Qavm:SC:=sR (mJ 19 0::fJ 20 2 3::lJ 21 20::fI 22 (.iad 4 (.t 21) (kI 0))::tJ 23 4 22::aJ 24 Qdh [.t 19,.t 23]::Q2i) [0,3,4,5,6,7] Qavl
def Qavn:SC:=sR [mJ 14 0,mJ 15 4,fI 16 (.bsl 1 [.t 15]),mJ 17 4,aJ 18 Qba [.t 14,kI 1,kI 0,.t 16,.t 17]] [0,3,4,5,6] Qavm
def Qavo:SC:=sR (mJ 12 0::aJ 13 Qa3 [.t 12]::Q2h) [0,3,4,5,6] Qavn
def Qaqx:SC:=sR (mJ 10 0::aJ 11 Qa3 [.t 10]::Q2g) [0,3,4,5] Qavo
def Qaqy:SC:=sR (mJ 8 0::aJ 9 Qa3 [.t 8]::Q2f) [0,3,4] Qaqx
def Qa4y:SC:=sR [vJ 3 1] [0,3] Qaqy
theorem Qa18:mFn prog Qtc 2 41 Qa4y Qtn=true:=by kernel_rfl
def Q19:List Item:=[mJ 4 17]
def Q2a:List Item:=hJ 15 14::aJ 17 Qa2 [.t 11,kI 1,.t 13,.t 15,.t 16]::Q19
def Q2b:List Item:=[mJ 4 23]
def Q2c:List Item:=[mJ 4 28]
def Qavb:SC:=cT 24 (sR (mJ 26 0::tJ 27 4 3::aJ 28 Qyf [.t 26,.t 27]::Q2c) [4] .ret) .skip
def Qavc:SC:=cT 18 (sR (mJ 20 0::fJ 21 2 3::lJ 22 21::aJ 23 Qpf [.t 20,.t 22]::Q2b) [4] .ret) (sR [cJ 25 .eql 8 10,mJ 24 25] [0,3,24] Qavb)
def Qavd:SC:=cT 9 (.seq (.dreg 8 [0,1,3,4,5,2,4,6,7] ( mJ 11 0::mJ 12 0::fJ 14 1 3::lJ 15 14::fI 16 (.bsl 1 [])::aJ 13 Qbh [.t 12]::Q2a) [4]) .ret) (sR [cJ 19 .eql 8 2,mJ 18 19] [0,3,8,18] Qavc)
def Qave:SC:=.block 0 (sR [cJ 10 .eql 8 1,mJ 9 10] [0,3,8,9] Qavd)
def Q2d:List Item:=[mJ 5 46]
def Q2e:List Item:=fI 45 (.bsl 1 [.t 44])::xJ 46 1 37 45::Q2d
def Qaqk:SC:=.reg [mJ 35 6,cJ 36 .add 35 1,mJ 6 36] [0,3,5,6]
def Qaql:SC:=.seq (.block 2 (.reg (mJ 37 5::mJ 38 0::fJ 39 3 3::lJ 40 39::mJ 41 6::iJ 42 4 40 41::tJ 43 4 42::aJ 44 Qdh [.t 38,.t 43]::Q2e) [0,3,5,6])) Qaqk
def Qajr:SC:=.seq (sR [mJ 30 6,fJ 31 3 3,lJ 32 31,nJ 33 32,bJ 34 .lss 30 33] [0,3,5,6,34] (cT 34 .skip (.exit 1))) Qaql
def Qv4:List Item:=[mJ 4 55]
def Qv5:List Item:=mJ 54 5::aJ 55 Qa2 [.t 51,kI 10,.t 53,kI 0,.t 54]::Qv4
def Qv6:List Item:=[mJ 4 62]
def Qv7:List Item:=mJ 61 5::aJ 62 Qa2 [.t 58,kI 11,.t 60,kI 0,.t 61]::Qv6
def Qv8:List Item:=[mJ 4 76]
def Qv9:List Item:=aJ 76 Qa2 [.t 65,kI 14,.t 67,.t 74,.t 75]::Qv8
def Qwa:List Item:=.chk 71 none (.ld 1 true (.t 70))::hJ 73 72::aJ 74 Qqv [.t 71,.t 73]::Qv9
def Qaqm:SC:=cT 63 (.seq (.dreg 13 [0,1,3,4,5,6,7,8,10,2,6,8,9,11,12] ( mJ 65 0::mJ 66 0::mJ 68 0::kJ 69 68::fJ 70 0 69::tJ 71 1 70::fJ 72 2 3::lJ 73 72::mJ 75 5::aJ 67 Qbh [.t 66]::Qwa) [4]) .ret) .skip
def Qaqn:SC:=cT 56 (sR (mJ 58 0::mJ 59 0::aJ 60 Qbh [.t 59]::Qv7) [4] .ret) (sR [cJ 64 .eql 48 13,mJ 63 64] [0,3,5,63] Qaqm)
def Qaqo:SC:=cT 49 (sR (mJ 51 0::mJ 52 0::aJ 53 Qbh [.t 52]::Qv5) [4] .ret) (sR [cJ 57 .eql 48 12,mJ 56 57] [0,3,5,48,56] Qaqn)
def Qaqp:SC:=.block 3 (sR [cJ 50 .eql 48 11,mJ 49 50] [0,3,5,48,49] Qaqo)
def Qwb:List Item:=[mJ 4 83]
def Qwc:List Item:=hJ 79 78::aJ 83 Qa2 [.t 77,.t 79,.t 81,kI 0,.t 82]::Qwb
def Qaqq:SC:=.seq (.dreg 8 [0,1,2,3,5,4,2,6,7] ( mJ 77 0::fJ 78 0 3::lJ 79 78::mJ 80 0::mJ 82 5::aJ 81 Qbh [.t 80]::Qwc) [4]) .ret
def Qaqr:SC:=.seq (.seq (.seq .gh (.reg [fJ 47 0 3,lJ 48 47] [0,3,5,48])) Qaqp) Qaqq
def Qaqs:SC:=.seq (sR [zJ 6 0] [0,3,5,6] (bL 1 Qajr)) Qaqr
def Qaqt:SC:=sR [fI 29 (.bsl 1 []),mJ 5 29] [0,3,5] Qaqs
def Qaqu:SC:=.seq (sR [fJ 7 0 3,lJ 8 7] [0,3,8] Qave) Qaqt
def Qa4w:SC:=sR [vJ 3 1,zJ 4 0] [0,3] Qaqu
theorem Qa16:mFn prog Qdh 2 84 Qa4w Qpr=true:=by kernel_rfl
def Qa0g:SC:=cT 25 (sR [mJ 26 0,kJ 27 26,fJ 28 5 27,lJ 29 28,mJ 30 5,iJ 31 3 29 30,fJ 32 1 31,lJ 33 32,mJ 4 33] [4] .ret) .skip
def Qa0h:SC:=.reg [mJ 14 5,cJ 15 .sub 14 1,mJ 5 15] [0,1,5]
def Qa0i:SC:=.seq (.block 1 (sR [mJ 16 0,kJ 17 16,fJ 18 5 17,lJ 19 18,mJ 20 5,iJ 21 3 19 20,fJ 22 0 21,lJ 23 22,mJ 24 1,bJ 25 .eql 23 24] [0,1,5,25] Qa0g)) Qa0h
def Qavp:SC:=.seq (sR [mJ 12 5,cJ 13 .geq 12 0] [0,1,5,13] (cT 13 .skip (.exit 0))) Qa0i
def Qa0j:SC:=sR [zJ 4 (-1)] [4] .ret
def Qa0k:SC:=.seq (sR [mJ 6 0,kJ 7 6,fJ 8 5 7,lJ 9 8,nJ 10 9,cJ 11 .sub 10 1,mJ 5 11] [0,1,5] (bL 0 Qavp)) Qa0j
def Qa93:SC:=sR [zJ 4 0] [0,1] Qa0k
theorem Qa6n:mFn prog Qpf 2 34 Qa93 Qpr=true:=by kernel_rfl
def Qacf:List Item:=[iJ 10 1 5 9,lJ 11 10,mJ 4 11]
def Qa3e:SC:=sR (mJ 5 1::mJ 6 0::mJ 7 1::nJ 8 7::aJ 9 Qz [.t 6,.t 8]::Qacf) [4] .ret
def Qbd4:SC:=sR [fI 4 (.mv (.k (.c (.str []))))] [0,1] Qa3e
theorem Qbcw:mFn prog Qbq 2 12 Qbd4 Qpr=true:=by kernel_rfl
def Q7g:List Item:=[mJ 5 7]
def Q7h:List Item:=[kJ 18 8,fJ 19 2 18,sJ 1 19 17]
def Q7i:List Item:=mJ 15 5::fI 16 (.bsl 1 [.t 15])::xJ 17 1 14 16::Q7h
def Qazy:SC:=sR [mJ 20 5,tJ 21 4 3,fI 22 (.bsl 4 [.t 21]),fI 23 (.bld [.int .i64 0,.str [],.sl true 4 [],.sl true 5 [],.sl true 5 []] [(0,1,kI 1),(1,1,.t 20),(2,1,.t 22)]),sJ 5 4 23] [4] .ret
def Qazz:SC:=sR (mJ 8 0::fI 9 (.bsl 1 [])::mJ 10 0::kJ 11 10::fJ 12 2 11::lJ 13 12::xJ 14 1 9 13::Q7i) [3,4,5] Qazy
def Qaz0:SC:=sR (mJ 6 0::aJ 7 Qqa [.t 6]::Q7g) [0,3,4,5] Qazz
def Qa8s:SC:=sR [vJ 3 1,eI 4 (.alloc [.int .i64 0,.str [],.sl true 4 [],.sl true 5 [],.sl true 5 []])] [0,3,4] Qaz0
def Qama:List RS:=[.cell 4 5 true]
theorem Qa6k:mFn prog Qpe 2 24 Qa8s Qama=true:=by kernel_rfl
def Q06:List Item:=[fI 11 (.bld [.int .i64 0,.int .i64 0,.str [],.sl true 4 []] [(0,1,kI 1),(1,1,.t 10)]),fI 12 (.bsl 4 [.t 4,.t 11]),fI 13 (.bld [.int .i64 0,.int .i64 0,.str [],.sl true 4 []] [(0,1,kI 7),(3,1,.t 12)]),sJ 4 2 13]
def Q07:List Item:=hJ 8 7::aJ 10 Qax [.t 8,.t 9]::Q06
def Qaug:SC:=.seq (.dreg 12 [0,2,3,4,5,6,1,5,7,8,9,10,11] ( mJ 3 0::mJ 5 0::kJ 6 5::fJ 7 0 6::lJ 8 7::fI 9 (.bsl 1 [kI 16,kI 16,kI 16,kI 8,kI 17,kI 0])::aJ 4 Qbv [.t 3,kI 2]::Q07) [2]) .ret
def Qa3j:SC:=sR [eI 2 (.alloc [.int .i64 0,.int .i64 0,.str [],.sl true 4 []])] [0,2] Qaug
def Qagc:List RS:=[.cell 2 4 true]
theorem Qa1y:mFn prog Qna 1 14 Qa3j Qagc=true:=by kernel_rfl
def Q1h:List Item:=[sJ 5 5 17]
def Q1i:List Item:=eI 5 (.alloc [.int .i64 0,.str [],.sl true 4 [],.sl true 5 [],.sl true 5 []])::Q1h
def Q1j:List Item:=fI 16 (.bld [.int .i64 0,.int .i64 0,.str [],.sl true 4 []] [(0,1,kI 1),(1,1,.t 15)])::aJ 17 Qpe [.t 9,.t 16]::Q1i
def Q1k:List Item:=[sJ 4 6 20]
def Q1l:List Item:=[mJ 7 24]
def Q1m:List Item:=[sJ 5 8 32]
def Q1n:List Item:=[.chk 41 none (.ld 5 true (.t 5)),.chk 42 none (.ld 4 true (.t 6)),fI 48 (.bld [.int .i64 0,.str [],.sl true 4 [],.sl true 5 [],.sl true 5 []] [(0,1,kI 6),(2,1,.t 43),(3,1,.t 47)]),fI 49 (.bsl 5 [.t 41,.t 48]),mJ 4 49]
def Qaui:SC:=.seq (.dreg 10 [0,1,2,3,4,5,6,0,1,7,8,9] ( tJ 41 5 5::tJ 42 4 6::fI 43 (.bsl 4 [.t 42])::mJ 44 7::tJ 45 5 8::fI 46 (.bsl 5 [.t 45])::xJ 47 5 44 46::Q1n) [4]) .ret
def Qauj:SC:=sR [mJ 33 0,mJ 34 0,kJ 35 34,fJ 36 4 35,lJ 37 36,cJ 38 .sub 37 2,kJ 39 33,fJ 40 4 39,sJ 1 40 38] [5,6,7,8] Qaui
def Qauk:SC:=sR (fJ 25 1 5::lJ 26 25::tJ 27 4 6::fI 28 (.bld [.int .i64 0,.int .i64 0,.str [],.sl true 4 []] [(0,1,kI 1),(1,1,kI 1)])::fI 29 (.bsl 4 [.t 27,.t 28])::fI 30 (.bld [.int .i64 0,.int .i64 0,.str [],.sl true 4 []] [(0,1,kI 4),(3,1,.t 29)])::fI 31 (.bsl 4 [.t 30])::fI 32 (.bld [.int .i64 0,.str [],.sl true 4 [],.sl true 5 [],.sl true 5 []] [(0,1,kI 2),(1,1,.t 26),(2,1,.t 31)])::eI 8 (.alloc [.int .i64 0,.str [],.sl true 4 [],.sl true 5 [],.sl true 5 []])::Q1m) [0,5,6,7,8] Qauj
def Qaox:SC:=sR (mJ 21 0::mJ 22 1::cJ 23 .sub 22 1::aJ 24 Qdm [.t 21,.t 23]::Q1l) [0,5,6,7] Qauk
def Qaoy:SC:=sR (fJ 18 1 5::lJ 19 18::fI 20 (.bld [.int .i64 0,.int .i64 0,.str [],.sl true 4 []] [(0,1,kI 2),(2,1,.t 19)])::eI 6 (.alloc [.int .i64 0,.int .i64 0,.str [],.sl true 4 []])::Q1k) [0,1,5,6] Qaox
def Qaoz:SC:=sR (mJ 9 0::mJ 10 0::kJ 11 10::fJ 12 0 11::lJ 13 12::fI 14 (.bsl 1 [kI 2,kI 3,kI 1,kI 0,kI 5])::aJ 15 Qax [.t 13,.t 14]::Q1j) [0,1,5] Qaoy
def Qa3n:SC:=sR [fI 4 (.mv (.k (.c (.sl true 5 []))))] [0,1] Qaoz
theorem Qa10:mFn prog Qs9 2 50 Qa3n Qpr=true:=by kernel_rfl
def Qoz:List Item:=[gF 11 8 (.bin 0 .eql (.t 10) (kI 0)),pT 12 8 11]
def Q9q:List Item:=[fI 16 (.bld [.int .i64 0,.int .i64 0,.str [],.sl true 4 []] [(0,1,kI 1),(1,1,.t 15)]),sJ 4 4 16]
def s_l2Leaf_2:SC:=cT 12 (sR (mJ 13 0::fI 14 (.bsl 1 [kI 0,kI 1,kI 2,kI 3,kI 5,kI 7,kI 15,kI 16,kI 100,kI 255])::aJ 15 Qax [.t 13,.t 14]::Q9q) [4] .ret) .skip
def Q9r:List Item:=[fI 20 (.bld [.int .i64 0,.int .i64 0,.str [],.sl true 4 []] [(0,1,kI 2),(2,1,.t 19)]),sJ 4 4 20]
def Qaex:SC:=sR (mJ 17 0::mJ 18 1::aJ 19 Qbq [.t 17,.t 18]::Q9r) [4] .ret
def Qbd3:SC:=.seq (sR (mJ 5 1::nJ 6 5::cJ 7 .eql 6 0::mJ 8 7::gFm 9 8 0::.e (some 10) (some (8,false)) (.call Qz [.t 9,kI 3])::Qoz) [0,1,4,12] s_l2Leaf_2) Qaex
def Qbnn:SC:=sR [eI 4 (.alloc [.int .i64 0,.int .i64 0,.str [],.sl true 4 []])] [0,1,4] Qbd3
theorem Qba9:mFn prog Qyc 2 21 Qbnn Qps=true:=by kernel_rfl
def Qaet:List Item:=[mJ 16 1,bJ 17 .neq 15 16]
def Qbi0:SC:=cT 17 (sR [fB 4 false] [4] .ret) .skip
def Qbi1:SC:=.reg [mJ 10 5,cJ 11 .add 10 1,mJ 5 11] [0,1,5]
def Qbi2:SC:=.seq (.block 1 (sR (mJ 12 0::mJ 13 5::fI 14 (.idx (.t 12) (.t 13))::aJ 15 Q3s [.t 14]::Qaet) [0,1,5,17] Qbi0)) Qbi1
def Qbdd:SC:=.seq (sR [mJ 6 5,mJ 7 0,fI 8 (.lens (.t 7)),bJ 9 .lss 6 8] [0,1,5,9] (cT 9 .skip (.exit 0))) Qbi2
def Qbi3:SC:=sR [mJ 18 0,fI 19 (.lens (.t 18)),cJ 20 .gtr 19 0,mJ 4 20] [4] .ret
def Qbi4:SC:=.seq (sR [zJ 5 0] [0,1,5] (bL 0 Qbdd)) Qbi3
def Qbra:SC:=sR [fB 4 false] [0,1] Qbi4
theorem Qbh2:mFn prog Qakc 2 21 Qbra Qpr=true:=by kernel_rfl
def Qaeu:List Item:=[mJ 3 5]
def Qbi6:SC:=cT 17 (sR [fB 2 true] [2] .ret) .skip
def Qbi7:SC:=.reg [mJ 10 4,cJ 11 .add 10 1,mJ 4 11] [0,3,4]
def Qbi8:SC:=.seq (.block 1 (sR [mJ 12 3,mJ 13 4,iJ 14 1 12 13,lJ 15 14,mJ 16 0,bJ 17 .eql 15 16] [0,3,4,17] Qbi6)) Qbi7
def Qbde:SC:=.seq (sR [mJ 6 4,mJ 7 3,nJ 8 7,bJ 9 .lss 6 8] [0,3,4,9] (cT 9 .skip (.exit 0))) Qbi8
def Qbi9:SC:=sR [fB 2 false] [2] .ret
def Qbja:SC:=.seq (sR [zJ 4 0] [0,3,4] (bL 0 Qbde)) Qbi9
def Qbjb:SC:=sR (aJ 5 Qjo []::Qaeu) [0,3] Qbja
def Qbrb:SC:=sR [fB 2 false] [0] Qbjb
theorem Qbh3:mFn prog Qakd 1 18 Qbrb Qfh=true:=by kernel_rfl
def Qf0:List Item:=[.chk 17 (some (15,false)) (.ld 1 false (.t 16)),.chk 18 (some (15,false)) (.len (.t 17)),gF 22 15 (.bin 0 .neq (.t 18) (.t 21)),pT 23 15 22]
def Qo2:List Item:=gF 13 9 (.not (.t 12))::pT 14 9 13::mJ 15 14::gFf 16 15 2 2::gFl 17 15 16::gF 18 15 (.len (.t 17))::gFf 19 15 0 2::gFl 20 15 19::.e (some 21) (some (15,false)) (.call Qak6 [.t 20])::Qf0
def s_l3Stmt_2:SC:=cT 23 (sR [fB 4 false] [4] .ret) .skip
def Q9t:List Item:=[fI 36 (.bin 1 .neq (.t 32) (.t 35)),mJ 37 36,gFm 38 37 5,gF 39 37 (.not (.t 38)),gFm 40 37 39,gTf 41 40 1 2,gTl 42 40 41,gT 43 40 (.bin 0 .neq (.t 42) (.k (.c (.str [])))),gF 44 37 (.pick (.t 40) (.t 43) (.k (.c (.bool false)))),pT 45 37 44]
def Qbed:SC:=cT 45 (sR [fB 4 false] [4] .ret) .skip
def Q9u:List Item:=[oJ 59 58]
def Qbee:SC:=cT 59 (sR [fB 4 false] [4] .ret) .skip
def Qbef:SC:=.reg [mJ 51 6,cJ 52 .add 51 1,mJ 6 52] [1,2,6]
def Qbeg:SC:=.seq (.block 1 (sR (fJ 53 2 2::lJ 54 53::mJ 55 6::iJ 56 4 54 55::tJ 57 4 56::aJ 58 Qhd [.t 57]::Q9u) [1,2,6,59] Qbee)) Qbef
def Qa88:SC:=.seq (sR [mJ 46 6,fJ 47 2 2,lJ 48 47,nJ 49 48,bJ 50 .lss 46 49] [1,2,6,50] (cT 50 .skip (.exit 0))) Qbeg
def Qa80:SC:=cT 70 (sR [fB 4 false] [4] .ret) .skip
def Qa81:SC:=cT 95 (sR [fB 4 false] [4] .ret) .skip
def Qks:List Item:=[pF 107 101 106,mJ 4 107]
def Q10:List Item:=mJ 101 100::gTf 102 101 4 2::gTl 103 101 102::gTm 104 101 1::gT 105 101 (.bin 0 .sub (.t 104) (kI 1))::.e (some 106) (some (101,true)) (.call Qno [.t 103,.t 105])::Qks
def Qa82:SC:=sR (fJ 96 3 2::lJ 97 96::mJ 98 1::cJ 99 .sub 98 1::aJ 100 Qno [.t 97,.t 99]::Q10) [4] .ret
def Qa83:SC:=.seq (sR [fJ 71 4 2,lJ 72 71,nJ 73 72,cJ 74 .gtr 73 0,mJ 75 74,gTf 76 75 0 2,gTl 77 75 76,gT 78 75 (.bin 0 .neq (.t 77) (kI 5)),pF 79 75 78,mJ 80 79,gFf 81 80 3 2,gFl 82 80 81,gF 83 80 (.len (.t 82)),gF 84 80 (.bin 0 .gtr (.t 83) (kI 0)),gFm 85 80 84,gTf 86 85 0 2,gTl 87 85 86,gT 88 85 (.bin 0 .neq (.t 87) (kI 5)),gF 89 80 (.pick (.t 85) (.t 88) (.k (.c (.bool false)))),gFm 90 80 89,gTf 91 90 0 2,gTl 92 90 91,gT 93 90 (.bin 0 .neq (.t 92) (kI 6)),gF 94 80 (.pick (.t 90) (.t 93) (.k (.c (.bool false)))),pT 95 80 94] [1,2,95] Qa81) Qa82
def Qa84:SC:=.seq (sR [fJ 60 0 2,lJ 61 60,cJ 62 .eql 61 8,mJ 63 62,gTf 64 63 2 2,gTl 65 63 64,gT 66 63 (.iad 4 (.t 65) (kI 0)),gTf 67 63 0 66,gTl 68 63 67,gT 69 63 (.bin 0 .neq (.t 68) (kI 13)),pF 70 63 69] [1,2,70] Qa80) Qa83
def Qa85:SC:=.seq (sR [zJ 6 0] [1,2,6] (bL 0 Qa88)) Qa84
def Qa86:SC:=.seq (sR (mJ 32 5::fJ 33 1 2::lJ 34 33::aJ 35 Qeg [.t 34]::Q9t) [1,2,45] Qbed) Qa85
def Q9s:SC:=sR [fJ 24 0 2,lJ 25 24,cJ 26 .eql 25 1,mJ 27 26,gFf 28 27 0 2,gFl 29 27 28,gF 30 27 (.bin 0 .eql (.t 29) (kI 2)),pT 31 27 30,mJ 5 31] [1,2,5] Qa86
def Qa87:SC:=.seq (.seq (.dreg 17 [0,1,2,3,4,5,6,7,8,9,10,11,12,13,14,10,11,15,16] ( mJ 7 1::cJ 8 .lss 7 1::mJ 9 8::gFf 10 9 0 2::gFl 11 9 10::.e (some 12) (some (9,false)) (.call Qcv [.t 11,kI 1,kI 8])::Qo2) [1,2,23]) s_l3Stmt_2) Q9s
def Qbnw:SC:=sR [vJ 2 0,fB 4 false] [1,2] Qa87
theorem Qbba:mFn prog Qaaz 2 108 Qbnw Qpr=true:=by kernel_rfl
def Q7k:List Item:=[mJ 5 16]
def Q7l:List Item:=[mJ 6 21]
def Q7m:List Item:=fI 20 (.bsl 1 [])::aJ 21 Qa2 [.t 17,kI 1,.t 19,kI 0,.t 20]::Q7l
def Q7n:List Item:=[mJ 7 23]
def Q7o:List Item:=[mJ 8 25]
def Q7p:List Item:=[mJ 9 38]
def Q7q:List Item:=[mJ 10 44]
def Q7r:List Item:=mJ 42 9::fI 43 (.bsl 1 [.t 42])::aJ 44 Qa2 [.t 39,kI 10,.t 41,kI 0,.t 43]::Q7q
def Qaz9:SC:=sR [mJ 55 6,mJ 4 55] [4] .ret
def Qa0a:SC:=sR [mJ 50 0,mJ 51 8,fI 52 (.bsl 1 [.t 51]),mJ 53 8,aJ 54 Qba [.t 50,kI 1,kI 0,.t 52,.t 53]] [6] Qaz9
def Qau3:SC:=sR [mJ 45 0,mJ 46 6,mJ 47 10,fI 48 (.bsl 1 [.t 47]),aJ 49 Qa2 [.t 45,kI 10,.t 46,kI 0,.t 48]] [0,6,8] Qa0a
def Qau4:SC:=sR (mJ 39 0::mJ 40 0::aJ 41 Qbh [.t 40]::Q7r) [0,6,8,10] Qau3
def Qau5:SC:=sR (mJ 33 0::fJ 34 3 3::lJ 35 34::fI 36 (.iad 4 (.t 35) (kI 1))::tJ 37 4 36::aJ 38 Qdh [.t 33,.t 37]::Q7p) [0,6,8,9] Qau4
def Qau6:SC:=sR [mJ 26 0,mJ 27 5,mJ 28 7,mJ 29 8,fI 30 (.bsl 1 [.t 28,.t 29]),mJ 31 7,aJ 32 Qba [.t 26,kI 2,.t 27,.t 30,.t 31]] [0,3,6,8] Qau5
def Qau7:SC:=sR (mJ 24 0::aJ 25 Qa3 [.t 24]::Q7o) [0,3,5,6,7,8] Qau6
def Qau8:SC:=sR (mJ 22 0::aJ 23 Qa3 [.t 22]::Q7n) [0,3,5,6,7] Qau7
def Qau9:SC:=sR (mJ 17 0::mJ 18 0::aJ 19 Qbh [.t 18]::Q7m) [0,3,5,6] Qau8
def Qava:SC:=sR (mJ 11 0::fJ 12 3 3::lJ 13 12::fI 14 (.iad 4 (.t 13) (kI 0))::tJ 15 4 14::aJ 16 Qdh [.t 11,.t 15]::Q7k) [0,3,5] Qau9
def Qa91:SC:=sR [vJ 3 1,zJ 4 0] [0,3] Qava
theorem Qa6l:mFn prog Qyf 2 56 Qa91 Qpr=true:=by kernel_rfl
def Qa95:SC:=cT 20 (sR [mJ 21 5,mJ 4 21] [4] .ret) .skip
def Qa96:SC:=.reg [mJ 11 5,cJ 12 .add 11 1,mJ 5 12] [1,2,5]
def Qa97:SC:=.seq (.block 1 (sR [fJ 13 0 2,lJ 14 13,mJ 15 5,iJ 16 3 14 15,fJ 17 0 16,lJ 18 17,mJ 19 1,bJ 20 .eql 18 19] [1,2,5,20] Qa95)) Qa96
def Qa5f:SC:=.seq (sR [mJ 6 5,fJ 7 0 2,lJ 8 7,nJ 9 8,bJ 10 .lss 6 9] [1,2,5,10] (cT 10 .skip (.exit 0))) Qa97
def Qa98:SC:=sR [zJ 4 (-1)] [4] .ret
def Qa99:SC:=.seq (sR [zJ 5 0] [1,2,5] (bL 0 Qa5f)) Qa98
def Qbkg:SC:=sR [vJ 2 0,zJ 4 0] [1,2] Qa99
theorem Qbid:mFn prog Qqv 2 22 Qbkg Qpr=true:=by kernel_rfl
def Qvk:List Item:=[cJ 16 .eql 15 0,mJ 17 16,gTm 18 17 0,gT 19 17 (.nck (.t 18)),gTf 20 17 2 19,gTl 21 17 20,gT 22 17 (.len (.t 21)),gT 23 17 (.bin 0 .gtr (.t 22) (kI 0)),pF 24 17 23]
def Qvl:List Item:=[mJ 2 33]
def Qaot:SC:=cT 24 (.seq (.dreg 10 [0,1,2,3,4,5,6,7,8,9] ( mJ 25 0::kJ 26 25::fJ 27 0 26::lJ 28 27::mJ 29 0::kJ 30 29::fJ 31 2 30::lJ 32 31::aJ 33 Qbq [.t 28,.t 32]::Qvl) [2]) .ret) .skip
def Qaou:SC:=.seq (.dreg 13 [0,1,2,3,4,5,6,7,8,9,10,11,12] ( mJ 34 0::kJ 35 34::fJ 36 3 35::lJ 37 36::cJ 38 .rem 37 24::mJ 39 0::kJ 40 39::fJ 41 3 40::lJ 42 41::cJ 43 .rem 42 24::cJ 44 .add 43 1::fI 45 (.slis (.k (.c (.str [97,98,99,100,101,103,104,105,106,107,108,109,110,112,113,114,115,116,117,118,119,120,121,122]))) (some (.t 38)) (some (.t 44)))::mJ 2 45::[]) [2]) .ret
def Qaov:SC:=.seq (sR (mJ 11 0::kJ 12 11::fJ 13 0 12::lJ 14 13::aJ 15 Qz [.t 14,kI 9]::Qvk) [0,24] Qaot) Qaou
def Qaow:SC:=sR [mJ 3 0,mJ 4 0,kJ 5 4,fJ 6 3 5,lJ 7 6,cJ 8 .add 7 1,kJ 9 3,fJ 10 3 9,sJ 1 10 8] [0] Qaov
def Qazx:SC:=sR [fI 2 (.mv (.k (.c (.str []))))] [0] Qaow
theorem Qayh:mFn prog Qqa 1 46 Qazx Qfh=true:=by kernel_rfl
def Q02:List Item:=[cJ 20 .geq 19 0,mJ 17 20]
def Qa64:SC:=cT 21 (sR [zJ 2 4] [2] .ret) .skip
def Qa65:SC:=cT 17 (sR [zJ 2 3] [2] .ret) (sR [mJ 22 0,fI 23 (.bin 0 .eql (.t 22) (.k (.c (.int .u8 32)))),mJ 24 23,gFm 25 24 0,gF 26 24 (.bin 0 .eql (.t 25) (.k (.c (.int .u8 10)))),pT 27 24 26,mJ 21 27] [21] Qa64)
def Qa66:SC:=cT 10 (sR [zJ 2 2] [2] .ret) (sR (mJ 18 0::eI 19 (.call Qac9 [.k (.c (.str [40,41,123,125,59,44,43,45,42,47,37,60,61,38,33,64])),.t 18])::Q02) [0,17] Qa65)
def Qa67:SC:=cT 3 (sR [zJ 2 1] [2] .ret) (sR [mJ 11 0,fI 12 (.bin 0 .geq (.t 11) (.k (.c (.int .u8 48)))),mJ 13 12,gTm 14 13 0,gT 15 13 (.bin 0 .leq (.t 14) (.k (.c (.int .u8 57)))),pF 16 13 15,mJ 10 16] [0,10] Qa66)
def Qa68:SC:=sR [zJ 2 0] [2] .ret
def Qa69:SC:=.seq (.block 0 (sR [mJ 4 0,fI 5 (.bin 0 .geq (.t 4) (.k (.c (.int .u8 97)))),mJ 6 5,gTm 7 6 0,gT 8 6 (.bin 0 .leq (.t 7) (.k (.c (.int .u8 122)))),pF 9 6 8,mJ 3 9] [0,3] Qa67)) Qa68
def Qbi5:SC:=sR [zJ 2 0] [0] Qa69
theorem Qa1v:mFn prog Q3s 1 28 Qbi5 Qfh=true:=by kernel_rfl
def Qarq:SC:=sR [fI 1 (.bsl 1 [.k (.c (.str [102,110])),.k (.c (.str [108,101,116])),.k (.c (.str [115,97,121])),.k (.c (.str [112,117,116])),.k (.c (.str [105,102])),.k (.c (.str [101,108,115,101])),.k (.c (.str [108,111,111,112])),.k (.c (.str [98,97,99,107])),.k (.c (.str [100,111]))]),mJ 0 1] [0] .ret
def Qa0q:SC:=sR [fI 0 (.mv (.k (.c (.sl true 1 []))))] [] Qarq
def Qtq:List RS:=[.tmp 0]
theorem Qabh:mFn prog Qjo 0 2 Qa0q Qtq=true:=by kernel_rfl
def Qbd6:SC:=cT 4 (sR [zJ 2 2] [2] .ret) .skip
def Qbd7:SC:=sR [zJ 2 1] [2] .ret
def Qbd8:SC:=.seq (sR [mJ 3 0,cJ 4 .eql 3 4] [4] Qbd6) Qbd7
def Qbno:SC:=sR [zJ 2 0] [0] Qbd8
theorem Qbmu:mFn prog Qak6 1 5 Qbno Qfh=true:=by kernel_rfl
def Qc8:List Item:=[gT 8 5 (.bin 0 .leq (.t 7) (kI 30)),pF 9 5 8,mJ 2 9]
def Qjd:List Item:=mJ 5 4::gT 6 5 (.ld 4 true (.t 1))::.e (some 7) (some (5,true)) (.call Q3u [.t 6])::Qc8
def Qajz:SC:=sR (tJ 3 4 1::aJ 4 Qyb [.t 3,kI 6]::Qjd) [2] .ret
def Qavw:SC:=sR [vJ 1 0,fB 2 false] [1] Qajz
theorem Q6t:mFn prog Qhd 1 10 Qavw Qfh=true:=by kernel_rfl
def Qa7v:SC:=cT 16 (sR [mJ 17 5,mJ 4 17] [4] .ret) .skip
def Qa7w:SC:=.reg [mJ 10 5,cJ 11 .add 10 1,mJ 5 11] [0,1,5]
def Qa7x:SC:=.seq (.block 1 (sR [mJ 12 0,mJ 13 5,fI 14 (.idx (.t 12) (.t 13)),mJ 15 1,bJ 16 .eql 14 15] [0,1,5,16] Qa7v)) Qa7w
def Qa3d:SC:=.seq (sR [mJ 6 5,mJ 7 0,fI 8 (.lens (.t 7)),bJ 9 .lss 6 8] [0,1,5,9] (cT 9 .skip (.exit 0))) Qa7x
def Qa7y:SC:=sR [zJ 4 (-1)] [4] .ret
def Qa7z:SC:=.seq (sR [zJ 5 0] [0,1,5] (bL 0 Qa3d)) Qa7y
def Qbjf:SC:=sR [zJ 4 0] [0,1] Qa7z
theorem Qbh5:mFn prog Qac9 2 18 Qbjf Qpr=true:=by kernel_rfl
def Q9n:List Item:=[mJ 9 12,fI 13 (.ext (.t 9) 0),fI 14 (.ext (.t 9) 1),mJ 5 13,mJ 6 14]
def Qfz:List Item:=[gF 30 23 (.not (.t 29)),pT 31 23 30]
def Qox:List Item:=gF 21 17 (.not (.t 20))::pT 22 17 21::mJ 23 22::gFf 24 23 3 2::gFl 25 23 24::gF 26 23 (.len (.t 25))::gFm 27 23 5::gFm 28 23 6::.e (some 29) (some (23,false)) (.call Qcv [.t 26,.t 27,.t 28])::Qfz
def s_l2Form_3:SC:=cT 31 (sR [fB 4 false] [4] .ret) .skip
def Qoy:List Item:=[gF 58 54 (.not (.t 57)),pT 59 54 58,mJ 60 59,gFf 61 60 0 2,gFl 62 60 61,gF 63 60 (.bin 0 .neq (.t 62) (kI 1)),gFm 64 60 63,gTf 65 64 1 2,gTl 66 64 65,gT 67 64 (.bin 0 .neq (.t 66) (kI 0)),gF 68 60 (.pick (.t 64) (.t 67) (.k (.c (.bool false)))),pT 69 60 68]
def Q9o:List Item:=fI 44 (.bin 1 .neq (.t 40) (.t 43))::mJ 45 44::gFm 46 45 7::gF 47 45 (.not (.t 46))::gFm 48 45 47::gTf 49 48 2 2::gTl 50 48 49::gT 51 48 (.bin 0 .neq (.t 50) (.k (.c (.str []))))::gF 52 45 (.pick (.t 48) (.t 51) (.k (.c (.bool false))))::pT 53 45 52::mJ 54 53::gFf 55 54 1 2::gFl 56 54 55::.e (some 57) (some (54,false)) (.call Qcv [.t 56,kI 0,kI 255])::Qoy
def s_l2Form_6:SC:=cT 69 (sR [fB 4 false] [4] .ret) .skip
def Q9p:List Item:=[oJ 85 84]
def Qbdw:SC:=cT 85 (sR [fB 4 false] [4] .ret) .skip
def Qbdx:SC:=.reg [mJ 75 8,cJ 76 .add 75 1,mJ 8 76] [1,2,8]
def Qa7l:SC:=.seq (.block 1 (sR (fJ 77 3 2::lJ 78 77::mJ 79 8::iJ 80 4 78 79::tJ 81 4 80::mJ 82 1::cJ 83 .sub 82 1::aJ 84 Qyb [.t 81,.t 83]::Q9p) [1,2,8,85] Qbdw)) Qbdx
def Qa3b:SC:=.seq (sR [mJ 70 8,fJ 71 3 2,lJ 72 71,nJ 73 72,bJ 74 .lss 70 73] [1,2,8,74] (cT 74 .skip (.exit 0))) Qa7l
def Qa7m:SC:=sR [fB 4 true] [4] .ret
def Q9l:SC:=.seq (sR [zJ 8 0] [1,2,8] (bL 0 Qa3b)) Qa7m
def Qa7n:SC:=.seq (sR (mJ 40 7::fJ 41 2 2::lJ 42 41::aJ 43 Qeg [.t 42]::Q9o) [1,2,69] s_l2Form_6) Q9l
def Q9m:SC:=sR [fJ 32 0 2,lJ 33 32,cJ 34 .eql 33 2,mJ 35 34,gFf 36 35 0 2,gFl 37 35 36,gF 38 35 (.bin 0 .eql (.t 37) (kI 13)),pT 39 35 38,mJ 7 39] [1,2,7] Qa7n
def Qa7o:SC:=.seq (sR (mJ 15 1::cJ 16 .lss 15 1::mJ 17 16::gFf 18 17 0 2::gFl 19 17 18::.e (some 20) (some (17,false)) (.call Qcv [.t 19,kI 1,kI 13])::Qox) [1,2,31] s_l2Form_3) Q9m
def Qa7p:SC:=sR (fJ 10 0 2::lJ 11 10::aJ 12 Qaax [.t 11]::Q9n) [1,2,5,6] Qa7o
def Qbnl:SC:=sR [vJ 2 0,fB 4 false] [1,2] Qa7p
theorem Qba7:mFn prog Qyb 2 86 Qbnl Qpr=true:=by kernel_rfl
def Qagl:List Item:=[bJ 19 .add 12 18,mJ 3 19]
def Qa7q:SC:=.reg [mJ 10 4,cJ 11 .add 10 1,mJ 4 11] [1,3,4]
def Qa7r:SC:=.seq (.block 1 (.reg (mJ 12 3::fJ 13 3 1::lJ 14 13::mJ 15 4::iJ 16 4 14 15::tJ 17 4 16::aJ 18 Q3u [.t 17]::Qagl) [1,3,4])) Qa7q
def Qa3c:SC:=.seq (sR [mJ 5 4,fJ 6 3 1,lJ 7 6,nJ 8 7,bJ 9 .lss 5 8] [1,3,4,9] (cT 9 .skip (.exit 0))) Qa7r
def Qa7s:SC:=sR [mJ 20 3,mJ 2 20] [2] .ret
def Qa7t:SC:=.seq (sR [zJ 4 0] [1,3,4] (bL 0 Qa3c)) Qa7s
def Qa7u:SC:=sR [zJ 3 1] [1,3] Qa7t
def Qbje:SC:=sR [vJ 1 0,zJ 2 0] [1] Qa7u
theorem Qbh4:mFn prog Q3u 1 21 Qbje Qfh=true:=by kernel_rfl
def Qbdy:SC:=cT 5 .skip (.reg [cJ 7 .eql 4 2,mJ 5 7] [4,5])
def Qbdz:SC:=cT 8 .skip (.reg [cJ 10 .eql 4 12,mJ 8 10] [4,8])
def Qbd0:SC:=cT 11 (sR [zJ 2 0,zJ 3 3] [2,3] .ret) .skip
def Qaev:SC:=cT 8 (sR [zJ 2 1,zJ 3 1] [2,3] .ret) (sR [cJ 12 .eql 4 13,mJ 11 12] [11] Qbd0)
def Qaew:SC:=cT 5 (sR [zJ 2 0,zJ 3 0] [2,3] .ret) (.seq (sR [cJ 9 .eql 4 11,mJ 8 9] [4,8] Qbdz) Qaev)
def Qbd1:SC:=.block 0 (.seq (sR [cJ 6 .eql 4 1,mJ 5 6] [4,5] Qbdy) Qaew)
def Qsa:SC:=sR [zJ 2 2,zJ 3 2] [2,3] .ret
def Qbd2:SC:=.seq (sR [mJ 4 0] [4] Qbd1) Qsa
def Qbnm:SC:=sR [zJ 2 0,zJ 3 0] [0] Qbd2
def Qnf:List RS:=[.tmp 2,.tmp 3]
theorem Qba8:mFn prog Qaax 1 13 Qbnm Qnf=true:=by kernel_rfl
def Qwh:List Item:=[cJ 8 .geq 7 0,mJ 4 8]
def Qarp:SC:=sR (mJ 5 0::mJ 6 1::aJ 7 Q71 [.t 5,.t 6]::Qwh) [4] .ret
def Qa0m:SC:=sR [fB 4 false] [0,1] Qarp
theorem Qayp:mFn prog Qqc 2 9 Qa0m Qpr=true:=by kernel_rfl
def Qa70:SC:=cT 5 (.reg [mJ 6 0,fI 7 (.sli 1 (.t 6) none (some (kI 2000))),mJ 0 7] [0]) .skip
def Qagm:List Item:=[mJ 2 10]
def Qan1:SC:=sR (mJ 8 0::fI 9 (.bld [.sl true 1 [],.int .i64 0] [(0,1,.t 8)])::eI 10 (.boxm (.t 9))::Qagm) [2] .ret
def Qa71:SC:=.seq (sR [mJ 3 0,nJ 4 3,cJ 5 .gtr 4 2000] [0,5] Qa70) Qan1
def Qbjg:SC:=sR [fI 2 (.mv (.k (.c .pnil)))] [0] Qa71
theorem Qbh6:mFn prog Qada 1 11 Qbjg Qfh=true:=by kernel_rfl
def Qa49:SC:=cT 16 (sR [mJ 17 5,mJ 4 17] [4] .ret) .skip
def Qa5a:SC:=sR [mJ 11 1,mJ 12 0,mJ 13 5,iJ 14 1 12 13,lJ 15 14,bJ 16 .eql 11 15] [0,1,5,7,8,16] Qa49
def Qa5b:SC:=.reg [cJ 18 .add 8 1,mJ 8 18] [0,1,7,8]
def Qa5c:SC:=.seq (.block 1 (sR [mJ 10 8,mJ 5 10] [0,1,5,7,8] Qa5a)) Qa5b
def Qa0o:SC:=sR [bJ 9 .lss 8 7] [0,1,7,8,9] (cX 9 0 Qa5c)
def Qa5d:SC:=sR [zJ 4 (-1)] [4] .ret
def Qa5e:SC:=.seq (sR [mJ 6 0,nJ 7 6,zJ 8 0] [0,1,7,8] (bL 0 Qa0o)) Qa5d
def Qbf1:SC:=sR [zJ 4 0] [0,1] Qa5e
theorem Qbcz:mFn prog Q71 2 19 Qbf1 Qpr=true:=by kernel_rfl
def Qy8:List Item:=[oJ 14 13]
def Qasp:SC:=cT 14 (sR [fI 4 (.mv (.k (.c (.sl true 1 []))))] [4] .ret) .skip
def Qy9:List Item:=[mJ 6 20,sJ 5 7 22]
def Qza:List Item:=[mJ 5 30]
def Qasq:SC:=cT 26 (.reg (mJ 27 5::mJ 28 6::fI 29 (.bsl 1 [.t 28])::xJ 30 1 27 29::Qza) [1,5,16,17,18]) .skip
def Qasr:SC:=sR [fJ 23 4 7,lJ 24 23,mJ 25 1,aJ 26 Qqc [.t 24,.t 25]] [1,5,6,16,17,18,26] Qasq
def Qass:SC:=.reg [cJ 31 .add 18 1,mJ 18 31] [1,5,16,17,18]
def Qast:SC:=.seq (.block 1 (sR (mJ 20 18::iJ 21 5 16 18::tJ 22 5 21::eI 7 (.alloc [.sl true 2 [],.sl true 4 [],.int .i64 0,.int .i64 0,.sl true 1 []])::Qy9) [1,5,6,7,16,17,18] Qasr)) Qass
def Qamm:SC:=sR [bJ 19 .lss 18 17] [1,5,16,17,18,19] (cX 19 0 Qast)
def Qasu:SC:=sR [mJ 32 5,mJ 4 32] [4] .ret
def Qamj:SC:=.seq (sR [fJ 15 2 2,lJ 16 15,nJ 17 16,zJ 18 0] [1,5,16,17,18] (bL 0 Qamm)) Qasu
def Qamk:SC:=.seq (sR (mJ 8 1::fJ 9 2 2::lJ 10 9::nJ 11 10::cJ 12 .sub 11 1::aJ 13 Qav [.t 8,kI 0,.t 12]::Qy8) [1,2,5,14] Qasp) Qamj
def Qaml:SC:=sR [fI 5 (.mv (.k (.c (.sl true 1 []))))] [1,2,5] Qamk
def Qa2s:SC:=sR [vJ 2 0,fI 4 (.mv (.k (.c (.sl true 1 []))))] [1,2] Qaml
theorem Qa1n:mFn prog Qm9 2 33 Qa2s Qpr=true:=by kernel_rfl
def Qmw:List Item:=[cJ 8 .geq 7 0,mJ 4 8]
def Q9x:SC:=sR (mJ 5 0::mJ 6 1::aJ 7 Qn5 [.t 5,.t 6]::Qmw) [4] .ret
def Qafi:SC:=sR [fB 4 false] [0,1] Q9x
theorem Qads:mFn prog Qcl 2 9 Qafi Qpr=true:=by kernel_rfl
def Qazq:SC:=sR [mJ 7 1,mJ 8 0,bJ 9 .leq 7 8,mJ 10 9,gTm 11 10 0,gTm 12 10 2,gT 13 10 (.bin 0 .leq (.t 11) (.t 12)),pF 14 10 13,mJ 6 14] [6] .ret
def Qa63:SC:=sR [fB 6 false] [0,1,2] Qazq
theorem Qalr:mFn prog Qav 3 15 Qa63 Qbo3=true:=by kernel_rfl
def Qajt:SC:=cT 16 (sR [mJ 17 5,mJ 4 17] [4] .ret) .skip
def Qaju:SC:=sR [mJ 11 1,mJ 12 0,mJ 13 5,iJ 14 1 12 13,lJ 15 14,eI 16 (.callv (.t 11) [.t 15])] [0,1,5,7,8,16] Qajt
def Qajv:SC:=.reg [cJ 18 .add 8 1,mJ 8 18] [0,1,7,8]
def Qajw:SC:=.seq (.block 1 (sR [mJ 10 8,mJ 5 10] [0,1,5,7,8] Qaju)) Qajv
def Qafk:SC:=sR [bJ 9 .lss 8 7] [0,1,7,8,9] (cX 9 0 Qajw)
def Qajx:SC:=sR [zJ 4 (-1)] [4] .ret
def Qajy:SC:=.seq (sR [mJ 6 0,nJ 7 6,zJ 8 0] [0,1,7,8] (bL 0 Qafk)) Qajx
def Qavv:SC:=sR [zJ 4 0] [0,1] Qajy
theorem Qasi:mFn prog Qn5 2 19 Qavv Qpr=true:=by kernel_rfl
def Qrn:List Item:=[oJ 10 9]
def Qah1:SC:=cT 10 (sR [fB 2 false] [2] .ret) .skip
def Qro:List Item:=[mJ 4 16,sJ 3 5 18]
def Qrp:List Item:=[oJ 22 21]
def Qah2:SC:=cT 22 (sR [fB 2 false] [2] .ret) .skip
def Qrq:List Item:=[bJ 26 .add 23 25,mJ 3 26]
def Qah3:SC:=.reg (mJ 23 3::tJ 24 3 5::aJ 25 Qnz [.t 24]::Qrq) [1,3,12,13,14]
def Qah4:SC:=.seq (sR (tJ 19 1 1::mJ 20 4::aJ 21 Qx9 [.t 19,.t 20]::Qrp) [1,3,5,12,13,14,22] Qah2) Qah3
def Qah5:SC:=.reg [cJ 27 .add 14 1,mJ 14 27] [1,3,12,13,14]
def Qah6:SC:=.seq (.block 1 (sR (mJ 16 14::iJ 17 3 12 14::tJ 18 3 17::eI 5 (.alloc [.int .i64 0,.int .i64 0,.sl true 5 []])::Qro) [1,3,4,5,12,13,14] Qah4)) Qah5
def Qabw:SC:=sR [bJ 15 .lss 14 13] [1,3,12,13,14,15] (cX 15 0 Qah6)
def Qad6:SC:=sR [mJ 28 3,cJ 29 .leq 28 800,mJ 2 29] [2] .ret
def Qad7:SC:=.seq (sR [fJ 11 0 1,lJ 12 11,nJ 13 12,zJ 14 0] [1,3,12,13,14] (bL 0 Qabw)) Qad6
def Qad8:SC:=sR [zJ 3 0] [1,3] Qad7
def Qad9:SC:=.seq (sR (fJ 6 0 1::lJ 7 6::nJ 8 7::aJ 9 Qav [.t 8,kI 1,kI 4]::Qrn) [1,10] Qah1) Qad8
def Qasw:SC:=sR [vJ 1 0,fB 2 false] [1] Qad9
theorem Qar9:mFn prog Qny 1 30 Qasw Qfh=true:=by kernel_rfl
def Qrr:List Item:=[sJ 5 5 12]
def Qah8:SC:=.reg [mJ 13 3,fJ 14 0 5,lJ 15 14,nJ 16 15,fJ 17 1 5,lJ 18 17,nJ 19 18,bJ 20 .add 16 19,bJ 21 .add 13 20,mJ 3 21] [3,7,8,9]
def Qah9:SC:=.reg [cJ 22 .add 9 1,mJ 9 22] [3,7,8,9]
def Qaia:SC:=.seq (.block 1 (sR (iJ 11 5 7 9::tJ 12 5 11::eI 5 (.alloc [.sl true 2 [],.sl true 4 [],.int .i64 0,.int .i64 0,.sl true 1 []])::Qrr) [3,5,7,8,9] Qah8)) Qah9
def Qaed:SC:=sR [bJ 10 .lss 9 8] [3,7,8,9,10] (cX 10 0 Qaia)
def Qaib:SC:=sR [mJ 23 3,mJ 2 23] [2] .ret
def Qaic:SC:=.seq (sR [fJ 6 2 1,lJ 7 6,nJ 8 7,zJ 9 0] [3,7,8,9] (bL 0 Qaed)) Qaib
def Qaid:SC:=sR [zJ 3 0] [1,3] Qaic
def Qasy:SC:=sR [vJ 1 0,zJ 2 0] [1] Qaid
theorem Qasa:mFn prog Qnz 1 24 Qasy Qfh=true:=by kernel_rfl
def Q68:List Item:=[sJ 3 5 16]
def Qjr:List Item:=[gF 35 30 (.not (.t 34)),pT 36 30 35]
def Qjs:List Item:=gF 28 21 (.not (.t 27))::pT 29 21 28::mJ 30 29::gFf 31 30 2 5::gFl 32 30 31::gF 33 30 (.len (.t 32))::.e (some 34) (some (30,false)) (.call Qav [.t 33,kI 1,kI 160])::Qjr
def Qqm:List Item:=oJ 20 19::mJ 21 20::gFf 22 21 0 5::gFl 23 21 22::gFf 24 21 1 5::gFl 25 21 24::gF 26 21 (.mn (kI 3) (.t 25))::.e (some 27) (some (21,false)) (.call Qav [.t 23,kI 0,.t 26])::Qjs
def s_im_codeOk_4:SC:=cT 36 (sR [fB 4 false] [4] .ret) .skip
def Q69:List Item:=[sJ 1 6 37]
def Q7a:List Item:=[mJ 7 43,sJ 5 8 45]
def Qfi:List Item:=[gF 69 65 (.not (.t 68)),gFm 70 65 69,gTf 71 70 3 8,gTl 72 70 71,gT 73 70 (.bin 0 .neq (.t 72) (kI 0)),gF 74 65 (.pick (.t 70) (.t 73) (.k (.c (.bool false)))),pT 75 65 74]
def Qfj:List Item:=gT 62 57 (.not (.t 61))::gF 63 53 (.pick (.t 57) (.t 62) (.k (.c (.bool false))))::pT 64 53 63::mJ 65 64::gFf 66 65 2 8::gFl 67 65 66::.e (some 68) (some (65,false)) (.call Qpd [.t 67])::Qfi
def Qjt:List Item:=gFm 57 53 56::gTl 58 57 6::gTf 59 57 3 8::gTl 60 57 59::.e (some 61) (some (57,true)) (.callv (.t 58) [.t 60])::Qfj
def Qok:List Item:=hJ 47 46::.chk 48 none (.len (.t 47))::bJ 52 .neq 48 51::mJ 53 52::gFf 54 53 2 8::gFl 55 53 54::.e (some 56) (some (53,false)) (.call Qpd [.t 55])::Qjt
def s_im_codeOk_11:SC:=cT 75 (sR [fB 4 false] [4] .ret) .skip
def Qol:List Item:=[pT 85 80 84]
def Qom:List Item:=mJ 80 79::gFf 81 80 1 8::gFl 82 80 81::gF 83 80 (.mkf Qn1 [.t 2,.t 3])::.e (some 84) (some (80,false)) (.call Qdu [.t 82,.t 83])::Qol
def s_im_codeOk_14:SC:=cT 85 (sR [fB 4 false] [4] .ret) .skip
def Qzq:List Item:=[nJ 89 88,mJ 9 89]
def Qzr:List Item:=[sJ 2 11 96]
def Qeo:List Item:=[pT 118 113 117]
def Qep:List Item:=gF 104 99 (.not (.t 103))::pT 105 99 104::mJ 106 105::gFf 107 106 1 11::gFl 108 106 107::gF 109 106 (.len (.t 108))::gFm 110 106 9::gF 111 106 (.bin 0 .neq (.t 109) (.t 110))::pT 112 106 111::mJ 113 112::gFf 114 113 1 11::gFl 115 113 114::gF 116 113 (.mkf Qn2 [.t 6])::.e (some 117) (some (113,false)) (.call Qcl [.t 115,.t 116])::Qeo
def Q64:SC:=cT 118 (sR [fB 4 false] [4] .ret) .skip
def Qasz:SC:=sR (mJ 97 7::cJ 98 .eql 97 0::mJ 99 98::gFl 100 99 6::gFf 101 99 0 11::gFl 102 99 101::.e (some 103) (some (99,false)) (.callv (.t 100) [.t 102])::Qep) [2,3,5,6,7,9,39,40,41,91,92,93,118] Q64
def Q65:SC:=.reg [cJ 119 .add 93 1,mJ 93 119] [2,3,5,6,7,9,39,40,41,91,92,93]
def Qas0:SC:=.seq (.block 3 (sR (iJ 95 2 91 93::tJ 96 2 95::eI 11 (.alloc [.int .i64 0,.sl true 1 []])::Qzr) [2,3,5,6,7,9,11,39,40,41,91,92,93] Qasz)) Q65
def Qamv:SC:=sR [bJ 94 .lss 93 92] [2,3,5,6,7,9,39,40,41,91,92,93,94] (cX 94 2 Qas0)
def Qas1:SC:=sR [fJ 90 0 8,lJ 91 90,nJ 92 91,zJ 93 0] [2,3,5,6,7,9,39,40,41,91,92,93] (bL 2 Qamv)
def Qql:SC:=sR (tJ 86 3 5::mJ 87 7::aJ 88 Qm9 [.t 86,.t 87]::Qzq) [2,3,5,6,7,8,9,39,40,41] Qas1
def Q66:SC:=.seq (sR (fJ 76 4 8::lJ 77 76::fI 78 (.mkf Qn0 [.t 5])::aJ 79 Qcl [.t 77,.t 78]::Qom) [2,3,5,6,7,8,39,40,41,85] s_im_codeOk_14) Qql
def Qas2:SC:=.seq (.seq (.dreg 30 [0,1,2,3,4,5,1,2,6,7,8,9,10,11,12,13,14,15,16,17,18,19,20,21,22,23,24,25,26,27,28,29] ( fJ 46 4 8::lJ 47 46::nJ 48 47::fJ 49 2 8::lJ 50 49::aJ 51 Qn3 [.t 50]::Qok) [2,3,5,6,7,8,39,40,41,75]) s_im_codeOk_11) Q66
def Qas3:SC:=.reg [cJ 120 .add 41 1,mJ 41 120] [2,3,5,6,39,40,41]
def Qas4:SC:=.seq (.block 1 (sR (mJ 43 41::iJ 44 5 39 41::tJ 45 5 44::eI 8 (.alloc [.sl true 2 [],.sl true 4 [],.int .i64 0,.int .i64 0,.sl true 1 []])::Q7a) [2,3,5,6,7,8,39,40,41] Qas2)) Qas3
def Qamw:SC:=sR [bJ 42 .lss 41 40] [2,3,5,6,39,40,41,42] (cX 42 0 Qas4)
def Qas5:SC:=sR [fB 4 true] [4] .ret
def Qas6:SC:=.seq (sR [fJ 38 2 5,lJ 39 38,nJ 40 39,zJ 41 0] [2,3,5,6,39,40,41] (bL 0 Qamw)) Qas5
def Q67:SC:=sR (fI 37 (.mkf Qas [.t 5])::eI 6 (.alloc [.fnil])::Q69) [2,3,5,6] Qas6
def Qas7:SC:=.seq (sR (fJ 17 1 5::lJ 18 17::aJ 19 Qav [.t 18,kI 0,kI 300]::Qqm) [2,3,5,36] s_im_codeOk_4) Q67
def Qas8:SC:=sR (fJ 12 0 2::lJ 13 12::lJ 14 3::iJ 15 3 13 14::tJ 16 3 15::eI 5 (.alloc [.int .i64 0,.int .i64 0,.sl true 5 []])::Q68) [2,3,5] Qas7
def Qa6x:SC:=sR [vJ 2 0,vJ 3 1,fB 4 false] [2,3] Qas8
theorem Qa6g:mFn prog Qx9 2 121 Qa6x Qpr=true:=by kernel_rfl
def Qrs:List Item:=[mJ 3 8]
def Qaie:SC:=sR (mJ 4 0::fJ 5 1 1::lJ 6 5::cJ 7 .sub 6 1::aJ 8 Qav [.t 4,kI 0,.t 7]::Qrs) [3] .ret
def Qas9:SC:=sR [fB 3 false] [0,1] Qaie
def Q6y:List RS:=[.tmp 3]
theorem Qasb:mFn prog Qas 2 9 Qas9 Q6y=true:=by kernel_rfl
def Qrt:List Item:=[oJ 10 9,mJ 3 10]
def Qaif:SC:=sR (mJ 4 0::fJ 5 2 1::lJ 6 5::nJ 7 6::cJ 8 .sub 7 1::aJ 9 Qav [.t 4,kI 1,.t 8]::Qrt) [3] .ret
def Qata:SC:=sR [fB 3 false] [0,1] Qaif
theorem Qasc:mFn prog Qn0 2 11 Qata Q6y=true:=by kernel_rfl
def Qru:List Item:=[oJ 9 8,mJ 4 9]
def Qaig:SC:=sR (tJ 5 1 1::lJ 6 2::tJ 7 4 3::aJ 8 Q70 [.t 5,.t 6,.t 7]::Qru) [4] .ret
def Qatb:SC:=sR [vJ 3 0,fB 4 false] [1,2,3] Qaig
theorem Qasd:mFn prog Qn1 3 10 Qatb Qpr=true:=by kernel_rfl
def Qrv:List Item:=[oJ 7 6,mJ 3 7]
def Qaih:SC:=sR (lJ 4 1::mJ 5 0::eI 6 (.callv (.t 4) [.t 5])::Qrv) [3] .ret
def Qatc:SC:=sR [fB 3 false] [0,1] Qaih
theorem Qase:mFn prog Qn2 2 8 Qatc Q6y=true:=by kernel_rfl
def Qatd:SC:=cT 6 .skip (.reg [cJ 10 .eql 3 13,mJ 6 10] [6])
def Qate:SC:=cT 6 .skip (sR [cJ 9 .eql 3 11,mJ 6 9] [3,6] Qatd)
def Qatf:SC:=cT 6 .skip (sR [cJ 8 .eql 3 10,mJ 6 8] [3,6] Qate)
def Q7b:SC:=cT 6 (sR [zJ 2 1] [2] .ret) .skip
def Qatg:SC:=cT 4 (sR [zJ 2 0] [2] .ret) (.seq (sR [cJ 7 .eql 3 2,mJ 6 7] [3,6] Qatf) Q7b)
def Qath:SC:=.block 0 (sR [cJ 5 .eql 3 1,mJ 4 5] [3,4] Qatg)
def Q7c:SC:=sR [zJ 2 2] [2] .ret
def Qati:SC:=.seq (sR [mJ 3 0] [3] Qath) Q7c
def Qa2u:SC:=sR [zJ 2 0] [0] Qati
theorem Qa1p:mFn prog Qs2 1 11 Qa2u Qfh=true:=by kernel_rfl
def Qab0:List Item:=[sJ 3 7 13]
def Qab1:List Item:=[sJ 1 8 14]
def Qtx:List Item:=[pT 24 19 23]
def Qab2:List Item:=oJ 18 17::mJ 19 18::gFf 20 19 2 5::gFl 21 19 20::gF 22 19 (.mkf Qp9 [.t 8])::.e (some 23) (some (19,false)) (.call Qcl [.t 21,.t 22])::Qtx
def s_im_insOk_4:SC:=cT 24 (sR [fB 6 false] [6] .ret) .skip
def Qng:List Item:=[gF 39 35 (.not (.t 38)),gFm 40 35 39,gTf 41 40 1 5,gTl 42 40 41,gT 43 40 (.bin 0 .neq (.t 42) (kI (-1))),gF 44 35 (.pick (.t 40) (.t 43) (.k (.c (.bool false)))),pT 45 35 44]
def Qnh:List Item:=gT 33 28 (.not (.t 32))::pF 34 28 33::mJ 35 34::gFf 36 35 0 5::gFl 37 35 36::.e (some 38) (some (35,false)) (.call Q3r [.t 37])::Qng
def Qty:List Item:=mJ 28 27::gTl 29 28 8::gTf 30 28 1 5::gTl 31 28 30::.e (some 32) (some (28,true)) (.callv (.t 29) [.t 31])::Qnh
def s_im_insOk_8:SC:=cT 45 (sR [fB 6 false] [6] .ret) .skip
def Qtz:List Item:=[pF 58 54 57,mJ 6 58]
def Qju:List Item:=[mJ 66 65,gTf 67 66 2 5,gTl 68 66 67,gT 69 66 (.len (.t 68)),gTf 70 66 0 3,gTl 71 66 70,gTf 72 66 3 5,gTl 73 66 72,gT 74 66 (.iad 3 (.t 71) (.t 73)),gTf 75 66 0 74,gTl 76 66 75,gT 77 66 (.bin 0 .eql (.t 69) (.t 76)),pF 78 66 77,mJ 6 78]
def Qay6:SC:=cT 59 (.seq (.dreg 19 [0,1,2,3,4,5,6,7,8,9,10,11,12,13,14,15,16,17,18] ( fJ 61 3 5::lJ 62 61::mJ 63 1::cJ 64 .sub 63 1::aJ 65 Qav [.t 62,kI 0,.t 64]::Qju) [6]) .ret) .skip
def Qay7:SC:=cT 48 (sR (fJ 50 2 5::lJ 51 50::nJ 52 51::cJ 53 .eql 52 0::mJ 54 53::gTf 55 54 3 5::gTl 56 54 55::.e (some 57) (some (54,true)) (.call Qjx [.t 56])::Qtz) [6] .ret) (sR [cJ 60 .eql 47 14,mJ 59 60] [1,3,5,59] Qay6)
def Qay8:SC:=.block 0 (sR [cJ 49 .eql 47 1,mJ 48 49] [1,3,5,47,48] Qay7)
def Qqn:List Item:=[.chk 84 (some (82,true)) (.ld 1 false (.t 83)),.chk 85 (some (82,true)) (.len (.t 84)),gT 89 82 (.bin 0 .eql (.t 85) (.t 88)),pF 90 82 89,mJ 6 90]
def Qay9:SC:=.seq (.dreg 13 [0,1,2,3,4,5,6,7,8,9,5,6,10,11,12] ( fJ 79 3 5::lJ 80 79::cJ 81 .eql 80 0::mJ 82 81::gTf 83 82 2 5::gTl 84 82 83::gT 85 82 (.len (.t 84))::gTf 86 82 0 5::gTl 87 82 86::.e (some 88) (some (82,true)) (.call Qs2 [.t 87])::Qqn) [6]) .ret
def Qaby:SC:=.seq (sR [fJ 46 0 5,lJ 47 46] [1,3,5,47] Qay8) Qay9
def Qabz:SC:=.seq (sR (fJ 25 0 5::lJ 26 25::aJ 27 Q3r [.t 26]::Qty) [1,3,5,45] s_im_insOk_8) Qaby
def Qaza:SC:=.seq (sR (fJ 15 0 5::lJ 16 15::aJ 17 Qs3 [.t 16]::Qab2) [1,3,5,8,24] s_im_insOk_4) Qabz
def Qazb:SC:=sR (fI 14 (.mkf Qe9 [.t 7])::eI 8 (.alloc [.fnil])::Qab1) [1,3,5,8] Qaza
def Qazc:SC:=sR (fJ 9 0 3::lJ 10 9::mJ 11 1::iJ 12 3 10 11::tJ 13 3 12::eI 7 (.alloc [.int .i64 0,.int .i64 0,.sl true 5 []])::Qab0) [1,3,5,7] Qazb
def Qbc9:SC:=sR [vJ 3 0,vJ 5 2,fB 6 false] [1,3,5] Qazc
theorem Qbcs:mFn prog Q70 3 91 Qbc9 Qbo3=true:=by kernel_rfl
def Qva:List Item:=[mJ 3 8]
def Qam4:SC:=sR (mJ 4 0::fJ 5 1 1::lJ 6 5::cJ 7 .sub 6 1::aJ 8 Qav [.t 4,kI 0,.t 7]::Qva) [3] .ret
def Qazd:SC:=sR [fB 3 false] [0,1] Qam4
theorem Qayc:mFn prog Qe9 2 9 Qazd Q6y=true:=by kernel_rfl
def Qvb:List Item:=[oJ 7 6,mJ 3 7]
def Qam5:SC:=sR (lJ 4 1::mJ 5 0::eI 6 (.callv (.t 4) [.t 5])::Qvb) [3] .ret
def Qaze:SC:=sR [fB 3 false] [0,1] Qam5
theorem Qayd:mFn prog Qp9 2 8 Qaze Q6y=true:=by kernel_rfl
def Qqo:List Item:=[mJ 2 4]
def Qazf:SC:=sR (mJ 3 0::aJ 4 Qav [.t 3,kI 0,kI 255]::Qqo) [2] .ret
def Qa6z:SC:=sR [fB 2 false] [0] Qazf
theorem Qaln:mFn prog Qjx 1 5 Qa6z Qfh=true:=by kernel_rfl
def Qab3:List Item:=[mJ 2 4]
def Qa2v:SC:=sR (mJ 3 0::aJ 4 Qav [.t 3,kI 1,kI 14]::Qab3) [2] .ret
def Qbda:SC:=sR [fB 2 false] [0] Qa2v
theorem Qbct:mFn prog Qs3 1 5 Qbda Qfh=true:=by kernel_rfl
def Qaiv:SC:=cT 8 (sR [zJ 2 0] [2] .ret) .skip
def Qaiw:SC:=cT 6 (sR [zJ 2 2] [2] .ret) (sR [cJ 9 .eql 3 3,mJ 8 9] [8] Qaiv)
def Qaix:SC:=cT 4 (sR [zJ 2 1] [2] .ret) (sR [cJ 7 .eql 3 2,mJ 6 7] [3,6] Qaiw)
def Qaiy:SC:=.block 0 (sR [cJ 5 .eql 3 1,mJ 4 5] [3,4] Qaix)
def Qaiz:SC:=sR [zJ 2 (-1)] [2] .ret
def Qai0:SC:=.seq (sR [mJ 3 0] [3] Qaiy) Qaiz
def Qatv:SC:=sR [zJ 2 0] [0] Qai0
theorem Qasf:mFn prog Qn3 1 10 Qatv Qfh=true:=by kernel_rfl
def Qagk:List Item:=[mJ 5 4,gTm 6 5 0,gT 7 5 (.bin 0 .neq (.t 6) (kI 12)),pF 8 5 7,mJ 9 8,gTm 10 9 0,gT 11 9 (.bin 0 .neq (.t 10) (kI 13)),pF 12 9 11,mJ 2 12]
def Qa60:SC:=sR (mJ 3 0::aJ 4 Qs3 [.t 3]::Qagk) [2] .ret
def Qbiz:SC:=sR [fB 2 false] [0] Qa60
theorem Qbh1:mFn prog Q3r 1 13 Qbiz Qfh=true:=by kernel_rfl
def Qazo:SC:=sR [mJ 3 0,cJ 4 .eql 3 2,mJ 5 4,gFm 6 5 0,gF 7 5 (.bin 0 .eql (.t 6) (kI 3)),pT 8 5 7,mJ 2 8] [2] .ret
def Qa62:SC:=sR [fB 2 false] [0] Qazo
theorem Qa6i:mFn prog Qpd 1 9 Qa62 Qfh=true:=by kernel_rfl
def Qgv:List Item:=[cJ 8 .geq 7 0,mJ 4 8]
def Qul:SC:=sR (mJ 5 0::mJ 6 1::aJ 7 Qfu [.t 5,.t 6]::Qgv) [4] .ret
def Q2n:SC:=sR [fB 4 false] [0,1] Qul
theorem Qyp:mFn prog Qdu 2 9 Q2n Qpr=true:=by kernel_rfl
def Q6a:SC:=cT 16 (sR [mJ 17 5,mJ 4 17] [4] .ret) .skip
def Q6b:SC:=sR [mJ 11 1,mJ 12 0,mJ 13 5,iJ 14 4 12 13,tJ 15 4 14,eI 16 (.callv (.t 11) [.t 15])] [0,1,5,7,8,16] Q6a
def Q6c:SC:=.reg [cJ 18 .add 8 1,mJ 8 18] [0,1,7,8]
def Q6d:SC:=.seq (.block 1 (sR [mJ 10 8,mJ 5 10] [0,1,5,7,8] Q6b)) Q6c
def Q22:SC:=sR [bJ 9 .lss 8 7] [0,1,7,8,9] (cX 9 0 Q6d)
def Q6e:SC:=sR [zJ 4 (-1)] [4] .ret
def Q6f:SC:=.seq (sR [mJ 6 0,nJ 7 6,zJ 8 0] [0,1,7,8] (bL 0 Q22)) Q6e
def Qacq:SC:=sR [zJ 4 0] [0,1] Q6f
theorem Qabg:mFn prog Qfu 2 19 Qacq Qpr=true:=by kernel_rfl
end Go.AE.Y
namespace Go.AE
variable {P:Program}{H:Heap}{g:G}{w:World}{e:Env}
def Obj.used:Obj→Bool
 |.none=>false
 |_=>true
def Heap.frz (H:Heap)(S:Nat→Bool):Heap:=fun l=>if S l then .none else H l
def G.frz (g:G)(H:Heap)(S:Nat→Bool):G:=
 { g with
  per:=fun b=>g.per b || (match g.own b with
   |some (l,_)=>S l&&(H l).used
   |none=>false)
  own:=fun b=>match g.own b with
   |some (l,p)=>if S l&&(H l).used then none else some (l,p)
   |none=>none }
theorem Qbox (H:Heap)(S:Nat→Bool)(g:G)(w:World):Le g w (g.frz H S) w:=
 ⟨fun b h=>⟨by simp[G.frz,h],rfl⟩,fun _ _ h=>h,Jao _,fun _ _ _ h=>h,rfl,rfl,rfl⟩
theorem Qyh {S:Nat→Bool}{m:Nat}(hm:¬(S m=true∧(H m).used=true)):Qacz g w (g.frz H S) w m:=by
 intro b q hb;refine⟨?_,rfl⟩;have:¬(S m&&(H m).used)=true:=by simpa using hm
 simp only[G.frz,hb];rw[if_neg this]
theorem Qbac (hs:Sat H g w)(S:Nat→Bool):Stp H g w (H.frz S) (g.frz H S) w:=by
 have hle:=Qbox H S g w;refine⟨hle,fun m hm hn=>?_,⟨fun b hb=>?_,hs.names,fun b x hb=>?_,fun b m p hb=>?_,fun m=>?_⟩⟩
 ·refine⟨by simp only[Heap.frz,hn];split <;> rfl,?_⟩;exact Qyh (by rw[hn];simp[Obj.used])
 ·obtain⟨h1,h2⟩:=hs.fresh b hb;simp[G.frz,h1,h2]
 ·have hb':(match g.own b with
   |some (l,p)=>if S l&&(H l).used then none else some (l,p)
   |none=>none)=some x:=hb
  show (g.per b || (match g.own b with
   |some (l,_)=>S l&&(H l).used
   |none=>false))=false
  cases ho:g.own b with
  |none=>rw[ho]at hb';simp at hb'
  |some y=>
   obtain⟨l,p⟩:=y;rw[ho]at hb';simp only at hb'⊢;have:=hs.excl b _ ho;by_cases hx:(S l&&(H l).used)=true
   ·rw[if_pos hx]at hb';simp at hb'
   ·simp[this,hx]
 ·have hb':(match g.own b with
   |some (l,p)=>if S l&&(H l).used then none else some (l,p)
   |none=>none)=some (m,p):=hb
  cases ho:g.own b with
  |none=>rw[ho]at hb';simp at hb'
  |some y=>
   obtain⟨l,q⟩:=y;rw[ho]at hb';simp only at hb';by_cases hx:(S l&&(H l).used)=true
   ·rw[if_pos hx]at hb';simp at hb'
   ·rw[if_neg hx]at hb';simp at hb';obtain⟨rfl,rfl⟩:=hb';exact hs.named b _ _ ho
 ·by_cases hS:S m=true
  ·simp[Heap.frz,hS,SatObj]
  ·have hH':H.frz S m=H m:=by simp[Heap.frz,hS]
   have hk:Qacz g w (g.frz H S) w m:=Qyh (by simp[hS]);refine SatObj.keep (H':=H.frz S) hs hle hk hH' fun m' v left cur hc v' es hv=>?_;by_cases hS':S m'=true
   ·simp[Heap.frz,hS']at hv
   ·have:H.frz S m'=H m':=(by simp[Heap.frz,hS']);rw[this]at hv;exact .inl ⟨hv,Qyh (by simp[hS'])⟩
inductive FrzC (H:Heap)(S:Nat→Bool):C→C→Prop
 |same (c:C) (h:c.isOw=false):FrzC H S c c
 |sl (fl:Bool) (sz:Nat) (rows rows':List (List C)) (hl:rows'.length=rows.length) (hr:∀(i:Nat) (r r':List C),rows[i]? = some r→rows'[i]? = some r'→r'.length=r.length)
   (hc:∀(i:Nat) (r r':List C) (j:Nat) (c c':C),rows[i]? = some r→rows'[i]? = some r'→r[j]? = some c→r'[j]? = some c'→FrzC H S c c'):FrzC H S (.sl fl sz rows) (.sl false sz rows')
 |pp (cells cells':List C) (hl:cells'.length=cells.length) (hc:∀(j:Nat) (c c':C),cells[j]? = some c→cells'[j]? = some c'→FrzC H S c c'):FrzC H S (.pp cells) (.pp cells')
 |vsl (l sz st n:Nat) (all rows rows':List (List C)) (hS:S l=true) (hH:H l=.vec sz all) (hb:st+n≤all.length) (hrows:rows=(all.drop st).take n)
   (hl:rows'.length=rows.length) (hr:∀(i:Nat) (r r':List C),rows[i]? = some r→rows'[i]? = some r'→r'.length=r.length)
   (hc:∀(i:Nat) (r r':List C) (j:Nat) (c c':C),rows[i]? = some r→rows'[i]? = some r'→r[j]? = some c→r'[j]? = some c'→FrzC H S c c'):FrzC H S (.vsl l sz st n) (.sl false sz rows')
 |ptr (l k:Nat) (all cells cells':List C) (hS:S l=true) (hH:H l=.st all) (hcells:cells=all.drop k) (hl:cells'.length=cells.length)
   (hc:∀(j:Nat) (c c':C),cells[j]? = some c→cells'[j]? = some c'→FrzC H S c c'):FrzC H S (.ptr l k) (.pp cells')
 |ow (sz:Nat) (rows rows':List (List C)) (hl:rows'.length=rows.length) (hr:∀(i:Nat) (r r':List C),rows[i]? = some r→rows'[i]? = some r'→r'.length=r.length)
   (hc:∀(i:Nat) (r r':List C) (j:Nat) (c c':C),rows[i]? = some r→rows'[i]? = some r'→r[j]? = some c→r'[j]? = some c'→FrzC H S c c'):FrzC H S (.ow sz rows) (.sl false sz rows')
theorem Qag {α:Type}{l l':List α}(h:l'.length=l.length){i:Nat}{x:α}(hx:l'[i]? = some x):∃y,l[i]? = some y:=by
 have:i<l'.length:=(Jq.1 hx).1;exact⟨l[i]'(by omega),Jl (by omega)⟩
theorem Qa59 {S:Nat→Bool}{b l:Nat}{p:List Nat}(ho:g.own b=some (l,p))(hS:S l=true)(hu:(H l).used=true):(g.frz H S).per b=true:=by
 simp[G.frz,ho,hS,hu]
theorem Qa6a (hs:Sat H g w){S:Nat→Bool}{c c':C}(h:FrzC H S c c') :
  (∀v,RepC w g c v→RepC w (g.frz H S) c' v)∧∀l p v,S l=true→(H l).used=true→RepO w g l p c v→RepC w (g.frz H S) c' v:=by
 have hle:=Qbox H S g w
 induction h with
 |same c h=>
  refine⟨fun v hv=>hv.mono hle,fun l p v _ _ hv=>?_⟩;exact (hv.plain_of fun sz rows hc=>by subst hc;simp[C.isOw]at h).mono hle
 |sl fl sz rows rows' hl hr hc ih=>
  have key:∀v,RepC w g (.sl fl sz rows) v→RepC w (g.frz H S) (.sl false sz rows') v:=by
   intro v hv
   cases hv with
   |slnil _ _ ad=>
    have:rows'=[]:=Jn.1 (by simpa using hl);subst this;exact .slnil _ _ _
   |sl _ _ _ b off cap val h1 h2 h3 h4 h5 h6 h7=>
    rw[←hl]at h1 h2 h3⊢;refine .sl false sz rows' b off cap val h1 (by simp) h3 (hle.per b h4).1 (fun i r' hr'=>?_) (fun i r' j c' hr' hc'=>?_) (fun i r' j c' hr' hc'=>?_)
    ·obtain⟨r,hr0⟩:=Qag hl hr';rw[hr i r r' hr0 hr'];exact h5 i r hr0
    ·obtain⟨r,hr0⟩:=Qag hl hr';obtain⟨c,hc0⟩:=Qag (hr i r r' hr0 hr') hc';exact h6 i r j c hr0 hc0
    ·obtain⟨r,hr0⟩:=Qag hl hr';obtain⟨c,hc0⟩:=Qag (hr i r r' hr0 hr') hc';exact (ih i r r' j c c' hr0 hr' hc0 hc').1 _ (h7 i r j c hr0 hc0)
  exact⟨key,fun l p v _ _ hv=>key v (hv.plain_of fun _ _ hc=>by simp at hc)⟩
 |pp cells cells' hl hc ih=>
  have key:∀v,RepC w g (.pp cells) v→RepC w (g.frz H S) (.pp cells') v:=by
   intro v hv
   cases hv with
   |pp _ b off val h1 h2 h3=>
    refine .pp cells' b off val (hle.per b h1).1 (fun j c' hc'=>?_) (fun j c' hc'=>?_)
    ·obtain⟨c,hc0⟩:=Qag hl hc';exact h2 j c hc0
    ·obtain⟨c,hc0⟩:=Qag hl hc';exact (ih j c c' hc0 hc').1 _ (h3 j c hc0)
  exact⟨key,fun l p v _ _ hv=>key v (hv.plain_of fun _ _ hc=>by simp at hc)⟩
 |vsl l sz st n all rows rows' hS hH hb hrows hl hr hc ih=>
  have key:∀v,RepC w g (.vsl l sz st n) v→RepC w (g.frz H S) (.sl false sz rows') v:=by
   intro v hv;have hlen:rows.length=n:=by rw[hrows];simp;omega
   cases hv with
   |vslnil _ _ _ ad=>
    have:rows'=[]:=Jn.1 (by omega);subst this;exact .slnil _ _ _
   |vsl _ _ _ _ cap b base T m h1 h2 h3 h4=>
    have hob:=hs.objs l;rw[hH]at hob;obtain⟨b',base',T',cs,val,r1,r2,r3,r4,r5,r6,r7,r8⟩:=SatVec.of hob h1;rw[h1]at r1;simp only[Jd,Jt,true_and]at r1;obtain⟨rfl,rfl⟩:=r1;have hper:=Qa59 (g:=g) (H:=H) r2 hS (by rw[hH];rfl);have hget:∀(i:Nat) (r:List C),rows[i]? = some r→all[st+i]? = some r:=by
     intro i r hi;rw[hrows,Jah]at hi;split at hi
     ·rw[J7]at hi;exact hi
     ·simp at hi
    have hn:n=rows'.length:=(by omega);rw[hn]at h2⊢;refine .sl false sz rows' b (base+st * sz) cap (fun i j=>val (st+i) j) (by omega) (by simp) h2 hper (fun i r' hr'=>?_) (fun i r' j c' hr' hc'=>?_) (fun i r' j c' hr' hc'=>?_)
    ·obtain⟨r,hr0⟩:=Qag hl hr';rw[hr i r r' hr0 hr'];exact r6 _ r (hget i r hr0)
    ·obtain⟨r,hr0⟩:=Qag hl hr';obtain⟨c,hc0⟩:=Qag (hr i r r' hr0 hr') hc';rw[Qd6 r3,show base+st * sz+i * sz+j=base+(st+i) * sz+j by rw[Jp];omega];exact r7 _ r j c (hget i r hr0) hc0
    ·obtain⟨r,hr0⟩:=Qag hl hr';obtain⟨c,hc0⟩:=Qag (hr i r r' hr0 hr') hc';exact (ih i r r' j c c' hr0 hr' hc0 hc').2 l _ _ hS (by rw[hH];rfl) (r8 _ r j c (hget i r hr0) hc0)
  exact⟨key,fun l p v _ _ hv=>key v (hv.plain_of fun _ _ hc=>by simp at hc)⟩
 |ptr l k all cells cells' hS hH hcells hl hc ih=>
  have key:∀v,RepC w g (.ptr l k) v→RepC w (g.frz H S) (.pp cells') v:=by
   intro v hv
   cases hv with
   |ptr _ _ b sz base h1=>
    have hob:=hs.objs l;rw[hH]at hob;obtain⟨b',sz',T,cs,r1,r2,r3,r4,r5⟩:=hob;rw[h1]at r1;simp only[Jd,Jt]at r1;obtain⟨rfl,rfl,rfl⟩:=r1;have hper:=Qa59 (g:=g) (H:=H) r2 hS (by rw[hH];rfl);have hget:∀(j:Nat) (c:C),cells[j]? = some c→all[k+j]? = some c:=by
     intro j c hj;rw[hcells,J7]at hj;exact hj
    have hcs:∀(j:Nat) (c:C),all[j]? = some c→cs[j]? = some (cs.getD j undef):=by
     intro j c hj;have hlt:j<cs.size:=(by rw[r4];exact (Jq.1 hj).1);rw[Jk hlt,Jc,Jk hlt];rfl
    refine .pp cells' b (0+k) (fun j=>cs.getD (k+j) undef) hper (fun j c' hc'=>?_) (fun j c' hc'=>?_)
    ·obtain⟨c,hc0⟩:=Qag hl hc';rw[Qd6 r3,show 0+k+j=k+j by omega];exact hcs _ c (hget j c hc0)
    ·obtain⟨c,hc0⟩:=Qag hl hc';exact (ih j c c' hc0 hc').2 l _ _ hS (by rw[hH];rfl) (r5 _ c _ (hget j c hc0) (hcs _ c (hget j c hc0)))
  exact⟨key,fun l p v _ _ hv=>key v (hv.plain_of fun _ _ hc=>by simp at hc)⟩
 |ow sz rows rows' hl hr hc ih=>
  refine⟨fun v hv=>(by cases hv),fun l p v hS hu hv=>?_⟩
  cases hv with
  |plain _ _ _ h=>cases h
  |ownil _ _ ad=>
   have:rows'=[]:=Jn.1 (by simpa using hl);subst this;exact .slnil _ _ _
  |ow _ _ _ b off cap T cs val h1 h2 h3 h4 h5 h6 h7 h8=>
   have hper:=Qa59 (g:=g) (H:=H) h3 hS hu;rw[←hl]at h1 h2⊢;refine .sl false sz rows' b off cap val h1 (by simp) h2 hper (fun i r' hr'=>?_) (fun i r' j c' hr' hc'=>?_) (fun i r' j c' hr' hc'=>?_)
   ·obtain⟨r,hr0⟩:=Qag hl hr';rw[hr i r r' hr0 hr'];exact h6 i r hr0
   ·obtain⟨r,hr0⟩:=Qag hl hr';obtain⟨c,hc0⟩:=Qag (hr i r r' hr0 hr') hc';rw[Qd6 h4];exact h7 i r j c hr0 hc0
   ·obtain⟨r,hr0⟩:=Qag hl hr';obtain⟨c,hc0⟩:=Qag (hr i r r' hr0 hr') hc';exact (ih i r r' j c c' hr0 hr' hc0 hc').2 l _ _ hS hu (h8 i r j c hr0 hc0)
inductive FrzV (H:Heap)(S:Nat→Bool):V→V→Prop
 |c (a b:C) (h:FrzC H S a b):FrzV H S (.c a) (.c b)
 |ag (cs cs':List C) (hl:cs'.length=cs.length) (h:∀(j:Nat) (c c':C),cs[j]? = some c→cs'[j]? = some c'→FrzC H S c c'):FrzV H S (.ag cs) (.ag cs')
 |tup (xs xs':List V) (hl:xs'.length=xs.length) (h:∀(j:Nat) (x x':V),xs[j]? = some x→xs'[j]? = some x'→FrzV H S x x'):FrzV H S (.tup xs) (.tup xs')
 |unk (x:V):FrzV H S x .unk
theorem Qaxy (hs:Sat H g w){S:Nat→Bool}{x x':V}(h:FrzV H S x x'):∀v,RepV w g x v→RepV w (g.frz H S) x' v:=by
 induction h with
 |c a b h=>
  intro v hv;exact .c _ _ ((Qa6a hs h).1 v hv.c_inv)
 |ag cs cs' hl h=>
  intro v hv
  cases hv with
  |ag _ vs h1 h2=>
   refine .ag cs' vs (by omega) fun j c' u hc' hu=>?_;obtain⟨c,hc⟩:=Qag hl hc';exact (Qa6a hs (h j c c' hc hc')).1 u (h2 j c u hc hu)
 |tup xs xs' hl h ih=>
  intro v hv
  cases hv with
  |tup _ vs h1 h2=>
   refine .tup xs' vs (by omega) fun j x' u hx' hu=>?_;obtain⟨x,hx⟩:=Qag hl hx';exact ih j x x' hx hx' u (h2 j x u hx hu)
 |unk x=>exact fun v _=>.unk v
abbrev frzK (K:V→Heap→Prop):V→Heap→Prop
 |.pn v,H'=>∃S,K (.pn v) (H'.frz S)
 |x,H'=>∃S x',FrzV H' S x x'∧K x' (H'.frz S)
theorem Qbls {K:V→Heap→Prop}{x:V}{v:Value}(h:frzK K x H)(hr:RepV w g x v):∃S x',FrzV H S x x'∧K x' (H.frz S):=by
 cases hr <;> exact h
theorem Qbgh {f:Nat}{args:List V}{K:V→Heap→Prop}(h:Qj P f args H (frzK K)):Qj P f args H K:=by
 refine⟨h.1,fun g w vs hs hl hv=>?_⟩;refine Calls.mono (h.2 g w vs hs hl hv) ?_;rintro e w' (⟨v,x,H',g',he,hx,hst,hr⟩|⟨v,H',g',he,hx,hst⟩)
 ·obtain⟨S,x',hf,hk⟩:=Qbls hx hr;exact .inl ⟨v,x',H'.frz S,g'.frz H' S,he,hk,hst.trans (Qbac hst.sat S),Qaxy hst.sat hf v hr⟩
 ·obtain⟨S,hk⟩:∃S,K (.pn v) (H'.frz S):=hx;exact .inr ⟨v,H'.frz S,g'.frz H' S,he,hk,hst.trans (Qbac hst.sat S)⟩
theorem Qbb3 {f:Nat}{args:List V}{K K':V→Heap→Prop}(h:Qj P f args H K)(hk:∀x H',K x H'→K' x H'):Qj P f args H K':=by
 refine⟨h.1,fun g w vs hs hl hv=>?_⟩;refine Calls.mono (h.2 g w vs hs hl hv) ?_;rintro e w' (⟨v,x,H',g',he,hx,hst,hr⟩|⟨v,H',g',he,hx,hst⟩)
 ·exact .inl ⟨v,x,H',g',he,hk x H' hx,hst,hr⟩
 ·exact .inr ⟨v,H',g',he,hk _ H' hx,hst⟩
def FrzK (H:Heap)(S:Nat→Bool)(c c':C):Prop:=c'=c∨(c.isOw=false∧FrzC H S c c')
inductive FrzO (H:Heap)(S:Nat→Bool):Obj→Obj→Prop
 |same (o:Obj):FrzO H S o o
 |st (cells cells':List C) (hl:cells'.length=cells.length) (h:∀(j:Nat) (c c':C),cells[j]? = some c→cells'[j]? = some c'→FrzK H S c c'):FrzO H S (.st cells) (.st cells')
 |vec (sz:Nat) (rows rows':List (List C)) (hl:rows'.length=rows.length) (hr:∀(i:Nat) (r r':List C),rows[i]? = some r→rows'[i]? = some r'→r'.length=r.length)
   (h:∀(i:Nat) (r r':List C) (j:Nat) (c c':C),rows[i]? = some r→rows'[i]? = some r'→r[j]? = some c→r'[j]? = some c'→FrzK H S c c'):FrzO H S (.vec sz rows) (.vec sz rows')
def FrzH (H:Heap)(S:Nat→Bool)(H':Heap):Prop:=∀m,(S m=true∧H' m=.none)∨(S m=false∧FrzO H S (H m) (H' m))
theorem Q3y (H:Heap)(S:Nat→Bool):FrzH H S (H.frz S):=fun m=>by
 cases h:S m with
 |true=>exact .inl ⟨rfl,by simp[Heap.frz,h]⟩
 |false=>exact .inr ⟨rfl,by simp[Heap.frz,h];exact .same _⟩
theorem FrzH.set {S:Nat→Bool}{H':Heap}(h:FrzH H S H'){l:Nat}{o:Obj}(hl:S l=false)(ho:FrzO H S (H l) o):FrzH H S (H'.set l o):=fun m=>by
 by_cases hm:m=l
 ·subst hm;rw[Heap.set_same];exact .inr ⟨hl,ho⟩
 ·rw[Heap.set_other _ _ hm];exact h m
theorem Qbbt (hs:Sat H g w){S:Nat→Bool}{H':Heap}(h:FrzH H S H'):Stp H g w H' (g.frz H S) w:=by
 have h0:=Qbac hs S;have hle:=h0.le;have hkk:∀m,S m=false→Qacz g w (g.frz H S) w m:=fun m hm=>Qyh (by simp[hm]);have hmv:∀(l:Nat) (p:List Nat) (c c':C) (v:Value),S l=false→FrzK H S c c'→RepO w g l p c v→RepO w (g.frz H S) l p c' v:=by
  intro l p c c' v hl hk hr;rcases hk with rfl|⟨h1,h2⟩
  ·exact hr.move hle fun q b hb=>⟨(hkk l hl b _ hb).1,rfl⟩
  ·exact .plain _ _ _ _ ((Qa6a hs h2).1 v (hr.plain_of fun sz rows hc=>by subst hc;simp[C.isOw]at h1))
 refine⟨hle,fun m hm hn=>?_,⟨h0.sat.fresh,h0.sat.names,h0.sat.excl,h0.sat.named,fun m=>?_⟩⟩
 ·refine⟨?_,Qyh (by rw[hn];simp[Obj.used])⟩;rcases h m with ⟨_,h1⟩|⟨_,h1⟩
  ·exact h1
  ·rw[hn]at h1;generalize H' m=o at h1;cases h1;rfl
 ·rcases h m with ⟨_,h1⟩|⟨hS,h1⟩
  ·rw[h1];exact trivial
  ·have ho:=hs.objs m;generalize hA:H m=A at h1 ho;generalize hB:H' m=B at h1
   cases h1 with
   |same=>
    have:=SatObj.keep (H':=H') hs hle (hkk m hS) (hB.trans hA.symm) fun m' v left cur hc v' es hv=>?_
    ·rw[hB]at this;exact this
    ·rcases h m' with ⟨_,h2⟩|⟨hS',h2⟩
     ·rw[h2]at hv;simp at hv
     ·rw[hv]at h2;generalize hA':H m'=A' at h2;cases h2;exact .inl ⟨rfl,hkk m' hS'⟩
   |st cells cells' hl hc=>
    obtain⟨b,sz,T,cs,r1,r2,r3,r4,r5⟩:=ho;refine⟨b,sz,T,cs,r1,(hkk m hS b _ r2).1,r3,by rw[hl];exact r4,fun k c' v hc' hv=>?_⟩;obtain⟨c,hc0⟩:=Qag hl hc';exact hmv _ _ c c' v hS (hc k c c' hc0 hc') (r5 k c v hc0 hv)
   |vec sz rows rows' hl hr hc=>
    rcases ho with ⟨r1,r2⟩|⟨b,base,T,cs,val,r1,r2,r3,r4,r5,r6,r7,r8⟩
    ·refine .inl ⟨?_,r2⟩;subst r1;exact Jn.1 hl
    ·refine .inr ⟨b,base,T,cs,val,r1,(hkk m hS b _ r2).1,r3,by rw[hl];exact r4,by rw[hl];exact r5,fun i r' hr'=>?_,fun i r' j c' hr' hc'=>?_,fun i r' j c' hr' hc'=>?_⟩
     ·obtain⟨r,hr0⟩:=Qag hl hr';rw[hr i r r' hr0 hr'];exact r6 i r hr0
     ·obtain⟨r,hr0⟩:=Qag hl hr';obtain⟨c,hc0⟩:=Qag (hr i r r' hr0 hr') hc';exact r7 i r j c hr0 hc0
     ·obtain⟨r,hr0⟩:=Qag hl hr';obtain⟨c,hc0⟩:=Qag (hr i r r' hr0 hr') hc';exact hmv _ _ c c' _ hS (hc i r r' j c c' hr0 hr' hc0 hc') (r8 i r j c hr0 hc0)
abbrev finK (K:V→Heap→Prop):V→Heap→Prop
 |.pn v,H'=>K (.pn v) H'
 |x,H'=>∃S x' H2,FrzV H' S x x'∧FrzH H' S H2∧K x' H2
theorem Qbsi {K:V→Heap→Prop}{x:C}:finK K (.c x) H=∃S x' H2,FrzV H S (.c x) x'∧FrzH H S H2∧K x' H2:=rfl
theorem Qbp1 {K:V→Heap→Prop}{x:List C}:finK K (.ag x) H=∃S x' H2,FrzV H S (.ag x) x'∧FrzH H S H2∧K x' H2:=rfl
theorem Qblo {K:V→Heap→Prop}{x:List V}:finK K (.tup x) H=∃S x' H2,FrzV H S (.tup x) x'∧FrzH H S H2∧K x' H2:=rfl
theorem Qbp2 {K:V→Heap→Prop}{v:Value}:finK K (.pn v) H=K (.pn v) H:=rfl
attribute [go_sem] Qbsi Qbp1 Qblo Qbp2
theorem Qblp {K:V→Heap→Prop}{x:V}{v:Value}(h:finK K x H)(hr:RepV w g x v):∃S x' H2,FrzV H S x x'∧FrzH H S H2∧K x' H2:=by
 cases hr <;> exact h
theorem Qakp {f:Nat}{args:List V}{K:V→Heap→Prop}(h:Qj P f args H (finK K)):Qj P f args H K:=by
 refine⟨h.1,fun g w vs hs hl hv=>?_⟩;refine Calls.mono (h.2 g w vs hs hl hv) ?_;rintro e w' (⟨v,x,H',g',he,hx,hst,hr⟩|⟨v,H',g',he,hx,hst⟩)
 ·obtain⟨S,x',H2,hf,hh,hk⟩:=Qblp hx hr;exact .inl ⟨v,x',H2,g'.frz H' S,he,hk,hst.trans (Qbbt hst.sat hh),Qaxy hst.sat hf v hr⟩
 ·exact .inr ⟨v,H',g',he,hx,hst⟩
theorem Qi4 {e e':Env}(S:Nat→Bool){H2:Heap}(h:∀t,FrzV H S (lk t e) (lk t e'))(hh:FrzH H S H2):Qbo9 e H e' H2:=by
 intro g w tmps hs hr;exact⟨g.frz H S,Qbbt hs hh,fun t=>Qaxy hs (h t) _ (hr t)⟩
def un (H:Heap)(m:Nat):Bool:=!(H m).used
theorem Qbag {m:Nat}(h:H m≠.none):un H m=false:=by
 unfold un;cases hm:H m <;> first|rfl|exact absurd hm h
theorem Qu0 {m:Nat}(h:H m=.none):un H m=true:=by simp[un,h,Obj.used]
theorem Qbat {H':Heap}{m:Nat}(h:H m≠.none):H'.frz (un H) m=H' m:=by simp[Heap.frz,Qbag h]
def C.plain:C→Bool
 |.int _ _|.bool _|.str _|.sl _ _ _|.pp _|.pnil|.mnil|.slb _|.stb _|.cm _ _ _|.fnil|.unk=>true
 |_=>false
theorem Qd {S:Nat→Bool}{c:C}(h:c.plain=true):FrzC H S c c:=.same c (by cases c <;> simp_all[C.plain,C.isOw])
theorem Qaxz {S:Nat→Bool}{l sz n:Nat}{rows:List (List C)}(hS:S l=true)(hH:H l=.vec sz rows)(hn:n=rows.length)(hr:∀r∈rows,∀c∈r,c.isOw=false):FrzC H S (.vsl l sz 0 n) (.sl false sz rows):=by
 subst hn;refine .vsl l sz 0 rows.length rows rows rows hS hH (by omega) (by simp) rfl (fun i r r' h1 h2=>by rw[h1]at h2;simp at h2;rw[h2]) (fun i r r' j c c' h1 h2 h3 h4=>?_);rw[h1]at h2;simp at h2;subst h2;rw[h3]at h4;simp at h4;subst h4;exact .same _ (hr r (Jb h1) c (Jb h3))
theorem Qbg4 {S:Nat→Bool}{fl:Bool}{sz:Nat}{rows:List (List C)}(hr:∀r∈rows,∀c∈r,c.isOw=false):FrzC H S (.sl fl sz rows) (.sl false sz rows):=by
 refine .sl fl sz rows rows rfl (fun i r r' h1 h2=>by rw[h1]at h2;simp at h2;rw[h2]) (fun i r r' j c c' h1 h2 h3 h4=>?_);rw[h1]at h2;simp at h2;subst h2;rw[h3]at h4;simp at h4;subst h4;exact .same _ (hr r (Jb h1) c (Jb h3))
inductive FrzL (H:Heap)(S:Nat→Bool):List C→List C→Prop
 |nil:FrzL H S [] []
 |cons {c c':C} {l l':List C} (h:FrzC H S c c') (t:FrzL H S l l'):FrzL H S (c::l) (c'::l')
theorem FrzL.spec {S:Nat→Bool}{l l':List C}(h:FrzL H S l l'):l'.length=l.length∧∀(j:Nat) (c c':C),l[j]? = some c→l'[j]? = some c'→FrzC H S c c':=by
 induction h with
 |nil=>exact⟨rfl,fun j c c' h=>by simp at h⟩
 |cons h t ih=>
  refine⟨by simp[ih.1],fun j c c' h1 h2=>?_⟩
  cases j with
  |zero=>simp at h1 h2;subst h1;subst h2;exact h
  |succ j=>simp at h1 h2;exact ih.2 j c c' h1 h2
theorem FrzL.ag {S:Nat→Bool}{l l':List C}(h:FrzL H S l l'):FrzV H S (.ag l) (.ag l'):=.ag _ _ h.spec.1 h.spec.2
inductive FrzKL (H:Heap)(S:Nat→Bool):List C→List C→Prop
 |nil:FrzKL H S [] []
 |same {c:C} {l l':List C} (t:FrzKL H S l l'):FrzKL H S (c::l) (c::l')
 |cons {c c':C} {l l':List C} (h:c.isOw=false) (h':FrzC H S c c') (t:FrzKL H S l l'):FrzKL H S (c::l) (c'::l')
theorem FrzKL.st {S:Nat→Bool}{l l':List C}(h:FrzKL H S l l'):FrzO H S (.st l) (.st l'):=by
 have:l'.length=l.length∧∀(j:Nat) (c c':C),l[j]? = some c→l'[j]? = some c'→FrzK H S c c':=by
  induction h with
  |nil=>exact⟨rfl,fun j c c' h=>by simp at h⟩
  |same t ih=>
   refine⟨by simp[ih.1],fun j c c' h1 h2=>?_⟩
   cases j with
   |zero=>simp at h1 h2;subst h1;subst h2;exact .inl rfl
   |succ j=>simp at h1 h2;exact ih.2 j c c' h1 h2
  |cons h h' t ih=>
   refine⟨by simp[ih.1],fun j c c' h1 h2=>?_⟩
   cases j with
   |zero=>simp at h1 h2;subst h1;subst h2;exact .inr ⟨h,h'⟩
   |succ j=>simp at h1 h2;exact ih.2 j c c' h1 h2
 exact .st _ _ this.1 this.2
end Go.AE
namespace Go.AE
variable {P:Program}{H0 H H':Heap}{E L:List (Nat×Obj)}
structure Kn (H0 H:Heap)(E L:List (Nat×Obj)):Prop where
 get:∀p∈E++L,H p.1=p.2∧p.2≠.none
 ext:∀p∈E,H0 p.1≠.none
 loc:∀p∈L,H0 p.1=.none
 dE:(E.map Prod.fst).Nodup
 dL:(L.map Prod.fst).Nodup
 chg:∀m,H0 m≠.none→m∉E.map Prod.fst→H m=H0 m
def Upd (H H':Heap)(U:List (Nat×Obj)):Prop:=(∀p∈U,H' p.1=p.2)∧∀m,H m≠.none→m∉U.map Prod.fst→H' m=H m
theorem Kn.start0 (H:Heap):Kn H H [] []:=⟨by simp,by simp,by simp,by simp,by simp,fun _ _ _=>rfl⟩
theorem Kn.start1 {l:Nat}{o:Obj}(h:H l=o)(ho:o≠.none):Kn H H [(l,o)] []:=
 ⟨by simp[h,ho],by simp[h,ho],by simp,by simp,by simp,fun _ _ _=>rfl⟩
theorem Kn.start2 {l m:Nat}{o q:Obj}(h:H l=o)(ho:o≠.none)(h2:H m=q)(hq:q≠.none)(hn:l≠m):Kn H H [(l,o),(m,q)] []:=
 ⟨by simp[h,ho,h2,hq],by simp[h,ho,h2,hq],by simp,by simp[hn],by simp,fun _ _ _=>rfl⟩
theorem Kn.e (hk:Kn H0 H E L)(i:Nat){l:Nat}{o:Obj}(h:E[i]? = some (l,o)):H l=o:=
 (hk.get (l,o) (Jg _ (Jb h))).1
theorem Kn.l (hk:Kn H0 H E L)(i:Nat){l:Nat}{o:Obj}(h:L[i]? = some (l,o)):H l=o:=
 (hk.get (l,o) (Ji _ (Jb h))).1
theorem Kn.free (hk:Kn H0 H E L)(i:Nat){l:Nat}{o:Obj}(h:L[i]? = some (l,o)):H0 l=.none:=hk.loc (l,o) (Jb h)
theorem Kn.un (hk:Kn H0 H E L)(i:Nat){l:Nat}{o:Obj}(h:L[i]? = some (l,o)):un H0 l=true:=Qu0 (hk.free i h)
theorem Kn.usedE (hk:Kn H0 H E L)(i:Nat){l:Nat}{o:Obj}(h:E[i]? = some (l,o)):H0 l≠.none:=hk.ext (l,o) (Jb h)
theorem Kn.ne (hk:Kn H0 H E L)(i j:Nat){l m:Nat}{o q:Obj}(h:E[i]? = some (l,o))(h2:L[j]? = some (m,q)):l≠m:=fun hh=>by
 subst hh;exact hk.usedE i h (hk.free j h2)
theorem Qb6 {L:List (Nat×Obj)}{p:Nat×Obj}(h:p∈L):p.1∈L.map Prod.fst:=List.mem_map_of_mem h
theorem Qfq {L:List (Nat×Obj)}(hd:(L.map Prod.fst).Nodup){i j:Nat}{p q:Nat×Obj}(hi:L[i]? = some p)(hj:L[j]? = some q)(h:p.1=q.1):i=j:=by
 have h1:(L.map Prod.fst)[i]? = some p.1:=by simp[hi]
 have h2:(L.map Prod.fst)[j]? = some q.1:=by simp[hj]
 have hlt:i<(L.map Prod.fst).length:=(Jq.1 h1).1;exact (List.getElem?_inj hlt hd).1 (by rw[h1,h2,h])
theorem Kn.neL (hk:Kn H0 H E L)(i j:Nat){l m:Nat}{o q:Obj}(h:L[i]? = some (l,o))(h2:L[j]? = some (m,q))(hij:i≠j):l≠m:=fun hh=>
 hij (Qfq hk.dL h h2 hh)
theorem Kn.newFree (hk:Kn H0 H E L){x:Nat}(hx:H x=.none):H0 x=.none∧x∉E.map Prod.fst∧x∉L.map Prod.fst:=by
 have hno:∀p∈E++L,p.1≠x:=fun p hp hh=>by
  obtain⟨h1,h2⟩:=hk.get p hp;rw[hh,hx]at h1;exact h2 h1.symm
 have hE:x∉E.map Prod.fst:=fun h=>by
  obtain⟨p,hp,hh⟩:=Ju.1 h;exact hno p (Jg _ hp) hh
 refine⟨?_,hE,fun h=>?_⟩
 ·cases h0:H0 x with
  |none=>rfl
  |_=>have:=hk.chg x (by rw[h0];simp) hE;rw[hx,h0]at this;simp at this
 ·obtain⟨p,hp,hh⟩:=Ju.1 h;exact hno p (Ji _ hp) hh
theorem Kn.alloc (hk:Kn H0 H E L){x:Nat}{o:Obj}(hx:H x=.none)(ho:o≠.none):Kn H0 (H.set x o) E (L++[(x,o)]):=by
 obtain⟨h1,h2,h3⟩:=hk.newFree hx;refine⟨fun p hp=>?_,hk.ext,fun p hp=>?_,hk.dE,?_,fun m hm hn=>?_⟩
 ·rw[←Jaj]at hp;rcases Je.1 hp with hp|hp
  ·have:p.1≠x:=fun hh=>by
    rcases Je.1 hp with hp|hp
    ·exact h2 (hh▸Qb6 hp)
    ·exact h3 (hh▸Qb6 hp)
   rw[Heap.set_other _ _ this];exact hk.get p hp
  ·simp at hp;subst hp;exact⟨Heap.set_same _ _ _,ho⟩
 ·rcases Je.1 hp with hp|hp
  ·exact hk.loc p hp
  ·simp at hp;subst hp;exact h1
 ·rw[List.map_append];refine List.nodup_append.2 ⟨hk.dL,by simp,fun a ha b hb=>?_⟩;simp at hb;subst hb;exact fun hh=>h3 (hh▸ha)
 ·have:m≠x:=fun hh=>by subst hh;exact hm h1
  rw[Heap.set_other _ _ this];exact hk.chg m hm hn
theorem Qdj {L:List (Nat×Obj)}{i:Nat}{x:Nat}{o o':Obj}(h:L[i]? = some (x,o)):(L.set i (x,o')).map Prod.fst=L.map Prod.fst:=by
 rw[Jat];refine List.ext_getElem? fun j=>?_;rw[J2];split
 ·rename_i hij
  subst hij;have hlt:=(Jq.1 h).1;rw[if_pos (by simpa using hlt)];simp[h]
 ·rfl
theorem Qb8 {α:Type}{L:List α}{i:Nat}{x p:α}(h:p∈L.set i x):p=x∨∃j,j≠i∧L[j]? = some p:=by
 obtain⟨j,hj⟩:=List.getElem?_of_mem h;rw[J2]at hj;split at hj
 ·split at hj
  ·simp at hj;exact .inl hj.symm
  ·simp at hj
 ·rename_i hn;exact .inr ⟨j,fun h=>hn h.symm,hj⟩
theorem Kn.setL (hk:Kn H0 H E L)(i:Nat){x:Nat}{o o':Obj}(h:L[i]? = some (x,o))(ho:o'≠.none):Kn H0 (H.set x o') E (L.set i (x,o')):=by
 have hf:=hk.free i h;refine⟨fun p hp=>?_,hk.ext,fun p hp=>?_,hk.dE,by rw[Qdj h];exact hk.dL,fun m hm hn=>?_⟩
 ·rcases Je.1 hp with hp|hp
  ·have:p.1≠x:=fun hh=>hk.ext p hp (hh▸hf);rw[Heap.set_other _ _ this];exact hk.get p (Jg _ hp)
  ·rcases Qb8 hp with rfl|⟨j,hj,hp⟩
   ·exact⟨Heap.set_same _ _ _,ho⟩
   ·have:p.1≠x:=fun hh=>hj (Qfq hk.dL hp h hh);rw[Heap.set_other _ _ this];exact hk.get p (Ji _ (Jb hp))
 ·rcases Qb8 hp with rfl|⟨j,hj,hp⟩
  ·exact hf
  ·exact hk.loc p (Jb hp)
 ·have:m≠x:=fun hh=>by subst hh;exact hm hf
  rw[Heap.set_other _ _ this];exact hk.chg m hm hn
theorem Kn.setE (hk:Kn H0 H E L)(i:Nat){x:Nat}{o o':Obj}(h:E[i]? = some (x,o))(ho:o'≠.none):Kn H0 (H.set x o') (E.set i (x,o')) L:=by
 have hf:=hk.usedE i h;refine⟨fun p hp=>?_,fun p hp=>?_,hk.loc,by rw[Qdj h];exact hk.dE,hk.dL,fun m hm hn=>?_⟩
 ·rcases Je.1 hp with hp|hp
  ·rcases Qb8 hp with rfl|⟨j,hj,hp⟩
   ·exact⟨Heap.set_same _ _ _,ho⟩
   ·have:p.1≠x:=fun hh=>hj (Qfq hk.dE hp h hh);rw[Heap.set_other _ _ this];exact hk.get p (Jg _ (Jb hp))
  ·have:p.1≠x:=fun hh=>hf (hh▸hk.loc p hp);rw[Heap.set_other _ _ this];exact hk.get p (Ji _ hp)
 ·rcases Qb8 hp with rfl|⟨j,hj,hp⟩
  ·exact hf
  ·exact hk.ext p (Jb hp)
 ·rw[Qdj h]at hn;have:m≠x:=fun hh=>by subst hh;exact hn (Qb6 (p:=(m,o)) (Jb h))
  rw[Heap.set_other _ _ this];exact hk.chg m hm hn
theorem Kn.app (hk:Kn H0 H E L)(i:Nat){y y':Nat}{o o':Obj}(h:L[i]? = some (y,o))(hy:(H.set y .none) y'=.none)(ho:o'≠.none) :
  Kn H0 ((H.set y .none).set y' o') E (L.set i (y',o')):=by
 have hf:=hk.free i h;have hyf:H0 y'=.none∧y'∉E.map Prod.fst∧∀(j:Nat) (p:Nat×Obj),j≠i→L[j]? = some p→p.1≠y':=by
  by_cases hyy:y'=y
  ·subst hyy;refine⟨hf,fun hh=>?_,fun j p hj hp hh=>hj (Qfq hk.dL hp h hh)⟩;obtain⟨p,hp,hh⟩:=Ju.1 hh;exact hk.ext p hp (hh▸hf)
  ·rw[Heap.set_other _ _ hyy]at hy;obtain⟨h1,h2,h3⟩:=hk.newFree hy;exact⟨h1,h2,fun j p hj hp hh=>h3 (hh▸Qb6 (Jb hp))⟩
 obtain⟨h1,h2,h3⟩:=hyf;refine⟨fun p hp=>?_,hk.ext,fun p hp=>?_,hk.dE,?_,fun m hm hn=>?_⟩
 ·rcases Je.1 hp with hp|hp
  ·have a1:p.1≠y:=fun hh=>hk.ext p hp (hh▸hf);have a2:p.1≠y':=fun hh=>hk.ext p hp (hh▸h1);rw[Heap.set_other _ _ a2,Heap.set_other _ _ a1];exact hk.get p (Jg _ hp)
  ·rcases Qb8 hp with rfl|⟨j,hj,hp⟩
   ·exact⟨Heap.set_same _ _ _,ho⟩
   ·have a1:p.1≠y:=fun hh=>hj (Qfq hk.dL hp h hh);rw[Heap.set_other _ _ (h3 j p hj hp),Heap.set_other _ _ a1];exact hk.get p (Ji _ (Jb hp))
 ·rcases Qb8 hp with rfl|⟨j,hj,hp⟩
  ·exact h1
  ·exact hk.loc p (Jb hp)
 ·rw[Jat];refine J8.2 fun a b ha hb hab=>?_;rw[List.length_set,List.length_map]at ha hb;have gl:∀(j:Nat) (hj:j<L.length),j≠i→L[j].1≠y':=fun j hj hji=>h3 j L[j] hji (Jl hj);have hd:=J8.1 hk.dL a b (by simpa using ha) (by simpa using hb) hab;simp only[List.getElem_set,List.getElem_map]at hd⊢;by_cases e1:i=a
  ·subst e1;rw[if_pos rfl,if_neg (by omega)];exact fun hh=>gl b hb (by omega) hh.symm
  ·rw[if_neg e1];by_cases e2:i=b
   ·subst e2;rw[if_pos rfl];exact gl a ha (by omega)
   ·rw[if_neg e2];exact hd
 ·have a1:m≠y:=fun hh=>by subst hh;exact hm hf
  have a2:m≠y':=fun hh=>by subst hh;exact hm h1
  rw[Heap.set_other _ _ a2,Heap.set_other _ _ a1];exact hk.chg m hm hn
theorem Kn.callg (hk:Kn H0 H E L){U E2 L2:List (Nat×Obj)}(hu:Upd H H' U)(hE:E2.map Prod.fst=E.map Prod.fst)(hL:L2.map Prod.fst=L.map Prod.fst)
  (h:∀p∈E2++L2,p.2≠.none∧(p∈U∨(p∈E++L∧p.1∉U.map Prod.fst))) (hU:∀u∈U,u.1∈E.map Prod.fst∨u.1∈L.map Prod.fst):Kn H0 H' E2 L2:=by
 have hin:∀{A B:List (Nat×Obj)} {p:Nat×Obj},B.map Prod.fst=A.map Prod.fst→p∈B→∃q∈A,q.1=p.1:=fun hAB hp=>by
  have:=Qb6 hp;rw[hAB]at this;obtain⟨q,h1,h2⟩:=Ju.1 this;exact⟨q,h1,h2⟩
 refine⟨fun p hp=>?_,fun p hp=>?_,fun p hp=>?_,by rw[hE];exact hk.dE,by rw[hL];exact hk.dL,fun m hm hn=>?_⟩
 ·obtain⟨h1,h2⟩:=h p hp;refine⟨?_,h1⟩;rcases h2 with h2|⟨h2,h3⟩
  ·exact hu.1 p h2
  ·obtain⟨a1,a2⟩:=hk.get p h2;rw[hu.2 p.1 (by rw[a1];exact a2) h3,a1]
 ·obtain⟨q,hq,hh⟩:=hin hE hp;rw[←hh];exact hk.ext q hq
 ·obtain⟨q,hq,hh⟩:=hin hL hp;rw[←hh];exact hk.loc q hq
 ·rw[hE]at hn;have h0:=hk.chg m hm hn;rw[hu.2 m (by rw[h0];exact hm) (fun hh=>?_),h0];obtain⟨u,hu1,hu2⟩:=Ju.1 hh;rcases hU u hu1 with a|a
  ·exact hn (hu2▸a)
  ·obtain⟨q,hq,hh⟩:=Ju.1 a;exact hm (by rw[←hu2,←hh];exact hk.loc q hq)
theorem Kn.neE (hk:Kn H0 H E L)(i j:Nat){l m:Nat}{o q:Obj}(h:E[i]? = some (l,o))(h2:E[j]? = some (m,q))(hij:i≠j):l≠m:=fun hh=>
 hij (Qfq hk.dE h h2 hh)
theorem Kn.call0 (hk:Kn H0 H E L)(hu:Upd H H' []):Kn H0 H' E L:=hk.callg hu rfl rfl (fun p hp=>⟨(hk.get p hp).2,.inr ⟨hp,by simp⟩⟩) (by simp)
theorem Kn.callE (hk:Kn H0 H E L)(i:Nat){l:Nat}{o o':Obj}(h:E[i]? = some (l,o))(hu:Upd H H' [(l,o')])(ho:o'≠.none):Kn H0 H' (E.set i (l,o')) L:=by
 refine hk.callg hu (Qdj h) rfl (fun p hp=>?_) (fun u hu=>by simp at hu;subst hu;exact .inl (Qb6 (p:=(l,o)) (Jb h)));rcases Je.1 hp with hp|hp
 ·rcases Qb8 hp with rfl|⟨j,hj,hp⟩
  ·exact⟨ho,.inl (by simp)⟩
  ·have hm:=Jg L (Jb hp);exact⟨(hk.get p hm).2,.inr ⟨hm,by simp;exact fun hh=>hj (Qfq hk.dE hp h hh)⟩⟩
 ·have hm:=Ji E hp;exact⟨(hk.get p hm).2,.inr ⟨hm,by simp;exact fun hh=>hk.usedE i h (hh▸hk.loc p hp)⟩⟩
theorem Kn.callL (hk:Kn H0 H E L)(i:Nat){l:Nat}{o o':Obj}(h:L[i]? = some (l,o))(hu:Upd H H' [(l,o')])(ho:o'≠.none):Kn H0 H' E (L.set i (l,o')):=by
 refine hk.callg hu rfl (Qdj h) (fun p hp=>?_) (fun u hu=>by simp at hu;subst hu;exact .inr (Qb6 (p:=(l,o)) (Jb h)));rcases Je.1 hp with hp|hp
 ·have hm:=Jg L hp;exact⟨(hk.get p hm).2,.inr ⟨hm,by simp;exact fun hh=>hk.ext p hp (hh▸hk.free i h)⟩⟩
 ·rcases Qb8 hp with rfl|⟨j,hj,hp⟩
  ·exact⟨ho,.inl (by simp)⟩
  ·have hm:=Ji E (Jb hp);exact⟨(hk.get p hm).2,.inr ⟨hm,by simp;exact fun hh=>hj (Qfq hk.dL hp h hh)⟩⟩
theorem Kn.callEE (hk:Kn H0 H E L)(i j:Nat){l m:Nat}{o o' q q':Obj}(h:E[i]? = some (l,o))(h2:E[j]? = some (m,q))(hij:i≠j)(hu:Upd H H' [(l,o'),(m,q')])(ho:o'≠.none)(hq:q'≠.none) :
  Kn H0 H' ((E.set i (l,o')).set j (m,q')) L:=by
 have h2':(E.set i (l,o'))[j]? = some (m,q):=by rw[J2];rw[if_neg hij];exact h2
 refine hk.callg hu ((Qdj h2').trans (Qdj h)) rfl (fun p hp=>?_) (fun u hu=>?_)
 ·rcases Je.1 hp with hp|hp
  ·rcases Qb8 hp with rfl|⟨b,hb,hp⟩
   ·exact⟨hq,.inl (by simp)⟩
   ·rcases Qb8 (Jb hp)with rfl|⟨c,hc,hp'⟩
    ·exact⟨ho,.inl (by simp)⟩
    ·have hm:=Jg L (Jb hp');rw[J2]at hp;split at hp
     ·rename_i hib
      split at hp
      ·simp at hp;subst hp;exact⟨ho,.inl (by simp)⟩
      ·simp at hp
     ·rename_i hib
      refine⟨(hk.get p hm).2,.inr ⟨hm,?_⟩⟩;simp only[Js,Jak,Jf,J4,or_false,not_or];exact⟨fun hh=>hib (Qfq hk.dE hp h hh).symm,fun hh=>hb (Qfq hk.dE hp h2 hh)⟩
  ·have hm:=Ji E hp;refine⟨(hk.get p hm).2,.inr ⟨hm,?_⟩⟩;simp only[Js,Jak,Jf,J4,or_false,not_or];exact⟨fun hh=>hk.usedE i h (hh▸hk.loc p hp),fun hh=>hk.usedE j h2 (hh▸hk.loc p hp)⟩
 ·simp at hu;rcases hu with rfl|rfl
  ·exact .inl (Qb6 (p:=(l,o)) (Jb h))
  ·exact .inl (Qb6 (p:=(m,q)) (Jb h2))
theorem Kn.fin (hk:Kn H0 H E L):Upd H0 (H.frz (Go.AE.un H0)) E:=by
 refine⟨fun p hp=>?_,fun m hm hn=>?_⟩
 ·rw[Qbat (hk.ext p hp)];exact (hk.get p (Jg _ hp)).1
 ·rw[Qbat hm];exact hk.chg m hm hn
abbrev unK (H:Heap)(K:V→Heap→Prop):V→Heap→Prop
 |.pn v,H'=>K (.pn v) (H'.frz (un H))
 |x,H'=>∃x',FrzV H' (un H) x x'∧K x' (H'.frz (un H))
theorem Qbu7 {K:V→Heap→Prop}{H0:Heap}{x:C}:unK H0 K (.c x) H=∃x',FrzV H (un H0) (.c x) x'∧K x' (H.frz (un H0)):=rfl
theorem Qbtt {K:V→Heap→Prop}{H0:Heap}{x:List C}:unK H0 K (.ag x) H=∃x',FrzV H (un H0) (.ag x) x'∧K x' (H.frz (un H0)):=rfl
theorem Qbrq {K:V→Heap→Prop}{H0:Heap}{x:List V}:unK H0 K (.tup x) H=∃x',FrzV H (un H0) (.tup x) x'∧K x' (H.frz (un H0)):=rfl
theorem Qbrr {K:V→Heap→Prop}{H0:Heap}:unK H0 K .unk H=∃x',FrzV H (un H0) .unk x'∧K x' (H.frz (un H0)):=rfl
theorem Qbtu {K:V→Heap→Prop}{H0:Heap}{v:Value}:unK H0 K (.pn v) H=K (.pn v) (H.frz (un H0)):=rfl
attribute [go_sem] Qbu7 Qbtt Qbrq Qbrr Qbtu
theorem Qn {f:Nat}{args:List V}{K:V→Heap→Prop}(h:Qj P f args H (unK H K)):Qj P f args H K:=
 Qbgh (Qbb3 h fun x H' hx=>by
  cases x with
  |pn v=>exact⟨un H,hx⟩
  |_=>
   obtain⟨x',h1,h2⟩:=hx;exact⟨un H,x',h1,h2⟩)
theorem Kn.al (hk:Kn H0 H E L){x:Nat}{o:Obj}(hx:H x=.none)(h1:H'=H.set x o)(ho:o≠.none:=by nofun):Kn H0 H' E (L++[(x,o)]):=h1▸hk.alloc hx ho
theorem Kn.stL (hk:Kn H0 H E L)(i:Nat){x:Nat}{o o':Obj}(h:L[i]? = some (x,o))(h1:H'=H.set x o')(ho:o'≠.none:=by nofun):Kn H0 H' E (L.set i (x,o')):=h1▸hk.setL i h ho
theorem Kn.stE (hk:Kn H0 H E L)(i:Nat){x:Nat}{o o':Obj}(h:E[i]? = some (x,o))(h1:H'=H.set x o')(ho:o'≠.none:=by nofun):Kn H0 H' (E.set i (x,o')) L:=h1▸hk.setE i h ho
theorem Kn.ap (hk:Kn H0 H E L)(i:Nat){y y':Nat}{o o':Obj}(h:L[i]? = some (y,o))(hy:(H.set y .none) y'=.none)(h1:H'=(H.set y .none).set y' o')(ho:o'≠.none:=by nofun):Kn H0 H' E (L.set i (y',o')):=h1▸hk.app i h hy ho
end Go.AE
namespace Go.AE.Y
theorem Qm {x:Int}(h1:-(2^63)≤x)(h2:x<2^63):inR .i64 x:=by
 unfold inR;have a1:IntKind.min .i64=-(2^63):=by decide
 have a2:IntKind.max .i64=2^63-1:=by decide
 rw[a1,a2];omega
theorem Qbal (b:UInt8):inR .i64 (b.toNat:Int):=Qm (by omega) (by have:=b.toNat_lt;omega)
def Qcu (bs:List UInt8):List (List C):=bs.map fun b=>[.int .u8 b.toNat]
theorem Qca (bs:List UInt8):(Qcu bs).length=bs.length:=by simp[Qcu]
theorem Qafz (bs:List UInt8)(i:Nat)(h:i<bs.length):(Qcu bs).getD i []=[.int .u8 (bs.getD i 0).toNat]:=by
 simp[Qcu,Jh,h]
theorem Qbrx {a b:Int}(ha:0≤a)(hb:0≤b)(ha':a<2^62)(hb':b<2^62):0≤Qbb5 .xor .i64 a b:=by
 obtain⟨m,rfl⟩:=Jv ha;obtain⟨n,rfl⟩:=Jv hb;have hm:m<2^62:=by omega
 have hn:n<2^62:=by omega
 have hx:m ^^^ n<2^62:=Nat.xor_lt_two_pow hm hn;have h1:(BitVec.ofInt (IntKind.bits .i64) (m:Int) ^^^ BitVec.ofInt (IntKind.bits .i64) (n:Int)).toNat=m ^^^ n:=by
  have hb:IntKind.bits .i64=64:=rfl;rw[hb,BitVec.toNat_xor];have e1:(BitVec.ofInt 64 (m:Int)).toNat=m:=by simp;omega
  have e2:(BitVec.ofInt 64 (n:Int)).toNat=n:=by simp;omega
  rw[e1,e2]
 simp only[Qbb5];rw[h1];simp only[IntKind.wrap];have hb:IntKind.bits .i64=64:=rfl;have hm:((m ^^^ n:Nat):Int) % 2 ^ 64=(m ^^^ n:Nat):=Int.emod_eq_of_lt (by omega) (by omega);rw[hb,hm];rw[if_neg]
 ·omega
 ·simp only[Ja,decide_eq_true_eq,not_and];intro _;omega
structure Rdr where
 l:Nat
 fl:Bool
 bs:List UInt8
def Rdr.o (R:Rdr)(k:Nat):Obj:=.st [.sl R.fl 1 (Qcu R.bs),.int .i64 k]
theorem Rdr.o_ne (R:Rdr)(k:Nat):R.o k≠.none:=by simp[Rdr.o]
def Q0 (ns:List Int):List (List C):=ns.map fun n=>[.int .i64 n]
theorem Qt (ns:List Int):(Q0 ns).length=ns.length:=by simp[Q0]
theorem Qbj (ns:List Int)(i:Nat)(h:i<ns.length):(Q0 ns).getD i []=[.int .i64 (ns.getD i 0)]:=by
 simp[Q0,Jh,h]
theorem Qqz (a b:List Int):Q0 (a++b)=Q0 a++Q0 b:=by simp[Q0]
theorem Qay (ns:List Int):∀r∈Q0 ns,noOw r=true:=by
 intro r hr;simp[Q0]at hr;obtain⟨n,_,rfl⟩:=hr;rfl
def Q9 (ss:List (List UInt8)):List (List C):=ss.map fun s=>[.str s]
theorem Qo (ss:List (List UInt8)):(Q9 ss).length=ss.length:=by simp[Q9]
theorem Qbs (ss:List (List UInt8))(i:Nat)(h:i<ss.length):(Q9 ss).getD i []=[.str (ss.getD i [])]:=by
 simp[Q9,Jh,h]
theorem Qbf4:Q9 []=[]:=rfl
theorem Quy (a:List (List UInt8))(n:List UInt8):Q9 a++[[.str n]]=Q9 (a++[n]):=by simp[Q9]
theorem Qb1 (ns:List (List UInt8)):∀r∈Q9 ns,noOw r=true:=by
 intro r hr;simp[Q9]at hr;obtain⟨n,_,rfl⟩:=hr;rfl
theorem Qabi {rows:List (List C)}(h:∀r∈rows,noOw r=true):∀r∈rows,∀c∈r,c.isOw=false:=fun r hr c hc=>by
 have:=h r hr;simp only[noOw,J3]at this;simpa using this c hc
theorem noOw_app {a b:List (List C)}(ha:∀r∈a,noOw r=true)(hb:∀r∈b,noOw r=true):∀r∈a++b,noOw r=true:=fun r hr=>by
 rcases Je.1 hr with h|h
 ·exact ha r h
 ·exact hb r h
inductive Ex where
 |mk (op n:Int) (name:List UInt8) (kids:List Ex)
def Ex.op:Ex→Int|.mk op _ _ _=>op
def Ex.n:Ex→Int|.mk _ n _ _=>n
def Ex.name:Ex→List UInt8|.mk _ _ s _=>s
def Ex.kids:Ex→List Ex|.mk _ _ _ k=>k
mutual
def Ex.cells:Ex→List C
 |.mk op n name kids=>[.int .i64 op,.int .i64 n,.str name,.sl false 4 (Qw kids)]
def Qw:List Ex→List (List C)
 |[]=>[]
 |x::r=>x.cells::Qw r
end
theorem Ex.cells_eq (x:Ex):x.cells=[.int .i64 x.op,.int .i64 x.n,.str x.name,.sl false 4 (Qw x.kids)]:=by
 cases x;simp[Ex.cells,Ex.op,Ex.n,Ex.name,Ex.kids]
theorem Qx7 (l:List Ex):Qw l=l.map Ex.cells:=by
 induction l with
 |nil=>simp[Qw]
 |cons x r ih=>simp[Qw,ih]
theorem Ql (l:List Ex):(Qw l).length=l.length:=by simp[Qx7]
theorem Qaq (l:List Ex)(i:Nat)(h:i<l.length):(Qw l).getD i []=(l[i]'h).cells:=by
 simp[Qx7,Jh,h]
theorem Qf1 (a:List Ex)(x:Ex):Qw a++[x.cells]=Qw (a++[x]):=by simp[Qx7]
theorem Ex.noOw (x:Ex):Go.AE.noOw x.cells=true:=by rw[x.cells_eq];rfl
theorem Qa5 (l:List Ex):∀r∈Qw l,Go.AE.noOw r=true:=by
 intro r hr;rw[Qx7]at hr;obtain⟨x,_,rfl⟩:=Ju.1 hr;exact x.noOw
theorem Ex.cells_len (x:Ex):x.cells.length=4:=by rw[x.cells_eq];rfl
mutual
def Ex.size:Ex→Nat
 |.mk _ _ _ kids=>1+Qr kids
def Qr:List Ex→Nat
 |[]=>0
 |x::r=>x.size+Qr r
end
mutual
def Ex.ok:Ex→Prop
 |.mk op _ _ kids=>(op=10→kids.length=2)∧Qda kids
def Qda:List Ex→Prop
 |[]=>True
 |x::r=>x.ok∧Qda r
end
theorem Qqt {l:List Ex}(h:Qda l):∀x∈l,x.ok:=by
 induction l with
 |nil=>simp
 |cons y r ih=>
  simp only[Qda]at h;intro x hx;rcases Jf.1 hx with rfl|hx
  ·exact h.1
  ·exact ih h.2 x hx
theorem Qbgw {a b:List Ex}(ha:Qda a)(hb:Qda b):Qda (a++b):=by
 induction a with
 |nil=>exact hb
 |cons x r ih=>simp only[Qda]at ha;exact⟨ha.1,ih ha.2⟩
theorem Qnv (a b:List Ex):Qr (a++b)=Qr a+Qr b:=by
 induction a with
 |nil=>simp[Qr]
 |cons x r ih=>simp[Qr,ih];omega
theorem Ex.size_pos (x:Ex):1≤x.size:=by cases x;simp[Ex.size]
theorem Qar {l:List Ex}{x:Ex}(h:x∈l):x.size≤Qr l:=by
 induction l with
 |nil=>simp at h
 |cons y r ih=>
  simp only[Qr];rcases Jf.1 h with rfl|h
  ·omega
  ·have:=ih h;omega
theorem Ex.size_kids (x:Ex):x.size=1+Qr x.kids:=by cases x;simp[Ex.size,Ex.kids]
theorem Ex.ok_kids {x:Ex}(h:x.ok):Qda x.kids:=by cases x;simp only[Ex.ok]at h;exact h.2
theorem Ex.ok_and {x:Ex}(h:x.ok)(h1:x.op=10):x.kids.length=2:=by cases x;simp only[Ex.ok]at h;exact h.1 h1
theorem Ex.frz {H:Heap}{S:Nat→Bool}{fl:Bool}(x:Ex):FrzV H S (.ag [.int .i64 x.op,.int .i64 x.n,.str x.name,.sl fl 4 (Qw x.kids)]) (.ag x.cells):=by
 rw[x.cells_eq];exact (FrzL.cons (Qd rfl) (FrzL.cons (Qd rfl) (FrzL.cons (Qd rfl) (FrzL.cons (Qbg4 (Qabi (Qa5 _))) FrzL.nil)))).ag
end Go.AE.Y
attribute [go_sem_proc] reduceIte reduceEqDiff reduceAdd reduceLeDiff reduceLT reduceCtorEq
namespace Go.AE.Y
open Go.Proofs.Tryz
theorem Qad:prog.follows .mixedOrders=true:=by kernel_rfl
theorem Qbq7 (l : Nat) (fl : Bool) (bs : List UInt8) (k : Nat) (n : Int) (H : Heap) (K : V → Heap → Prop)
   (hH : H l = .st [.sl fl 1 (Qcu bs), .int .i64 k]) (hp' : k ≤ 2^40)
   (hK : ∀ v : Int, (if n < 1 then v = 0 else 0 ≤ v ∧ v < n) → K (.c (.int .i64 v)) (H.set l (.st [.sl fl 1 (Qcu bs), .int .i64 ((k + 1 : Nat) : Int)]))) :
   Qj prog Qz [.c (.ptr l 0), .c (.int .i64 n)] H K := by
  refine Qb Qad Qa1w ?_;refine Qa ?_;simp only [go_sem, Nat.reduceEqDiff, Nat.reduceAdd];refine Qa ?_;simp only [go_sem, Nat.reduceEqDiff, Nat.reduceAdd, Nat.reduceLT, hH];refine ⟨Qm (by omega) (by omega), fun H2 hH2' => ?_⟩;have hH2 : H2 l = .st [C.sl fl 1 (Qcu bs), C.int IntKind.i64 (k + 1)] := by rw [hH2']; exact Heap.set_same _ _ _
  have hK2 : ∀ v : Int, (if n < 1 then v = 0 else 0 ≤ v ∧ v < n) → K (.c (.int .i64 v)) H2 := by
    intro v hv; rw [hH2']; exact hK v hv
  clear hK;refine Q5 ?_;refine Qa ?_;simp only [go_sem, Qca, Nat.reduceEqDiff, Nat.reduceAdd, Nat.reduceLeDiff, hH2];intro _;refine Qg (Qc rfl ?_ ?_)
  · intro hc;refine Qa ?_;simp only [go_sem, Nat.reduceEqDiff];refine Qi ?_;simp only [go_sem, Qq, Q7, Qpr, Jo, forall_eq, RS.op];refine hK2 0 ?_;split <;> omega
  · intro hc;refine Qf ?_;simp only [go_sem];have hn : 1 ≤ n ∧ bs.length ≠ 0 := by
      simp only [cond_eq_ite] at hc;split at hc
      · simp at hc
      · simp at hc; simp_all
    refine Qa ?_;simp only [go_sem, Nat.reduceEqDiff, Nat.reduceAdd, hH2];refine ⟨Qm (by omega) (by omega), ?_⟩;refine Q5 ?_;refine Qa ?_;simp only [go_sem, Qca, Nat.reduceEqDiff, Nat.reduceAdd, Nat.reduceLeDiff, hH2];intro hl;refine Qg (Qc rfl ?_ ?_)
    · intro hc2;have hk : k < bs.length := (by simpa using hc2);refine Qa ?_;simp only [go_sem, Qca, Qbal, Nat.reduceEqDiff, Nat.reduceAdd, Nat.reduceLeDiff, hH2, hk, Qafz];refine ⟨by omega, ?_⟩;refine Qi ?_;simp only [go_sem, Qq, Q7, Qpr, Jo, forall_eq, RS.op];refine hK2 _ ?_;rw [if_neg (by omega)];exact ⟨Jan _ (by omega), Jag _ (by omega)⟩
    · intro hc2;refine Qf ?_;simp only [go_sem];refine Qaf ?_;have e1 : ((k : Int).tmod (bs.length : Int)) = ((k % bs.length : Nat) : Int) := rfl;have e2 : (((k : Int) * 7 + 3).tmod (bs.length : Int)) = (((k * 7 + 3) % bs.length : Nat) : Int) := rfl;have h1 : k % bs.length < bs.length := Nat.mod_lt _ (by omega);have h2 : (k * 7 + 3) % bs.length < bs.length := Nat.mod_lt _ (by omega);simp only [go_sem, Qca, Qbal, Nat.reduceEqDiff, Nat.reduceAdd, Nat.reduceLeDiff, hH2, e1, e2, h1, h2, Qafz];have e3 : (k : Int).tdiv (bs.length : Int) = ((k / bs.length : Nat) : Int) := rfl;have h3 : k / bs.length ≤ k := Nat.div_le_self _ _;rw [e3];have h4 := (bs.getD (k % bs.length) 0).toNat_lt;have h5 := (bs.getD ((k * 7 + 3) % bs.length) 0).toNat_lt;generalize (bs.getD (k % bs.length) 0).toNat = b1 at *;generalize (bs.getD ((k * 7 + 3) % bs.length) 0).toNat = b2 at *;generalize k / bs.length = d at *;clear e1 e2 h1 h2 e3;refine ⟨by omega, Qm (by omega) (by omega), Qm (by omega) (by omega), Qm (by omega) (by omega), by omega, Qm (by omega) (by omega), Qm (by omega) (by omega),
        Qm (by omega) (by omega), Qm (by omega) (by omega), ⟨by omega, Qm (by omega) (by omega)⟩, Qm (by omega) (by omega), Qm (by omega) (by omega), ?_⟩
      have hx : 0 ≤ (b1 : Int) * 131 + b2 * 1117 + k * 29 + d * 53 := (by omega);have hx' : (b1 : Int) * 131 + b2 * 1117 + k * 29 + d * 53 < 2 ^ 62 := (by omega);generalize (b1 : Int) * 131 + b2 * 1117 + k * 29 + d * 53 = x at *;refine Qa ?_;simp only [go_sem, Nat.reduceEqDiff];have hq : 0 ≤ x.tdiv 64 := Int.tdiv_nonneg hx (by omega);have hq' : x.tdiv 64 ≤ x := (by have := Int.tdiv_le_self (a := x) 64 hx; exact this);refine ⟨⟨by omega, Qm (by omega) (by omega)⟩, ?_⟩;have hy := Qbrx hx hq hx' (by omega);generalize Qbb5 .xor .i64 x (x.tdiv 64) = y at *;refine Qa ?_;simp only [go_sem, Nat.reduceEqDiff];refine ⟨by omega, ?_⟩;refine Qi ?_;simp only [go_sem, Qq, Q7, Qpr, Jo, forall_eq, RS.op];refine hK2 _ ?_;rw [if_neg (by omega)];exact ⟨Jan _ (by omega), Jag _ (by omega)⟩
theorem Qcp {R:Rdr}{k:Nat}{n:Int}{H:Heap}{K:V→Heap→Prop}(hH:H R.l=R.o k)(hk:k≤2^40)
  (hK:∀(v:Int) (H':Heap),(if n<1 then v=0 else 0≤v∧v<n)→Upd H H' [(R.l,R.o (k+1))]→K (.c (.int .i64 v)) H') :
  Qj prog Qz [.c (.ptr R.l 0),.c (.int .i64 n)] H K:=
 Qbq7 R.l R.fl R.bs k n H K hH hk fun v hv=>hK v _ hv ⟨by simp[Heap.set_same,Rdr.o],fun m _ hm=>Heap.set_other _ _ (by simpa using hm)⟩
theorem Qys {R:Rdr}{k:Nat}{fl:Bool}{ns:List Int}{H:Heap}{K:V→Heap→Prop}(hH:H R.l=R.o k)(hk:k≤2^40)(hns:0<ns.length)
  (hK:∀(v:Int) (H':Heap),v∈ns→Upd H H' [(R.l,R.o (k+1))]→K (.c (.int .i64 v)) H') :
  Qj prog Qax [.c (.ptr R.l 0),.c (.sl fl 1 (Q0 ns))] H K:=by
 refine Qb Qad Qa6j ?_;refine Qa ?_;simp only[go_sem];refine Qa ?_;simp only[go_sem,Qt];intro hl;refine Qcp hH hk fun v H' hv hu=>?_;rw[if_neg (by omega)]at hv;obtain⟨i,rfl⟩:=Jv hv.1;have hi:i<ns.length:=by omega
 simp only[go_sem,Q7f,Qt,Qbj,hi];refine Qi ?_;simp only[go_sem,Qq,Q7,Qpr,Jo,forall_eq,RS.op];refine hK _ H' ?_ hu;rw[Jh,Jl hi];exact Jam hi
theorem of_c {R:Rdr}{k:Nat}{fl:Bool}{ss:List (List UInt8)}{H:Heap}{K:V→Heap→Prop}(hH:H R.l=R.o k)(hk:k≤2^40)(hns:0<ss.length)
  (hK:∀(v:List UInt8) (H':Heap),v∈ss→Upd H H' [(R.l,R.o (k+1))]→K (.c (.str v)) H') :
  Qj prog Qbq [.c (.ptr R.l 0),.c (.sl fl 1 (Q9 ss))] H K:=by
 refine Qb Qad Qbcw ?_;refine Qa ?_;simp only[go_sem];refine Qa ?_;simp only[go_sem,Qo];intro hl;refine Qcp hH hk fun v H' hv hu=>?_;rw[if_neg (by omega)]at hv;obtain⟨i,rfl⟩:=Jv hv.1;have hi:i<ss.length:=by omega
 simp only[go_sem,Qacf,Qo,Qbs,hi];refine Qi ?_;simp only[go_sem,Qq,Q7,Qpr,Jo,forall_eq,RS.op];refine hK _ H' ?_ hu;rw[Jh,Jl hi];exact Jam hi
theorem Qbay {R:Rdr}{k:Nat}{fl:Bool}{ss:List (List UInt8)}{H:Heap}{K:V→Heap→Prop}(hH:H R.l=R.o k)(hk:k+2≤2^40)
  (hK:∀(x:Ex) (H':Heap) (k':Nat),k<k'→k'≤k+2→Upd H H' [(R.l,R.o k')]→x.ok→x.size=1→K (.ag x.cells) H') :
  Qj prog Qyc [.c (.ptr R.l 0),.c (.sl fl 1 (Q9 ss))] H K:=by
 refine Qn ?_;refine Qb Qad Qba9 ?_;refine Qa ?_;simp only[go_sem];intro x hx H1 h1;have kn:=(Kn.start1 hH (R.o_ne k)).al hx h1;refine Q5 ?_;refine Qa ?_;simp only[go_sem,Qo];intro hl;have rest:∀(b:Bool) (H2:Heap) (k2:Nat),k≤k2→k2≤k+1→Kn H H2 [(R.l,R.o k2)] [(x,.st [.int .i64 0,.int .i64 0,.str [],.sl true 4 []])]→(b=false→0<ss.length)→
   Q8 prog (s_l2Leaf_2.seq Qaex) (Qq Qps (unK H K)) [(0,V.c (C.ptr R.l 0)),(1,V.c (C.sl fl 1 (Q9 ss))),(4,V.c (C.ptr x 0)),(12,V.c (.bool b))] H2:=by
  intro b H2 k2 hk1 hk2 kn hb;refine Qg (Qc rfl ?_ ?_)
  ·intro hb';refine Qa ?_;simp only[go_sem];refine Qys (ns:=[0,1,2,3,5,7,15,16,100,255]) (kn.e 0 rfl) (by omega) (by simp) fun v H3 hv hu=>?_;have kn:=kn.callE 0 rfl hu (R.o_ne _);have hx3:=kn.l 0 rfl;simp only[go_sem,Q9q,hx3];intro H4 h4;have kn:=kn.stL 0 rfl h4;have hx4:=kn.l 0 rfl;refine Qi ?_;simp only[go_sem,Qq,Q7,Qps,Jo,forall_eq,RS.op,hx4];refine⟨_,(Ex.mk 1 v [] []).frz,hK _ _ (k2+1) (by omega) (by omega) kn.fin ?_ ?_⟩
   ·simp[Ex.ok,Qda]
   ·simp[Ex.size,Qr]
  ·intro hb';refine Qf ?_;simp only[go_sem];refine Qa ?_;simp only[go_sem];refine of_c (kn.e 0 rfl) (by omega) (hb hb') fun v H3 hv hu=>?_;have kn:=kn.callE 0 rfl hu (R.o_ne _);have hx3:=kn.l 0 rfl;simp only[go_sem,Q9r,hx3];intro H4 h4;have kn:=kn.stL 0 rfl h4;have hx4:=kn.l 0 rfl;refine Qi ?_;simp only[go_sem,Qq,Q7,Qps,Jo,forall_eq,RS.op,hx4];refine⟨_,(Ex.mk 2 0 v []).frz,hK _ _ (k2+1) (by omega) (by omega) kn.fin ?_ ?_⟩
   ·simp[Ex.ok,Qda]
   ·simp[Ex.size,Qr]
 refine⟨fun hb=>?_,fun hb=>?_⟩
 ·refine Qcp (kn.e 0 rfl) (by omega) fun v H2 hv hu=>?_;have kn:=kn.callE 0 rfl hu (R.o_ne _);simp only[go_sem,Qoz];refine rest _ H2 (k+1) (by omega) (by omega) kn ?_;intro h;have:¬ss.length=0:=by simpa using hb
  omega
 ·have hb2:decide ((ss.length:Int)=0)=true:=by simpa using hb
  simp only[go_sem,Qoz,hb2];exact rest true H1 k (by omega) (by omega) kn (fun h=>by simp at h)
variable {H:Heap}{K:V→Heap→Prop}
theorem Qbhp {fl:Bool}{bs:List UInt8}(hK:∀(R:Rdr) (H':Heap),H R.l=.none→H'=H.set R.l (R.o 0)→K (.c (.ptr R.l 0)) H'):Qj prog Qada [.c (.sl fl 1 (Qcu bs))] H K:=by
 refine Qb Qad Qbh6 ?_;refine Qa ?_;simp only[go_sem];refine Q5 ?_;refine Qa ?_;simp only[go_sem,Qca];intro _;have tail:∀(fl:Bool) (bs:List UInt8) (E1:Env),lk 0 E1=.c (.sl fl 1 (Qcu bs))→Q8 prog Qan1 (Qq Qfh K) E1 H:=by
  intro fl bs E1 l0;refine Qa ?_;simp only[go_sem,l0];intro l hl H' h';simp only[go_sem,Qagm];refine Qi ?_;simp only[go_sem,Qq,Q7,Qfh,Jo,forall_eq,RS.op];exact hK ⟨l,fl,bs⟩ H' hl h'
 refine Qg (Qc rfl ?_ ?_)
 ·intro hc;have h2:(2000:Int)<bs.length:=by simpa using hc
  refine Qp ?_;simp only[go_sem,Qca];refine⟨⟨by omega,by omega,by omega⟩,?_⟩;have ht:List.take 2000 (Qcu bs)=Qcu (bs.take 2000):=by simp[Qcu,List.map_take]
  rw[ht];exact tail _ (bs.take 2000) _ (by simp[lk];rfl)
 ·intro hc;refine Qf ?_;exact tail fl bs _ (by simp[lk])
end Go.AE.Y
