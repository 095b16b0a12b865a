/- Part 2 of the proof: the engine, codes, walks and plain laws, each named where it stands. -/
import Derived.Test.YtdlbfkfpogdiiaaGreatDoorZA
import Derived.Test.YtdlbfkfpogdiiaaGreatDoorProg
open Nat (reduceEqDiff reduceAdd reduceLeDiff reduceLT)
set_option linter.unusedVariables false
set_option linter.unusedSimpArgs false
set_option maxRecDepth 4000
open Array renaming getD_eq_getD_getElem?->Jc,getElem?_eq_some_iff->Jk,getElem?_eq_getElem->Jl,getElem?_setIfInBounds_self_of_lt->Jr,getElem?_setIfInBounds_ne->J3
open Bool renaming and_eq_true->Ja,not_eq_true'->Jz,or_eq_true->J9,false_and->Jaw
open Iff renaming rfl->Jao
open Int renaming eq_ofNat_of_zero_le->Js,tmod_lt_of_pos->Jab,tmod_nonneg->Jai
open List renaming mem_of_getElem?->Jb,mem_append->Jd,mem_append_right->Jf,getD_eq_getElem?_getD->Jg,mem_append_left->Jh,mem_cons->Ji,mem_singleton->Jj,getElem?_eq_getElem->Jm,getElem?_eq_none->Jn,length_eq_zero_iff->Jo,getElem?_eq_some_iff->Jq,map_cons->Jt,mem_map->Ju,map_congr_left->Jw,take_of_length_le->Jx,append_of_mem->Jy,length_nil->J2,getElem?_set->J4,all_eq_true->J6,length_cons->J7,not_mem_nil->J8,getElem?_drop->Jac,pairwise_iff_getElem->Jad,append_assoc->Jae,any_eq_true->Jaf,getElem_mem->Jag,length_eq_one_iff->Jah,nil_append->Jaj,getElem?_take->Jam,nodup_append->Jap,map_nil->Jaq,countP_cons->Jar,append_nil->Jas,map_append->Jat,drop_zero->Jax,mem_range->Jay,take_zero->Jaz,all_cons->Ja0,map_set->Ja1
open Nat renaming add_mul->Jp,mul_le_mul_right->J0,lt_or_ge->J1,zero_add->J5,mul_le_mul_left->Jak,one_le_two_pow->Jan,le_refl->Jau,add_zero->Ja2,zero_le->Ja3
open Ne renaming symm->Jal
open Option renaming map_some->Jav
open Option.some renaming injEq->Je,inj->Jaa
open Prod.mk renaming injEq->Jv
namespace Go.AE
variable {P:Program}{H:Heap}{g:G}{w:World}{e:Env}{a:Act}{o:Oper}{p:Bool}
def Qrr (z:Value)(sz:Nat)(q:Nat):Value:=z.cells[q % sz]!
theorem Qye {z:Value}{sz:Nat}(hzs:z.cells.size=sz)(m:Nat):Builtin.zeroCells z.cells m=((List.range (m * sz)).map (Qrr z sz)).toArray:=by
 subst hzs;apply Array.ext';simp[Builtin.zeroCells,Qrr,Array.toList_range]
theorem Qba6 {el:TypeId}{i:TypeInfo}{z:Value}{sz:Nat}(hi:P.info? el=some i)(hzero:i.zero=some z)(hzs:z.cells.size=sz)(m:Nat)(w:World) :
  (if m * sz=0 then (pure #[]:Sem (Array Value))else do pure (Builtin.zeroCells (←zeroValue el).cells m)).run P w=.ok ((List.range (m * sz)).map (Qrr z sz)).toArray w:=by
 split
 ·rename_i h;rw[h];simp
 ·simp[Qgx hi hzero,Qye hzs]
theorem Q65 {ats:Array TypeId}{ty t t2 el:TypeId}{i:TypeInfo}{z:Value}{sz:Nat}(h0:ats[0]? = some t)(h1:ats[1]? = some t2)(hu:P.underlying t=some (.slice el))(hu2:P.underlying t2=some (.int .i64))
  (hi:P.info? el=some i) (hz:i.size=sz) (hzero:i.zero=some z) (hzs:z.cells.size=sz) (hby:i.bytes≤128) {base:Option Addr} {n cap m:Nat} (hm:m≤LIM) (hroom:n+m≤cap)
  {w':World} (hst:∀x,base=some x→(storeCells (x.add (n * sz)) ((List.range (m * sz)).map (Qrr z sz))).run P w=.ok () w') (hnone:base=none→w'=w) :
  (Builtin.append_ ats ty #[.slice base n cap,.int .i64 m]).run P w=.ok (.slice base (n+m) cap) w':=by
 rw[Qlb]at hm;have hmul:m * i.bytes≤m * 128:=Jak _ hby;have hw:IntKind.i64.wrap (m:Int)=m:=by simp[IntKind.wrap,IntKind.signed,IntKind.bits];omega
 have hmi:¬(281474976710656<(m:Int) * (i.bytes:Int)):=by
  have:((m * i.bytes:Nat):Int)≤((m * 128:Nat):Int):=by exact_mod_cast hmul
  push_cast at this
  omega
 have hzm:=fun w=>Qba6 (P:=P) hi hzero hzs m w;simp only[Builtin.append_,h0,h1];simp[Q4 hu,Q4 hu2,Qaz hi,hz,asInt,asIntOf,hw,Qhp hi,hmi,hroom];rw[if_neg (by omega)];split
 ·rename_i h
  rw[h]at hst
  cases base with
  |none=>simp[hnone rfl]
  |some x=>have:=hst x rfl;simp at this;simp[this]
 ·simp only[Qgx hi hzero,Result.andThen,Qye hzs]
  cases base with
  |none=>simp[hnone rfl]
  |some x=>simp[hst x rfl]
theorem Qam4 {ats:Array TypeId}{ty t t2 el:TypeId}{i:TypeInfo}{z:Value}{sz:Nat}(h0:ats[0]? = some t)(h1:ats[1]? = some t2)(hu:P.underlying t=some (.slice el))(hu2:P.underlying t2=some (.int .i64))
  (hi:P.info? el=some i) (hz:i.size=sz) (hzero:i.zero=some z) (hzs:z.cells.size=sz) (hby:i.bytes≤128) (hby0:i.bytes≠0) {base:Option Addr} {n cap m:Nat} {f1:Nat→Value} (hroom:¬n+m≤cap) (hlim:n+m≤LIM)
  (hf1:(Builtin.firstCells sz n (.slice base n cap)).run P w.drew=.ok ((List.range (n * sz)).map f1).toArray w.drew) :
  ∃(newCap:Nat) (rest:Array Value),n+m≤newCap∧rest.size=(newCap-(n+m)) * sz∧
   (Builtin.append_ ats ty #[.slice base n cap,.int .i64 m]).run P w=.ok (.slice (some ⟨w.heap.size,0,none⟩) (n+m) newCap)
    (w.drew.alloc (.cells (((List.range (n * sz)).map f1).toArray++((List.range (m * sz)).map (Qrr z sz)).toArray++rest) el)):=by
 rw[Qlb]at hlim;have hnc:=Qam2 (Nat.lt_of_not_le hroom);have hmul:Builtin.nextslicecap (n+m) cap * i.bytes≤(2 * (n+m)+512) * 128:=Nat.mul_le_mul hnc hby;have hmul2:m * i.bytes≤m * 128:=Jak _ hby;have hw:IntKind.i64.wrap (m:Int)=m:=by simp[IntKind.wrap,IntKind.signed,IntKind.bits];omega
 have hmi:¬(281474976710656<(m:Int) * (i.bytes:Int)):=by
  have:((m * i.bytes:Nat):Int)≤((m * 128:Nat):Int):=by exact_mod_cast hmul2
  push_cast at this
  omega
 have hgr:¬(281474976710656<Builtin.nextslicecap (n+m) cap * i.bytes):=by omega
 have hmax:¬(9223372036854775807<(n:Int)+(m:Int)):=by omega
 generalize hnew:(Question.appendCap (n+m) cap el).cut (w.tape w.drawn (.appendCap (n+m) cap el))=newCap;refine⟨newCap,Builtin.zeroCells z.cells (newCap-(n+m)),?_,?_,?_⟩
 ·rw[←hnew];simp[Question.cut]
 ·simp[Builtin.zeroCells,hzs]
 ·simp only[Builtin.append_,h0,h1];simp[Q4 hu,Q4 hu2,Qaz hi,hz,asInt,asIntOf,hw,Qhp hi,hmi,hroom,hby0];rw[if_neg (by omega),if_neg (by omega),if_neg hgr];simp[Question.forced,hnew,hf1];split
  ·rename_i h
   rw[h];simp[Qgx hi hzero,newRow]
  ·simp only[Qgx hi hzero,Result.andThen,Qye hzs];rw[←Array.append_assoc];simp[newRow]
theorem Qbk1 {sz m:Nat}{zr:List C}{A:C}{x' y':Operand}{ats:Array TypeId}{t t2 el:TypeId}{i:TypeInfo}{z:Value}{K:V→Heap→Prop}
  (hm:o.op=.call { callee:=.builtin .append,args:=#[x',y'],argTypes:=ats }) (h0:ats[0]? = some t) (h1:ats[1]? = some t2) (hu:P.underlying t=some (.slice el)) (hu2:P.underlying t2=some (.int .i64))
  (hi:P.info? el=some i) (hz:i.size=sz) (hzero:i.zero=some z) (hzs:z.cells.size=sz) (hby:i.bytes≤128) (hby0:i.bytes≠0) (hzl:Qamh zr z=true)
  (hcx:RepC w g A (a.eval x')) (hqy:a.eval y'=.int .i64 m) (hml:m≤LIM) (hs:Sat H g w) (q5:appT H sz A (.sl false sz (List.replicate m zr)) K):EOk P H g w a o K:=by
 generalize hqx:a.eval x'=xv at hcx;have hexec:(execOp a.eval o).run P w=((Builtin.append_ ats o.type #[xv,.int .i64 m]).run P w).andThen fun v w'=>.ok (.value v) w':=by
  simp[execOp,hm,resolve,invoke,builtin,hqx,hqy]
 have hzr:=fun (w:World) (g:G)=>Qmr (w:=w) (g:=g) hzl;have hzrl:zr.length=sz:=by
  have:=(hzr w g).1;omega
 obtain⟨R,hR⟩:∃R,List.replicate m zr=R:=⟨_,rfl⟩;rw[hR]at q5;have hRl:R.length=m:=by rw[←hR];simp
 have hRm:∀(i:Nat) (row:List C),R[i]? = some row→i<m∧row=zr:=by
  intro i row h;rw[←hR,List.getElem?_replicate]at h;split at h
  ·exact⟨‹_›,(Jaa h).symm⟩
  ·cases h
 have by3:∀(i:Nat) (row:List C),R[i]? = some row→row.length=sz:=fun i row h=>by rw[(hRm i row h).2,hzrl]
 have fz:∀(w:World) (g:G) (j:Nat) (c:C),zr[j]? = some c→∀i,RepC w g c (Qrr z sz (i * sz+j)):=by
  intro w g j c hj i;have hjs:j<sz:=by
   rw[←hzrl];exact (Jq.1 hj).1
  have e:(i * sz+j) % sz=j:=by rw[Nat.add_comm,Nat.add_mul_mod_self_right,Nat.mod_eq_of_lt hjs]
  have hg:z.cells[j]? = some z.cells[j]!:=by
   rw[getElem!_pos z.cells j (by omega)];exact Jl (by omega)
  rw[Qrr,e];exact (hzr w g).2 j c _ hj hg
 have f3:∀(w:World) (g:G) (i:Nat) (row:List C) (j:Nat) (c:C),R[i]? = some row→row[j]? = some c→RepC w g c (Qrr z sz (i * sz+j)):=by
  intro w g i row j c h1 h2;rw[(hRm i row h1).2]at h2;exact fz w g j c h2 i
 have f2:∀q,q<m * sz→(Qrr z sz q).oneCell'=true:=by
  intro q hq;obtain⟨a1,a2,a3⟩:=Qamt hq;have:=fz w g (q % sz) (zr[q % sz]'(by omega)) (Jm (by omega)) (q / sz);rw[a3]at this;exact this.one
 clear hzl hzr hzrl fz hR;have hsd:=Qaqg hs;unfold appT at q5;obtain⟨_,_,q5⟩:=q5;simp only[rowsOf,lenC,hRl]at q5;split at q5
 ·
  rename_i z' rows
  obtain⟨rfl,c2,c3,c4,c5⟩:=q5;have hxv:∃ad,xv=.slice ad rows.length rows.length:=by
   cases hcx with
   |slnil _ _ ad=>exact⟨ad,rfl⟩
   |sl _ _ _ b off cap val hl hf hcap hper hrw hce hva=>rw[hf rfl];exact⟨_,rfl⟩
  obtain⟨ad,rfl⟩:=hxv;by_cases hm0:m=0
  ·have hrows:rows=[]:=by
    rcases c2 with h|h
    ·exact h
    ·exact absurd (Jo.1 (by omega)) h
   subst hrows;obtain⟨l,hl,hHl⟩:=hs.newName;have hrun:=Q65 (P:=P) (w:=w) (ty:=o.type) (base:=ad) (n:=0) (cap:=0) (m:=m) h0 h1 hu hu2 hi hz hzero hzs hby hml (by omega) (w':=w)
    (fun x _=>by rw[hm0];simp[storeCells]) (fun _=>rfl)
   refine EOk.value (v:=.slice ad (0+m) 0) (by rw[hexec];simp only[J2];rw[hrun];rfl) (c5 l hHl) ?_ ?_ (g':=g.newVirt l z')
   ·have hrB:R=[]:=Jo.1 (by omega);rw[hrB];exact Qrp hs hl z'
   ·simp only[J2,hm0,Ja2];exact .c _ _ (.vslnil _ _ _ _)
  ·obtain⟨l,hl,hHl⟩:=hsd.sat.newName;have hcxd:=hcx.mono hsd.le;have hA:∀r∈rowsOf H (C.sl true z' rows),noOw r=true:=fun r hr=>c3 r (Jh _ hr);obtain⟨f',f1',f2',f3'⟩:=Qx8 hsd.sat hcxd (s:=.sl true z' rows) trivial (sz:=z') rfl hA;simp only[lenC]at f1';obtain⟨newCap,rest,k1,k2,k3⟩:=Qam4 (P:=P) (w:=w) (ty:=o.type) h0 h1 hu hu2 hi hz hzero hzs hby hby0 (base:=ad) (n:=rows.length) (cap:=rows.length) (m:=m) (by omega) c4 f1';have hget:=Q52 (n:=rows.length) (m:=m) (sz:=z') (f1:=f') (f:=Qrr z z') (rest:=rest);generalize harr:(((List.range (rows.length * z')).map f').toArray++((List.range (m * z')).map (Qrr z z')).toArray++rest)=arr at k3 hget;have hasz:arr.size=newCap * z':=by
    rw[←harr];simp[k2];rw[←Jp,←Jp];congr 1;omega
   have hst:=Qca hsd.sat hl z' 0 (.cells arr el) (.vec z' (rows++R)) (fun g' hg=>by
    subst hg;have hle:=Qf3 hsd.sat hl z' 0 (.cells arr el);refine .inr (Qiz (nb:=w.drew.heap.size) (base:=0) (T:=el) (arr:=arr) (n:=rows.length) (m:=m) (by simp[G.newObj]) (by simp[G.newObj]) (Qa9 _ _)
     (by rw[hasz,J5];exact J0 _ k1) c4 rfl (by omega) ?_ by3 ?_ ?_)
    ·cases hcx with
     |slnil=>simp
     |sl _ _ _ b off cap val hl hf hcap hper hrw hce hva=>exact hrw
    ·intro i row j c e1 e2;have hlr:row.length=z':=by
      cases hcx with
      |slnil=>simp at e1
      |sl _ _ _ b off cap val hl hf hcap hper hrw hce hva=>exact hrw _ _ e1
     refine⟨f' (i * z'+j),hget.1 i j ?_ ?_,.plain _ _ _ _ ((f3' i row j c e1 e2).mono hle)⟩
     ·rcases J1 i rows.length with h|h
      ·exact h
      ·rw[Jn h]at e1;simp at e1
     ·rw[←hlr];rcases J1 j row.length with h|h
      ·exact h
      ·rw[Jn h]at e2;simp at e2
    ·intro i row j c e1 e2;refine⟨Qrr z z' (i * z'+j),hget.2 i j ?_ ?_,f3 _ _ i row j c e1 e2⟩
     ·rcases J1 i (R).length with h|h
      ·omega
      ·rw[Jn h]at e1;simp at e1
     ·rw[←by3 i row e1];rcases J1 j row.length with h|h
      ·exact h
      ·rw[Jn h]at e2;simp at e2)
   refine EOk.value (v:=.slice (some ⟨w.heap.size,0,none⟩) (rows.length+m) newCap) (by rw[hexec,k3];rfl) (c5 l hHl) (hsd.trans hst) ?_;have:=RepC.vsl (w:=w.drew.alloc (.cells arr el)) (g:=g.newObj l w.drew.heap.size z' 0) l z' 0 (rows.length+m) newCap w.heap.size 0 el arr.size (by simp[G.newObj]) k1
    (by simp only[World.shape?];rw[show w.heap.size=w.drew.heap.size from rfl,Qa9]) (by rw[hasz];simp)
   simpa using RepV.c _ _ this
 ·
  rename_i l z' st n
  split at q5
  ·rename_i y0 rows hH
   obtain⟨hzz1,hyy1,c2,hnB,c4,c5⟩:=q5;subst hyy1;subst hzz1;have hob:=hs.objs l;rw[hH]at hob;have hlne:H l≠.none:=by rw[hH];simp
   have hnomap:∀v es,H l≠.map v es:=by rw[hH];simp
   have hcases:(∃ad,xv=.slice ad 0 0∧n=0)∨∃b base cap T mm,xv=.slice (some ⟨b,base+st * z',none⟩) n cap∧g.io l=some (b,z',base)∧n≤cap∧w.shape? b=some (T,mm)∧base+(st+cap) * z'≤mm:=by
    cases hcx with
    |vslnil _ _ _ ad=>exact .inl ⟨ad,rfl,rfl⟩
    |vsl _ _ _ _ cap b base T mm hio hn hsh hmm=>exact .inr ⟨b,base,cap,T,mm,rfl,hio,hn,hsh,hmm⟩
   have htk:((rows.drop st).take n).length=n:=by simp;omega
   have hrowt:∀(i:Nat) (row:List C),((rows.drop st).take n)[i]? = some row→i<n∧rows[st+i]? = some row:=by
    intro i row h;simp only[Jam,Jac]at h;split at h
    ·exact⟨by assumption,h⟩
    ·simp at h
   have jlt:∀{row:List C} {j:Nat} {c:C} {k:Nat},row.length=k→row[j]? = some c→j<k:=by
    intro row j c k hk hj;rw[←hk];rcases J1 j row.length with h|h
    ·exact h
    ·rw[Jn h]at hj;simp at hj
   have grow:∀(ad:Option Addr) (cap:Nat),xv=.slice ad n cap→¬n+m≤cap→EOk P H g w a o K:=by
    intro ad cap hxv hng;have hold:∃f':Nat→Value,(Builtin.firstCells z' n (.slice ad n cap)).run P w.drew=.ok ((List.range (n * z')).map f').toArray w.drew∧
      ∀(i:Nat) (row:List C) (j:Nat) (c:C),((rows.drop st).take n)[i]? = some row→row[j]? = some c→RepO w g l [st+i,j] c (f' (i * z'+j)):=by
     rcases hcases with ⟨ad',h1,h2⟩|⟨b,base,cap',T,mm,h1,h2,h3,h4,h5⟩
     ·rw[hxv]at h1;simp only[Value.slice.injEq]at h1;subst h2;refine⟨fun _=>undef,?_,fun i row j c e1 _=>by simp at e1⟩
      cases ad with
      |none=>simp[Builtin.firstCells]
      |some q=>simp[Builtin.firstCells,loadCells,loadCellsFrom]
     ·rw[hxv]at h1;simp only[Value.slice.injEq]at h1;obtain⟨rfl,_,rfl⟩:=h1;obtain⟨b',base',T',cs,val,r1,r2,r3,r4,r5,r6,r7,r8⟩:=SatVec.of hob h2;rw[h2]at r1;simp only[Je,Jv,true_and]at r1;obtain⟨rfl,rfl⟩:=r1;have hfit:(st+n) * z'≤rows.length * z':=J0 _ c2;rw[Jp]at hfit;refine⟨fun q=>cs.getD (base+st * z'+q) undef,?_,fun i row j c e1 e2=>?_⟩
      ·simp only[Builtin.firstCells];refine run_loadCells _ _ _ _ fun j hj=>?_;rw[Qbh];rw[show w.drew.cell? ⟨b,base+st * z'+j,none⟩=w.cell? ⟨b,base+st * z'+j,none⟩ from rfl,Qci r3];rw[Jc,Jl (by omega)];rfl
      ·obtain⟨hi,e1'⟩:=hrowt i row e1;have:=r7 _ _ _ _ e1' e2;rw[Jp]at this;have e3:base+st * z'+(i * z'+j)=base+(st * z'+i * z')+j:=(by omega);show RepO _ _ _ _ _ (cs.getD (base+st * z'+(i * z'+j)) undef);rw[e3,Jc,this];exact r8 _ _ _ _ e1' e2
    obtain⟨f',f1',f3'⟩:=hold;obtain⟨newCap,rest,k1,k2,k3⟩:=Qam4 (P:=P) (w:=w) (ty:=o.type) h0 h1 hu hu2 hi hz hzero hzs hby hby0 (base:=ad) (n:=n) (cap:=cap) (m:=m) hng c4 f1';have hget:=Q52 (n:=n) (m:=m) (sz:=z') (f1:=f') (f:=Qrr z z') (rest:=rest);generalize harr:(((List.range (n * z')).map f').toArray++((List.range (m * z')).map (Qrr z z')).toArray++rest)=arr at k3 hget;have hasz:arr.size=newCap * z':=by
     rw[←harr];simp[k2];rw[←Jp,←Jp];congr 1;omega
    obtain⟨l',hl',hHl'⟩:=hsd.sat.newName;have hll:l'≠l:=fun h=>(by subst h;exact hlne (hs.none_of_io hl'));have hst:=Qn8 hsd.sat (l:=l) (l':=l') hl' hlne (st:=st) (n:=n) (nb:=w.drew.heap.size) (sz:=z') (base:=0) (w':=w.drew.alloc (.cells arr el)) (rows:=(rows.drop st).take n++R)
     (.inr rfl) (by simp) (by simp) (by simp) (fun b hb hlt=>Qdm _ _ hlt) (fun h=>absurd h (Nat.lt_irrefl _)) rfl rfl rfl (fun hle=>by
      refine Qiz (nb:=w.drew.heap.size) (base:=0) (T:=el) (arr:=arr) (n:=n) (m:=m) (by simp[G.handOver]) (by simp[G.handOver]) (Qa9 _ _)
       (by rw[hasz,J5];exact J0 _ k1) c4 htk (by omega) (fun i row h=>?_) by3 (fun i row j c e1 e2=>?_) (fun i row j c e1 e2=>?_)
      ·obtain⟨hi,h'⟩:=hrowt i row h;rcases hob with ⟨r1,_⟩|⟨b',base',T',cs,val,r1,r2,r3,r4,r5,r6,r7,r8⟩
       ·rw[r1]at h';simp at h'
       ·exact r6 _ _ h'
      ·obtain⟨hi,h'⟩:=hrowt i row e1;have hrl:row.length=z':=by
        rcases hob with ⟨r1,_⟩|⟨b',base',T',cs,val,r1,r2,r3,r4,r5,r6,r7,r8⟩
        ·rw[r1]at h';simp at h'
        ·exact r6 _ _ h'
       refine⟨f' (i * z'+j),hget.1 i j hi (jlt hrl e2),?_⟩;refine (f3' i row j c e1 e2).move (hsd.le.trans hle) fun q b hb=>?_;have hbl:=Qad9 hs hb;have hbn:b≠w.drew.heap.size:=(by simp only[World.size_drew];omega);exact⟨Qks hb hi hbn,Qdm _ _ hbl⟩
      ·refine⟨Qrr z z' (i * z'+j),hget.2 i j ?_ (jlt (by3 i row e1) e2),f3 _ _ i row j c e1 e2⟩;rcases J1 i (R).length with h|h
       ·omega
       ·rw[Jn h]at e1;simp at e1) hnomap
    refine EOk.value (v:=.slice (some ⟨w.heap.size,0,none⟩) (n+m) newCap) (by rw[hexec,hxv,k3];rfl) (c5 l' (by rw[Heap.set_other _ _ hll];exact hHl')) (hsd.trans hst) ?_;have:=RepC.vsl (w:=w.drew.alloc (.cells arr el)) (g:=g.handOver l l' st n w.drew.heap.size z' 0) l' z' 0 (n+m) newCap w.heap.size 0 el arr.size (by simp[G.handOver]) k1
     (by simp only[World.shape?];rw[show w.heap.size=w.drew.heap.size from rfl,Qa9]) (by rw[hasz];simp)
    simpa using RepV.c _ _ this
   rcases hcases with ⟨ad,hxv,rfl⟩|⟨b,base,cap,T,mm,hxv,hio,hncap,hsh,hmm⟩
   ·by_cases hm0:m=0
    ·
     have hrun:=Q65 (P:=P) (w:=w) (ty:=o.type) (base:=ad) (n:=0) (cap:=0) (m:=m) h0 h1 hu hu2 hi hz hzero hzs hby hml (by omega) (w':=w)
      (fun x _=>by rw[hm0];simp[storeCells]) (fun _=>rfl)
     have hd:=Qa1g hs l hnomap;obtain⟨l',hl',hHl'⟩:=hd.sat.newName;refine EOk.value (v:=.slice ad (0+m) 0) (by rw[hexec,hxv,hrun];rfl) (c5 l' hHl') ?_ ?_ (g':=g.newVirt l' z')
     ·have hrB:R=[]:=Jo.1 (by omega);rw[hrB];simp only[Jaz,Jas];exact hd.trans (Qrp hd.sat hl' z')
     ·simp only[hm0,Ja2];exact .c _ _ (.vslnil _ _ _ _)
    ·exact grow ad 0 hxv (by omega)
   ·by_cases hroom:n+m≤cap
    ·
     obtain⟨b',base',T',cs,val,r1,r2,r3,r4,r5,r6,r7,r8⟩:=SatVec.of hob hio;rw[hio]at r1;simp only[Je,Jv,true_and]at r1;obtain⟨rfl,rfl⟩:=r1;have hmms:mm=cs.size∧T=T':=by
      simp only[World.shape?,r3,Je,Jv]at hsh;exact⟨hsh.2.symm,hsh.1.symm⟩
     obtain⟨rfl,rfl⟩:=hmms;have hcapz:(st+(n+m)) * z'≤(st+cap) * z':=J0 _ (by omega);rw[Jp,Jp]at hcapz;have hfit:base+st * z'+n * z'+m * z'≤cs.size:=by
      rw[Jp]at hmm hcapz;omega
     have hfold:=fun k=>Qqh (base+st * z'+n * z') ((List.range (m * z')).map (Qrr z z')) 0 cs k (by simp;omega);generalize hcs':(((List.range (m * z')).map (Qrr z z')).zipIdx 0).foldl (fun (cs:Array Value) (x:Value×Nat)=>cs.setIfInBounds (base+st * z'+n * z'+x.2) x.1) cs=cs' at hfold;have hstore:=Qfe (P:=P) ((List.range (m * z')).map (Qrr z z')) 0 w b (base+st * z'+n * z') cs T r3 (by simp;omega) (by
      intro v hv;simp only[Ju,Jay]at hv;obtain⟨q,hq,rfl⟩:=hv;exact f2 q hq)
     rw[hcs']at hstore;have hrun:=Q65 (P:=P) (w:=w) (ty:=o.type) (base:=some ⟨b,base+st * z',none⟩) (n:=n) (cap:=cap) (m:=m) h0 h1 hu hu2 hi hz hzero hzs hby hml hroom (w':=World.putCells w b cs' T)
      (fun x hx=>by simp only[Je]at hx;subst hx;rw[Qbh];exact hstore) (fun h=>by simp at h)
     have hblt:=Qhv r3;obtain⟨l',hl',hHl'⟩:=hs.newName;have hll:l'≠l:=fun h=>(by subst h;exact hlne (hs.none_of_io hl'));have hsz':cs'.size=cs.size:=(hfold 0).1;have hst:=Qn8 hs (l:=l) (l':=l') hl' hlne (st:=st) (n:=n) (nb:=b) (sz:=z') (base:=base+st * z') (w':=World.putCells w b cs' T) (rows:=(rows.drop st).take n++R)
      (.inl ⟨hblt,r2⟩) (by simp[World.putCells]) (by simp[World.putCells];exact hblt) (by simp[World.putCells];omega) (fun b' hb' _=>Qa6 hb')
      (fun _ T0 k hk=>by
       simp only[World.shape?,r3,Je,Jv]at hk;simp only[World.shape?,Qbu hblt,hsz',Je,Jv];exact hk) rfl rfl rfl (fun hle=>by
       refine Qiz (nb:=b) (base:=base+st * z') (T:=T) (arr:=cs') (n:=n) (m:=m) (by simp[G.handOver]) (by simp[G.handOver]) (Qbu hblt)
        (by rw[hsz',Jp];omega) c4 htk (by omega) (fun i row h=>r6 _ _ (hrowt i row h).2) by3 (fun i row j c e1 e2=>?_) (fun i row j c e1 e2=>?_)
       ·obtain⟨hi,h'⟩:=hrowt i row e1;have hj:=jlt (r6 _ _ h') e2;have hlt:=Qp2 hi hj;refine⟨val (st+i) j,?_,?_⟩
        ·rw[(hfold _).2,if_neg (by omega),←r7 _ _ _ _ h' e2];congr 1;rw[Jp];omega
        ·refine (r8 _ _ _ _ h' e2).move hle fun q b2 hb2=>?_;have hbn:b2≠b:=fun h=>(by subst h;rw[r2]at hb2;simp at hb2);exact⟨Qks hb2 hi hbn,Qa6 hbn⟩
       ·have hj:=jlt (by3 i row e1) e2;have hi:i<m:=by
         rcases J1 i (R).length with h|h
         ·omega
         ·rw[Jn h]at e1;simp at e1
        have hlt:=Qp2 hi hj;refine⟨Qrr z z' (i * z'+j),?_,f3 _ _ i row j c e1 e2⟩;have hmul:(n+i) * z'=n * z'+i * z':=(by rw[Jp]);rw[(hfold _).2,if_pos (by simp;omega)];rw[show base+st * z'+(n+i) * z'+j-(base+st * z'+n * z'+0)=i * z'+j by omega];simp only[List.getElem?_map];rw[List.getElem?_range hlt];rfl) hnomap
     refine EOk.value (v:=.slice (some ⟨b,base+st * z',none⟩) (n+m) cap) (by rw[hexec,hxv,hrun];rfl) (c5 l' (by rw[Heap.set_other _ _ hll];exact hHl')) hst ?_;have:=RepC.vsl (w:=World.putCells w b cs' T) (g:=g.handOver l l' st n b z' (base+st * z')) l' z' 0 (n+m) cap b (base+st * z') T cs.size (by simp[G.handOver]) hroom
      (by simp only[World.shape?,Qbu hblt,hsz']) (by rw[J5];rw[Jp]at hmm;omega)
     simpa using RepV.c _ _ this
    ·exact grow _ cap hxv hroom
  ·exact q5.elim
 ·exact q5.elim
def Qa7f (P:Program)(el:TypeId)(sz:Nat):Bool:=
 match P.info? el with
 |some i=>i.size == sz&&decide (i.bytes≤128)&&decide (i.bytes≠0)&&(match i.zero with
  |some z=>z.cells.size == sz
  |none=>false)
 |none=>false
theorem Q6i {el:TypeId}{sz:Nat}(h:Qa7f P el sz=true):∃i z,P.info? el=some i∧i.size=sz∧i.zero=some z∧z.cells.size=sz∧i.bytes≤128∧i.bytes≠0:=by
 unfold Qa7f at h;split at h
 ·rename_i i hi
  simp only[Ja,decide_eq_true_eq,beq_iff_eq]at h;obtain⟨⟨⟨h1,h2⟩,h3⟩,h4⟩:=h;split at h4
  ·rename_i z hz;exact⟨i,z,hi,h1,hz,by simpa using h4,h2,h3⟩
  ·simp at h4
 ·simp at h
def mMap (P:Program)(t:TypeId)(tag:Nat):Bool:=
 match P.underlying t with
 |some (.map kt _)=>(match P.underlying kt with
  |some d=>Qa6z d tag
  |none=>false)
 |_=>false
theorem Qadl {t:TypeId}{tag:Nat}(h:mMap P t tag=true):∃kt et,P.underlying t=some (.map kt et)∧P.underlying kt=some (tagD tag):=by
 unfold mMap at h;split at h
 ·rename_i kt et hu
  split at h
  ·rename_i d hd;have:=Q6g h;subst this;exact⟨kt,et,hu,hd⟩
  ·simp at h
 ·simp at h
def mE (P:Program)(o:Oper):EOp→Bool
 |.alloc cells=>match o.op with
  |.alloc t=>Qawa P t cells
  |_=>false
 |.boxm x=>match o.op with
  |.box _ x'=>mO x x'
  |_=>false
 |.sto n x y=>match o.op with
  |.store t x' y'=>Qajm P t n&&mO x x'&&mO y y'
  |_=>false
 |.app sz x y=>match o.op with
  |.call { callee:=.builtin .append,args:=⟨[x',y']⟩,argTypes:=ats }=>mO x x'&&mO y y'&&(match ats[0]?,ats[1]? with
   |some t,some t2=>(match P.underlying t,P.underlying t2 with
    |some (.slice el),some (.slice _)=>Qa7f P el sz
    |_,_=>false)
   |_,_=>false)
  |_=>false
 |.apz sz zr x y=>match o.op with
  |.call { callee:=.builtin .append,args:=⟨[x',y']⟩,argTypes:=ats }=>mO x x'&&mO y y'&&(match ats[0]?,ats[1]? with
   |some t,some t2=>(match P.underlying t,P.underlying t2 with
    |some (.slice el),some (.int .i64)=>Qa7f P el sz&&Qawa P el zr
    |_,_=>false)
   |_,_=>false)
  |_=>false
 |.mks sz zero x=>match o.op with
  |.makeSlice t x' y'=>mO x x'&&mO x y'&&zero.length == sz&&decide (sz≠0)&&(match P.underlying t with
   |some (.slice el)=>Qa7f P el sz&&Qawa P el zero
   |_=>false)
  |_=>false
 |.mkm=>match o.op with
  |.makeMap _ none=>true
  |_=>false
 |.upd tag x k y=>match o.op with
  |.mapUpdate t x' k' y'=>mO x x'&&mO k k'&&mO y y'&&mMap P t tag
  |.insert t x' k' y'=>mO x x'&&mO k k'&&mO y y'&&mMap P t tag
  |_=>false
 |.del tag x k=>match o.op with
  |.call { callee:=.builtin .delete,args:=⟨[x',k']⟩,argTypes:=ats }=>mO x x'&&mO k k'&&o.dst.isNone&&(match ats[0]? with
   |some t=>mMap P t tag
   |none=>false)
  |_=>false
 |.clrm x=>match o.op with
  |.call { callee:=.builtin .clear,args:=⟨[x']⟩,argTypes:=ats }=>mO x x'&&(match ats[0]? with
   |some t=>(match P.underlying t with
    |some (.map _ _)=>true
    |_=>false)
   |none=>false)
  |_=>false
 |.clrs sz zero x=>match o.op with
  |.call { callee:=.builtin .clear,args:=⟨[x']⟩,argTypes:=ats }=>mO x x'&&zero.length == sz&&(match ats[0]? with
   |some t=>(match P.underlying t with
    |some (.slice el)=>Qawa P el zero
    |_=>false)
   |none=>false)
  |_=>false
 |.call f xs=>match o.op with
  |.call { callee:=.value (.func f'),args:=aS,argTypes:=_ }=>f == f'&&mOs xs aS.toList
  |_=>false
 |.callv x xs=>match o.op with
  |.call { callee:=.value y,args:=aS,argTypes:=_ }=>mO x y&&mOs xs aS.toList
  |_=>false
 |.rng x=>match o.op with
  |.range t x'=>mO x x'&&(match P.underlying t with
   |some (.map _ _)=>true
   |_=>false)
  |_=>false
 |.rngs x=>match o.op with
  |.range t x'=>mO x x'&&(match P.underlying t with
   |some .string=>true
   |_=>false)
  |_=>false
 |.nxts x=>match o.op with
  |.next x' true=>mO x x'
  |_=>false
 |.nxt x=>match o.op with
  |.next x' false=>mO x x'
  |_=>false
 |.ent x=>match o.op with
  |.entry x'=>mO x x'
  |_=>false
 |.nilq x=>match o.op with
  |.binOp .eql t x' (.const (.slice none 0 0)) _=>mO x x'&&(match P.underlying t with
   |some (.slice _)=>true
   |_=>false)
  |_=>false
 |.cpy sz x y=>match o.op with
  |.call { callee:=.builtin .copy,args:=⟨[x',y']⟩,argTypes:=ats }=>mO x x'&&mO y y'&&(match ats[0]? with
   |some t=>(match P.underlying t with
    |some (.slice el)=>Qajm P el sz
    |_=>false)
   |none=>false)
  |_=>false
 |.bslm sz parts=>match o.op with
  |.buildSlice t n parts'=>n == parts'.size&&decide (n * sz≤2 ^ 24)&&mRow 0 parts parts'.toList&&decide (sz≠0)&&(match P.underlying t with
   |some (.slice el)=>Qajm P el sz&&(match P.info? el with
    |some i=>i.zero.isSome
    |none=>false)
   |_=>false)
  |_=>false
theorem Qac0 {op:EOp}{K:V→Heap→Prop}(hm:mE P o op=true)(hs:Sat H g w)(he:EnvOk w g e a)(hp:p=true)(ho:op.eff P p e H K):EOk P H g w a o K:=by
 cases op with
 |alloc cells=>
  simp only[mE]at hm;split at hm
  ·obtain⟨i,z,h1,h2,h3⟩:=Qk8 hm;exact Qbf8 ‹_› h1 h2 h3 hs ho
  ·simp at hm
 |boxm x=>
  simp only[mE]at hm;split at hm
  ·exact Qbiu ‹_› hm hs he hp ho
  ·simp at hm
 |sto n x y=>
  simp only[mE]at hm;split at hm
  ·simp only[Ja]at hm;obtain⟨i,h1,h2⟩:=Qfa hm.1.1;exact Qbk9 ‹_› h1 h2 hm.1.2 hm.2 hs he hp ho
  ·simp at hm
 |app sz x y=>
  simp only[mE]at hm;split at hm
  ·rename_i x' y' ats hop
   simp only[Ja]at hm;obtain⟨⟨h1,h2⟩,h3⟩:=hm;split at h3
   ·rename_i t t2 ht ht2
    split at h3
    ·rename_i el el2 hu hu2
     obtain⟨i,z,k1,k2,k3,k4,k5,k6⟩:=Q6i h3;exact Qbk0 hop ht ht2 hu hu2 k1 k2 k3 k4 k5 k6 h1 h2 hs he hp ho
    ·simp at h3
   ·simp at h3
  ·simp at hm
 |apz sz zr x y=>
  simp only[mE]at hm;split at hm
  ·rename_i x' y' ats hop
   simp only[Ja]at hm;obtain⟨⟨h1,h2⟩,h3⟩:=hm;split at h3
   ·rename_i t t2 ht ht2
    split at h3
    ·rename_i el hu hu2
     rw[Ja]at h3;obtain⟨i,z,k1,k2,k3,k4,k5,k6⟩:=Q6i h3.1;obtain⟨i',z',j1,j2,j3⟩:=Qk8 h3.2;rw[k1]at j1;obtain rfl:=Jaa j1;rw[k3]at j2;obtain rfl:=Jaa j2;simp only[EOp.eff]at ho;obtain⟨q1,q2,q3,q4,q5,q6,q7⟩:=ho;have hrx:=Qai he h1 hp q1;have e1:=Qmz he h2 hp q2 q4;rw[Qc7 q3]at hrx;exact Qbk1 hop ht ht2 hu hu2 k1 k2 k3 k4 k5 k6 j3 hrx.c_inv (m:=(Q7 (y.v e)).toNat) (by rw[Int.toNat_of_nonneg q5];exact e1) (by omega) hs q7
    ·simp at h3
   ·simp at h3
  ·simp at hm
 |bslm sz parts=>
  simp only[mE]at hm;split at hm
  ·rename_i t n parts' hop
   simp only[Ja,decide_eq_true_eq,beq_iff_eq]at hm;obtain⟨⟨⟨⟨h1,h2⟩,h3⟩,h4⟩,h5⟩:=hm;split at h5
   ·rename_i el hel
    rw[Ja]at h5;obtain⟨i,hi,hz⟩:=Qfa h5.1;have h6:=h5.2;rw[hi]at h6;obtain⟨z,hz'⟩:=Option.isSome_iff_exists.1 h6;obtain⟨k1,k2⟩:=Qadn _ _ _ h3;exact Qbiv hop hel hi hz' hz h4 h1 h2 (by simpa using k1) (fun j x y e1 e2=>by
     have:=k2 j x y e1 (by simpa using e2);exact⟨by simpa using this.1,this.2⟩) hs he hp ho
   ·simp at h5
  ·simp at hm
 |mks sz zero x=>
  simp only[mE]at hm;split at hm
  ·rename_i t x' y' hop
   simp only[Ja,decide_eq_true_eq,beq_iff_eq]at hm;obtain⟨⟨⟨⟨h1,h2⟩,h3⟩,h4⟩,h5⟩:=hm;split at h5
   ·rename_i el hu
    rw[Ja]at h5;obtain⟨i,z,k1,k2,k3,k4,k5,k6⟩:=Q6i h5.1;obtain⟨i',z',l1,l2,l3⟩:=Qk8 h5.2;rw[k1]at l1;simp at l1;subst l1;exact Qbk6 hop hu k1 k2 h4 l2 l3 h3 k5 h1 h2 hs he hp ho
   ·simp at h5
  ·simp at hm
 |mkm=>
  simp only[mE]at hm;split at hm
  ·exact Qbk5 ‹_› hs ho
  ·simp at hm
 |upd tag x k y=>
  simp only[mE]at hm;split at hm
  ·simp only[Ja]at hm;obtain⟨kt,et,h1,h2⟩:=Qadl hm.2;exact Qbi2 (.inl ‹_›) h1 h2 hm.1.1.1 hm.1.1.2 hm.1.2 hs he hp ho
  ·simp only[Ja]at hm;obtain⟨kt,et,h1,h2⟩:=Qadl hm.2;exact Qbi2 (.inr ‹_›) h1 h2 hm.1.1.1 hm.1.1.2 hm.1.2 hs he hp ho
  ·simp at hm
 |del tag x k=>
  simp only[mE]at hm;split at hm
  ·rename_i x' k' ats hop
   simp only[Ja]at hm;obtain⟨⟨⟨h1,h2⟩,h3⟩,h4⟩:=hm;split at h4
   ·rename_i t ht
    obtain⟨kt,et,k1,k2⟩:=Qadl h4;exact Qbk3 hop ht (by simpa using h3) k1 k2 h1 h2 hs he hp ho
   ·simp at h4
  ·simp at hm
 |clrm x=>
  simp only[mE]at hm;split at hm
  ·rename_i x' ats hop
   rw[Ja]at hm;obtain⟨h1,h2⟩:=hm;split at h2
   ·rename_i t ht
    split at h2
    ·exact Qbix hop ht ‹_› h1 hs he hp ho
    ·simp at h2
   ·simp at h2
  ·simp at hm
 |clrs sz zero x=>
  simp only[mE]at hm;split at hm
  ·rename_i x' ats hop
   rw[Ja,Ja,beq_iff_eq]at hm;obtain⟨⟨h1,h3⟩,h2⟩:=hm;split at h2
   ·rename_i t ht
    split at h2
    ·rename_i el hu
     obtain⟨i,z,l1,l2,l3⟩:=Qk8 h2;exact Qbiy hop ht hu l1 l2 l3 h3 h1 hs he hp ho
    ·simp at h2
   ·simp at h2
  ·simp at hm
 |call f xs=>
  simp only[mE]at hm;split at hm
  ·simp only[Ja,beq_iff_eq]at hm;obtain⟨rfl,h2⟩:=hm;simp only[EOp.eff]at ho;exact Qbiw ‹_› h2 hs he hp ho.1 ho.2
  ·simp at hm
 |callv x xs=>
  simp only[mE]at hm;split at hm
  ·simp only[Ja]at hm;exact Qbf9 ‹_› hm.1 hm.2 hs he hp ho
  ·simp at hm
 |rng x=>
  simp only[mE]at hm;split at hm
  ·rename_i t x' hop
   rw[Ja]at hm;obtain⟨h1,h2⟩:=hm;split at h2
   ·exact Qbk8 hop ‹_› h1 hs he hp ho
   ·simp at h2
  ·simp at hm
 |rngs x=>
  simp only[mE]at hm;split at hm
  ·rename_i t x' hop
   rw[Ja]at hm;obtain⟨h1,h2⟩:=hm;split at h2
   ·exact Qbi1 hop ‹_› h1 hs he hp ho
   ·simp at h2
  ·simp at hm
 |nxts x=>
  simp only[mE]at hm;split at hm
  ·exact Qbi0 ‹_› hm hs he hp ho
  ·simp at hm
 |nxt x=>
  simp only[mE]at hm;split at hm
  ·exact Qbk7 ‹_› hm hs he hp ho
  ·simp at hm
 |ent x=>
  simp only[mE]at hm;split at hm
  ·exact Qbk4 ‹_› hm hs he hp ho
  ·simp at hm
 |cpy sz x y=>
  simp only[mE]at hm;split at hm
  ·rename_i x' y' ats hop
   rw[Ja,Ja]at hm;obtain⟨⟨h1,h3⟩,h2⟩:=hm;split at h2
   ·rename_i t ht
    split at h2
    ·rename_i el hu
     obtain⟨i,l1,l2⟩:=Qfa h2;exact Qbk2 hop ht hu l1 l2 h1 h3 hs he hp ho
    ·simp at h2
   ·simp at h2
  ·simp at hm
 |nilq x=>
  simp only[mE]at hm;split at hm
  ·rename_i t x' t' hop
   rw[Ja]at hm;obtain⟨h1,h2⟩:=hm;split at h2
   ·exact Qbiz hop ‹_› h1 rfl hs he hp ho
   ·simp at h2
  ·simp at hm
def mG (ops:Array Oper):Option (Nat×Bool)→Option (Nat×Bool)→Bool
 |none,none=>true
 |some (j,b),some (t,b')=>(match ops[j]? with
  |some o=>o.dst == some t
  |none=>false)&&b == b'
 |_,_=>false
def mDst (n:Nat)(d d':Option Nat):Bool:=
 d == d'&&(match d with
  |some t=>decide (t<n)
  |none=>true)
def Qog (P:Program)(n:Nat)(ops:Array Oper)(o:Oper):Item→Bool
 |.f d g op=>mDst n o.dst d&&mG ops o.guard g&&mF P o op
 |.p d g f xs=>mDst n o.dst d&&mG ops o.guard g&&mE P o (.call f xs)
 |.e d g op=>mDst n o.dst d&&mG ops o.guard g&&mE P o op
 |.chk _ _ _=>false
def mIts (P:Program)(n:Nat)(ops:Array Oper):Nat→List Item→Bool
 |i,[]=>i == ops.size
 |i,x::r=>(match ops[i]? with
  |some o=>Qog P n ops o x
  |none=>false)&&mIts P n ops (i+1) r
def Post (n:Nat)(H:Heap)(g:G)(w:World)(K:Env→Heap→Prop)(a:Act)(w':World):Prop:=
 ∃e' H' g',K e' H'∧Stp H g w H' g' w'∧EnvOk w' g' e' a∧a.defers=[]∧a.tmps.size=n
theorem EnvOk.mono {g':G}{w':World}(hle:Le g w g' w')(h:EnvOk w g e a):EnvOk w' g' e a:=fun t=>(h t).mono hle
theorem EnvOk.put {n:Nat}{d:Option Nat}{x:V}{v:Value}(h:EnvOk w g e a)(hv:RepV w g x v)(hn:a.tmps.size=n)(hd:∀t,d=some t→t<n):EnvOk w g (putE d x e) (a.put d v):=by
 intro t
 cases d with
 |none=>exact h t
 |some s=>
  have hs:=hd s rfl;simp only[putE,lk,Act.put];by_cases ht:t=s
  ·subst ht;rw[if_pos rfl];have:(a.tmps.setIfInBounds t v).getD t undef=v:=by
    rw[Jc,Jr (by omega)];rfl
   rw[this];exact hv
  ·rw[if_neg ht];have:(a.tmps.setIfInBounds s v).getD t undef=a.tmps.getD t undef:=by
    rw[Jc,J3 (Jal ht),←Jc]
   rw[this];exact h t
theorem Qb6 (a:Act)(d:Option Nat)(v:Value):(a.put d v).tmps.size=a.tmps.size∧(a.put d v).defers=a.defers:=by
 cases d <;> simp[Act.put]
theorem Qp0 {n:Nat}{ops:Array Oper}{gd:Option (Nat×Bool)}(hm:mG ops o.guard gd=true)(he:EnvOk w g e a)(ho:gdO e gd):Region.wanted o (yielded ops a.tmps)=gdB e gd:=by
 unfold Region.wanted
 cases hg:o.guard with
 |none=>
  cases gd with
  |none=>rfl
  |some x=>rw[hg]at hm;simp[mG]at hm
 |some jb=>
  obtain⟨j,b⟩:=jb
  cases gd with
  |none=>rw[hg]at hm;simp[mG]at hm
  |some tb=>
   obtain⟨t,b'⟩:=tb;rw[hg]at hm;simp only[mG,Ja,beq_iff_eq]at hm;obtain⟨h1,rfl⟩:=hm;split at h1
   ·rename_i oj hoj
    simp at h1;simp only[yielded,hoj,Option.bind_some,h1];have hv:=he t;simp only[gdO]at ho;simp only[gdB];have hget:∀c,a.tmps.getD t undef=.bool c→a.tmps[t]? = some (.bool c):=by
     intro c hc;rw[Jc]at hc
     cases hx:a.tmps[t]? with
     |none=>rw[hx]at hc;simp[undef]at hc
     |some y=>rw[hx]at hc;simp at hc;rw[hc]
    have hno:a.tmps.getD t undef=undef→∀c,a.tmps[t]?≠some (.bool c):=by
     intro hu c hc;rw[Jc,hc]at hu;simp[undef]at hu
    split at ho
    ·rename_i c hlk
     rw[hlk]at hv;have:=hget _ hv.c_inv.bool_inv;simp only[hlk];simp[this]
    ·rename_i q c hlk
     rw[hlk]at hv;simp only[hlk]
     cases hv with
     |gd _ _ _ k1 k2=>
      cases q with
      |true=>
       have:=hget _ (k1 rfl).c_inv.bool_inv;simp[this]
      |false=>
       have:=hno (k2 rfl);simp only[Jaw]
       cases hx:a.tmps[t]? with
       |none=>simp
       |some y=>cases y <;> simp_all
    ·rename_i q v hnb hlk
     rw[hlk]at hv;subst ho;have e0:gdB e (some (t,b))=false:=by
      simp only[gdB,hlk]
      cases v with
      |c x=>cases x <;> simp
      |_=>rfl
     refine Eq.trans ?_ e0.symm
     cases hv with
     |gd _ _ _ k1 k2=>
      have:=hno (k2 rfl)
      cases hx:a.tmps[t]? with
      |none=>simp
      |some y=>cases y <;> simp_all
    ·exact ho.elim
   ·simp at h1
theorem Qen {n:Nat}{d d':Option Nat}(h:mDst n d d'=true):d=d'∧∀t,d=some t→t<n:=by
 unfold mDst at h;rw[Ja]at h;refine⟨by simpa using h.1,fun t ht=>?_⟩;subst ht;simpa using h.2
theorem Qa01 {f:Nat}{xs:List Opd}{r:V}(hm:mE P o (.call f xs)=true)(hs:Sat H g w)(he:EnvOk w g e a)(hp:p=true)(hf:∀x∈xs,x.fine p e)(hc:Qba8 P f (xs.map fun x=>x.v e) r) :
  EOk P H g w a o (fun v H'=>v=r∧H'=H):=
 Qac0 (op:=.call f xs) hm hs he hp ⟨hf,hc.2 H _ ⟨rfl,rfl⟩⟩
theorem Qavb {KP:Value→Heap→Prop}{K:V→Heap→Prop}{x:V}{v:Value}(h:Qau9 KP K x H)(hr:RepV w g x v):K x H:=by
 cases hr <;> exact h
theorem Qa2f {n:Nat}{ops:Array Oper}{i:Nat}{x:Item}{rest:List Item}{KP:Value→Heap→Prop}{K:Env→Heap→Prop}{Q:Exit→Act→World→Prop}{next:Act→World→Prop}(hoi:ops[i]? = some o)(hm:Qog P n ops o x=true)
  (hs:Sat H g w) (he:EnvOk w g e a) (hn:a.tmps.size=n) (hd:a.defers=[]) (hr:regT P (x::rest) e H KP K)
  (hpan:∀v H' g' w',KP v H'→Stp H g w H' g' w'→Q (.panic [{ v:=v,recovered:=false }]) a w')
  (hnext:∀e' H' g' a' w',regT P rest e' H' KP K→Stp H g w H' g' w'→EnvOk w' g' e' a'→a'.tmps.size=n→a'.defers=[]→next a' w') :
  (if Region.wanted o (yielded ops a.tmps)then o.wp P a w next Q∨(o.asks P a w∧LetsOut Q)else next (a.put o.dst undef) w):=by
 cases x with
 |f d gd op=>
  simp only[Qog,Ja]at hm;obtain⟨⟨h1,h2⟩,h3⟩:=hm;obtain⟨hd1,hd2⟩:=Qen h1;simp only[regT]at hr;obtain⟨r1,r2,r3⟩:=hr;rw[Qp0 (n:=n) h2 he r1];by_cases hg:gdB e gd=true
  ·rw[if_pos hg];obtain⟨v,w',g',k1,k2,k3,k4⟩:=Qaqw h3 hs he hg (r2 hg);left;unfold Oper.wp;rw[k1,Oper.upon_value,hd1];refine hnext _ _ _ _ _ (r3 fun _=>k4) k2 (((he.mono k2.le).put (n:=n) ?_ hn (hd1▸hd2))) (by rw[(Qb6 _ _ _).1,hn]) (by rw[(Qb6 _ _ _).2,hd])
   cases gd with
   |none=>exact k3
   |some tb=>exact .gd _ _ _ (fun _=>k3) (fun h=>by rw[hg]at h;simp at h)
  ·rw[if_neg hg];have hg':gdB e gd=false:=by simpa using hg
   rw[hd1];refine hnext _ _ _ _ _ (r3 fun h=>absurd h hg) (.refl hs) (he.put (n:=n) ?_ hn (hd1▸hd2)) (by rw[(Qb6 _ _ _).1,hn]) (by rw[(Qb6 _ _ _).2,hd])
   cases gd with
   |none=>simp[gdB]at hg'
   |some tb=>exact .gd _ _ _ (fun h=>absurd h hg) (fun _=>rfl)
 |p d gd f xs=>
  simp only[Qog,Ja]at hm;obtain⟨⟨h1,h2⟩,h3⟩:=hm;obtain⟨hd1,hd2⟩:=Qen h1;simp only[regT]at hr;obtain⟨r1,v0,r2,r3⟩:=hr;rw[Qp0 (n:=n) h2 he r1];by_cases hg:gdB e gd=true
  ·rw[if_pos hg];obtain⟨s1,s2⟩:=r2 hg;left;refine Qa01 h3 hs he hg s1 s2 Q next (fun x v w' H' g' hk hst hrep=>?_) fun v w' H' g' hk _=>absurd hk.1.symm (s2.1 v);obtain⟨rfl,rfl⟩:=hk;rw[hd1];refine hnext _ _ _ _ _ r3 hst (((he.mono hst.le).put (n:=n) ?_ hn (hd1▸hd2))) (by rw[(Qb6 _ _ _).1,hn]) (by rw[(Qb6 _ _ _).2,hd])
   cases gd with
   |none=>exact hrep
   |some tb=>exact .gd _ _ _ (fun _=>hrep) (fun h=>by rw[hg]at h;simp at h)
  ·rw[if_neg hg];have hg':gdB e gd=false:=by simpa using hg
   rw[hd1];refine hnext _ _ _ _ _ r3 (.refl hs) (he.put (n:=n) ?_ hn (hd1▸hd2)) (by rw[(Qb6 _ _ _).1,hn]) (by rw[(Qb6 _ _ _).2,hd])
   cases gd with
   |none=>simp[gdB]at hg'
   |some tb=>exact .gd _ _ _ (fun h=>absurd h hg) (fun _=>rfl)
 |e d gd op=>
  simp only[Qog,Ja]at hm;obtain⟨⟨h1,h2⟩,h3⟩:=hm;obtain⟨hd1,hd2⟩:=Qen h1;simp only[regT]at hr;obtain⟨r1,r2,r3⟩:=hr;rw[Qp0 (n:=n) h2 he r1];by_cases hg:gdB e gd=true
  ·rw[if_pos hg];left;refine Qac0 h3 hs he hg (r2 hg) Q next (fun x v w' H' g' hk hst hrep=>?_) fun v w' H' g' hk hst=>hpan v H' g' w' hk hst;rw[hd1];exact hnext _ _ _ _ _ (Qavb hk hrep) hst (((he.mono hst.le).put (n:=n) hrep hn (hd1▸hd2))) (by rw[(Qb6 _ _ _).1,hn]) (by rw[(Qb6 _ _ _).2,hd])
  ·rw[if_neg hg];have hg':gdB e gd=false:=by simpa using hg
   rw[hd1];exact hnext _ _ _ _ _ (r3 hg') (.refl hs) (he.put (n:=n) (.unk _) hn (hd1▸hd2)) (by rw[(Qb6 _ _ _).1,hn]) (by rw[(Qb6 _ _ _).2,hd])
 |chk d gd op=>simp[Qog]at hm
theorem Q9o {n:Nat}{ops:Array Oper}{KP:Value→Heap→Prop}{K:Env→Heap→Prop}{Q:Exit→Act→World→Prop}{H0:Heap}{g0:G}{w0:World}(hQ:∀a' w',Post n H0 g0 w0 K a' w'→Q .normal a' w')
  (hP:∀v a' w',Post n H0 g0 w0 (fun _ H'=>KP v H') a' w'→Q (.panic [{ v:=v,recovered:=false }]) a' w') :
  ∀(its:List Item) (i:Nat) (e:Env) (H:Heap) (g:G) (w:World) (a:Act),mIts P n ops i its=true→Stp H0 g0 w0 H g w→EnvOk w g e a→a.tmps.size=n→a.defers=[]→regT P its e H KP K→
   wpOps P ops Q (List.range' i its.length) a w
 |[],i,e,H,g,w,a,_,hst,he,hn,hd,hr=>hQ a w ⟨e,H,g,hr,hst,he,hd,hn⟩
 |x::rest,i,e,H,g,w,a,hm,hst,he,hn,hd,hr=>by
  simp only[mIts,Ja]at hm;obtain⟨h1,h2⟩:=hm;split at h1
  ·rename_i o ho
   simp only[J7,List.range'_succ,wpOps,ho];have:=Qa2f (Q:=Q) (next:=wpOps P ops Q (List.range' (i+1) rest.length)) ho h1 hst.sat he hn hd hr (fun v H' g' w' k1 k2=>hP v a w' ⟨e,H',g',k1,hst.trans k2,he.mono k2.le,hd,hn⟩) fun e' H' g' a' w' k1 k2 k3 k4 k5=>
    Q9o hQ hP rest (i+1) e' H' g' w' a' h2 (hst.trans k2) k3 k4 k5 k1
   simpa using this
  ·simp at h1
theorem Qa0p {n:Nat}{ops:Array Oper}:∀(its:List Item) (i:Nat),mIts P n ops i its=true→i+its.length=ops.size
 |[],i,h=>by simpa[mIts]using h
 |x::r,i,h=>by
  simp only[mIts,Ja]at h;have:=Qa0p r (i+1) h.2;simp only[J7];omega
end Go.AE
namespace Go.AE
variable {P:Program}
def optL:Option Opd→List Opd
 |none=>[]
 |some x=>[x]
def FOp.opds:FOp→List Opd
 |.mv x=>[x]
 |.pick c a b=>[c,a,b]
 |.bin _ _ a b=>[a,b]
 |.not a=>[a]
 |.fad _ a=>[a]
 |.iad _ a i=>[a,i]
 |.ld _ _ a=>[a]
 |.nck a=>[a]
 |.len a=>[a]
 |.lenx a=>[a]
 |.lens a=>[a]
 |.lensx a=>[a]
 |.lenm a=>[a]
 |.sli _ a lo hi=>a::(optL lo++optL hi)
 |.slis a lo hi=>a::(optL lo++optL hi)
 |.ext a _=>[a]
 |.asl _ a=>[a]
 |.aslp _ a hi=>a::optL hi
 |.ldg _ _ _=>[]
 |.ldo _ _=>[]
 |.aslg _ _ _=>[]
 |.iax _ _ a i=>[a,i]
 |.slm _ a hi=>[a,hi]
 |.iaa _ _ a i=>[a,i]
 |.fld _ _ _ a=>[a]
 |.idx a i=>[a,i]
 |.bld _ parts=>parts.map fun p=>p.2.2
 |.bsl _ parts=>parts
 |.box a=>[a]
 |.cvt _ a=>[a]
 |.mkf _ caps=>caps
 |.lup _ _ m k=>[m,k]
 |.lup2 _ _ m k=>[m,k]
 |.mx a b=>[a,b]
 |.mn a b=>[a,b]
def EOp.opds:EOp→List Opd
 |.alloc _=>[]
 |.boxm a=>[a]
 |.sto _ a v=>[a,v]
 |.app _ a b=>[a,b]
 |.apz _ _ a n=>[a,n]
 |.mks _ _ n=>[n]
 |.mkm=>[]
 |.upd _ m k v=>[m,k,v]
 |.del _ m k=>[m,k]
 |.clrm m=>[m]
 |.clrs _ _ m=>[m]
 |.call _ args=>args
 |.callv f args=>f::args
 |.rng m=>[m]
 |.nxt it=>[it]
 |.rngs m=>[m]
 |.nxts it=>[it]
 |.ent it=>[it]
 |.nilq a=>[a]
 |.bslm _ parts=>parts
 |.cpy _ a b=>[a,b]
def FOp.hfree:FOp→Bool
 |.iad _ _ _=>false
 |.ld _ _ _=>false
 |.len _=>false
 |.lenx _=>false
 |.lenm _=>false
 |.sli _ _ _ _=>false
 |.lup _ _ _ _=>false
 |.asl _ _=>false
 |.ldg _ _ _=>false
 |.ldo _ _=>false
 |.aslg _ _ _=>false
 |.lup2 _ _ _ _=>false
 |_=>true
theorem Opd.v_congr {e e':Env}{x:Opd}(h:x.raw e'=x.raw e):x.v e'=x.v e:=by
 simp only[Opd.v,h]
theorem Opd.fine_congr {e e':Env}{x:Opd}{p:Bool}(h:x.raw e'=x.raw e):x.fine p e'↔x.fine p e:=by
 simp only[Opd.fine,h]
theorem Qun {e e':Env}{x:Option Opd}{p:Bool}(h:∀y∈optL x,y.raw e'=y.raw e) :
  (x.map fun y=>Q7 (y.v e'))=(x.map fun y=>Q7 (y.v e))∧(optF p x e'↔optF p x e)∧(optI x e'↔optI x e):=by
 cases x with
 |none=>exact⟨rfl,Jao,Jao⟩
 |some y=>
  have:=h y (by simp[optL]);simp only[Jav,optF,optI,Opd.v_congr this,Opd.fine_congr this,and_self]
theorem FOp.congr {op:FOp}{e e':Env}{H:Heap}{p:Bool}(h:∀x∈op.opds,x.raw e'=x.raw e) :
  op.val e' H=op.val e H∧(op.obl p e' H↔op.obl p e H):=by
 cases op <;> simp only[FOp.opds,Ji,J8,or_false,forall_eq_or_imp,forall_eq,Jd,Ju,forall_exists_index,and_imp]at h
 case sli sz a lo hi=>
  have h1:=Opd.v_congr h.1;have h2:=Qun (x:=lo) (p:=p) fun y hy=>h.2 y (.inl hy);have h3:=Qun (x:=hi) (p:=p) fun y hy=>h.2 y (.inr hy);simp only[FOp.val,FOp.obl,h1,h2.1,h3.1,h2.2.1,h3.2.1,h2.2.2,h3.2.2,Opd.fine_congr h.1,and_self]
 case ldg n b l=>exact⟨rfl,Jao⟩
 case ldo b l=>exact⟨rfl,Jao⟩
 case aslg n b l=>exact⟨rfl,Jao⟩
 case aslp n a hi=>
  have h1:=Opd.v_congr h.1;have h3:=Qun (x:=hi) (p:=p) fun y hy=>h.2 y hy;simp only[FOp.val,FOp.obl,h1,h3.1,h3.2.1,h3.2.2,Opd.fine_congr h.1,and_self]
 case slis a lo hi=>
  have h1:=Opd.v_congr h.1;have h2:=Qun (x:=lo) (p:=p) fun y hy=>h.2 y (.inl hy);have h3:=Qun (x:=hi) (p:=p) fun y hy=>h.2 y (.inr hy);simp only[FOp.val,FOp.obl,h1,h2.1,h3.1,h2.2.1,h3.2.1,h2.2.2,h3.2.2,Opd.fine_congr h.1,and_self]
 case bld zero parts=>
  have h1:∀x∈parts,x.2.2.raw e'=x.2.2.raw e:=fun x hx=>h _ x hx rfl;refine⟨?_,?_⟩
  ·simp only[FOp.val];have:(parts.map fun p=>(p.1,(p.2.2.v e').cells))=parts.map fun p=>(p.1,(p.2.2.v e).cells):=
    Jw fun x hx=>by rw[Opd.v_congr (h1 x hx)]
   rw[this]
  ·simp only[FOp.obl];exact forall_congr' fun x=>forall_congr' fun hx=>by rw[Opd.fine_congr (h1 x hx),Opd.v_congr (h1 x hx)]
 case bsl sz parts=>
  refine⟨?_,?_⟩
  ·simp only[FOp.val];have:(parts.map fun x=>(x.v e').cells)=parts.map fun x=>(x.v e).cells:=
    Jw fun x hx=>by rw[Opd.v_congr (h x hx)]
   rw[this]
  ·simp only[FOp.obl];exact forall_congr' fun x=>forall_congr' fun hx=>by rw[Opd.fine_congr (h x hx),Opd.v_congr (h x hx)]
 case mkf f caps=>
  refine⟨?_,?_⟩
  ·simp only[FOp.val];have:(caps.map fun x=>(x.v e').c1)=caps.map fun x=>(x.v e).c1:=
    Jw fun x hx=>by rw[Opd.v_congr (h x hx)]
   rw[this]
  ·simp only[FOp.obl];exact forall_congr' fun x=>forall_congr' fun hx=>by rw[Opd.fine_congr (h x hx),Opd.v_congr (h x hx)]
 case pick c a b=>
  simp only[FOp.val,FOp.obl,Opd.v_congr h.1,Opd.v_congr h.2.1,Opd.v_congr h.2.2,Opd.fine_congr h.1,true_and];constructor <;> rintro⟨k1,k2⟩ <;> refine⟨k1,?_⟩ <;> split at k2 <;> first|exact k2.elim|skip
  ·rw[Opd.fine_congr h.2.1,Opd.fine_congr h.2.2]at k2;exact k2
  ·rw[Opd.fine_congr h.2.1,Opd.fine_congr h.2.2];exact k2
 all_goals first
  |(have h1:=Opd.v_congr h;simp only[FOp.val,FOp.obl,h1,Opd.fine_congr h,and_self])
  |(have h1:=Opd.v_congr h.1;have h2:=Opd.v_congr h.2;simp only[FOp.val,FOp.obl,h1,h2,Opd.fine_congr h.1,Opd.fine_congr h.2,and_self])
theorem FOp.hcongr {op:FOp}{e:Env}{H H':Heap}{p:Bool}(h:op.hfree=true):op.val e H'=op.val e H∧(op.obl p e H'↔op.obl p e H):=by
 cases op <;> first|(simp[FOp.hfree]at h;done)|exact⟨rfl,Jao⟩
theorem Q58 {e e':Env}{xs:List Opd}(h:∀x∈xs,x.raw e'=x.raw e):(xs.map fun x=>x.v e')=(xs.map fun x=>x.v e):=
 Jw fun x hx=>Opd.v_congr (h x hx)
theorem Q1e {e e':Env}{xs:List Opd}{p:Bool}(h:∀x∈xs,x.raw e'=x.raw e):(∀x∈xs,x.fine p e')↔(∀x∈xs,x.fine p e):=
 forall_congr' fun x=>forall_congr' fun hx=>Opd.fine_congr (h x hx)
theorem EOp.congr {op:EOp}{e e':Env}{H:Heap}{p:Bool}{K:V→Heap→Prop}(h:∀x∈op.opds,x.raw e'=x.raw e)(he:op.eff P p e H K):op.eff P p e' H K:=by
 cases op
 case call f xs=>
  simp only[EOp.opds]at h;simp only[EOp.eff]at he⊢;rw[Q58 h,Q1e h];exact he
 case callv f xs=>
  simp only[EOp.opds,Ji,forall_eq_or_imp]at h;simp only[EOp.eff]at he⊢;rw[Q58 h.2,Q1e h.2,Opd.fine_congr h.1,Opd.v_congr h.1];exact he
 case bslm sz parts=>
  simp only[EOp.opds]at h;simp only[EOp.eff]at he⊢;have:(parts.map fun x=>(x.v e').cells)=parts.map fun x=>(x.v e).cells:=
   Jw fun x hx=>by rw[Opd.v_congr (h x hx)]
  rw[this];exact⟨fun x hx=>by rw[Opd.fine_congr (h x hx),Opd.v_congr (h x hx)];exact he.1 x hx,he.2⟩
 all_goals simp only[EOp.opds,Ji,J8,or_false,forall_eq_or_imp,forall_eq]at h
 all_goals first
  |exact he
  |(simp only[EOp.eff,Opd.v_congr h,Opd.fine_congr h]at he⊢;exact he)
  |(simp only[EOp.eff,Opd.v_congr h.1,Opd.fine_congr h.1,Opd.v_congr h.2,Opd.fine_congr h.2]at he⊢;exact he)
  |(simp only[EOp.eff,Opd.v_congr h.1,Opd.fine_congr h.1,Opd.v_congr h.2.1,Opd.fine_congr h.2.1,Opd.v_congr h.2.2,Opd.fine_congr h.2.2]at he⊢;exact he)
def Item.dst:Item→Option Nat
 |.f d _ _=>d
 |.p d _ _ _=>d
 |.e d _ _=>d
 |.chk _ _ _=>none
def Item.gd:Item→Option (Nat×Bool)
 |.f _ g _=>g
 |.p _ g _ _=>g
 |.e _ g _=>g
 |.chk _ g _=>g
def Item.opds:Item→List Opd
 |.f _ _ op=>op.opds
 |.p _ _ _ xs=>xs
 |.e _ _ op=>op.opds
 |.chk _ _ op=>op.opds
def Opd.tm:Opd→List Nat
 |.t n=>[n]
 |_=>[]
def Item.looks (x:Item):List Nat:=x.opds.flatMap Opd.tm++(match x.gd with
 |some (t,_)=>[t]
 |none=>[])
theorem Qa8j {e e':Env}{x:Opd}(h:∀t∈x.tm,lk t e'=lk t e):x.raw e'=x.raw e:=by
 cases x with
 |t n=>simpa[Opd.raw,Opd.tm]using h
 |k v=>rfl
theorem Qaq5 {e e':Env}{x:Item}(h:∀t∈x.looks,lk t e'=lk t e):∀y∈x.opds,y.raw e'=y.raw e:=fun y hy=>
 Qa8j fun t ht=>h t (Jh _ (List.mem_flatMap.2 ⟨y,hy,ht⟩))
theorem Qbb4 {e e':Env}{gd:Option (Nat×Bool)}(h:∀t b,gd=some (t,b)→lk t e'=lk t e):gdB e' gd=gdB e gd∧(gdO e' gd↔gdO e gd):=by
 cases gd with
 |none=>exact⟨rfl,Jao⟩
 |some x=>
  obtain⟨t,b⟩:=x;have:=h t b rfl;simp only[gdB,gdO,this,and_self]
theorem Qa0m {e e':Env}{x:Item}(h:∀t∈x.looks,lk t e'=lk t e):gdB e' x.gd=gdB e x.gd∧(gdO e' x.gd↔gdO e x.gd):=
 Qbb4 fun t b hg=>h t (Jf _ (by rw[hg];simp))
theorem Qaoj (ks:List Nat)(e:Env)(t:Nat):lk t (trim ks e)=if t∈ks then lk t e else .unk:=by
 unfold trim
 induction ks with
 |nil=>simp[lk]
 |cons k ks ih=>
  simp only[Jt,lk,ih,Ji];by_cases h:t=k
  ·subst h;simp
  ·simp[h]
end Go.AE
namespace Go.AE
variable {P:Program}{H:Heap}{g:G}{w:World}{e:Env}{a:Act}
def Item.isE:Item→Bool
 |.e _ _ _=>true
 |_=>false
def Item.isChk:Item→Bool
 |.chk _ _ _=>true
 |_=>false
def Item.isFl:Item→Bool
 |.f _ _ _=>true
 |.p _ _ _ _=>true
 |_=>false
def Item.hf:Item→Bool
 |.f _ _ op=>op.hfree
 |_=>true
def Item.isFa:Item→Bool
 |.e (some _) none (.alloc _)=>true
 |_=>false
abbrev Row:=Nat×Item
def Q57 (ms:List Nat)(o:Oper):Nat→List Edge→Nat
 |s,[]=>s
 |s,ed::r=>Q57 ms o (if Region.binds .any ed then s ||| (2 ^ ed.on ||| ms.getD ed.on 0)else s) r
def dIn (d:Option Nat)(l:List Nat):Bool:=
 match d with
 |some t=>l.contains t
 |none=>false
def flo (fa i:Nat):Bool:=i == fa || (decide (100000≤fa)&&(fa-100000).testBit i)
def Qa0z (ms:List Nat)(fa:Nat)(x y:Row):Bool:=
 x.1 != y.1&&!((ms.getD x.1 0).testBit y.1)&&(match x.2.dst with
  |some t=>y.2.dst != some t
  |none=>true)
 &&(!(dIn y.2.dst x.2.looks) || (ms.getD y.1 0).testBit x.1)
 &&(!(dIn x.2.dst y.2.looks) || (ms.getD y.1 0).testBit x.1)
 &&(!x.2.isE || flo fa y.1 || (ms.getD y.1 0).testBit x.1)
def Qan9 (j:Nat):List Row→Bool
 |[]=>false
 |y::r=>y.2.isChk&&(y.1 == j || Qan9 j r)
def Qa2u (P:Program)(n:Nat)(ops:Array Oper)(ms:List Nat)(fa:Nat)(pre:List Row)(y:Row)(rest:List Row):Bool:=
 match ops[y.1]? with
 |none=>false
 |some o=>match y.2 with
  |.chk d gd op=>Qog P n ops o (.f (some d) gd op)&&pre.any (fun z=>!z.2.isChk&&z.1 == y.1&&z.2.looks == y.2.looks&&z.2.dst == some d&&!z.2.hf)
    &&pre.all (fun z=>z.2.isChk || !(dIn z.2.dst y.2.looks) || (ms.getD y.1 0).testBit z.1)
  |_=>Qog P n ops o y.2&&o.after.toList.all (fun ed=>!Region.binds .any ed || pre.any fun z=>!z.2.isChk&&z.1 == ed.on)
    &&ms.getD y.1 0 == Q57 ms o 0 o.after.toList&&!(dIn y.2.dst y.2.looks)
    &&pre.all (fun z=>z.2.isChk || Qa0z ms fa z y)&&(!flo fa y.1 || y.2.isFa)
    &&(!y.2.isE || pre.all (fun z=>z.2.isChk || z.2.hf || (ms.getD y.1 0).testBit z.1 || Qan9 z.1 rest))
def Qasc (P:Program)(n:Nat)(ops:Array Oper)(ms:List Nat)(fa:Nat):List Row→List Row→Bool
 |_,[]=>true
 |pre,y::r=>Qa2u P n ops ms fa pre y r&&Qasc P n ops ms fa (pre++[y]) r
def Qbhj:List Oper→List Nat→List Nat
 |[],ms=>ms
 |o::r,ms=>Qbhj r (ms++[Q57 ms o 0 o.after.toList])
def Qbhb (P:Program)(n:Nat)(ops:Array Oper)(fa:Nat)(ord:List Nat)(its:List Item):Bool:=
 ord.length == its.length&&Region.noSelect ops&&Qasc P n ops (Qbhj ops.toList []) fa [] (ord.zip its)
  &&(List.range ops.size).all fun i=>(ord.zip its).any fun y=>!y.2.isChk&&y.1 == i
theorem Q1s {n:Nat}{ops:Array Oper}{ms:List Nat}{fa:Nat}:∀(L pre:List Row),Qasc P n ops ms fa pre L=true→
  ∀A y B,L=A++y::B→Qa2u P n ops ms fa (pre++A) y B=true
 |[],_,_,A,y,B,h=>by simp at h
 |x::r,pre,hm,A,y,B,h=>by
  simp only[Qasc,Ja]at hm
  cases A with
  |nil=>
   simp at h;obtain⟨rfl,rfl⟩:=h;simpa using hm.1
  |cons a A=>
   simp at h;obtain⟨rfl,rfl⟩:=h;have:=Q1s _ _ hm.2 A y B rfl;simpa[Jae]using this
theorem Q87 {ms:List Nat}{o:Oper}{j:Nat}:∀(l:List Edge) (s:Nat),(Q57 ms o s l).testBit j=true→
  s.testBit j=true∨∃ed∈l,Region.binds .any ed=true∧(ed.on=j∨(ms.getD ed.on 0).testBit j=true)
 |[],s,h=>.inl h
 |ed::r,s,h=>by
  simp only[Q57]at h;rcases Q87 r _ h with h1|⟨x,hx,h1⟩
  ·by_cases hb:Region.binds .any ed=true
   ·rw[if_pos hb]at h1;simp only[Nat.testBit_or,J9]at h1;rcases h1 with h1|h1|h1
    ·exact .inl h1
    ·rw[Nat.testBit_two_pow]at h1;exact .inr ⟨ed,by simp,hb,.inl (by simpa using h1)⟩
    ·exact .inr ⟨ed,by simp,hb,.inr h1⟩
   ·rw[if_neg hb]at h1;exact .inl h1
  ·exact .inr ⟨x,by simp[hx],h1⟩
theorem dIn_iff {d:Option Nat}{l:List Nat}:dIn d l=true↔∃t,d=some t∧t∈l:=by
 cases d <;> simp[dIn]
structure PairOk (ms:List Nat)(fa:Nat)(x y:Row):Prop where
 ne:x.1≠y.1
 top:(ms.getD x.1 0).testBit y.1=false
 dst:∀t,x.2.dst=some t→y.2.dst≠some t
 war:∀t,y.2.dst=some t→t∈x.2.looks→(ms.getD y.1 0).testBit x.1=true
 raw:∀t,x.2.dst=some t→t∈y.2.looks→(ms.getD y.1 0).testBit x.1=true
 ord:x.2.isE=true→¬flo fa y.1=true→(ms.getD y.1 0).testBit x.1=true
theorem Qawj {ms:List Nat}{fa:Nat}{x y:Row}(h:Qa0z ms fa x y=true):PairOk ms fa x y:=by
 simp only[Qa0z,Ja,bne_iff_ne,J9,Jz,beq_iff_eq]at h;obtain⟨⟨⟨⟨⟨h1,h2⟩,h3⟩,h4⟩,h5⟩,h6⟩:=h;refine⟨h1,h2,?_,?_,?_,?_⟩
 ·intro t ht;rw[ht]at h3;simpa using h3
 ·intro t ht hm;rcases h4 with h4|h4
  ·have:=dIn_iff.2 ⟨t,ht,hm⟩;rw[this]at h4;simp at h4
  ·exact h4
 ·intro t ht hm;rcases h5 with h5|h5
  ·have:=dIn_iff.2 ⟨t,ht,hm⟩;rw[this]at h5;simp at h5
  ·exact h5
 ·intro hx hy;rcases h6 with (h6|h6)|h6
  ·rw[hx]at h6;simp at h6
  ·exact absurd h6 hy
  ·exact h6
structure RowOk (P:Program)(n:Nat)(ops:Array Oper)(ms:List Nat)(fa:Nat)(pre:List Row)(y:Row)(rest:List Row)(o:Oper):Prop where
 op:ops[y.1]? = some o
 item:Qog P n ops o y.2=true
 aft:∀ed∈o.after,Region.binds .any ed=true→∃z∈pre,z.2.isChk=false∧z.1=ed.on
 anc:∀j,(ms.getD y.1 0).testBit j=true→∃ed∈o.after,Region.binds .any ed=true∧(ed.on=j∨(ms.getD ed.on 0).testBit j=true)
 self:∀t,y.2.dst=some t→t∉y.2.looks
 pair:∀z∈pre,z.2.isChk=false→PairOk ms fa z y
 isFa:flo fa y.1=true→y.2.isFa=true
 cover:y.2.isE=true→∀z∈pre,z.2.isChk=false→z.2.hf=false→(ms.getD y.1 0).testBit z.1=false→Qan9 z.1 rest=true
theorem Qa2v {n:Nat}{ops:Array Oper}{ms:List Nat}{fa:Nat}{pre:List Row}{y:Row}{rest:List Row}(h:Qa2u P n ops ms fa pre y rest=true)(hc:y.2.isChk=false) :
  ∃o,RowOk P n ops ms fa pre y rest o:=by
 obtain⟨i,x⟩:=y;unfold Qa2u at h
 cases ho:ops[i]? with
 |none=>simp[ho]at h
 |some o=>
  simp only[ho]at h;have key:(Qog P n ops o x&&o.after.toList.all (fun ed=>!Region.binds .any ed || pre.any fun z=>!z.2.isChk&&z.1 == ed.on)
    &&ms.getD i 0 == Q57 ms o 0 o.after.toList&&!(dIn x.dst x.looks)
    &&pre.all (fun z=>z.2.isChk || Qa0z ms fa z (i,x))&&(!flo fa i || x.isFa)
    &&(!x.isE || pre.all (fun z=>z.2.isChk || z.2.hf || (ms.getD i 0).testBit z.1 || Qan9 z.1 rest)))=true:=by
   cases x with
   |chk=>simp[Item.isChk]at hc
   |f=>exact h
   |p=>exact h
   |e=>exact h
  simp only[Ja,J6,J9,Jz,beq_iff_eq,bne_iff_ne,Jaf]at key;obtain⟨⟨⟨⟨⟨⟨h1,h2⟩,h3⟩,h4⟩,h5⟩,h6⟩,h7⟩:=key;refine⟨o,ho,h1,?_,?_,?_,?_,?_,?_⟩
  ·intro ed hed hb;rcases h2 ed (by simpa using hed)with h|⟨z,hz,h⟩
   ·rw[hb]at h;simp at h
   ·exact⟨z,hz,h.1,h.2⟩
  ·intro j hj;simp only at hj;rw[h3]at hj;rcases Q87 _ _ hj with h|⟨ed,hed,h⟩
   ·simp at h
   ·exact⟨ed,by simpa using hed,h⟩
  ·intro t ht hm;have:=dIn_iff.2 ⟨t,ht,hm⟩;simp only at this;rw[this]at h4;simp at h4
  ·intro z hz hzc;rcases h5 z hz with h|h
   ·rw[hzc]at h;simp at h
   ·exact Qawj h
  ·intro hf;rcases h6 with h|h
   ·exact absurd hf (by rw[h];decide)
   ·exact h
  ·intro hE z hz hzc hzh hzt;rcases h7 with h|h
   ·simp only at hE;rw[hE]at h;simp at h
   ·rcases h z hz with ((h|h)|h)|h
    ·rw[hzc]at h;simp at h
    ·rw[hzh]at h;simp at h
    ·simp only at hzt;rw[hzt]at h;simp at h
    ·exact h
theorem Qa10 {n:Nat}{ops:Array Oper}{ms:List Nat}{fa:Nat}{pre:List Row}{i d:Nat}{gd:Option (Nat×Bool)}{op:FOp}{rest:List Row}(h:Qa2u P n ops ms fa pre (i,.chk d gd op) rest=true) :
  ∃o,ops[i]? = some o∧Qog P n ops o (.f (some d) gd op)=true∧(∃z∈pre,z.2.isChk=false∧z.1=i∧z.2.looks=(Item.f (some d) gd op).looks∧z.2.dst=some d∧z.2.hf=false)∧
   ∀z∈pre,z.2.isChk=false→∀t,z.2.dst=some t→t∈(Item.f (some d) gd op).looks→(ms.getD i 0).testBit z.1=true:=by
 unfold Qa2u at h
 cases ho:ops[i]? with
 |none=>simp[ho]at h
 |some o=>
  simp only[ho,Ja,Jaf,J6,J9,Jz,beq_iff_eq]at h;obtain⟨⟨h1,z,hz,⟨⟨⟨h2,h3⟩,h4⟩,h5⟩,h6⟩,h7⟩:=h;refine⟨o,rfl,h1,⟨z,hz,h2,h3,h4,h5,h6⟩,?_⟩;intro z hz hzc t ht hm;rcases h7 z hz with (h|h)|h
  ·rw[hzc]at h;simp at h
  ·have:=dIn_iff.2 ⟨t,ht,hm⟩;change dIn z.2.dst (Item.chk d gd op).looks=true at this;rw[this]at h;simp at h
  ·exact h
abbrev dn (listed:Array Bool)(i:Nat):Prop:=listed.getD i false=true
def Rdy (P:Program)(x:Item)(e:Env)(H:Heap)(v:V):Prop:=
 match x with
 |.f _ gd op=>gdO e gd∧(gdB e gd=true→op.obl (gdB e gd) e H)∧v=gdV gd (gdB e gd) (op.val e H)
 |.p _ gd f xs=>gdO e gd∧∃r,(gdB e gd=true→(∀y∈xs,y.fine (gdB e gd) e)∧Qba8 P f (xs.map fun y=>y.v e) r)∧v=gdV gd (gdB e gd) r
 |_=>False
theorem Rdy.congr {x:Item}{e e':Env}{v:V}(h:∀t∈x.looks,lk t e'=lk t e)(hr:Rdy P x e H v):Rdy P x e' H v:=by
 have h1:=Qaq5 h;have h2:=Qa0m h
 cases x with
 |f d gd op=>
  simp only[Item.gd]at h2;simp only[Item.opds]at h1;have h3:=FOp.congr (H:=H) (p:=gdB e gd) h1;simp only[Rdy]at hr⊢;rw[h2.1,h2.2,h3.1,h3.2];exact hr
 |p d gd f xs=>
  simp only[Item.gd]at h2;simp only[Item.opds]at h1;simp only[Rdy]at hr⊢;rw[h2.1,h2.2,Q58 h1,Q1e h1];exact hr
 |e=>exact hr
 |chk=>exact hr
theorem Rdy.hcongr {x:Item}{e:Env}{H':Heap}{v:V}(h:x.hf=true)(hr:Rdy P x e H v):Rdy P x e H' v:=by
 cases x with
 |f d gd op=>
  have h3:=FOp.hcongr (e:=e) (H:=H) (H':=H') (p:=gdB e gd) (op:=op) h;simp only[Rdy]at hr⊢;rw[h3.1,h3.2];exact hr
 |p d gd f xs=>exact hr
 |e=>exact hr
 |chk=>exact hr
theorem Qbgp {n:Nat}{ops:Array Oper}{i:Nat}{o:Oper}{x:Item}{v:V}{Q:Exit→Act→World→Prop}{next:Act→World→Prop}(hoi:ops[i]? = some o)(hm:Qog P n ops o x=true)
  (hr:Rdy P x e H v) (hs:Sat H g w) (he:EnvOk w g (trim x.looks e) a)
  (hnext:∀u w' g',Stp H g w H g' w'→RepV w' g' v u→next (a.put x.dst u) w') :
  wpOp P ops Q i next a w:=by
 have hr':Rdy P x (trim x.looks e) H v:=hr.congr fun t ht=>by rw[Qaoj,if_pos ht]
 unfold wpOp;rw[hoi];simp only
 cases x with
 |f d gd op=>
  simp only[Qog,Ja]at hm;obtain⟨⟨h1,h2⟩,h3⟩:=hm;obtain⟨hd1,hd2⟩:=Qen h1;simp only[Rdy]at hr';obtain⟨r1,r2,r3⟩:=hr';rw[Qp0 (n:=n) h2 he r1];by_cases hg:gdB (trim (Item.f d gd op).looks e) gd=true
  ·rw[if_pos hg];obtain⟨u,w',g',k1,k2,k3,k4⟩:=Qaqw h3 hs he hg (r2 hg);left;unfold Oper.wp;rw[k1,Oper.upon_value,hd1];refine hnext u w' g' k2 ?_;rw[r3]
   cases gd with
   |none=>exact k3
   |some tb=>exact .gd _ _ _ (fun _=>k3) (fun h=>by rw[hg]at h;simp at h)
  ·rw[if_neg hg];have hg':gdB (trim (Item.f d gd op).looks e) gd=false:=by simpa using hg
   rw[hd1];refine hnext _ _ g (.refl hs) ?_;rw[r3]
   cases gd with
   |none=>simp[gdB]at hg'
   |some tb=>exact .gd _ _ _ (fun h=>absurd h hg) (fun _=>rfl)
 |p d gd f xs=>
  simp only[Qog,Ja]at hm;obtain⟨⟨h1,h2⟩,h3⟩:=hm;obtain⟨hd1,hd2⟩:=Qen h1;simp only[Rdy]at hr';obtain⟨r1,v0,r2,r3⟩:=hr';rw[Qp0 (n:=n) h2 he r1];by_cases hg:gdB (trim (Item.p d gd f xs).looks e) gd=true
  ·rw[if_pos hg];obtain⟨s1,s2⟩:=r2 hg;left;refine Qa01 h3 hs he hg s1 s2 Q next (fun y u w' H' g' hk hst hrep=>?_) fun v w' H' g' hk _=>absurd hk.1.symm (s2.1 v);obtain⟨rfl,rfl⟩:=hk;rw[hd1];refine hnext _ _ g' hst ?_;rw[r3]
   cases gd with
   |none=>exact hrep
   |some tb=>exact .gd _ _ _ (fun _=>hrep) (fun h=>by rw[hg]at h;simp at h)
  ·rw[if_neg hg];have hg':gdB (trim (Item.p d gd f xs).looks e) gd=false:=by simpa using hg
   rw[hd1];refine hnext _ _ g (.refl hs) ?_;rw[r3]
   cases gd with
   |none=>simp[gdB]at hg'
   |some tb=>exact .gd _ _ _ (fun h=>absurd h hg) (fun _=>rfl)
 |e=>exact hr'.elim
 |chk=>exact hr'.elim
theorem Qbfs {n:Nat}{ops:Array Oper}{i:Nat}{o:Oper}{d:Option Nat}{gd:Option (Nat×Bool)}{op:EOp}{K:V→Heap→Prop}{Q:Exit→Act→World→Prop}{next:Act→World→Prop}(hoi:ops[i]? = some o)
  (hm:Qog P n ops o (.e d gd op)=true) (hs:Sat H g w) (he:EnvOk w g (trim (Item.e d gd op).looks e) a)
  (h1:gdO e gd) (h2:gdB e gd=true→op.eff P (gdB e gd) e H K) (h3:gdB e gd=false→K .unk H)
  (hnext:∀x u w' H' g',K x H'→Stp H g w H' g' w'→RepV w' g' x u→next (a.put d u) w') (hpan:∀v w' H' g',K (.pn v) H'→Stp H g w H' g' w'→Q (.panic [{ v:=v,recovered:=false }]) a w') :
  wpOp P ops Q i next a w:=by
 have hlk:∀t∈(Item.e d gd op).looks,lk t (trim (Item.e d gd op).looks e)=lk t e:=fun t ht=>by rw[Qaoj,if_pos ht]
 have c1:=Qaq5 hlk;have c2:=Qa0m hlk;simp only[Item.gd]at c2;simp only[Item.opds]at c1;unfold wpOp;rw[hoi];simp only;simp only[Qog,Ja]at hm;obtain⟨⟨m1,m2⟩,m3⟩:=hm;obtain⟨hd1,hd2⟩:=Qen m1;rw[Qp0 (n:=n) m2 he (c2.2.2 h1),c2.1];by_cases hg:gdB e gd=true
 ·rw[if_pos hg];left;refine Qac0 m3 hs he hg (EOp.congr c1 (h2 hg)) Q next (fun x u w' H' g' hk hst hrep=>?_) hpan;rw[hd1];exact hnext x u w' H' g' hk hst hrep
 ·rw[if_neg hg];rw[hd1];exact hnext .unk undef w H g (h3 (by simpa using hg)) (.refl hs) (.unk _)
structure Early (g0:G)(H:Heap)(g:G)(w:World)(a:Act)(x:Item):Prop where
 ok:∃(d:Nat) (cells:List C) (l b sz:Nat) (T:TypeId) (cs:Array Value),x=.e (some d) none (.alloc cells)∧g.io l=some (b,sz,0)∧g.own b=some (l,[])∧w.heap[b]? = some (.cells cs T (0,0))∧
  cs.size=cells.length∧(∀(k:Nat) (c:C) (v:Value),cells[k]? = some c→cs[k]? = some v→RepC w g c v)∧H l=.none∧g0.io l=none∧RepV w g (.c (.ptr l 0)) (a.tmps.getD d undef)
theorem Early.mono {g0:G}{x:Item}{H':Heap}{g':G}{w':World}{a':Act}(h:Early g0 H g w a x)(hs:Stp H g w H' g' w')(ha:∀d,x.dst=some d→a'.tmps.getD d undef=a.tmps.getD d undef):Early g0 H' g' w' a' x:=by
 obtain⟨d,cells,l,b,sz,T,cs,h1,h2,h3,h4,h5,h6,h7,h8,h9⟩:=h.ok;obtain⟨k1,k2⟩:=hs.fr l (by rw[h2];simp) h7;obtain⟨k3,k4⟩:=k2 b [] h3;refine⟨d,cells,l,b,sz,T,cs,h1,hs.le.io _ _ h2,k3,k4.trans h4,h5,fun k c v p q=>(h6 k c v p q).mono hs.le,k1,h8,?_⟩;rw[ha d (by rw[h1];rfl)];exact h9.mono hs.le
theorem Early.ptr {g0:G}{x:Item}(h:Early g0 H g w a x):∃d l b sz,x.dst=some d∧g.io l=some (b,sz,0)∧b<w.heap.size∧H l=.none∧a.tmps.getD d undef=.pointer (some ⟨b,0,none⟩):=by
 obtain⟨d,cells,l,b,sz,T,cs,h1,h2,h3,h4,h5,h6,h7,h8,h9⟩:=h.ok;refine⟨d,l,b,sz,by rw[h1];rfl,h2,(Jk.1 h4).1,h7,?_⟩;have hr:=h9.c_inv;generalize a.tmps.getD d undef=vv at hr⊢
 cases hr with
 |ptr _ _ b' sz' q h=>
  rw[h2]at h;simp only[Je,Jv]at h;obtain⟨rfl,rfl,rfl⟩:=h;rfl
theorem Early.other {g0:G}{x:Item}(h:Early g0 H g w a x){l:Nat}{o:Obj}{u:Value}(hr:RepV w g (.c (.ptr l 0)) u)(hne:∀d,x.dst=some d→u≠a.tmps.getD d undef):Early g0 (H.set l o) g w a x:=by
 obtain⟨d,cells,l',b,sz,T,cs,h1,h2,h3,h4,h5,h6,h7,h8,h9⟩:=h.ok;have hll:l'≠l:=fun e=>by
  subst e;have k:=h9.c_inv;have k2:=hr.c_inv;have hq:=hne d (by rw[h1];rfl);generalize a.tmps.getD d undef=vv at k hq
  cases k with
  |ptr _ _ b1 s1 q1 e1=>
   cases k2 with
   |ptr _ _ b2 s2 q2 e2=>
    rw[e1]at e2;simp only[Je,Jv]at e2;obtain⟨rfl,rfl,rfl⟩:=e2;exact hq rfl
 exact⟨d,cells,l',b,sz,T,cs,h1,h2,h3,h4,h5,h6,by rw[Heap.set_other _ _ hll];exact h7,h8,h9⟩
theorem Qa16 {n:Nat}{ops:Array Oper}{i:Nat}{o:Oper}{x:Item}{g0:G}{Q:Exit→Act→World→Prop}{next:Act→World→Prop}(hoi:ops[i]? = some o)(hm:Qog P n ops o x=true)(hf:x.isFa=true)
  (hs:Sat H g w) (h0:∀l y,g0.io l=some y→g.io l=some y) (hn:a.tmps.size=n)
  (hnext:∀u w' g',Stp H g w H g' w'→Early g0 H g' w' (a.put x.dst u) x→(∀x',Early g0 H g w a x'→∀d,x'.dst=some d→a.tmps.getD d undef≠u)→next (a.put x.dst u) w') :
  wpOp P ops Q i next a w:=by
 cases x with
 |e d gd op=>
  cases op with
  |alloc cells=>
   cases d with
   |none=>simp[Item.isFa]at hf
   |some d=>
    cases gd with
    |some=>simp[Item.isFa]at hf
    |none=>
     simp only[Qog,Ja]at hm;obtain⟨⟨m1,m2⟩,m3⟩:=hm;obtain⟨hd1,hd2⟩:=Qen m1;have hdn:=hd2 d hd1;simp only[mE]at m3;split at m3
     ·rename_i t hop
      obtain⟨i1,z,z1,z2,z3⟩:=Qk8 m3;obtain⟨l,hl,hH⟩:=hs.newName;have hr:=Qmr (w:=w) (g:=g) z3;have hle:=Qf3 hs hl cells.length 0 (.cells z.cells t);have hst:=Qca hs hl cells.length 0 (.cells z.cells t) .none (fun g' hg=>trivial);rw[Heap.set_self _ _ _ hH]at hst;have hg0:g0.io l=none:=by
       cases hx:g0.io l with
       |none=>rfl
       |some y=>rw[h0 l y hx]at hl;simp at hl
      have hw:Region.wanted o (yielded ops a.tmps)=true:=by
       unfold Region.wanted
       cases hgd:o.guard with
       |none=>rfl
       |some jb=>rw[hgd]at m2;simp[mG]at m2
      unfold wpOp;rw[hoi];simp only;rw[if_pos hw];left;unfold Oper.wp;have hrun:(execOp a.eval o).run P w=.ok (.value (.pointer (some ⟨w.heap.size,0,none⟩))) (w.alloc (.cells z.cells t)):=by
       simp[execOp,hop,Instr.alloc,Qgx z1 z2,newVar,newRow]
      rw[hrun,Oper.upon_value,hd1];refine hnext _ _ _ hst ⟨d,cells,l,w.heap.size,cells.length,t,z.cells,rfl,by simp[G.newObj],by simp[G.newObj],Qa9 _ _,hr.1,fun k c v p q=>(hr.2 k c v p q).mono hle,hH,hg0,?_⟩ (fun x' hx' d' hd' hh=>?_)
      ·have:(a.put (Item.e (some d) none (.alloc cells)).dst (.pointer (some ⟨w.heap.size,0,none⟩))).tmps.getD d undef=.pointer (some ⟨w.heap.size,0,none⟩):=by
        simp only[Item.dst,Act.put];rw[Jc,Jr (by omega)];rfl
       rw[this];exact .c _ _ (.ptr l 0 w.heap.size cells.length 0 (by simp[G.newObj]))
      ·obtain⟨d1,l1,b1,sz1,p1,p2,p3,p4,p5⟩:=hx'.ptr;rw[p1]at hd';obtain rfl:=Jaa hd';rw[p5]at hh;have:=congrArg (fun v=>match v with
        |Value.pointer (some a)=>a.block
        |_=>0) hh
       simp only at this;omega
     ·simp at m3
  |_=>cases d <;> (try cases gd) <;> simp[Item.isFa]at hf
 |_=>simp[Item.isFa]at hf
theorem Qa6a {H0:Heap}{g0:G}{w0:World}{x:Item}(hst:Stp H0 g0 w0 H g w)(h:Early g0 H g w a x) :
  ∃d cells l,x=.e (some d) none (.alloc cells)∧H l=.none∧Stp H0 g0 w0 (H.set l (.st cells)) g w∧RepV w g (.c (.ptr l 0)) (a.tmps.getD d undef):=by
 obtain⟨d,cells,l,b,sz,T,cs,h1,h2,h3,h4,h5,h6,h7,h8,h9⟩:=h.ok;refine⟨d,cells,l,h1,h7,⟨hst.le,fun m hm hn=>?_,⟨hst.sat.fresh,hst.sat.names,hst.sat.excl,hst.sat.named,fun m=>?_⟩⟩,h9⟩
 ·have hml:m≠l:=fun h=>by subst h;exact hm h8
  rw[Heap.set_other _ _ hml];exact hst.fr m hm hn
 ·by_cases hml:m=l
  ·subst hml;rw[Heap.set_same];exact⟨b,sz,T,cs,h2,h3,h4,h5,fun k c v p q=>.plain _ _ _ _ (h6 k c v p q)⟩
  ·have hH':=Heap.set_other H (.st cells) hml;rw[hH',←hH'];refine SatObj.keep hst.sat (.refl _ _) (fun b q hb=>⟨hb,rfl⟩) hH' fun m' v left cur hc v' es hv=>?_;by_cases hm':m'=l
   ·subst hm';rw[Heap.set_same]at hv;simp at hv
   ·rw[Heap.set_other _ _ hm']at hv;exact .inl ⟨hv,fun b q hb=>⟨hb,rfl⟩⟩
structure Fix where
 P:Program
 n:Nat
 ops:Array Oper
 ms:List Nat
 fa:Nat
 L:List Row
 H0:Heap
 g0:G
 w0:World
 KP:Value→Heap→Prop
 K:Env→Heap→Prop
def Fix.anc (F:Fix)(i j:Nat):Prop:=(F.ms.getD i 0).testBit j=true
def Qi9 (F:Fix)(listed:Array Bool)(pre:List Row)(y:Row)(t:Nat)(z:Row):Prop:=
 z∈pre∧z.2.isChk=false∧¬dn listed z.1∧z.2.dst=some t∧F.anc y.1 z.1
def Pend (F:Fix)(listed:Array Bool)(a:Act)(w:World)(pre:List Row)(e:Env)(H:Heap)(g:G)(y:Row):Prop:=
 ∃(o:Oper) (x:Item) (ei:Env) (v:V),F.ops[y.1]? = some o∧Qog F.P F.n F.ops o x=true∧x.dst=y.2.dst∧x.looks=y.2.looks∧(y.2.hf=true→x.hf=true)∧
  Rdy F.P x ei H v∧(∀d,y.2.dst=some d→lk d e=v)∧
  ∀t∈y.2.looks,(∀z,Qi9 F listed pre y t z→lk t ei=lk t e)∧((¬∃z,Qi9 F listed pre y t z)→RepV w g (lk t ei) (a.tmps.getD t undef))
structure DInv (F:Fix)(listed:Array Bool)(a:Act)(w:World)(pre post:List Row)(e:Env)(H:Heap)(g:G):Prop where
 split:F.L=pre++post
 rest:Qsr F.P (post.map Prod.snd) e H F.KP F.K
 stp:Stp F.H0 F.g0 F.w0 H g w
 size:a.tmps.size=F.n
 defers:a.defers=[]
 lsz:listed.size=F.ops.size
 closed:∀i,dn listed i→∀j,F.anc i j→dn listed j
 eDone:∀y∈pre,y.2.isE=true→dn listed y.1
 postDone:∀y∈post,y.2.isChk=false→dn listed y.1→flo F.fa y.1=true∧Early F.g0 H g w a y.2
 pend:∀y∈pre,y.2.isFl=true→¬dn listed y.1→Qan9 y.1 post=true∨Pend F listed a w pre e H g y
 temps:∀t,(∃y∈pre,y.2.isChk=false∧¬dn listed y.1∧y.2.dst=some t)∨(∃y∈post,y.2.isChk=false∧flo F.fa y.1=true∧dn listed y.1∧y.2.dst=some t)∨RepV w g (lk t e) (a.tmps.getD t undef)
 ne:∀y∈post,∀z∈post,y.2.isChk=false→z.2.isChk=false→dn listed y.1→dn listed z.1→y.1≠z.1→∀d d',y.2.dst=some d→z.2.dst=some d'→a.tmps.getD d undef≠a.tmps.getD d' undef
structure FixOk (F:Fix):Prop where
 rows:Qasc F.P F.n F.ops F.ms F.fa [] F.L=true
 all:∀i,i<F.ops.size→∃y∈F.L,y.2.isChk=false∧y.1=i
theorem FixOk.row {F:Fix}(hF:FixOk F){A B:List Row}{y:Row}(h:F.L=A++y::B)(hc:y.2.isChk=false):∃o,RowOk F.P F.n F.ops F.ms F.fa A y B o:=by
 have:=Q1s _ _ hF.rows A y B h;exact Qa2v this hc
def Qacr (F:Fix)(x y:Row):Prop:=∃A B,F.L=A++y::B∧x∈A
theorem FixOk.pair {F:Fix}(hF:FixOk F){x y:Row}(h:Qacr F x y)(hx:x.2.isChk=false)(hy:y.2.isChk=false):PairOk F.ms F.fa x y:=by
 obtain⟨A,B,h1,h2⟩:=h;obtain⟨o,ho⟩:=hF.row h1 hy;exact ho.pair x h2 hx
theorem Qbz {F:Fix}{pre post:List Row}(h:F.L=pre++post){x y:Row}(hx:x∈pre)(hy:y∈post):Qacr F x y:=by
 obtain⟨s,t,rfl⟩:=Jy hy;exact⟨pre++s,t,by rw[h];simp,by simp[hx]⟩
theorem Qcw {F:Fix}{pre post:List Row}{y x:Row}(h:F.L=pre++y::post)(hx:x∈post):Qacr F y x:=
 Qbz (pre:=pre++[y]) (by simpa using h) (by simp) hx
theorem Q59 {F:Fix}{x y:Row}(hx:x∈F.L)(hy:y∈F.L):x=y∨Qacr F x y∨Qacr F y x:=by
 obtain⟨s,t,h⟩:=Jy hx;have:y∈s++x::t:=h▸hy;rcases Jd.1 this with k|k
 ·exact .inr (.inr ⟨s,t,h,k⟩)
 ·rcases Ji.1 k with k|k
  ·exact .inl k.symm
  ·exact .inr (.inl (Qcw h k))
theorem FixOk.inj {F:Fix}(hF:FixOk F){x y:Row}(hx:x∈F.L)(hy:y∈F.L)(hxc:x.2.isChk=false)(hyc:y.2.isChk=false)(h:x.1=y.1):x=y:=by
 rcases Q59 hx hy with k|k|k
 ·exact k
 ·exact absurd h (hF.pair k hxc hyc).ne
 ·exact absurd h.symm (hF.pair k hyc hxc).ne
theorem FixOk.injDst {F:Fix}(hF:FixOk F){x y:Row}(hx:x∈F.L)(hy:y∈F.L)(hxc:x.2.isChk=false)(hyc:y.2.isChk=false){t:Nat}(h1:x.2.dst=some t)(h2:y.2.dst=some t):x=y:=by
 rcases Q59 hx hy with k|k|k
 ·exact k
 ·exact absurd h2 ((hF.pair k hxc hyc).dst t h1)
 ·exact absurd h1 ((hF.pair k hyc hxc).dst t h2)
theorem Qmy {x:Item}(h:x.isFl=true):x.isChk=false∧x.isE=false:=by
 cases x <;> simp_all[Item.isFl,Item.isChk,Item.isE]
theorem Qaqz {x:Item}(h:x.isE=true):x.isChk=false∧x.isFl=false:=by
 cases x <;> simp_all[Item.isFl,Item.isChk,Item.isE]
theorem Qoy {j:Nat}{y:Row}{r:List Row}(h:Qan9 j (y::r)=true):y.2.isChk=true∧(y.1=j∨Qan9 j r=true):=by
 simpa[Qan9]using h
theorem DInv.passFl {F:Fix}(hF:FixOk F){listed:Array Bool}{pre r:List Row}{y:Row}(hI:DInv F listed a w pre (y::r) e H g)(hy:y.2.isFl=true)(v:V)(hr:Rdy F.P y.2 e H v)
  (hrest:Qsr F.P (r.map Prod.snd) (putE y.2.dst v e) H F.KP F.K) (hnd:¬dn listed y.1):DInv F listed a w (pre++[y]) r (putE y.2.dst v e) H g:=by
 obtain⟨hyc,hye⟩:=Qmy hy;obtain⟨o,ho⟩:=hF.row hI.split hyc;have hL:y∈F.L:=by rw[hI.split];simp
 have hpre:∀z∈pre,z∈F.L:=fun z hz=>by rw[hI.split];simp[hz]
 have hpost:∀z∈r,z∈F.L:=fun z hz=>by rw[hI.split];simp[hz]
 have hlk:∀t,y.2.dst≠some t→lk t (putE y.2.dst v e)=lk t e:=by
  intro t ht
  cases hd:y.2.dst with
  |none=>rfl
  |some d=>
   simp only[putE,lk];rw[if_neg];intro h;subst h;exact ht hd
 have hlkd:∀t,y.2.dst=some t→lk t (putE y.2.dst v e)=v:=by
  intro t ht;rw[ht];simp[putE,lk]
 refine⟨by rw[hI.split];simp,hrest,hI.stp,hI.size,hI.defers,hI.lsz,hI.closed,?_,?_,?_,?_,fun y' hy' z' hz'=>hI.ne y' (by simp[hy']) z' (by simp[hz'])⟩
 ·intro z hz hzE;rcases Jd.1 hz with k|k
  ·exact hI.eDone z k hzE
  ·simp at k;subst k;rw[hye]at hzE;simp at hzE
 ·exact fun z hz=>hI.postDone z (by simp[hz])
 ·intro z hz hzf hzn;obtain⟨hzc,hze⟩:=Qmy hzf;right;rcases Jd.1 hz with k|k
  ·rcases hI.pend z k hzf hzn with h|h
   ·have:=(Qoy h).1;rw[hyc]at this;simp at this
   ·obtain⟨o',x,ei,u,p1,p2,p3,p4,p5,p6,p7,p8⟩:=h;refine⟨o',x,ei,u,p1,p2,p3,p4,p5,p6,?_,?_⟩
    ·intro d hd;rw[hlk d fun h=>(hF.pair (Qbz hI.split k (by simp)) hzc hyc).dst d hd h];exact p7 d hd
    ·intro t ht;obtain⟨q1,q2⟩:=p8 t ht;have hb:∀z',Qi9 F listed (pre++[y]) z t z'→Qi9 F listed pre z t z':=by
      rintro z' ⟨b1,b2,b3,b4,b5⟩;refine⟨?_,b2,b3,b4,b5⟩;rcases Jd.1 b1 with b|b
      ·exact b
      ·simp at b;subst b;have:=(hF.pair (Qbz hI.split k (by simp)) hzc hyc).top;rw[Fix.anc,this]at b5;simp at b5
     refine⟨?_,?_⟩
     ·intro z' hz';have hz'':=hb z' hz';rw[q1 z' hz'',hlk];intro h;exact (hF.pair (Qbz hI.split hz''.1 (by simp)) hz''.2.1 hyc).dst t hz''.2.2.2.1 h
     ·intro hno;refine q2 fun ⟨z',b1,b2⟩=>hno ⟨z',?_,b2⟩;simp[b1]
  ·simp at k;subst k;refine⟨o,z.2,e,v,ho.op,ho.item,rfl,rfl,id,hr,hlkd,?_⟩;intro t ht;have hself:z.2.dst≠some t:=fun h=>ho.self t h ht;refine⟨?_,?_⟩
   ·intro z' hz';rw[hlk t hself]
   ·intro hno;rcases hI.temps t with ⟨y',k1,k2,k3,k4⟩|⟨y',k1,k2,k3,k4,k5⟩|k
    ·exact absurd ⟨y',by simp[k1],k2,k3,k4,(hF.pair (Qbz hI.split k1 (by simp)) k2 hzc).raw t k4 ht⟩ hno
    ·exfalso;rcases Ji.1 k1 with h|h
     ·subst h;exact hself k5
     ·have:=(hF.pair (Qcw hI.split h) hzc k2).war t k5 ht;exact hnd (hI.closed _ k4 _ this)
    ·exact k
 ·intro t;by_cases ht:y.2.dst=some t
  ·exact .inl ⟨y,by simp,hyc,hnd,ht⟩
  ·rw[hlk t ht];rcases hI.temps t with ⟨y',k1,k2,k3,k4⟩|⟨y',k1,k2,k3,k4,k5⟩|k
   ·exact .inl ⟨y',by simp[k1],k2,k3,k4⟩
   ·rcases Ji.1 k1 with h|h
    ·subst h;exact absurd k5 ht
    ·exact .inr (.inl ⟨y',h,k2,k3,k4,k5⟩)
   ·exact .inr (.inr k)
theorem DInv.passChk {F:Fix}(hF:FixOk F){listed:Array Bool}{pre r:List Row}{j d:Nat}{gd:Option (Nat×Bool)}{op:FOp}(hI:DInv F listed a w pre ((j,.chk d gd op)::r) e H g) :
  DInv F listed a w (pre++[(j,.chk d gd op)]) r e H g:=by
 have hrow:=Q1s _ _ hF.rows pre _ _ hI.split;obtain⟨o,c1,c2,⟨y0,c3,c4,c5,c6,c7,c8⟩,c9⟩:=Qa10 hrow;have hrest:=hI.rest;simp only[Jt,Qsr]at hrest;obtain⟨⟨r1,r2,r3⟩,r4⟩:=hrest;have hpre:∀z∈pre,z∈F.L:=fun z hz=>by rw[hI.split];simp[hz]
 have hbe:∀z t z',Qi9 F listed (pre++[(j,.chk d gd op)]) z t z'↔Qi9 F listed pre z t z':=by
  intro z t z';constructor
  ·rintro⟨b1,b2⟩;refine⟨?_,b2⟩;rcases Jd.1 b1 with b|b
   ·exact b
   ·simp at b;subst b;simp[Item.isChk]at b2
  ·rintro⟨b1,b2⟩;exact⟨by simp[b1],b2⟩
 refine⟨by rw[hI.split];simp,r4,hI.stp,hI.size,hI.defers,hI.lsz,hI.closed,?_,?_,?_,?_,fun y' hy' z' hz'=>hI.ne y' (by simp[hy']) z' (by simp[hz'])⟩
 ·intro z hz hzE;rcases Jd.1 hz with k|k
  ·exact hI.eDone z k hzE
  ·simp at k;subst k;simp[Item.isE]at hzE
 ·exact fun z hz=>hI.postDone z (by simp[hz])
 ·intro z hz hzf hzn;obtain⟨hzc,hze⟩:=Qmy hzf;have k:z∈pre:=by
   rcases Jd.1 hz with k|k
   ·exact k
   ·simp at k;subst k;simp[Item.isChk]at hzc
  have hold:Pend F listed a w pre e H g z→Pend F listed a w (pre++[(j,.chk d gd op)]) e H g z:=by
   rintro⟨o',x,ei,u,p1,p2,p3,p4,p5,p6,p7,p8⟩;refine⟨o',x,ei,u,p1,p2,p3,p4,p5,p6,p7,fun t ht=>?_⟩;simp only[hbe];exact p8 t ht
  rcases hI.pend z k hzf hzn with h|h
  ·rcases (Qoy h).2 with h'|h'
   ·right;simp only at h';have hz0:z=y0:=hF.inj (hpre _ k) (hpre _ c3) hzc c4 (by rw[c5,←h']);subst hz0;refine⟨o,.f (some d) gd op,e,gdV gd (gdB e gd) (op.val e H),by rw[c5];exact c1,c2,by rw[c7];rfl,c6.symm,fun h=>by rw[c8]at h;simp at h,⟨r1,r2,rfl⟩,?_,?_⟩
    ·intro d' hd';rw[c7]at hd';simp at hd';subst hd';exact r3
    ·intro t ht;simp only[hbe];refine⟨fun _ _=>trivial,fun hno=>?_⟩;rcases hI.temps t with ⟨y',k1,k2,k3,k4⟩|⟨y',k1,k2,k3,k4,k5⟩|k'
     ·exfalso;refine hno ⟨y',k1,k2,k3,k4,?_⟩;have:=c9 y' k1 k2 t k4 (by rw[←c6];exact ht);rw[Fix.anc,c5];exact this
     ·exfalso;rcases Ji.1 k1 with h|h
      ·subst h;simp[Item.isChk]at k2
      ·have:=(hF.pair (Qbz (pre:=pre++[(j,.chk d gd op)]) (by rw[hI.split];simp) (by simp[k]) h) hzc k2).war t k5 ht;exact hzn (hI.closed _ k4 _ this)
     ·exact k'
   ·exact .inl h'
  ·exact .inr (hold h)
 ·intro t;rcases hI.temps t with ⟨y',k1,k2,k3,k4⟩|⟨y',k1,k2,k3,k4,k5⟩|k
  ·exact .inl ⟨y',by simp[k1],k2,k3,k4⟩
  ·rcases Ji.1 k1 with h|h
   ·subst h;simp[Item.isChk]at k2
   ·exact .inr (.inl ⟨y',h,k2,k3,k4,k5⟩)
  ·exact .inr (.inr k)
theorem Qk6 {d:Option Nat}{v:V}{e:Env}{t:Nat}(h:d≠some t):lk t (putE d v e)=lk t e:=by
 cases d with
 |none=>rfl
 |some s=>
  simp only[putE,lk];rw[if_neg];intro k;subst k;exact h rfl
theorem Qamy {d:Option Nat}{v:V}{e:Env}{t:Nat}(h:d=some t):lk t (putE d v e)=v:=by
 subst h;simp[putE,lk]
theorem Qjb {a:Act}{d:Option Nat}{u:Value}{t:Nat}(h:d≠some t):(a.put d u).tmps.getD t undef=a.tmps.getD t undef:=by
 cases d with
 |none=>rfl
 |some s=>
  have:s≠t:=fun k=>by subst k;exact h rfl
  simp only[Act.put];rw[Jc,J3 this,←Jc]
theorem Qa02 {a:Act}{d:Option Nat}{u:Value}{t:Nat}(h:d=some t)(ht:t<a.tmps.size):(a.put d u).tmps.getD t undef=u:=by
 subst h;simp only[Act.put];rw[Jc,Jr ht];rfl
theorem Qcl {listed:Array Bool}{i j:Nat}(hi:i<listed.size):dn (listed.setIfInBounds i true) j↔j=i∨dn listed j:=by
 by_cases h:j=i
 ·subst h;simp[dn,hi]
 ·simp only[dn,getD_set_ne false (Jal h),h,false_or]
theorem Q4j {n:Nat}{ops:Array Oper}{o:Oper}{x:Item}(h:Qog P n ops o x=true):∀t,x.dst=some t→t<n:=by
 intro t ht;cases x <;> simp only[Qog,Ja]at h
 case f d gd op=>obtain⟨h1,h2⟩:=Qen h.1.1;simp only[Item.dst]at ht;exact h2 t (h1.trans ht)
 case p d gd f xs=>obtain⟨h1,h2⟩:=Qen h.1.1;simp only[Item.dst]at ht;exact h2 t (h1.trans ht)
 case e d gd op=>obtain⟨h1,h2⟩:=Qen h.1.1;simp only[Item.dst]at ht;exact h2 t (h1.trans ht)
 case chk=>simp at h
theorem DInv.passE {F:Fix}(hF:FixOk F){listed:Array Bool}{pre r:List Row}{y:Row}(hI:DInv F listed a w pre (y::r) e H g)(hy:y.2.isE=true)(hyn:¬dn listed y.1)(hyf:¬flo F.fa y.1=true)
  (hanc:∀j,F.anc y.1 j→dn listed j) {v:V} {u:Value} {w':World} {H':Heap} {g':G}
  (hrest:Qsr F.P (r.map Prod.snd) (putE y.2.dst v e) H' F.KP F.K) (hst:Stp H g w H' g' w') (hv:RepV w' g' v u) :
  DInv F (listed.setIfInBounds y.1 true) (a.put y.2.dst u) w' (pre++[y]) r (putE y.2.dst v e) H' g':=by
 obtain⟨hyc,hyl⟩:=Qaqz hy;obtain⟨o,ho⟩:=hF.row hI.split hyc;have hlt:y.1<listed.size:=by rw[hI.lsz];exact (Jk.1 ho.op).1
 have hpre:∀z∈pre,z∈F.L:=fun z hz=>by rw[hI.split];simp[hz]
 have hbz:∀z∈pre,Qacr F z y:=fun z hz=>Qbz hI.split hz (by simp);refine⟨by rw[hI.split];simp,hrest,hI.stp.trans hst,by rw[(Qb6 _ _ _).1];exact hI.size,by rw[(Qb6 _ _ _).2];exact hI.defers,by simp[hI.lsz],?_,?_,?_,?_,?_,?_⟩
 ·intro i hi j hj;rw[Qcl hlt]at hi⊢;rcases hi with rfl|hi
  ·exact .inr (hanc j hj)
  ·exact .inr (hI.closed i hi j hj)
 ·intro z hz hzE;rw[Qcl hlt];rcases Jd.1 hz with k|k
  ·exact .inr (hI.eDone z k hzE)
  ·simp at k;subst k;exact .inl rfl
 ·intro z hz hzc hzd;have hzy:=hF.pair (Qcw hI.split hz) hyc hzc;rw[Qcl hlt]at hzd;obtain⟨k1,k2⟩:=hI.postDone z (by simp[hz]) hzc (hzd.resolve_left (Jal hzy.ne));exact⟨k1,k2.mono hst fun d hd=>Qjb fun h=>hzy.dst d h hd⟩
 ·intro z hz hzf hzn;obtain⟨hzc,hze⟩:=Qmy hzf;rw[Qcl hlt]at hzn;have hzn':¬dn listed z.1:=fun h=>hzn (.inr h);have k:z∈pre:=by
   rcases Jd.1 hz with k|k
   ·exact k
   ·simp at k;subst k;rw[hyl]at hzf;simp at hzf
  have hp:=hF.pair (hbz z k) hzc hyc;by_cases hh:z.2.hf=true
  ·right;rcases hI.pend z k hzf hzn' with h|h
   ·have:=(Qoy h).1;rw[hyc]at this;simp at this
   ·obtain⟨o',x,ei,u',p1,p2,p3,p4,p5,p6,p7,p8⟩:=h;refine⟨o',x,ei,u',p1,p2,p3,p4,p5,p6.hcongr (p5 hh),?_,?_⟩
    ·intro d hd;rw[Qk6 fun h=>hp.dst d hd h];exact p7 d hd
    ·intro t ht;obtain⟨q1,q2⟩:=p8 t ht;have hyt:y.2.dst≠some t:=fun h=>by
      have:=hp.war t h ht;exact hzn' (hanc _ this)
     have hb:∀z',Qi9 F (listed.setIfInBounds y.1 true) (pre++[y]) z t z'↔Qi9 F listed pre z t z':=by
      intro z';constructor
      ·rintro⟨b1,b2,b3,b4,b5⟩;rw[Qcl hlt]at b3;refine⟨?_,b2,fun h=>b3 (.inr h),b4,b5⟩;rcases Jd.1 b1 with b|b
       ·exact b
       ·simp at b;subst b;exact absurd b4 hyt
      ·rintro⟨b1,b2,b3,b4,b5⟩;refine⟨by simp[b1],b2,?_,b4,b5⟩;rw[Qcl hlt];rintro (h|h)
       ·exact (hF.pair (hbz z' b1) b2 hyc).ne h
       ·exact b3 h
     simp only[hb,Qk6 hyt,Qjb hyt];exact⟨q1,fun h=>(q2 h).mono hst.le⟩
  ·left;have:=ho.cover hy z k hzc (by simpa using hh);refine this ?_
   cases hx:(F.ms.getD y.1 0).testBit z.1 with
   |false=>rfl
   |true=>exact absurd (hanc _ hx) hzn'
 ·intro t;by_cases ht:y.2.dst=some t
  ·right;right;rw[Qamy ht,Qa02 ht (by rw[hI.size];exact Q4j ho.item t ht)];exact hv
  ·rw[Qk6 ht,Qjb ht];rcases hI.temps t with ⟨y',k1,k2,k3,k4⟩|⟨y',k1,k2,k3,k4,k5⟩|k
   ·refine .inl ⟨y',by simp[k1],k2,?_,k4⟩;rw[Qcl hlt];rintro (h|h)
    ·exact (hF.pair (hbz y' k1) k2 hyc).ne h
    ·exact k3 h
   ·rcases Ji.1 k1 with h|h
    ·subst h;exact absurd k3 hyf
    ·exact .inr (.inl ⟨y',h,k2,k3,(Qcl hlt).2 (.inr k4),k5⟩)
   ·exact .inr (.inr (k.mono hst.le))
 ·intro y' hy' z' hz' hyc' hzc' hyd hzd hne d d' hd hd';have p1:=hF.pair (Qcw hI.split hy') hyc hyc';have p2:=hF.pair (Qcw hI.split hz') hyc hzc';rw[Qcl hlt]at hyd hzd;rw[Qjb fun h=>p1.dst d h hd,Qjb fun h=>p2.dst d' h hd'];exact hI.ne y' (by simp[hy']) z' (by simp[hz']) hyc' hzc' (hyd.resolve_left (Jal p1.ne)) (hzd.resolve_left (Jal p2.ne)) hne d d' hd hd'
theorem DInv.passFa {F:Fix}(hF:FixOk F){listed:Array Bool}{pre r:List Row}{y:Row}(hI:DInv F listed a w pre (y::r) e H g)(hyc:y.2.isChk=false)(hyn:dn listed y.1) :
  ∃e' H',DInv F listed a w (pre++[y]) r e' H' g:=by
 obtain⟨hyf,hea⟩:=hI.postDone y (by simp) hyc hyn;obtain⟨d,cells,l,h1,h2,h3,h4⟩:=Qa6a hI.stp hea;obtain⟨d0,cells0,l0,b0,sz0,T0,cs0,e1,e2,e3,e4,e5,e6,e7,e8,e9⟩:=hea.ok;obtain⟨o,ho⟩:=hF.row hI.split hyc;have hy:y.2.isE=true:=by rw[h1];rfl
 have hyl:=(Qaqz hy).2;have hyd:y.2.dst=some d:=by rw[h1];rfl
 have hbz:∀z∈pre,Qacr F z y:=fun z hz=>Qbz hI.split hz (by simp);have hrest:=hI.rest;simp only[Jt,h1,Qsr,gdO,gdB,true_and,EOp.eff]at hrest;have hrest':=hrest.1 trivial l h2;refine⟨putE (some d) (.c (.ptr l 0)) e,H.set l (.st cells),?_⟩;refine⟨by rw[hI.split];simp,hrest',h3,hI.size,hI.defers,hI.lsz,hI.closed,?_,?_,?_,?_,fun y' hy' z' hz'=>hI.ne y' (by simp[hy']) z' (by simp[hz'])⟩
 ·intro z hz hzE;rcases Jd.1 hz with k|k
  ·exact hI.eDone z k hzE
  ·simp at k;subst k;exact hyn
 ·intro z hz hzc hzd;obtain⟨k1,k2⟩:=hI.postDone z (by simp[hz]) hzc hzd;refine⟨k1,k2.other h4 fun d' hd'=>?_⟩;exact hI.ne y (by simp) z (by simp[hz]) hyc hzc hyn hzd (hF.pair (Qcw hI.split hz) hyc hzc).ne d d' hyd hd'
 ·intro z hz hzf hzn;obtain⟨hzc,hze⟩:=Qmy hzf;have k:z∈pre:=by
   rcases Jd.1 hz with k|k
   ·exact k
   ·simp at k;subst k;rw[hyl]at hzf;simp at hzf
  have hp:=hF.pair (hbz z k) hzc hyc;by_cases hh:z.2.hf=true
  ·right;rcases hI.pend z k hzf hzn with h|h
   ·have:=(Qoy h).1;rw[hyc]at this;simp at this
   ·obtain⟨o',x,ei,u',p1,p2,p3,p4,p5,p6,p7,p8⟩:=h;refine⟨o',x,ei,u',p1,p2,p3,p4,p5,p6.hcongr (p5 hh),?_,?_⟩
    ·intro d' hd';rw[Qk6 fun h=>hp.dst d' hd' (by rw[hyd];exact h)];exact p7 d' hd'
    ·intro t ht;obtain⟨q1,q2⟩:=p8 t ht;have hyt:some d≠some t:=fun h=>by
      have:=hp.war t (by rw[hyd];exact h) ht;exact hzn (hI.closed _ hyn _ this)
     have hb:∀z',Qi9 F listed (pre++[y]) z t z'↔Qi9 F listed pre z t z':=by
      intro z';constructor
      ·rintro⟨b1,b2,b3,b4,b5⟩;refine⟨?_,b2,b3,b4,b5⟩;rcases Jd.1 b1 with b|b
       ·exact b
       ·simp at b;subst b;rw[hyd]at b4;exact absurd b4 hyt
      ·rintro⟨b1,b2⟩;exact⟨by simp[b1],b2⟩
     simp only[hb,Qk6 hyt];exact⟨q1,q2⟩
  ·left;refine ho.cover hy z k hzc (by simpa using hh) ?_
   cases hx:(F.ms.getD y.1 0).testBit z.1 with
   |false=>rfl
   |true=>exact absurd (hI.closed _ hyn _ hx) hzn
 ·intro t;by_cases ht:some d=some t
  ·right;right;rw[Qamy ht];simp at ht;subst ht;exact h4
  ·rw[Qk6 ht];rcases hI.temps t with ⟨y',k1,k2,k3,k4⟩|⟨y',k1,k2,k3,k4,k5⟩|k
   ·exact .inl ⟨y',by simp[k1],k2,k3,k4⟩
   ·rcases Ji.1 k1 with h|h
    ·subst h;rw[hyd]at k5;exact absurd k5 ht
    ·exact .inr (.inl ⟨y',h,k2,k3,k4,k5⟩)
   ·exact .inr (.inr k)
theorem DInv.doneFl {F:Fix}(hF:FixOk F){listed:Array Bool}{pre post:List Row}{y:Row}(hI:DInv F listed a w pre post e H g)(hyp:y∈pre)(hy:y.2.isFl=true)(hyn:¬dn listed y.1)
  (hanc:∀j,F.anc y.1 j→dn listed j) {v:V} {u:Value} {w':World} {g':G} (hvd:∀d,y.2.dst=some d→lk d e=v)
  (hst:Stp H g w H g' w') (hv:RepV w' g' v u) :
  DInv F (listed.setIfInBounds y.1 true) (a.put y.2.dst u) w' pre post e H g':=by
 obtain⟨hyc,hye⟩:=Qmy hy;have hyL:y∈F.L:=by rw[hI.split];simp[hyp]
 obtain⟨A,B,hAB⟩:=Jy hyL;obtain⟨o,ho⟩:=hF.row hAB hyc;have hlt:y.1<listed.size:=by rw[hI.lsz];exact (Jk.1 ho.op).1
 have hpre:∀z∈pre,z∈F.L:=fun z hz=>by rw[hI.split];simp[hz]
 refine⟨hI.split,hI.rest,hI.stp.trans hst,by rw[(Qb6 _ _ _).1];exact hI.size,by rw[(Qb6 _ _ _).2];exact hI.defers,by simp[hI.lsz],?_,?_,?_,?_,?_,?_⟩
 ·intro i hi j hj;rw[Qcl hlt]at hi⊢;rcases hi with rfl|hi
  ·exact .inr (hanc j hj)
  ·exact .inr (hI.closed i hi j hj)
 ·intro z hz hzE;rw[Qcl hlt];exact .inr (hI.eDone z hz hzE)
 ·intro z hz hzc hzd;have hzy:=hF.pair (Qbz hI.split hyp hz) hyc hzc;rw[Qcl hlt]at hzd;obtain⟨k1,k2⟩:=hI.postDone z hz hzc (hzd.resolve_left (Jal hzy.ne));exact⟨k1,k2.mono hst fun d hd=>Qjb fun h=>hzy.dst d h hd⟩
 ·intro z hz hzf hzn;obtain⟨hzc,hze⟩:=Qmy hzf;rw[Qcl hlt]at hzn;have hzn':¬dn listed z.1:=fun h=>hzn (.inr h);have hzy:z≠y:=fun h=>hzn (.inl (by rw[h]));rcases hI.pend z hz hzf hzn' with h|h
  ·exact .inl h
  ·right;obtain⟨o',x,ei,u',p1,p2,p3,p4,p5,p6,p7,p8⟩:=h;refine⟨o',x,ei,u',p1,p2,p3,p4,p5,p6,p7,?_⟩;intro t ht;obtain⟨q1,q2⟩:=p8 t ht;have hb:∀z',Qi9 F (listed.setIfInBounds y.1 true) pre z t z'→Qi9 F listed pre z t z':=by
    rintro z' ⟨b1,b2,b3,b4,b5⟩;rw[Qcl hlt]at b3;exact⟨b1,b2,fun h=>b3 (.inr h),b4,b5⟩
   refine⟨fun z' hz'=>q1 z' (hb z' hz'),fun hno=>?_⟩;by_cases hyt:y.2.dst=some t
   ·have hbe:Qi9 F listed pre z t y:=by
     refine⟨hyp,hyc,hyn,hyt,?_⟩;rcases Q59 hyL (hpre z hz)with k|k|k
     ·exact absurd k.symm hzy
     ·exact (hF.pair k hyc hzc).raw t hyt ht
     ·exact absurd (hanc _ ((hF.pair k hzc hyc).war t hyt ht)) hzn'
    rw[q1 y hbe,hvd t hyt,Qa02 hyt (by rw[hI.size];exact Q4j ho.item t hyt)];exact hv
   ·rw[Qjb hyt];refine (q2 fun ⟨z',b⟩=>hno ⟨z',?_⟩).mono hst.le;obtain⟨b1,b2,b3,b4,b5⟩:=b;refine⟨b1,b2,?_,b4,b5⟩;rw[Qcl hlt];rintro (h|h)
    ·have:=hF.inj (hpre _ b1) hyL b2 hyc h;subst this;exact hyt b4
    ·exact b3 h
 ·intro t;by_cases ht:y.2.dst=some t
  ·right;right;rw[hvd t ht,Qa02 ht (by rw[hI.size];exact Q4j ho.item t ht)];exact hv
  ·rw[Qjb ht];rcases hI.temps t with ⟨y',k1,k2,k3,k4⟩|⟨y',k1,k2,k3,k4,k5⟩|k
   ·refine .inl ⟨y',k1,k2,?_,k4⟩;rw[Qcl hlt];rintro (h|h)
    ·have:=hF.inj (hpre _ k1) hyL k2 hyc h;subst this;exact ht k4
    ·exact k3 h
   ·exact .inr (.inl ⟨y',k1,k2,k3,(Qcl hlt).2 (.inr k4),k5⟩)
   ·exact .inr (.inr (k.mono hst.le))
 ·intro y' hy' z' hz' hyc' hzc' hyd hzd hne d d' hd hd';have p1:=hF.pair (Qbz hI.split hyp hy') hyc hyc';have p2:=hF.pair (Qbz hI.split hyp hz') hyc hzc';rw[Qcl hlt]at hyd hzd;rw[Qjb fun h=>p1.dst d h hd,Qjb fun h=>p2.dst d' h hd'];exact hI.ne y' hy' z' hz' hyc' hzc' (hyd.resolve_left (Jal p1.ne)) (hzd.resolve_left (Jal p2.ne)) hne d d' hd hd'
theorem DInv.doneFa {F:Fix}(hF:FixOk F){listed:Array Bool}{pre post:List Row}{y:Row}(hI:DInv F listed a w pre post e H g)(hyp:y∈post)(hyc:y.2.isChk=false)(hyf:flo F.fa y.1=true)(hyn:¬dn listed y.1)
  (hanc:∀j,F.anc y.1 j→dn listed j) {u:Value} {w':World} {g':G}
  (hst:Stp H g w H g' w') (hv:Early F.g0 H g' w' (a.put y.2.dst u) y.2) (hnew:∀x',Early F.g0 H g w a x'→∀d,x'.dst=some d→a.tmps.getD d undef≠u) :
  DInv F (listed.setIfInBounds y.1 true) (a.put y.2.dst u) w' pre post e H g':=by
 have hyL:y∈F.L:=by rw[hI.split];simp[hyp]
 obtain⟨A,B,hAB⟩:=Jy hyL;obtain⟨o,ho⟩:=hF.row hAB hyc;have hlt:y.1<listed.size:=by rw[hI.lsz];exact (Jk.1 ho.op).1
 have hpre:∀z∈pre,z∈F.L:=fun z hz=>by rw[hI.split];simp[hz]
 have hpost:∀z∈post,z∈F.L:=fun z hz=>by rw[hI.split];simp[hz]
 refine⟨hI.split,hI.rest,hI.stp.trans hst,by rw[(Qb6 _ _ _).1];exact hI.size,by rw[(Qb6 _ _ _).2];exact hI.defers,by simp[hI.lsz],?_,?_,?_,?_,?_,?_⟩
 ·intro i hi j hj;rw[Qcl hlt]at hi⊢;rcases hi with rfl|hi
  ·exact .inr (hanc j hj)
  ·exact .inr (hI.closed i hi j hj)
 ·intro z hz hzE;rw[Qcl hlt];exact .inr (hI.eDone z hz hzE)
 ·intro z hz hzc hzd;rw[Qcl hlt]at hzd;rcases hzd with h|h
  ·have:=hF.inj (hpost _ hz) hyL hzc hyc h;subst this;exact⟨hyf,hv⟩
  ·obtain⟨k1,k2⟩:=hI.postDone z hz hzc h;refine⟨k1,k2.mono hst fun d hd=>Qjb fun hh=>?_⟩;have:=hF.injDst (hpost _ hz) hyL hzc hyc hd hh;subst this;exact hyn h
 ·intro z hz hzf hzn;obtain⟨hzc,hze⟩:=Qmy hzf;rw[Qcl hlt]at hzn;have hzn':¬dn listed z.1:=fun h=>hzn (.inr h);rcases hI.pend z hz hzf hzn' with h|h
  ·exact .inl h
  ·right;obtain⟨o',x,ei,u',p1,p2,p3,p4,p5,p6,p7,p8⟩:=h;refine⟨o',x,ei,u',p1,p2,p3,p4,p5,p6,p7,?_⟩;intro t ht;obtain⟨q1,q2⟩:=p8 t ht;have hyt:y.2.dst≠some t:=fun h=>by
    have:=(hF.pair (Qbz hI.split hz hyp) hzc hyc).war t h ht;exact hzn' (hanc _ this)
   have hb:∀z',Qi9 F (listed.setIfInBounds y.1 true) pre z t z'↔Qi9 F listed pre z t z':=by
    intro z';constructor
    ·rintro⟨b1,b2,b3,b4,b5⟩;rw[Qcl hlt]at b3;exact⟨b1,b2,fun h=>b3 (.inr h),b4,b5⟩
    ·rintro⟨b1,b2,b3,b4,b5⟩;refine⟨b1,b2,?_,b4,b5⟩;rw[Qcl hlt];rintro (h|h)
     ·exact (hF.pair (Qbz hI.split b1 hyp) b2 hyc).ne h
     ·exact b3 h
   simp only[hb,Qjb hyt];exact⟨q1,fun h=>(q2 h).mono hst.le⟩
 ·intro t;by_cases ht:y.2.dst=some t
  ·exact .inr (.inl ⟨y,hyp,hyc,hyf,(Qcl hlt).2 (.inl rfl),ht⟩)
  ·rw[Qjb ht];rcases hI.temps t with ⟨y',k1,k2,k3,k4⟩|⟨y',k1,k2,k3,k4,k5⟩|k
   ·refine .inl ⟨y',k1,k2,?_,k4⟩;rw[Qcl hlt];rintro (h|h)
    ·exact (hF.pair (Qbz hI.split k1 hyp) k2 hyc).ne h
    ·exact k3 h
   ·exact .inr (.inl ⟨y',k1,k2,k3,(Qcl hlt).2 (.inr k4),k5⟩)
   ·exact .inr (.inr (k.mono hst.le))
 ·have hlast:∀z'∈post,z'.2.isChk=false→dn listed z'.1→z'.1≠y.1→∀d d',y.2.dst=some d→z'.2.dst=some d'→(a.put y.2.dst u).tmps.getD d undef≠(a.put y.2.dst u).tmps.getD d' undef:=by
   intro z' hz' hzc' hzd hne d d' hd hd';obtain⟨_,k2⟩:=hI.postDone z' hz' hzc' hzd;rw[Qa02 hd (by rw[hI.size];exact Q4j ho.item d hd),Qjb fun h=>hne (by rw[hF.injDst (hpost _ hz') hyL hzc' hyc hd' h])];exact fun h=>hnew _ k2 d' hd' h.symm
  intro y' hy' z' hz' hyc' hzc' hyd hzd hne d d' hd hd';rw[Qcl hlt]at hyd hzd;by_cases h1:y'.1=y.1
  ·have:=hF.inj (hpost _ hy') hyL hyc' hyc h1;subst this;exact hlast z' hz' hzc' (hzd.resolve_left fun h=>hne h.symm) (fun h=>hne h.symm) d d' hd hd'
  ·by_cases h2:z'.1=y.1
   ·have:=hF.inj (hpost _ hz') hyL hzc' hyc h2;subst this;exact (hlast y' hy' hyc' (hyd.resolve_left h1) h1 d' d hd' hd).symm
   ·rw[Qjb fun h=>h1 (by rw[hF.injDst (hpost _ hy') hyL hyc' hyc hd h]),Qjb fun h=>h2 (by rw[hF.injDst (hpost _ hz') hyL hzc' hyc hd' h])];exact hI.ne y' hy' z' hz' hyc' hzc' (hyd.resolve_left h1) (hzd.resolve_left h2) hne d d' hd hd'
def Qbfr (listed:Array Bool)(post:List Row):Prop:=post=[]∨∃y r,post=y::r∧y.2.isE=true∧¬dn listed y.1
theorem Q56 {F:Fix}(hF:FixOk F){listed:Array Bool}:∀(post pre:List Row) (e:Env) (H:Heap),DInv F listed a w pre post e H g→
  ∃pre' post' e' H',DInv F listed a w pre' post' e' H' g∧Qbfr listed post'
 |[],pre,e,H,hI=>⟨pre,[],e,H,hI,.inl rfl⟩
 |(i,x)::r,pre,e,H,hI=>by
  have hnE:x.isE=false→x.isChk=false→¬dn listed i:=by
   intro hx hc hd;obtain⟨_,hea⟩:=hI.postDone (i,x) (by simp) hc hd;obtain⟨d,cells,l,b,sz,T,cs,h1,_⟩:=hea.ok;simp only at h1;rw[h1]at hx;simp[Item.isE]at hx
  have hrest:=hI.rest
  cases x with
  |chk d gd op=>exact Q56 hF r _ e H (hI.passChk hF)
  |f d gd op=>
   simp only[Jt,Qsr]at hrest;exact Q56 hF r _ _ H (hI.passFl hF rfl _ ⟨hrest.1,hrest.2.1,rfl⟩ hrest.2.2 (hnE rfl rfl))
  |p d gd f xs=>
   simp only[Jt,Qsr]at hrest;obtain⟨r1,v,r2,r3⟩:=hrest;exact Q56 hF r _ _ H (hI.passFl hF rfl _ ⟨r1,v,r2,rfl⟩ r3 (hnE rfl rfl))
  |e d gd op=>
   by_cases hd:dn listed i
   ·obtain⟨e',H',hI'⟩:=hI.passFa hF rfl hd;exact Q56 hF r _ e' H' hI'
   ·exact⟨pre,_,e,H,hI,.inr ⟨_,r,rfl,rfl,hd⟩⟩
theorem Qaqr {α:Type}{p q:α→Bool}:∀(l:List α),(∀x∈l,q x=true→p x=true)→(∃x∈l,p x=true∧q x=false)→l.countP q<l.countP p
 |[],_,h=>by simp at h
 |x::r,h1,h2=>by
  have hle:r.countP q≤r.countP p:=List.countP_mono_left fun y hy=>h1 y (by simp[hy]);obtain⟨y,hy,k1,k2⟩:=h2;rcases Ji.1 hy with rfl|hy
  ·simp only[Jar,k1,k2];simp;omega
  ·have:=Qaqr r (fun y hy=>h1 y (by simp[hy])) ⟨y,hy,k1,k2⟩;have hx:=h1 x (by simp);simp only[Jar]
   cases hq:q x with
   |true=>rw[hx hq];simp;omega
   |false=>simp;split <;> omega
def unl (F:Fix)(listed:Array Bool):Nat:=(List.range F.ops.size).countP fun i=>!listed.getD i false
theorem Qazt {F:Fix}(hF:FixOk F){listed:Array Bool}(hsz:listed.size=F.ops.size)(hr:Region.ready .any F.ops listed=[]):∀(B A:List Row),F.L=A++B→
  (∀y∈A,y.2.isChk=false→dn listed y.1)→∀y∈B,y.2.isChk=false→dn listed y.1
 |[],A,h,hA,y,hy,hc=>by simp at hy
 |x::r,A,h,hA,y,hy,hc=>by
  have hx:x.2.isChk=false→dn listed x.1:=by
   intro hxc;obtain⟨o,ho⟩:=hF.row h hxc;have hlt:x.1<listed.size:=by rw[hsz];exact (Jk.1 ho.op).1
   by_cases hd:dn listed x.1
   ·exact hd
   ·exfalso;have:x.1∈Region.ready .any F.ops listed:=by
     rw[mem_ready];refine⟨?_,o,ho.op,fun ed hed hb=>?_⟩
     ·simp only[dn]at hd;rw[Jc,Jl hlt]at hd⊢;simpa using hd
     ·obtain⟨z,hz,h1,h2⟩:=ho.aft ed hed hb;rw[←h2];exact hA z hz h1
    rw[hr]at this;simp at this
  rcases Ji.1 hy with rfl|hy
  ·exact hx hc
  ·refine Qazt hF hsz hr r (A++[x]) (by rw[h];simp) ?_ y hy hc;intro z hz hzc;rcases Jd.1 hz with k|k
   ·exact hA z k hzc
   ·simp at k;subst k;exact hx hzc
theorem Qaz1 {F:Fix}(hF:FixOk F){listed:Array Bool}{pre post:List Row}(hI:DInv F listed a w pre post e H g)(hst:Qbfr listed post)(hr:Region.ready .any F.ops listed=[]) :
  Post F.n F.H0 F.g0 F.w0 F.K a w:=by
 have hall:=Qazt hF hI.lsz hr F.L [] rfl (by simp);rcases hst with rfl|⟨y,r,rfl,hy,hd⟩
 ·refine⟨e,H,g,hI.rest,hI.stp,fun t=>?_,hI.defers,hI.size⟩;rcases hI.temps t with ⟨y',k1,k2,k3,k4⟩|⟨y',k1,_⟩|k
  ·exact absurd (hall y' (by rw[hI.split];simp[k1]) k2) k3
  ·simp at k1
  ·exact k
 ·exact absurd (hall y (by rw[hI.split];simp) (Qaqz hy).1) hd
theorem Qa58 {F:Fix}(hF:FixOk F){Q:Exit→Act→World→Prop}(hQ:∀a' w',Post F.n F.H0 F.g0 F.w0 F.K a' w'→Q .normal a' w')(hP:∀v a' w' H' g',F.KP v H'→Stp F.H0 F.g0 F.w0 H' g' w'→a'.defers=[]→a'.tmps.size=F.n→Q (.panic [{ v:=v,recovered:=false }]) a' w') :
  ∀(fuel:Nat) (listed:Array Bool) (a:Act) (w:World) (pre post:List Row) (e:Env) (H:Heap) (g:G),DInv F listed a w pre post e H g→Qbfr listed post→unl F listed≤fuel→
   wpAny F.P .any F.ops Q fuel listed a w:=by
 intro fuel
 induction fuel with
 |zero=>
  intro listed a w pre post e H g hI hst hu;have hr:Region.ready .any F.ops listed=[]:=by
   rw[List.eq_nil_iff_forall_not_mem];intro i hi;rw[mem_ready]at hi;obtain⟨h1,o,h2,h3⟩:=hi;have hlt:i<F.ops.size:=(Jk.1 h2).1;have:0<unl F listed:=by
    unfold unl;rw[List.countP_pos_iff];refine⟨i,by simp[hlt],?_⟩;have hlt':i<listed.size:=(by rw[hI.lsz];exact hlt);rw[Jc,Jl hlt']at h1⊢;simpa using h1
   omega
  exact⟨hr,hQ _ _ (Qaz1 hF hI hst hr)⟩
 |succ fuel ih=>
  intro listed a w pre post e H g hI hst hu;refine⟨fun hr=>hQ _ _ (Qaz1 hF hI hst hr),?_⟩;intro i hi;rw[mem_ready]at hi;obtain⟨h1,o,h2,h3⟩:=hi;have hlt:i<F.ops.size:=(Jk.1 h2).1;have hlt':i<listed.size:=by rw[hI.lsz];exact hlt
  have hnd:¬dn listed i:=by
   simp only[dn];rw[Jc,Jl hlt']at h1⊢;simpa using h1
  have hu':unl F (listed.setIfInBounds i true)≤fuel:=by
   have:unl F (listed.setIfInBounds i true)<unl F listed:=by
    refine Qaqr _ ?_ ⟨i,by simp[hlt],?_,?_⟩
    ·intro j hj hq;by_cases hij:i=j
     ·subst hij;simp[hlt']at hq
     ·rw[getD_set_ne false hij]at hq;exact hq
    ·simpa[dn]using hnd
    ·simp[hlt']
   omega
  obtain⟨y,hyL,hyc,hyi⟩:=hF.all i hlt;subst hyi;obtain⟨A,B,hAB⟩:=Jy hyL;obtain⟨o',ho⟩:=hF.row hAB hyc;have hoo:o'=o:=by have:=ho.op;rw[h2]at this;simpa using this.symm
  subst hoo;have hanc:∀j,F.anc y.1 j→dn listed j:=by
   intro j hj;obtain⟨ed,k1,k2,k3⟩:=ho.anc j hj;rcases k3 with k3|k3
   ·rw[←k3];exact h3 ed k1 k2
   ·exact hI.closed _ (h3 ed k1 k2) j k3
  have hgo:∀a' w' pre' post' e' H' g',DInv F (listed.setIfInBounds y.1 true) a' w' pre' post' e' H' g'→wpAny F.P .any F.ops Q fuel (listed.setIfInBounds y.1 true) a' w':=by
   intro a' w' pre' post' e' H' g' hI';obtain⟨p2,q2,e2,H2,hI2,hs2⟩:=Q56 hF post' pre' e' H' hI';exact ih _ a' w' p2 q2 e2 H2 g' hI2 hs2 hu'
  have hmem:y∈pre∨y∈post:=by
   have:y∈pre++post:=hI.split▸hyL;exact Jd.1 this
  have hearly:flo F.fa y.1=true→y∈post→wpOp F.P F.ops Q y.1 (wpAny F.P .any F.ops Q fuel (listed.setIfInBounds y.1 true)) a w:=by
   intro hfa hyp;refine Qa16 h2 ho.item (ho.isFa hfa) hI.stp.sat (fun l z hz=>hI.stp.le.io l z hz) hI.size (g0:=F.g0) fun u w' g' k1 k2 k3=>?_;exact hgo _ _ _ _ _ _ _ (hI.doneFa hF hyp hyc hfa hnd hanc k1 k2 k3)
  rcases hmem with hyp|hyp
  ·
   have hfl:y.2.isFl=true:=by
    have hE:=hI.eDone y hyp;revert hE hyc;cases y.2 <;> simp_all[Item.isFl,Item.isChk,Item.isE]
   rcases hI.pend y hyp hfl hnd with h|h
   ·exfalso;rcases hst with rfl|⟨z,r,rfl,hz,_⟩
    ·simp[Qan9]at h
    ·have:=(Qoy h).1;rw[(Qaqz hz).1]at this;simp at this
   ·obtain⟨o2,x,ei,v,p1,p2,p3,p4,p5,p6,p7,p8⟩:=h;rw[h2]at p1;simp only[Je]at p1;subst p1;have hno:∀t,¬∃z,Qi9 F listed pre y t z:=by
     rintro t ⟨z,b1,b2,b3,b4,b5⟩;exact b3 (hanc _ b5)
    refine Qbgp (n:=F.n) h2 p2 p6 hI.stp.sat ?_ fun u w' g' k1 k2=>?_
    ·intro t;rw[Qaoj];split
     ·rename_i ht
      rw[p4]at ht;exact (p8 t ht).2 (hno t)
     ·exact .unk _
    ·rw[p3];exact hgo _ _ _ _ _ _ _ (hI.doneFl hF hyp hfl hnd hanc p7 k1 k2)
  ·by_cases hfa:flo F.fa y.1=true
   ·exact hearly hfa hyp
   ·rcases hst with rfl|⟨z,r,rfl,hz,hzd⟩
    ·simp at hyp
    ·have hyz:y=z:=by
      rcases Ji.1 hyp with k|k
      ·exact k
      ·exfalso;have:=(hF.pair (Qcw hI.split k) (Qaqz hz).1 hyc).ord hz hfa;exact hzd (hanc _ this)
     subst hyz;have hrest:=hI.rest;have him:=ho.item;have hpass:=@DInv.passE;obtain⟨yi,yx⟩:=y
     cases yx with
     |e d gd op=>
      simp only[Jt,Qsr]at hrest;obtain⟨r1,r2,r3⟩:=hrest;refine Qbfs (n:=F.n) h2 him hI.stp.sat ?_ r1 r2 r3 (fun x u w' H' g' k1 k2 k3=>?_) fun v w' H' g' k1 k2=>hP v a w' H' g' k1 (hI.stp.trans k2) hI.defers hI.size
      ·intro t;rw[Qaoj];split
       ·rename_i ht
        rcases hI.temps t with ⟨y',b1,b2,b3,b4⟩|⟨y',b1,b2,b3,b4,b5⟩|k
        ·exfalso;exact b3 (hanc _ ((hF.pair (Qbz hI.split b1 (by simp)) b2 hyc).raw t b4 ht))
        ·exfalso;rcases Ji.1 b1 with h|h
         ·subst h;exact hnd b4
         ·have:=(hF.pair (Qcw hI.split h) hyc b2).war t b5 ht;exact hnd (hI.closed _ b4 _ this)
        ·exact k
       ·exact .unk _
      ·exact hgo _ _ _ _ _ _ _ (hI.passE hF hz hnd hfa hanc (Qavb k1 k3) k2 k3)
     |f=>simp[Item.isE]at hz
     |p=>simp[Item.isE]at hz
     |chk=>simp[Item.isE]at hz
theorem Qavd (hs:Sat H g w)(k:Nat):Stp H g w H g { w with drawn:=k }:=by
 have hle:Le g w g { w with drawn:=k }:=⟨fun _ h=>⟨h,rfl⟩,fun _ _ h=>h,Jau _,fun _ _ _ h=>h,rfl,rfl,rfl⟩;have hk:∀l,Q55 g w g { w with drawn:=k } l:=fun l b q hb=>⟨hb,rfl⟩;exact⟨hle,fun l _ hn=>⟨hn,fun b p hb=>⟨hb,rfl⟩⟩,hs.fresh,hs.names,hs.excl,hs.named,fun l=>SatObj.keep_all hs hle hk l⟩
theorem Qa14 {n id fa:Nat}{ord:List Nat}{ops:Array Oper}{its:List Item}{KP:Value→Heap→Prop}{K:Env→Heap→Prop}{Q:Exit→Act→World→Prop}(Qal:P.follows .mixedOrders=true)(hm:Qbhb P n ops fa ord its=true)(hs:Sat H g w)(he:EnvOk w g e a)(hn:a.tmps.size=n)(hd:a.defers=[])
  (hr:Qsr P its e H KP K) (hQ:∀a' w',Post n H g w K a' w'→Q .normal a' w') (hP:∀v a' w',Post n H g w (fun _ H'=>KP v H') a' w'→Q (.panic [{ v:=v,recovered:=false }]) a' w'):(Code.region id ops true).wp P Q a w:=by
 simp only[Qbhb,Ja,beq_iff_eq,J6,Jay,Jaf,Jz]at hm;obtain⟨⟨⟨m1,m2⟩,m3⟩,m4⟩:=hm;let F:Fix:={ P,n,ops,ms:=Qbhj ops.toList [],fa,L:=ord.zip its,H0:=H,g0:=g,w0:=w,KP,K };have hF:FixOk F:=⟨m3,fun i hi=>m4 i hi⟩;have hmap:(ord.zip its).map Prod.snd=its:=by
  rw[List.map_snd_zip];omega
 have hst:=Qavd hs (w.drawn+1);have hnl:∀i,¬dn (Array.replicate ops.size false) i:=by
  intro i h;simp only[dn,Jc,Array.getElem?_replicate]at h;split at h <;> simp at h
 have hI:DInv F (Array.replicate ops.size false) a { w with drawn:=w.drawn+1 } [] (ord.zip its) e H g:=by
  refine⟨rfl,by rw[hmap];exact hr,hst,hn,hd,by simp[F],fun i hi=>absurd hi (hnl i),by simp,fun y _ _ h=>absurd h (hnl _),by simp,fun t=>?_,fun y _ z _ _ _ h=>absurd h (hnl _)⟩;exact .inr (.inr ((he t).mono hst.le))
 obtain⟨p2,q2,e2,H2,hI2,hs2⟩:=Q56 hF _ _ _ _ hI;refine wp_region_any Qal ?_;refine Qa58 hF hQ (fun v a' w' H' g' k1 k2 k3 k4=>hP v a' w' ⟨[],H',g',k1,k2,fun t=>.unk _,k3,k4⟩) ops.size _ a _ p2 q2 e2 H2 g hI2 hs2 ?_;exact Nat.le_trans List.countP_le_length (by simp[F])
theorem Qa5h {c:Code}{Q:Exit→Act→World→Prop}(I:Nat→Act→World→Prop)(h₀:∃n,I n a w)
  (round:∀n a w,I n a w→c.wp P (Exit.then (fun a' w'=>∃m,m<n∧I m a' w') Q) a w):(Code.loop c).wp P Q a w:=by
 intro b k cs;have key:∀n a w,I n a w→∃e a' w',Q e a' w'∧Arrives P (lone (b.at a (.code c::.inLoop c::k)) cs w) b k cs e a' w':=by
  intro n
  induction n using Nat.strongRecOn with
  |_ n ih=>
   intro a w hI;obtain⟨e,a₁,w₁,hq,harr⟩:=round n a w hI b (.inLoop c::k) cs
   cases e with
   |normal=>
    obtain⟨m,hlt,hI₁⟩:=hq;obtain⟨e₂,a₂,w₂,hq₂,harr₂⟩:=ih m hlt a₁ w₁ hI₁;exact⟨e₂,a₂,w₂,hq₂,.of_steps (Steps.trans harr (.one step_inLoop)) harr₂⟩
   |exit id=>exact⟨_,a₁,w₁,hq,.pass (x:=.inLoop c) rfl (fun _ _=>.inl (by simp)) harr⟩
   |goto l=>exact⟨_,a₁,w₁,hq,.pass (x:=.inLoop c) rfl (fun _ _=>.inl (by simp)) harr⟩
   |ret=>exact⟨_,a₁,w₁,hq,.pass (x:=.inLoop c) rfl (fun _ _=>.inl (by simp)) harr⟩
   |panic ch=>exact⟨_,a₁,w₁,hq,.pass (x:=.inLoop c) rfl (fun _ _=>.inl (by simp)) harr⟩
   |outgrown=>exact⟨_,a₁,w₁,hq,.pass (x:=.inLoop c) rfl (fun _ _=>.inl (by simp)) harr⟩
 obtain⟨n,hn⟩:=h₀;obtain⟨e,a',w',hq,harr⟩:=key n a w hn;exact⟨e,a',w',hq,.of_steps (.one step_loop) harr⟩
def xm:Exit→Option X
 |.normal=>some .nrm
 |.exit id=>some (.exit id)
 |.ret=>some .ret
 |.panic [{ v:=v,recovered:=false,goexit:=false }]=>some (.pan v)
 |_=>none
theorem Qa1n {ch:List PanicEntry}{x:X}(h:xm (.panic ch)=some x):∃v,x=.pan v∧ch=[{ v:=v,recovered:=false }]:=by
 unfold xm at h;split at h <;> simp_all
def Qa5m (n:Nat)(H:Heap)(g:G)(w:World)(Q:X→Env→Heap→Prop)(x:Exit)(a:Act)(w':World):Prop:=
 ∃x',xm x=some x'∧Post n H g w (Q x') a w'
def mC (P:Program)(n:Nat):Code→SC→Bool
 |c,.seq .gh s=>mC P n c s
 |.skip,.skip=>true
 |.region _ ops false,.reg its _=>mIts P n ops 0 its
 |.region _ ops true,.dreg fa ord its _=>Qbhb P n ops fa ord its
 |.seq c d,.seq s t=>mC P n c s&&mC P n d t
 |.cond x c d,.cond y s t=>mO y x&&mC P n c s&&mC P n d t
 |.block i c,.block j s=>i == j&&mC P n c s
 |.loop c,.loop s=>mC P n c s
 |.exit i,.exit j=>i == j
 |.ret,.ret=>true
 |.scope c,.scope s=>mC P n c s
 |.label _,.skip=>true
 |_,_=>false
theorem Qbaz {ks:List Nat}(h:EnvOk w g e a):EnvOk w g (trim ks e) a:=by
 intro t;unfold trim
 induction ks with
 |nil=>exact .unk _
 |cons k ks ih=>
  simp only[Jt,lk];split
  ·rename_i ht;subst ht;exact h t
  ·exact ih
theorem Post.trans {n:Nat}{H':Heap}{g':G}{w' w'':World}{K:Env→Heap→Prop}(h:Stp H g w H' g' w')(k:Post n H' g' w' K a w''):Post n H g w K a w'':=by
 obtain⟨e2,H2,g2,k1,k2,k3,k4,k5⟩:=k;exact⟨e2,H2,g2,k1,h.trans k2,k3,k4,k5⟩
theorem Qa12 (Qal:P.follows .mixedOrders=true){n:Nat}:∀(s:SC) (c:Code) (Q:X→Env→Heap→Prop) (e:Env) (H:Heap),mC P n c s=true→Q3 P s Q e H→
  ∀(g:G) (w:World) (a:Act),Sat H g w→EnvOk w g e a→a.defers=[]→a.tmps.size=n→c.wp P (Qa5m n H g w Q) a w:=by
 intro s
 induction s with
 |skip=>
  intro c Q e H hm hc g w a hs he hd hn
  cases c with
  |skip=>exact wp_skip ⟨.nrm,rfl,e,H,g,hc,.refl hs,he,hd,hn⟩
  |label l=>exact wp_label ⟨.nrm,rfl,e,H,g,hc,.refl hs,he,hd,hn⟩
  |_=>simp[mC]at hm
 |reg its keep=>
  intro c Q e H hm hc g w a hs he hd hn
  cases c with
  |region id ops dr'=>
   cases dr' with
   |true=>simp[mC]at hm
   |false=>
    simp only[mC]at hm;simp only[Q3]at hc;have hQ:∀a' w',Post n H g w (fun e' H'=>Q .nrm (trim keep e') H') a' w'→Qa5m n H g w Q .normal a' w':=by
     rintro a' w' ⟨e2,H2,g2,k1,k2,k3,k4,k5⟩;exact⟨.nrm,rfl,_,H2,g2,k1,k2,Qbaz k3,k4,k5⟩
    have hP:∀v a' w',Post n H g w (fun _ H'=>X.panK Q v H') a' w'→Qa5m n H g w Q (.panic [{ v:=v,recovered:=false }]) a' w':=by
     rintro v a' w' ⟨e2,H2,g2,k1,k2,k3,k4,k5⟩;exact⟨.pan v,rfl,[],H2,g2,k1,k2,fun t=>.unk _,k4,k5⟩
    have hl:=Qa0p its 0 hm;refine wp_region ?_;rw[List.range_eq_range',←hl,J5];exact Q9o hQ hP its 0 e H g w a hm (.refl hs) he hn hd hc
  |_=>simp[mC]at hm
 |dreg fa ord its keep=>
  intro c Q e H hm hc g w a hs he hd hn
  cases c with
  |region id ops dr'=>
   cases dr' with
   |false=>simp[mC]at hm
   |true=>
    simp only[mC]at hm;simp only[Q3]at hc;have hQ:∀a' w',Post n H g w (fun e' H'=>Q .nrm (trim keep e') H') a' w'→Qa5m n H g w Q .normal a' w':=by
     rintro a' w' ⟨e2,H2,g2,k1,k2,k3,k4,k5⟩;exact⟨.nrm,rfl,_,H2,g2,k1,k2,Qbaz k3,k4,k5⟩
    have hP:∀v a' w',Post n H g w (fun _ H'=>X.panK Q v H') a' w'→Qa5m n H g w Q (.panic [{ v:=v,recovered:=false }]) a' w':=by
     rintro v a' w' ⟨e2,H2,g2,k1,k2,k3,k4,k5⟩;exact⟨.pan v,rfl,[],H2,g2,k1,k2,fun t=>.unk _,k4,k5⟩
    exact Qa14 Qal hm hs he hn hd hc hQ hP
  |_=>simp[mC]at hm
 |seq s t ihs iht=>
  intro c Q e H hm hc g w a hs he hd hn;by_cases hg:s=.gh
  ·subst hg;have hm':mC P n c t=true:=by simpa[mC]using hm
   simp only[Q3]at hc;obtain⟨e1,H1,h1,h2⟩:=hc;obtain⟨g1,k1,k2⟩:=h1 g w (fun t=>a.tmps.getD t undef) hs he;refine wp_mono (iht c Q e1 H1 hm' h2 g1 w a k1.sat k2 hd hn) ?_;rintro x a' w' ⟨x',q1,q2⟩;exact⟨x',q1,q2.trans k1⟩
  ·cases c with
   |seq c d=>
    have hm':mC P n c s=true∧mC P n d t=true:=by
     cases s <;> first|(exact absurd rfl hg)|simpa[mC]using hm
    simp only[Q3]at hc;refine wp_seq (wp_mono (ihs c _ e H hm'.1 hc g w a hs he hd hn) ?_);rintro x a' w' ⟨x',q1,e2,H2,g2,k1,k2,k3,k4,k5⟩
    cases x with
    |normal=>
     simp only[xm,Je]at q1;subst q1;refine wp_mono (iht d Q e2 H2 hm'.2 k1 g2 w' a' k2.sat k3 k4 k5) ?_;rintro x2 a2 w2 ⟨x2',r1,r2⟩;exact⟨x2',r1,r2.trans k2⟩
    |exit id=>
     simp only[xm,Je]at q1;subst q1;exact⟨_,rfl,e2,H2,g2,k1,k2,k3,k4,k5⟩
    |ret=>
     simp only[xm,Je]at q1;subst q1;exact⟨_,rfl,e2,H2,g2,k1,k2,k3,k4,k5⟩
    |panic ch=>
     obtain⟨v,rfl,rfl⟩:=Qa1n q1;exact⟨_,rfl,e2,H2,g2,k1,k2,k3,k4,k5⟩
    |_=>simp[xm]at q1
   |_=>cases s <;> first|(exact absurd rfl hg)|simp[mC]at hm
 |cond y s t ihs iht=>
  intro c Q e H hm hc g w a hs he hd hn;cases c <;> simp[mC]at hm
  rename_i x c d
  obtain⟨⟨h1,h2⟩,h3⟩:=hm;simp only[Q3]at hc;obtain⟨b,k1,k2,k3⟩:=hc;have hr:=Qbe6 he h1;rw[k1]at hr;have hb:=hr.c_inv.bool_inv;exact wp_cond_split hb (fun hbt=>ihs c Q e H h2 (k2 hbt) g w a hs he hd hn) (fun hbt=>iht d Q e H h3 (k3 hbt) g w a hs he hd hn)
 |block id s ih=>
  intro c Q e H hm hc g w a hs he hd hn;cases c <;> simp[mC]at hm
  rename_i id' c
  obtain⟨rfl,h2⟩:=hm;simp only[Q3]at hc;refine wp_block (wp_mono (ih c _ e H h2 hc g w a hs he hd hn) ?_);rintro x a' w' ⟨x',q1,e2,H2,g2,k1,k2⟩
  cases x with
  |normal=>
   simp only[xm,Je]at q1;subst q1;exact⟨.nrm,rfl,e2,H2,g2,k1,k2⟩
  |exit id2=>
   simp only[xm,Je]at q1;subst q1;simp only[X.inBlock]at k1;simp only[Exit.inBlock];split
   ·rename_i h;subst h;rw[if_pos rfl]at k1;exact⟨.nrm,rfl,e2,H2,g2,k1,k2⟩
   ·rename_i h;rw[if_neg h]at k1;exact⟨.exit id2,rfl,e2,H2,g2,k1,k2⟩
  |ret=>
   simp only[xm,Je]at q1;subst q1;exact⟨.ret,rfl,e2,H2,g2,k1,k2⟩
  |panic ch=>
   obtain⟨v,rfl,rfl⟩:=Qa1n q1;exact⟨.pan v,rfl,e2,H2,g2,k1,k2⟩
  |_=>simp[xm]at q1
 |loop s ih=>
  intro c Q e H hm hc g w a hs he hd hn;cases c <;> simp[mC]at hm
  rename_i c
  simp only[Q3]at hc;obtain⟨I,⟨m0,h0⟩,hround⟩:=hc;refine Qa5h (fun m a' w'=>Post n H g w (I m) a' w') ⟨m0,e,H,g,h0,.refl hs,he,hd,hn⟩ ?_;rintro m a1 w1 ⟨e1,H1,g1,k1,k2,k3,k4,k5⟩;refine wp_mono (ih c _ e1 H1 hm (hround m e1 H1 k1) g1 w1 a1 k2.sat k3 k4 k5) ?_;rintro x a' w' ⟨x',q1,e2,H2,g2,r1,r2,r3,r4,r5⟩
  cases x with
  |normal=>
   simp only[xm,Je]at q1;subst q1;obtain⟨m',hlt,hI⟩:=r1;exact⟨m',hlt,e2,H2,g2,hI,k2.trans r2,r3,r4,r5⟩
  |exit id=>
   simp only[xm,Je]at q1;subst q1;exact⟨_,rfl,e2,H2,g2,r1,k2.trans r2,r3,r4,r5⟩
  |ret=>
   simp only[xm,Je]at q1;subst q1;exact⟨_,rfl,e2,H2,g2,r1,k2.trans r2,r3,r4,r5⟩
  |panic ch=>
   obtain⟨v,rfl,rfl⟩:=Qa1n q1;exact⟨_,rfl,e2,H2,g2,r1,k2.trans r2,r3,r4,r5⟩
  |_=>simp[xm]at q1
 |exit id=>
  intro c Q e H hm hc g w a hs he hd hn;cases c <;> simp[mC]at hm;subst hm;exact wp_exit ⟨.exit _,rfl,e,H,g,hc,.refl hs,he,hd,hn⟩
 |ret=>
  intro c Q e H hm hc g w a hs he hd hn;cases c <;> simp[mC]at hm;exact wp_ret ⟨.ret,rfl,e,H,g,hc,.refl hs,he,hd,hn⟩
 |gh=>
  intro c Q e H hm hc g w a hs he hd hn;cases c <;> simp[mC]at hm
 |scope s ih=>
  intro c Q e H hm hc g w a hs he hd hn;cases c <;> simp[mC]at hm
  rename_i c
  simp only[Q3]at hc;refine wp_scope_straight (wp_mono (ih c Q e H hm hc g w a hs he hd hn) ?_);rintro x a' w' ⟨x',q1,q2⟩
  cases x with
  |goto l=>simp[xm]at q1
  |_=>exact⟨x',q1,q2⟩
def mR (P:Program):ResultVar→RS→Bool
 |.tmp t,.tmp t'=>t == t'
 |.cell t ty,.cell t' n agg=>t == t'&&Qaq7 P ty n agg
 |_,_=>false
def mRs (P:Program):List ResultVar→List RS→Bool
 |[],[]=>true
 |x::r,y::s=>mR P x y&&mRs P r s
 |_,_=>false
def mFn (P:Program)(f:FuncId)(nargs n:Nat)(s:SC)(rs:List RS):Bool:=
 fnOk P f&&(match P.funcs[f]? with
  |some fn=>(match fn.body with
   |some c=>fn.ntmps == n&&decide (nargs≤n)&&mC P n c s&&mRs P fn.results.toList rs
   |none=>false)
  |none=>false)
theorem Qbjk {n:Nat}{x:ResultVar}{y:RS}(hm:mR P x y=true)(hs:Sat H g w)(he:EnvOk w g e a)(ho:y.op.obl true e H) :
  ∃v,(match x with
   |.tmp t=>(pure (a.tmps.getD t undef):Sem Value)
   |.cell t ty=>do loadVar ty (←asAddr (a.tmps.getD t undef))).run P w=.ok v w∧RepV w g (y.op.val e H) v:=by
 cases x with
 |tmp t=>
  cases y with
  |tmp t'=>
   simp[mR]at hm;subst hm;have hr:=Qai (x:=.t t) (y:=.tmp t) he (by simp[mO]) rfl ho;exact⟨a.tmps.getD t undef,rfl,hr⟩
  |cell=>simp[mR]at hm
 |cell t ty=>
  cases y with
  |tmp=>simp[mR]at hm
  |cell t' n agg=>
   simp only[mR,Ja,beq_iff_eq]at hm;obtain⟨rfl,h2⟩:=hm;obtain⟨d,i,k1,k2,k3,k4,k5⟩:=Qk7 h2;obtain ⟨v, w', g', r1, r2, r3, _⟩ := s_ld (o := { dst := none, op := .load ty (.tmp t), type := 0, pos := "", after := #[], guard := none }) (x := .t t) (x' := .tmp t) rfl k1 k2 k3 k4 k5 (by simp [mO]) hs he rfl ho
   simp only[RS.op,FOp.obl]at ho;obtain⟨o1,o2,o3,o4,o5⟩:=ho;have hrr:=Qai (x:=.t t) (y:=.tmp t) he (by simp[mO]) rfl o1;rw[Qc7 o2]at hrr;obtain⟨b,q,hv,_⟩:=Qamj hs hrr.c_inv o3;have hv':a.tmps.getD t undef=.pointer (some ⟨b,q,none⟩):=hv;have hcell := Qauq (P := P) (o := { dst := none, op := .load ty (.tmp t), type := 0, pos := "", after := #[], guard := none }) (x := .t t) (x' := .tmp t) rfl k1 k2 k3 k4 k5 (by simp [mO]) hs he rfl ⟨o1, o2, o3, o4, o5⟩
   obtain⟨v2,q1,q2⟩:=hcell;refine⟨v2,?_,q2⟩;simp only[execOp,Instr.loadAt,Act.eval,hv',Instr.sureAddr,Sem.run_bind,Sem.run_pure,Result.andThen_ok]at q1;simp only[hv',asAddr,Sem.run_bind,Sem.run_pure,Result.andThen_ok]
   cases hl:(loadVar ty ⟨b,q,none⟩).run P w with
   |ok u w2=>rw[hl]at q1;simp at q1;obtain⟨rfl,rfl⟩:=q1;rfl
   |halt h w2=>rw[hl]at q1;simp at q1
def rRun (tmps:Array Value):ResultVar→Sem Value
 |.tmp t=>pure (tmps.getD t undef)
 |.cell a t=>do loadVar t (←asAddr (tmps.getD a undef))
theorem Qawn {P:Program}{w:World}{tmps:Array Value}:∀(l:List ResultVar) (vs:List Value),l.length=vs.length→
  (∀(j:Nat) (x:ResultVar) (v:Value),l[j]? = some x→vs[j]? = some v→(rRun tmps x).run P w=.ok v w)→(l.mapM (rRun tmps)).run P w=.ok vs w:=by
 intro l
 induction l with
 |nil=>intro vs hl _;cases vs with
  |nil=>simp
  |cons=>simp at hl
 |cons x r ih=>
  intro vs hl h
  cases vs with
  |nil=>simp at hl
  |cons v vs=>
   have h0:=h 0 x v rfl rfl;have ih':=ih vs (by simpa using hl) fun j y u h1 h2=>h (j+1) y u (by simpa using h1) (by simpa using h2);simp only[List.mapM_cons,Sem.run_bind,h0,Result.andThen_ok,ih',Sem.run_pure]
theorem Qbhd {n:Nat}:∀(l:List ResultVar) (rs:List RS),mRs P l rs=true→Sat H g w→EnvOk w g e a→(∀r∈rs,r.op.obl true e H)→
  ∃vs:List Value,l.length=vs.length∧vs.length=rs.length∧(∀(j:Nat) (x:ResultVar) (v:Value),l[j]? = some x→vs[j]? = some v→(rRun a.tmps x).run P w=.ok v w)∧
   (∀(j:Nat) (x:V) (u:Value),(rs.map fun r=>r.op.val e H)[j]? = some x→vs[j]? = some u→RepV w g x u):=by
 intro l
 induction l with
 |nil=>
  intro rs hm hs he ho
  cases rs with
  |nil=>exact⟨[],rfl,rfl,by simp,by simp⟩
  |cons=>simp[mRs]at hm
 |cons x r ih=>
  intro rs hm hs he ho
  cases rs with
  |nil=>simp[mRs]at hm
  |cons y rs=>
   simp only[mRs,Ja]at hm;obtain⟨v,h1,h2⟩:=Qbjk (n:=n) hm.1 hs he (ho y (by simp));obtain⟨vs,k1,k2,k3,k4⟩:=ih rs hm.2 hs he fun z hz=>ho z (by simp[hz]);refine⟨v::vs,by simp[k1],by simp[k2],?_,?_⟩
   ·intro j z u hz hu
    cases j with
    |zero=>
     simp at hz hu;subst hz;subst hu;exact h1
    |succ j=>exact k3 j z u (by simpa using hz) (by simpa using hu)
   ·intro j z u hz hu
    cases j with
    |zero=>
     simp at hz hu;subst hz;subst hu;exact h2
    |succ j=>exact k4 j z u (by simpa using hz) (by simpa using hu)
theorem Qa2t {fn:Func}{rs:List RS}(hm:mRs P fn.results.toList rs=true)(hs:Sat H g w)(he:EnvOk w g e a){K:V→Heap→Prop}(ho:Q8 rs e H K) :
  ∃v x,(results fn a.tmps).run P w=.ok v w∧K x H∧RepV w g x v:=by
 obtain⟨h1,h2⟩:=ho;obtain⟨vs,k1,k2,k3,k4⟩:=Qbhd (n:=0) _ _ hm hs he h1;have hr:=Qawn (P:=P) (w:=w) (tmps:=a.tmps) _ _ k1 k3;have hrun:(results fn a.tmps).run P w=.ok (if h:vs.toArray.size=1 then vs.toArray[0]else .tuple vs.toArray) w:=by
  have:results fn a.tmps=(do let vs ←fn.results.mapM (rRun a.tmps);pure (if h:vs.size=1 then vs[0]else .tuple vs)):=by
   unfold results;rfl
  rw[this,Array.mapM_eq_mapM_toList];simp only[Sem.run_bind,Sem.run_map,hr,Result.andThen_ok,Sem.run_pure]
 by_cases hl:vs.length=1
 ·obtain⟨v,rfl⟩:∃v,vs=[v]:=Jah.mp hl;obtain⟨r,rfl⟩:∃r,rs=[r]:=Jah.mp (by omega);exact⟨v,_,by simpa using hrun,h2,k4 0 _ v (by simp) rfl⟩
 ·have hsz:¬vs.toArray.size=1:=by simpa using hl
  rw[dif_neg hsz]at hrun;refine⟨_,.tup (rs.map fun r=>r.op.val e H),hrun,?_,.tup _ _ (by simp[k2]) k4⟩;split at h2
  ·rename_i r;simp at k2;omega
  ·exact h2
def Qp (rs:List RS)(K:V→Heap→Prop):X→Env→Heap→Prop
 |.nrm,e,H=>Q8 rs e H K
 |.ret,e,H=>Q8 rs e H K
 |.exit _,_,_=>False
 |.pan v,_,H=>K (.pn v) H
theorem Qbii:∀(args:List V) (i t:Nat),lk t (zipE i args)=if i≤t then args.getD (t-i) .unk else .unk:=by
 intro args
 induction args with
 |nil=>intro i t;simp[zipE,lk]
 |cons v r ih=>
  intro i t;simp only[zipE,lk,ih];split
  ·rename_i h;subst h;simp
  ·rename_i h
   split
   ·rw[if_pos (by omega)];have:t-i=(t-(i+1))+1:=(by omega);rw[this];simp
   ·rw[if_neg (by omega)]
theorem Qc (Qal:P.follows .mixedOrders=true){f n:Nat}{s:SC}{rs:List RS}{args:List V}{H:Heap}{K:V→Heap→Prop}
  (hm:mFn P f args.length n s rs=true) (hc:Q3 P s (Qp rs K) (zipE 0 args) H):Ql P f args H K:=by
 simp only[mFn,Ja]at hm;obtain⟨hok,hm⟩:=hm;refine⟨hok,?_⟩;intro g w vs hs hl hv
 cases hf:P.funcs[f]? with
 |none=>rw[hf]at hm;simp at hm
 |some fn=>
  rw[hf]at hm;simp only at hm
  cases hb:fn.body with
  |none=>rw[hb]at hm;simp at hm
  |some c=>
   rw[hb]at hm;simp only[Ja,beq_iff_eq,decide_eq_true_eq]at hm;obtain⟨⟨⟨h1,h2⟩,h3⟩,h4⟩:=hm;refine calls_of_wp hf hb ?_;have he:EnvOk w g (zipE 0 args) { tmps:=vs.toArray++Array.replicate (fn.ntmps-vs.toArray.size) undef,defers:=[] }:=by
    intro t;rw[Qbii,if_pos (Ja3 _),Nat.sub_zero];by_cases ht:t<args.length
    ·have ht':t<vs.length:=(by omega);have hg:(vs.toArray++Array.replicate (fn.ntmps-vs.toArray.size) undef).getD t undef=vs[t]:=by
      simp[Array.getD,ht',Array.getElem_append];intro h;omega
     rw[hg];exact hv t _ _ (by rw[Jg,Jm ht];rfl) (Jm ht')
    ·rw[Jg,Jn (by omega)];exact .unk _
   refine wp_mono (Qa12 Qal s c _ (zipE 0 args) H h3 hc g w _ hs he rfl (by simp;omega)) ?_;rintro x a' w' ⟨x',q1,e2,H2,g2,k1,k2,k3,k4,k5⟩;have key:Q8 rs e2 H2 K→a'.defers=[]∧∃v,(results fn a'.tmps).run P w'=.ok v w'∧((∃v' x H' g',Ending.returned v=.returned v'∧K x H'∧Stp H g w H' g' w'∧RepV w' g' x v')∨(∃v' H' g',Ending.returned v=.panicked [{ v:=v',recovered:=false }]∧K (.pn v') H'∧Stp H g w H' g' w')):=by
    intro hret;obtain⟨v,x,r1,r2,r3⟩:=Qa2t h4 k2.sat k3 hret;exact⟨k4,v,r1,.inl ⟨v,x,H2,g2,rfl,r2,k2,r3⟩⟩
   cases x with
   |normal=>
    simp only[xm,Je]at q1;subst q1;exact key k1
   |ret=>
    simp only[xm,Je]at q1;subst q1;exact key k1
   |exit id=>
    simp only[xm,Je]at q1;subst q1;exact k1.elim
   |panic ch=>
    obtain⟨v,rfl,rfl⟩:=Qa1n q1;exact⟨k4,.inr ⟨v,H2,g2,rfl,k1,k2⟩⟩
   |_=>simp[xm]at q1
end Go.AE
namespace Go.AE
variable {P:Program}{H:Heap}{e:Env}
def X.sq (P:Program)(b:SC)(Q:X→Env→Heap→Prop):X→Env→Heap→Prop:=X.next (Q3 P b Q) Q
theorem Qbh8 {KP:Value→Heap→Prop}{K:V→Heap→Prop}{x:C}:Qau9 KP K (.c x) H=K (.c x) H:=rfl
theorem Qbeh {KP:Value→Heap→Prop}{K:V→Heap→Prop}{x:List C}:Qau9 KP K (.ag x) H=K (.ag x) H:=rfl
theorem Qava {KP:Value→Heap→Prop}{K:V→Heap→Prop}{x:List V}:Qau9 KP K (.tup x) H=K (.tup x) H:=rfl
theorem Qbas {KP:Value→Heap→Prop}{K:V→Heap→Prop}:Qau9 KP K .unk H=K .unk H:=rfl
theorem Qbei {KP:Value→Heap→Prop}{K:V→Heap→Prop}{v:Value}:Qau9 KP K (.pn v) H=KP v H:=rfl
theorem Qbkb {b:SC}{Q:X→Env→Heap→Prop}:X.sq P b Q .nrm e H=Q3 P b Q e H:=rfl
theorem Qbkd {b:SC}{Q:X→Env→Heap→Prop}:X.sq P b Q .ret e H=Q .ret e H:=rfl
theorem Qbh4 {b:SC}{Q:X→Env→Heap→Prop}{i:Nat}:X.sq P b Q (.exit i) e H=Q (.exit i) e H:=rfl
theorem Qbi6 {i:Nat}{Q:X→Env→Heap→Prop}:X.inBlock i Q .nrm e H=Q .nrm e H:=rfl
theorem Qbi8 {i:Nat}{Q:X→Env→Heap→Prop}:X.inBlock i Q .ret e H=Q .ret e H:=rfl
theorem Qbgv {i:Nat}{Q:X→Env→Heap→Prop}:X.inBlock i Q (.exit i) e H=Q .nrm e H:=by simp[X.inBlock]
theorem Qf {a b:SC}{Q:X→Env→Heap→Prop}(h:Q3 P a (X.sq P b Q) e H):Q3 P (.seq a b) Q e H:=h
theorem Qa71 {K K':Env→Heap→Prop}{Q:X→Env→Heap→Prop}:X.next K (X.next K' Q)=X.next K Q:=by
 funext x e H
 cases x <;> rfl
theorem Q6 {a b c:SC}{Q:X→Env→Heap→Prop}(h:Q3 P (.seq a (.seq b c)) Q e H):Q3 P (.seq (.seq a b) c) Q e H:=by
 simp only[Q3]at h⊢;rw[Qa71];exact h
theorem Qq {its:List Item}{keep:List Nat}{Q:X→Env→Heap→Prop}(h:regT P its e H (X.panK Q) fun e' H'=>Q .nrm (trim keep e') H'):Q3 P (.reg its keep) Q e H:=h
theorem Qel {fa:Nat}{ord:List Nat}{its:List Item}{keep:List Nat}{Q:X→Env→Heap→Prop}(h:Qsr P its e H (X.panK Q) fun e' H'=>Q .nrm (trim keep e') H'):Q3 P (.dreg fa ord its keep) Q e H:=h
theorem Qa {its:List Item}{keep:List Nat}{b:SC}{Q:X→Env→Heap→Prop}(h:regT P its e H (X.panK Q) fun e' H'=>Q3 P b Q (trim keep e') H'):Q3 P (.seq (.reg its keep) b) Q e H:=h
theorem Qa1 {fa:Nat}{ord:List Nat}{its:List Item}{keep:List Nat}{b:SC}{Q:X→Env→Heap→Prop}(h:Qsr P its e H (X.panK Q) fun e' H'=>Q3 P b Q (trim keep e') H'):Q3 P (.seq (.dreg fa ord its keep) b) Q e H:=h
theorem Qb {t:Opd}{a b:SC}{Q:X→Env→Heap→Prop}{c:Bool}(hc:t.raw e=.c (.bool c))(h1:c=true→Q3 P a Q e H)(h2:c=false→Q3 P b Q e H):Q3 P (.cond t a b) Q e H:=⟨c,hc,h1,h2⟩
theorem Qd {i:Nat}{a:SC}{Q:X→Env→Heap→Prop}(h:Q3 P a (X.inBlock i Q) e H):Q3 P (.block i a) Q e H:=h
theorem Q9 {i:Nat}{Q:X→Env→Heap→Prop}(h:Q (.exit i) e H):Q3 P (.exit i) Q e H:=h
theorem Qh {Q:X→Env→Heap→Prop}(h:Q .ret e H):Q3 P .ret Q e H:=h
theorem Qe {Q:X→Env→Heap→Prop}(h:Q .nrm e H):Q3 P .skip Q e H:=h
theorem Qab {a:SC}{Q:X→Env→Heap→Prop}(I:Nat→Env→Heap→Prop)(n:Nat)(h0:I n e H)
  (h:∀n e1 H1,I n e1 H1→Q3 P a (X.next (fun e2 H2=>∃m,m<n∧I m e2 H2) Q) e1 H1):Q3 P (.loop a) Q e H:=⟨I,⟨n,h0⟩,h⟩
theorem Qbb1 {e:Env}:gdO e none=True:=rfl
theorem Qbb0 {e:Env}:gdB e none=true:=rfl
theorem Qbb2 {p:Bool}{v:V}:gdV none p v=v:=rfl
theorem Qbb3 {p:Bool}{v:V}{x:Nat×Bool}:gdV (some x) p v=.gd p v:=rfl
theorem Qbep {e:Env}:trim [] e=[]:=rfl
theorem Qbay {k:Nat}{ks:List Nat}{e:Env}:trim (k::ks) e=(k,lk k e)::trim ks e:=rfl
theorem Qbeq {a:Prop}:(true=true→a)=a:=by simp
theorem Qa6g {a:Prop}:(false=true→a)=True:=by simp
theorem Qba0 {a:Prop}:(true=false→a)=True:=by simp
theorem Qa2a {a:Prop}:(false=false→a)=a:=by simp
theorem Qbkv {a:Prop}:(a∧True)=a:=by simp
theorem Qbl3 {a:Prop}:(True∧a)=a:=by simp
theorem Qbl4 {a:Prop}:(True→a)=a:=by simp
theorem Qbla {a:Prop}:(a→True)=True:=by simp
theorem b_f {b:Bool}:(b == false) = !b:=by cases b <;> rfl
theorem b_t {b:Bool}:(b == true)=b:=by cases b <;> rfl
theorem Qbb8 {a:Prop}:(a→a)=True:=by simp
theorem Qa6t {a b:Prop}:(a→b→a)=True:=propext ⟨fun _=>trivial,fun _ h _=>h⟩
theorem Qa6u {a b:Prop}:(a→a∧b)=(a→b):=propext ⟨fun h x=>(h x).2,fun h x=>⟨x,h x⟩⟩
theorem Qbgw {a b:Prop}:(a→a→b)=(a→b):=by simp
theorem Qawh {α:Type}{p:α→Prop}:(∀x∈([]:List α),p x)=True:=by simp
def Qavc (H:Heap)(p:C)(vs:List C)(K:V→Heap→Prop):Prop:=
 match p with
 |.ptr l k=>match H l with
  |.st cells=>k+vs.length≤cells.length∧∀H',H'=H.set l (.st (Q1c cells k vs))→K .unk H'
  |_=>False
 |.ep (.vsl l sz st n) z i k=>match H l with
  |.vec y rows=>y=sz∧z=sz∧i<n∧st+n≤rows.length∧k+vs.length≤sz∧
    ∀H',H'=H.set l (.vec sz (rows.set (st+i) (Q1c (rows.getD (st+i) []) k vs)))→K .unk H'
  |_=>False
 |_=>False
def appQ (H:Heap)(sz:Nat)(a b:C)(K:V→Heap→Prop):Prop:=
 okSl H b∧b.elemSz=sz∧match a with
 |.sl true z rows=>z=sz∧(rows=[]∨rowsOf H b≠[])∧(∀r∈rows++rowsOf H b,noOw r=true)∧rows.length+lenC b≤LIM∧
   ∀l,H l=.none→∀H',H'=H.set l (.vec sz (rows++rowsOf H b))→K (.c (.vsl l sz 0 (rows.length+lenC b))) H'
 |.vsl l z st n=>match H l with
  |.vec y rows=>z=sz∧y=sz∧st+n≤rows.length∧(∀r∈rowsOf H b,noOw r=true)∧n+lenC b≤LIM∧
    ∀l',(H.set l .none) l'=.none→∀H',H'=(H.set l .none).set l' (.vec sz ((rows.drop st).take n++rowsOf H b))→
     K (.c (.vsl l' sz 0 (n+lenC b))) H'
  |_=>False
 |_=>False
def updQ (H:Heap)(tag:Nat)(m k:C)(v:V)(K:V→Heap→Prop):Prop:=
 match m with
 |.mp l=>match H l with
  |.map n es=>Qf5 tag k es∧es.length+1≤LIM∧∀H',H'=H.set l (.map (n+1) (Q1d k v es))→K .unk H'
  |_=>False
 |_=>False
def delQ (H:Heap)(tag:Nat)(m k:C)(K:V→Heap→Prop):Prop:=
 match m with
 |.mp l=>match H l with
  |.map n es=>Qf5 tag k es∧∀H',H'=H.set l (.map (n+1) (delE k es))→K .unk H'
  |_=>False
 |.mnil=>Qf5 tag k []∧K .unk H
 |_=>False
theorem Qaq {α:Type}{a:α}{p:α→Prop}:(∀x,x=a→p x)=p a:=propext ⟨fun h=>h a rfl,fun h x hx=>hx▸h⟩
section
variable {p:Bool}{K:V→Heap→Prop}
theorem Qbau {a:C}{vs:List C}:Qajd H a vs K=Qavc H a vs K:=by
 cases a with
 |ptr l k=>simp only[Qajd,Qavc];cases hh:H l <;> simp only[hh,Qaq]
 |ep s z i k=>
  cases s with
  |vsl l sz st n=>simp only[Qajd,Qavc];cases hh:H l <;> simp only[hh,Qaq]
  |_=>rfl
 |_=>rfl
theorem Qa5r {sz:Nat}{a b:C}:appT H sz a b K=appQ H sz a b K:=by
 unfold appT appQ;refine congrArg (And _) (congrArg (And _) ?_)
 cases a with
 |sl fl z rows=>cases fl <;> simp only[Qaq]
 |vsl l z st n=>simp only[];cases hh:H l <;> simp only[hh,Qaq]
 |_=>rfl
theorem Qbie {tag:Nat}{m k:C}{v:V}:updT H tag m k v K=updQ H tag m k v K:=by
 cases m with
 |mp l=>simp only[updT,updQ];cases hh:H l <;> simp only[hh,Qaq]
 |_=>rfl
theorem Qbf6 {tag:Nat}{m k:C}:delT H tag m k K=delQ H tag m k K:=by
 cases m with
 |mp l=>simp only[delT,delQ];cases hh:H l <;> simp only[hh,Qaq]
 |_=>rfl
theorem Qa6b {cells:List C}:(EOp.alloc cells).eff P p e H K=∀l,H l=.none→∀H',H'=H.set l (.st cells)→K (.c (.ptr l 0)) H':=by simp only[EOp.eff,Qaq]
theorem Qbbk {a:Opd}:(EOp.boxm a).eff P p e H K=(a.fine p e∧(a.v e).cells≠[]∧∀l,H l=.none→∀H',H'=H.set l (.st (a.v e).cells)→K (.c (.ptr l 0)) H'):=by simp only[EOp.eff,Qaq]
theorem Qbgj {n:Nat}{a v:Opd}:(EOp.sto n a v).eff P p e H K=(a.fine p e∧v.fine p e∧(a.v e).isC∧(v.v e).cells.length=n∧0<n∧Qavc H (a.v e).c1 (v.v e).cells K):=by simp only[EOp.eff,Qbau]
theorem Qbga {sz:Nat}{a b:Opd}:(EOp.app sz a b).eff P p e H K=(a.fine p e∧b.fine p e∧(a.v e).isC∧(b.v e).isC∧appQ H sz (a.v e).c1 (b.v e).c1 K):=by simp only[EOp.eff,Qa5r]
theorem Qbgb {sz:Nat}{zr:List C}{a n:Opd}:(EOp.apz sz zr a n).eff P p e H K=(a.fine p e∧n.fine p e∧(a.v e).isC∧Qsu (n.v e)∧0≤Q7 (n.v e)∧Q7 (n.v e)≤LIM∧appQ H sz (a.v e).c1 (.sl false sz (List.replicate (Q7 (n.v e)).toNat zr)) K):=by simp only[EOp.eff,Qa5r]
theorem Qbgg {sz:Nat}{zero:List C}{n:Opd}:(EOp.mks sz zero n).eff P p e H K=(n.fine p e∧Qsu (n.v e)∧0≤Q7 (n.v e)∧Q7 (n.v e)≤LIM∧
   ∀l,H l=.none→∀H',H'=H.set l (.vec sz (List.replicate (Q7 (n.v e)).toNat zero))→K (.c (.vsl l sz 0 (Q7 (n.v e)).toNat)) H'):=by simp only[EOp.eff,Qaq]
theorem Qbgf:EOp.mkm.eff P p e H K=∀l,H l=.none→∀H',H'=H.set l (.map 0 [])→K (.c (.mp l)) H':=by simp only[EOp.eff,Qaq]
theorem Qbgk {tag:Nat}{m k v:Opd}:(EOp.upd tag m k v).eff P p e H K=(m.fine p e∧k.fine p e∧v.fine p e∧(m.v e).isC∧(k.v e).isC∧(v.v e).cells≠[]∧updQ H tag (m.v e).c1 (k.v e).c1 (v.v e) K):=by simp only[EOp.eff,Qbie]
theorem Qbgd {tag:Nat}{m k:Opd}:(EOp.del tag m k).eff P p e H K=(m.fine p e∧k.fine p e∧(m.v e).isC∧(k.v e).isC∧delQ H tag (m.v e).c1 (k.v e).c1 K):=by simp only[EOp.eff,Qbf6]
theorem Qbbn {m:Opd}:(EOp.clrm m).eff P p e H K=(m.fine p e∧match m.v e with
  |.c (.mp l)=>match H l with
   |.map n _=>∀H',H'=H.set l (.map (n+1) [])→K .unk H'
   |_=>False
  |_=>False):=by
 simp only[EOp.eff];refine congrArg (And _) ?_
 cases m.v e with
 |c x=>cases x with
  |mp l=>simp only[];cases hh:H l <;> simp only[hh,Qaq]
  |_=>rfl
 |_=>rfl
theorem Qbbo {sz:Nat}{zero:List C}{m:Opd}:(EOp.clrs sz zero m).eff P p e H K=(m.fine p e∧match m.v e with
  |.c (.vsl l z st n)=>z=sz∧match H l with
   |.vec y rows=>y=sz∧st+n≤rows.length∧∀H',H'=H.set l (.vec sz (rows.take st++List.replicate n zero++rows.drop (st+n)))→K .unk H'
   |_=>False
  |_=>False):=by
 simp only[EOp.eff];refine congrArg (And _) ?_
 cases m.v e with
 |c x=>cases x with
  |vsl l z st n=>simp only[];refine congrArg (And _) ?_;cases hh:H l <;> simp only[hh,Qaq]
  |_=>rfl
 |_=>rfl
theorem Qbbm {f:Nat}{args:List Opd}:(EOp.call f args).eff P p e H K=((∀x∈args,x.fine p e)∧Ql P f (args.map fun x=>x.v e) H K):=rfl
theorem Qa6c {f:Opd}{args:List Opd}:(EOp.callv f args).eff P p e H K=(f.fine p e∧(∀x∈args,x.fine p e)∧match f.v e with
  |.c (.fn n caps)=>Ql P n ((args.map fun x=>x.v e)++caps.map .c) H K
  |_=>False):=rfl
theorem Qbgi {m:Opd}:(EOp.rng m).eff P p e H K=(m.fine p e∧match m.v e with
  |.c (.mp l)=>match H l with
   |.map n es=>es.Nodup∧∀i,H i=.none→∀H',H'=H.set i (.iter (some (l,n)) es none)→K (.c (.itr i)) H'
   |_=>False
  |.c .mnil=>∀i,H i=.none→∀H',H'=H.set i (.iter none [] none)→K (.c (.itr i)) H'
  |_=>False):=by
 simp only[EOp.eff];refine congrArg (And _) ?_
 cases m.v e with
 |c x=>cases x with
  |mp l=>simp only[];cases hh:H l <;> simp only[hh,Qaq]
  |mnil=>simp only[Qaq]
  |_=>rfl
 |_=>rfl
theorem Qbbr {a:Opd}:(EOp.rngs a).eff P p e H K=(a.fine p e∧match a.v e with
  |.c (.str s)=>∀i,H i=.none→∀H',H'=H.set i (.sit s 0)→K (.c (.itr i)) H'
  |_=>False):=by
 simp only[EOp.eff];refine congrArg (And _) ?_
 cases a.v e with
 |c x=>cases x with
  |str s=>simp only[Qaq]
  |_=>rfl
 |_=>rfl
theorem Qbbq {it:Opd}:(EOp.nxts it).eff P p e H K=(it.fine p e∧match it.v e with
  |.c (.itr i)=>match H i with
   |.sit s q=>(s.length≤q→K (.tup [.c (.bool false)]) H)∧
     ∀(c:Int) (wd:Nat),q<s.length→1≤wd→((s.getD q 0).toNat<128→c=((s.getD q 0).toNat:Int)∧wd=1)→(128≤(s.getD q 0).toNat→128≤c)→
      ∀H',H'=H.set i (.sit s (q+wd))→K (.tup [.c (.bool true),.c (.int .i64 q),.c (.int .i32 c)]) H'
   |_=>False
  |_=>False):=by
 simp only[EOp.eff];refine congrArg (And _) ?_
 cases it.v e with
 |c x=>cases x with
  |itr i=>
   simp only[];cases hh:H i <;> simp only[Qaq]
  |_=>rfl
 |_=>rfl
theorem Qbgh {it:Opd}:(EOp.nxt it).eff P p e H K=(it.fine p e∧match it.v e with
  |.c (.itr i)=>match H i with
   |.iter none left _=>K (.tup [.c (.bool false)]) H
   |.iter (some (l,n)) left cur=>(∃es,H l=.map n es)∧(left=[]→K (.tup [.c (.bool false)]) H)∧
     ∀x left',x∈left→(∀y,y∈left'↔y∈left∧y≠x)→left'.Nodup→left'.length+1=left.length→
      ∀H',H'=H.set i (.iter (some (l,n)) left' (some x))→K (.tup [.c (.bool true),.c x.1,x.2]) H'
   |_=>False
  |_=>False):=by
 simp only[EOp.eff];refine congrArg (And _) ?_
 cases it.v e with
 |c x=>cases x with
  |itr i=>
   simp only[]
   cases hh:H i with
   |iter m left cur=>cases m with
    |none=>rfl
    |some y=>simp only[Qaq]
   |_=>rfl
  |_=>rfl
 |_=>rfl
theorem Qbge {it:Opd}:(EOp.ent it).eff P p e H K=(it.fine p e∧match it.v e with
  |.c (.itr i)=>match H i with
   |.iter (some (l,n)) left (some x)=>(∃es,H l=.map n es)∧K (.tup [.c x.1,x.2]) H
   |_=>False
  |_=>False):=rfl
def cpyQ (H:Heap)(sz:Nat)(a b:C)(K:V→Heap→Prop):Prop:=
 okSl H b∧b.elemSz=sz∧match a with
 |.vsl l z st n=>match H l with
  |.vec y rows=>z=sz∧y=sz∧st+n≤rows.length∧lenC b≤n∧(∀r∈rowsOf H b,noOw r=true)∧
    ∀H',H'=H.set l (.vec sz (rows.take st++rowsOf H b++rows.drop (st+lenC b)))→K (.c (.int .i64 (lenC b))) H'
  |_=>False
 |_=>False
theorem Qbf5 {sz:Nat}{a b:C}:cpyT H sz a b K=cpyQ H sz a b K:=by
 unfold cpyT cpyQ;refine congrArg (And _) (congrArg (And _) ?_)
 cases a with
 |vsl l z st n=>simp only[];cases hh:H l <;> simp only[hh,Qaq]
 |_=>rfl
theorem Qbgc {sz:Nat}{a b:Opd}:(EOp.cpy sz a b).eff P p e H K=(a.fine p e∧b.fine p e∧(a.v e).isC∧(b.v e).isC∧cpyQ H sz (a.v e).c1 (b.v e).c1 K):=by simp only[EOp.eff,Qbf5]
theorem Qbbl {sz:Nat}{parts:List Opd}:(EOp.bslm sz parts).eff P p e H K=((∀x∈parts,x.fine p e∧(x.v e).cells.length=sz)∧∀l,H l=.none→∀H',H'=H.set l (.vec sz (parts.map fun x=>(x.v e).cells))→K (.c (.vsl l sz 0 parts.length)) H'):=by simp only[EOp.eff,Qaq]
theorem Qbbp {a:Opd}:(EOp.nilq a).eff P p e H K=(a.fine p e∧match a.v e with
  |.c (.sl _ _ rows)=>∀b:Bool,(b=true→rows=[])→K (.c (.bool b)) H
  |_=>False):=rfl
end
theorem Q4h {k:IntKind}{n:Int}:(C.int k n).isOw=false:=rfl
theorem Qa6v {b:Bool}:(C.bool b).isOw=false:=rfl
theorem Qym {s:List UInt8}:(C.str s).isOw=false:=rfl
theorem Qadi {f:Bool}{sz:Nat}{r:List (List C)}:(C.sl f sz r).isOw=false:=rfl
theorem Qbg3 {c:List C}:(C.pp c).isOw=false:=rfl
theorem Qbgz {c:C}{a i k:Nat}:(C.ep c a i k).isOw=false:=rfl
theorem Qa6y:C.pnil.isOw=false:=rfl
theorem Qbcf {l k:Nat}:(C.ptr l k).isOw=false:=rfl
theorem Qbcj {l a b c:Nat}:(C.vsl l a b c).isOw=false:=rfl
theorem Qbg1 {l:Nat}:(C.mp l).isOw=false:=rfl
theorem Qa6x:C.mnil.isOw=false:=rfl
theorem Qbch {n:Nat}:(C.stb n).isOw=false:=rfl
theorem Qbcg {n:Nat}:(C.slb n).isOw=false:=rfl
theorem Qbgy {a:Bool}{k:List C}{r:List (List C)}:(C.cm a k r).isOw=false:=rfl
theorem Qbg0 {f:Nat}{c:List C}:(C.fn f c).isOw=false:=rfl
theorem Qa6w:C.fnil.isOw=false:=rfl
theorem Qbce {l:Nat}:(C.itr l).isOw=false:=rfl
theorem Qbci:C.unk.isOw=false:=rfl
theorem Qbg2 {sz:Nat}{r:List (List C)}:(C.ow sz r).isOw=true:=rfl
theorem Qbg9 {f:Bool}{sz:Nat}{r:List (List C)}:lenC (.sl f sz r)=r.length:=rfl
theorem Qa0k {l a b c:Nat}:lenC (.vsl l a b c)=c:=rfl
theorem Qa6d {f:Bool}{sz:Nat}{r:List (List C)}:(C.sl f sz r).elemSz=sz:=rfl
theorem Qa17 {l a b c:Nat}:(C.vsl l a b c).elemSz=a:=rfl
theorem Qa8k {f:Bool}{sz:Nat}{r:List (List C)}:rowsOf H (.sl f sz r)=r:=rfl
theorem Qa2w {l a st n:Nat}:rowsOf H (.vsl l a st n)=match H l with
  |.vec _ rows=>(rows.drop st).take n
  |_=>[]:=rfl
theorem Qbhm {f:Bool}{sz:Nat}{r:List (List C)}:okSl H (.sl f sz r)=True:=rfl
theorem Qbdb {l sz st n:Nat}:okSl H (.vsl l sz st n)=match H l with
  |.vec z rows=>z=sz∧st+n≤rows.length
  |_=>False:=rfl
section
variable {K:V→Heap→Prop}
theorem Qbft {sz z:Nat}{rows:List (List C)}{b:C}:appQ H sz (.sl true z rows) b K=(okSl H b∧b.elemSz=sz∧z=sz∧(rows=[]∨rowsOf H b≠[])∧(∀r∈rows++rowsOf H b,noOw r=true)∧rows.length+lenC b≤LIM∧
   ∀l,H l=.none→∀H',H'=H.set l (.vec sz (rows++rowsOf H b))→K (.c (.vsl l sz 0 (rows.length+lenC b))) H'):=rfl
theorem Qbba {sz l z st n:Nat}{b:C}:appQ H sz (.vsl l z st n) b K=(okSl H b∧b.elemSz=sz∧match H l with
  |.vec y rows=>z=sz∧y=sz∧st+n≤rows.length∧(∀r∈rowsOf H b,noOw r=true)∧n+lenC b≤LIM∧
    ∀l',(H.set l .none) l'=.none→∀H',H'=(H.set l .none).set l' (.vec sz ((rows.drop st).take n++rowsOf H b))→
     K (.c (.vsl l' sz 0 (n+lenC b))) H'
  |_=>False):=rfl
end
theorem Qbh2 {lo hi:Option Int}{fl:Bool}{sz:Nat}{rows:List (List C)}:sliC lo hi (.sl fl sz rows)=.sl (fl&&(hi.isNone || rows.isEmpty)) sz ((rows.take (hi.getD rows.length).toNat).drop (lo.getD 0).toNat):=rfl
theorem Qbd8 {lo hi:Option Int}{l sz st n:Nat}:sliC lo hi (.vsl l sz st n)=.vsl l sz (st+(lo.getD 0).toNat) ((hi.getD n).toNat-(lo.getD 0).toNat):=rfl
attribute [go_sem] Qbgc cpyQ Qbh8 Qbeh Qava Qbas Qbei b_f b_t Qbb8 Qa6t Qa6u Qbgw regT Qsr putE lk Qbb1 Qbb0 Qbb2 Qbb3 gdO gdB Opd.v Opd.raw Opd.fine V.bare V.fine FOp.val FOp.obl FOp.fct Qa6b Qbbk Qbgj Qbga Qbgb Qbgg Qbgf Qbgk Qbgd Qbbn Qbbo Qbbm Qa6c Qbgi Qbgh Qbbr Qbbq Qbge Qbbp Qbbl Qbep Qbay
 V.c1 V.isC V.isAg V.cells Qmw Qa2r fadC binC binO Qav9 noOw Qavc Qbft Qbba updQ delQ zipE Q4s Qbh2 Qbd8 bnds Qbhm Qbdb Qbg9 Qa0k Qa8k Qa2w Qa6d Qa17 Q4h Qa6v Qym Qadi Qbg3 Qbgz Qa6y Qbcf Qbcj Qbg1 Qa6x Qbch Qbcg Qbgy Qbg0 Qa6w Qbce Qbci Qbg2 Qsu Qbcc Q7 Qbdc Qbeq Qa6g Qba0 Qa2a Qbkv Qbl3 Qbl4 Qbla
 Qbkb Qbkd Qbh4 Qbi6 Qbi8 Qbgv Jt Jaq Q1c List.take_succ_cons Jaz List.take_nil List.drop_succ_cons Jax List.drop_nil
 J7 J2 Ja0 List.all_nil List.headD_cons Bool.not_false Bool.not_true Bool.and_true Bool.true_and Bool.and_false Jaw and_self eq_self Bool.false_eq_true List.cons_append Jaj Ja3 Jau not_true_eq_false not_false_eq_true ite_true ite_false ne_eq Jav Option.map_none Option.getD_some Option.getD_none Option.isNone_some Option.isNone_none List.isEmpty_nil List.isEmpty_cons Bool.or_true Bool.true_or Bool.or_false Bool.false_or optI optF Int.toNat_natCast Int.natCast_nonneg Int.add_sub_cancel List.forall_mem_cons Qawh
end Go.AE
namespace Go.AE
abbrev fI (d : Nat) (o : FOp) : Item := .f (some d) none o
abbrev eI (d : Nat) (o : EOp) : Item := .e (some d) none o
abbrev gT (d t : Nat) (o : FOp) : Item := .f (some d) (some (t, true)) o
abbrev gF (d t : Nat) (o : FOp) : Item := .f (some d) (some (t, false)) o
abbrev kI (n : Int) : Opd := .k (.c (.int .i64 n))
abbrev mJ (d a : Nat) : Item := .f (some d) none (.mv (.t a))
abbrev fJ (d n a : Nat) : Item := .f (some d) none (.fad n (.t a))
abbrev lJ (d a : Nat) : Item := .f (some d) none (.ld 1 false (.t a))
abbrev tJ (d n a : Nat) : Item := .f (some d) none (.ld n true (.t a))
abbrev nJ (d a : Nat) : Item := .f (some d) none (.len (.t a))
abbrev kJ (d a : Nat) : Item := .f (some d) none (.nck (.t a))
abbrev oJ (d a : Nat) : Item := .f (some d) none (.not (.t a))
abbrev iJ (d n a b : Nat) : Item := .f (some d) none (.iad n (.t a) (.t b))
abbrev bJ (d : Nat) (o : BinOp) (a b : Nat) : Item := .f (some d) none (.bin 0 o (.t a) (.t b))
abbrev cJ (d : Nat) (o : BinOp) (a : Nat) (n : Int) : Item := .f (some d) none (.bin 0 o (.t a) (.k (.c (.int .i64 n))))
abbrev gTm (d g a : Nat) : Item := .f (some d) (some (g, true)) (.mv (.t a))
abbrev gFm (d g a : Nat) : Item := .f (some d) (some (g, false)) (.mv (.t a))
abbrev gTf (d g n a : Nat) : Item := .f (some d) (some (g, true)) (.fad n (.t a))
abbrev gFf (d g n a : Nat) : Item := .f (some d) (some (g, false)) (.fad n (.t a))
abbrev gTl (d g a : Nat) : Item := .f (some d) (some (g, true)) (.ld 1 false (.t a))
abbrev gFl (d g a : Nat) : Item := .f (some d) (some (g, false)) (.ld 1 false (.t a))
abbrev aJ (d f : Nat) (l : List Opd) : Item := .e (some d) none (.call f l)
abbrev sJ (k a b : Nat) : Item := .e none none (.sto k (.t a) (.t b))
abbrev fB (d : Nat) (b : Bool) : Item := .f (some d) none (.mv (.k (.c (.bool b))))
abbrev zJ (d : Nat) (n : Int) : Item := .f (some d) none (.mv (.k (.c (.int .i64 n))))
abbrev hJ (d a : Nat) : Item := .chk d none (.ld 1 false (.t a))
abbrev pT (d a b : Nat) : Item := .f (some d) none (.pick (.t a) (.k (.c (.bool true))) (.t b))
abbrev pF (d a b : Nat) : Item := .f (some d) none (.pick (.t a) (.t b) (.k (.c (.bool false))))
abbrev xJ (d k a b : Nat) : Item := .e (some d) none (.app k (.t a) (.t b))
abbrev vJ (d a : Nat) : Item := .f (some d) none (.box (.t a))
abbrev sR (l : List Item) (k : List Nat) (n : SC) : SC := .seq (.reg l k) n
abbrev cX (t i : Nat) (n : SC) : SC := .seq (.cond (.t t) .skip (.exit i)) n
abbrev bL (i : Nat) (l : SC) : SC := .block i (.loop l)
abbrev cT (t : Nat) (a b : SC) : SC := .cond (.t t) a b
theorem Qbkn : Int.toNat 0 = 0 := rfl
theorem Qbko : Int.toNat 1 = 1 := rfl
theorem Qbia : Int.toNat 2000 = 2000 := rfl
attribute [go_sem] sJ fB zJ hJ pT pF xJ vJ mJ fJ lJ tJ nJ kJ oJ iJ bJ cJ gTm gFm gTf gFf gTl gFl aJ fI eI gT gF kI false_implies Qbkn Qbko Qbia
end Go.AE
namespace Go.AE.Y
abbrev Qru:Nat:=8
abbrev Qfo:Nat:=13
abbrev Qfn:Nat:=17
abbrev Qoc:Nat:=18
abbrev Qeb:Nat:=37
abbrev Qes:Nat:=38
abbrev Qi5:Nat:=39
abbrev Qd6:Nat:=40
abbrev Qhe:Nat:=41
abbrev Qadf:Nat:=51
abbrev Q6e:Nat:=52
abbrev Qot:Nat:=53
abbrev Qe0:Nat:=54
abbrev Qbi:Nat:=55
abbrev Qp5:Nat:=56
abbrev Qade:Nat:=57
abbrev Qadd:Nat:=59
abbrev Qfq:Nat:=67
abbrev Qk2:Nat:=68
abbrev Qao:Nat:=69
abbrev Qc6:Nat:=70
abbrev Qb2:Nat:=71
abbrev Qp6:Nat:=72
abbrev Qcq:Nat:=73
abbrev Qp4:Nat:=74
abbrev Qcx:Nat:=92
abbrev Qak:Nat:=102
abbrev Qz:Nat:=103
abbrev Qada:Nat:=104
abbrev Qdr:Nat:=105
abbrev Qfv:Nat:=106
abbrev Qle:Nat:=109
abbrev Qp3:Nat:=110
abbrev Qhf:Nat:=111
abbrev Qdt:Nat:=113
abbrev Qub:Nat:=114
abbrev Qae:Nat:=116
abbrev Qug:Nat:=121
abbrev Qav1:Nat:=122
abbrev Qua:Nat:=123
abbrev Qi4:Nat:=124
abbrev Qadg:Nat:=125
abbrev Qp9:Nat:=126
abbrev Qav0:Nat:=127
abbrev Q4e:Nat:=128
abbrev Qqg:Nat:=129
abbrev Qadc:Nat:=135
abbrev Qbd:Nat:=136
abbrev Qhg:Nat:=137
abbrev Qba:Nat:=138
abbrev Qdq:Nat:=139
abbrev Qf0:Nat:=140
abbrev Qdo:Nat:=145
abbrev Qck:Nat:=146
abbrev Qdp:Nat:=147
abbrev Qfr:Nat:=148
abbrev Qp8:Nat:=149
abbrev Qfx:Nat:=150
abbrev Qfp:Nat:=151
abbrev Qfs:Nat:=152
abbrev Qeu:Nat:=153
abbrev Qet:Nat:=154
abbrev Qcd:Nat:=155
abbrev Qe2:Nat:=156
abbrev Qc5:Nat:=157
abbrev Qb1:Nat:=158
abbrev Qov:Nat:=159
abbrev Qqf:Nat:=160
abbrev Qb5:Nat:=170
abbrev Qyi:Nat:=188
abbrev Quf:Nat:=189
abbrev Q1g:Nat:=190
abbrev Qhx:Nat:=191
abbrev Qfw:Nat:=192
abbrev Qi2:Nat:=193
abbrev Qh4:Nat:=194
abbrev Qfy:Nat:=195
abbrev Quc:Nat:=196
abbrev Qfu:Nat:=197
abbrev Qez:Nat:=198
abbrev Qdf:Nat:=199
abbrev Qde:Nat:=200
abbrev Qou:Nat:=201
abbrev Qqa:Nat:=213
abbrev Qce:Nat:=214
abbrev Qe1:Nat:=215
abbrev Q1f:Nat:=216
abbrev Qbw:Nat:=217
abbrev Q4a:Nat:=225
abbrev Qft:Nat:=226
abbrev Qavz:Nat:=227
abbrev Qec:Nat:=230
abbrev Qcp:Nat:=231
abbrev Qdc:Nat:=232
abbrev Qc2:Nat:=233
abbrev Qrt:Nat:=234
abbrev Qud:Nat:=235
abbrev Qi3:Nat:=236
abbrev Qcc:Nat:=237
abbrev Qbq:Nat:=238
abbrev Qac8:Nat:=239
abbrev Qp7:Nat:=268
abbrev Qlg:Nat:=269
abbrev Qhw:Nat:=270
abbrev Qbc:Nat:=271
abbrev Qc9:Nat:=284
abbrev Qbg:Nat:=285
abbrev Qan7:Nat:=286
abbrev Qacj:Nat:=287
abbrev Qkr:Nat:=288
abbrev Qkq:Nat:=289
abbrev Qox:Nat:=297
abbrev Qcj:Nat:=298
abbrev Qko:Nat:=299
abbrev Qds:Nat:=300
abbrev Qed:Nat:=302
abbrev Qea:Nat:=303
abbrev Qod:Nat:=304
abbrev Qb8:Nat:=305
abbrev Quh:Nat:=306
abbrev Qms:Nat:=307
abbrev Qow:Nat:=308
abbrev Qof:Nat:=309
abbrev Qfz:Nat:=310
abbrev Qac9:Nat:=311
abbrev Qlh:Nat:=312
abbrev Qst:Nat:=313
abbrev Qk5:Nat:=317
abbrev Qdh:Nat:=325
abbrev Qdg:Nat:=326
abbrev Qqc:Nat:=329
abbrev Qdu:Nat:=330
abbrev Qk4:Nat:=331
abbrev Qk3:Nat:=332
abbrev Qc1:Nat:=333
abbrev Qa2:Nat:=334
abbrev Qack:Nat:=335
abbrev Qqe:Nat:=336
abbrev Qhz:Nat:=340
abbrev Q4d:Nat:=341
abbrev Qhy:Nat:=342
abbrev Qkp:Nat:=343
abbrev Qlf:Nat:=355
abbrev Qmx:Nat:=356
abbrev Qkn:Nat:=357
abbrev Qqb:Nat:=358
abbrev Qach:Nat:=359
abbrev Qaci:Nat:=360
abbrev Q4c:Nat:=361
abbrev Qqd:Nat:=362
abbrev Qan8:Nat:=363
abbrev Qoe:Nat:=372
abbrev Qyh:Nat:=373
abbrev Qh0:Nat:=374
abbrev Qadb:Nat:=375
abbrev Qf1:Nat:=376
abbrev Q6d:Nat:=377
abbrev Que:Nat:=378
abbrev Qyj:Nat:=379
abbrev Q4b:Nat:=380
abbrev Qf2:Nat:=1
abbrev Qbb:Nat:=2
open Go.Proofs.Tryz
def Qakw:SC:=cT 24 (sR [zJ 4 0] [4] .ret) .skip
def Qakx:SC:=cT 36 (sR [mJ 37 0,kJ 38 37,fJ 39 0 38,lJ 40 39,mJ 41 5,iJ 42 1 40 41,lJ 43 42,fI 44 (.cvt .i64 (.t 43)),mJ 45 1,bJ 46 .rem 44 45,mJ 4 46] [4] .ret) .skip
def Qaky:SC:=sR [mJ 96 6,mJ 97 1,bJ 98 .rem 96 97,mJ 4 98] [4] .ret
def Qakz:SC:=sR [mJ 92 6,mJ 93 6,cJ 94 .quo 93 64,bJ 95 .xor 92 94,mJ 6 95] [1,6] Qaky
def Qak0:SC:=.seq (.dreg 46 [0,1,2,3,4,5,6,7,8,9,10,11,12,13,14,15,16,17,18,19,20,21,22,23,24,25,26,27,28,29,30,31,32,33,34,35,36,37,38,39,40,41,42,43,44,45] ( mJ 47 0::kJ 48 47::fJ 49 0 48::lJ 50 49::mJ 51 5::mJ 52 0::kJ 53 52::fJ 54 0 53::lJ 55 54::nJ 56 55::bJ 57 .rem 51 56::iJ 58 1 50 57::lJ 59 58::fI 60 (.cvt .i64 (.t 59))::cJ 61 .mul 60 131::mJ 62 0::kJ 63 62::fJ 64 0 63::lJ 65 64::mJ 66 5::cJ 67 .mul 66 7::cJ 68 .add 67 3::mJ 69 0::kJ 70 69::fJ 71 0 70::lJ 72 71::nJ 73 72::bJ 74 .rem 68 73::iJ 75 1 65 74::lJ 76 75::fI 77 (.cvt .i64 (.t 76))::cJ 78 .mul 77 1117::bJ 79 .add 61 78::mJ 80 5::cJ 81 .mul 80 29::bJ 82 .add 79 81::mJ 83 5::mJ 84 0::kJ 85 84::fJ 86 0 85::lJ 87 86::nJ 88 87::bJ 89 .quo 83 88::cJ 90 .mul 89 53::bJ 91 .add 82 90::mJ 6 91::[]) [1,6]) Qakz
def Qak1:SC:=.seq (sR [mJ 30 5,mJ 31 0,kJ 32 31,fJ 33 0 32,lJ 34 33,nJ 35 34,bJ 36 .lss 30 35] [0,1,5,36] Qakx) Qak0
def Qak2:SC:=sR [mJ 25 0,kJ 26 25,fJ 27 1 26,lJ 28 27,cJ 29 .sub 28 1,mJ 5 29] [0,1,5] Qak1
def Qak3:SC:=.seq (sR [mJ 15 1,cJ 16 .lss 15 1,mJ 17 16,gFm 18 17 0,gF 19 17 (.nck (.t 18)),gFf 20 17 0 19,gFl 21 17 20,gF 22 17 (.len (.t 21)),gF 23 17 (.bin 0 .eql (.t 22) (kI 0)),pT 24 17 23] [0,1,24] Qakw) Qak2
def Qak4:SC:=sR [mJ 7 0,mJ 8 0,kJ 9 8,fJ 10 1 9,lJ 11 10,cJ 12 .add 11 1,kJ 13 7,fJ 14 1 13,sJ 1 14 12] [0,1] Qak3
def Qas8:SC:=sR [zJ 4 0] [0,1] Qak4
def Qm4:List RS:=[.tmp 4]
theorem Qarh:mFn prog Qz 2 99 Qas8 Qm4=true:=by kernel_rfl
def Q07:List Item:=[iJ 10 1 5 9,lJ 11 10,mJ 4 11]
def Qaps:SC:=sR (mJ 5 1::mJ 6 0::mJ 7 1::nJ 8 7::aJ 9 Qz [.t 6,.t 8]::Q07) [4] .ret
def Qaxu:SC:=sR [zJ 4 0] [0,1] Qaps
theorem Qawe:mFn prog Qak 2 12 Qaxu Qm4=true:=by kernel_rfl
def Qag8:List Item:=[mJ 3 13]
def Qag9:List Item:=fI 12 (.bld [.pnil,.sl true 3 [],.sl true 1 [],.int .i64 0,.int .i64 0] [(0,1,.t 8),(4,1,.t 11)])::eI 13 (.boxm (.t 12))::Qag8
def Qaha:List Item:=[mJ 4 16]
def Qahb:List Item:=[hJ 26 25,.chk 27 none (.len (.t 26)),.chk 28 none (.iad 1 (.t 22) (.t 27)),hJ 29 28,sJ 3 5 32]
def Qahc:List Item:=eI 5 (.alloc [.str [],.sl true 1 [],.sl true 5 []])::Qahb
def Qahd:List Item:=hJ 26 25::.chk 27 none (.len (.t 26))::.chk 28 none (.iad 1 (.t 22) (.t 27))::hJ 29 28::aJ 32 Qqa [.t 21,.t 29,.t 31]::Qahc
def Qahe:List Item:=[kJ 41 33,fJ 42 1 41,sJ 1 42 40]
def Qa3y:SC:=.dreg 11 [0,1,2,3,4,5,6,7,8,9,10] ( mJ 33 3::mJ 34 3::kJ 35 34::fJ 36 1 35::lJ 37 36::tJ 38 3 5::fI 39 (.bsl 3 [.t 38])::xJ 40 3 37 39::Qahe) [0,2,3,4]
def Qa3z:SC:=.reg [mJ 19 4,cJ 20 .sub 19 1,mJ 4 20] [0,2,3,4]
def Qa30:SC:=.seq (.block 1 (.seq (.dreg 12 [0,1,2,3,4,5,6,7,8,9,10,5,6,7,8,11,12,5,6,7,8,13] ( mJ 21 3::fI 22 (.bsl 1 [.k (.c (.str [102])),.k (.c (.str [103])),.k (.c (.str [104]))])::mJ 23 3::kJ 24 23::fJ 25 1 24::lJ 26 25::nJ 27 26::iJ 28 1 22 27::lJ 29 28::mJ 30 0::aJ 31 Qz [.t 30,kI 3]::Qahd) [0,2,3,4,5]) Qa3y)) Qa3z
def Qati:SC:=.seq (sR [mJ 17 4,cJ 18 .gtr 17 0] [0,2,3,4,18] (cT 18 .skip (.exit 0))) Qa30
def Q99:List Item:=[sJ 3 6 47]
def Qaaa:List Item:=eI 6 (.alloc [.str [],.sl true 1 [],.sl true 5 []])::Q99
def Qaab:List Item:=eI 47 (.call Qqa [.t 43,.k (.c (.str [109])),.t 46])::Qaaa
def Qaac:List Item:=[hJ 52 51,.chk 54 none (.ld 3 true (.t 6)),sJ 1 7 57]
def Qaad:List Item:=fI 57 (.bld [.sl true 3 []] [(0,1,.t 56)])::eI 7 (.alloc [.sl true 3 []])::Qaac
def Qaae:List Item:=.chk 54 none (.ld 3 true (.t 6))::xJ 56 3 53 55::Qaad
def Qaaf:List Item:=[oJ 60 59]
def Qayl:SC:=cT 60 (sR [fI 61 (.bld [.int .i64 0,.int .i64 0,.str [],.sl true 4 []] [(0,1,kI 1),(1,1,kI 1)]),fI 62 (.bsl 4 [.t 61]),fI 63 (.bld [.int .i64 0,.str [],.sl true 4 [],.sl true 5 [],.sl true 5 []] [(0,1,kI 3),(2,1,.t 62)]),fI 64 (.bsl 5 [.t 63]),fI 65 (.bld [.str [],.sl true 1 [],.sl true 5 []] [(0,1,.k (.c (.str [109]))),(2,1,.t 64)]),fI 66 (.bsl 3 [.t 65]),fI 67 (.bld [.sl true 3 []] [(0,1,.t 66)]),sJ 1 2 67] [2] .ret) .skip
def Qaym:SC:=sR [tJ 68 1 7,sJ 1 2 68] [2] .ret
def Qayn:SC:=.seq (.seq (.seq .gh (.reg (tJ 58 1 7::aJ 59 Qce [.t 58]::Qaaf) [2,7,60])) Qayl) Qaym
def Qayo:SC:=.seq (.dreg 10 [0,1,2,3,4,6,7,5,6,8,9,10,4,6,11] ( fI 48 (.bsl 3 [])::mJ 49 3::kJ 50 49::fJ 51 1 50::lJ 52 51::tJ 54 3 6::fI 55 (.bsl 3 [.t 54])::xJ 53 3 48 52::Qaae) [2,7]) Qayn
def Qayp:SC:=sR (mJ 43 3::mJ 44 0::fI 45 (.bsl 1 [kI 0,kI 1,kI 2,kI 1])::aJ 46 Qak [.t 44,.t 45]::Qaab) [2,3,6] Qayo
def Qayq:SC:=.seq (sR (mJ 14 0::fI 15 (.bsl 1 [kI 0,kI 1,kI 1,kI 2])::aJ 16 Qak [.t 14,.t 15]::Qaha) [0,2,3,4] (bL 0 Qati)) Qayp
def Qayr:SC:=sR (mJ 8 0::mJ 9 0::fI 10 (.bsl 1 [kI 14,kI 20,kI 8,kI 26])::aJ 11 Qak [.t 9,.t 10]::Qag9) [0,2,3] Qayq
def Qbdt:SC:=sR [eI 2 (.alloc [.sl true 3 []])] [0,2] Qayr
def Qao2:List RS:=[.cell 2 1 true]
theorem Qbc0:mFn prog Qug 1 69 Qbdt Qao2=true:=by kernel_rfl
def Qbdf:SC:=sR [mJ 7 0,mJ 8 1,bJ 9 .geq 7 8,mJ 10 9,gTm 11 10 0,gTm 12 10 2,gT 13 10 (.bin 0 .leq (.t 11) (.t 12)),pF 14 10 13,mJ 6 14] [6] .ret
def Qbj0:SC:=sR [fB 6 false] [0,1,2] Qbdf
def Qbe9:List RS:=[.tmp 6]
theorem Qbjl:mFn prog Qp9 3 15 Qbj0 Qbe9=true:=by kernel_rfl
def Q5h:List Item:=[sJ 3 7 26]
def Q5i:List Item:=fI 26 (.bld [.str [],.sl true 1 [],.sl true 5 []] [(0,1,.t 19),(1,1,.t 25)])::eI 7 (.alloc [.str [],.sl true 1 [],.sl true 5 []])::Q5h
def Q5j:List Item:=[fJ 29 2 7,sJ 1 29 28]
def Qrd:List Item:=[gT 41 35 (.bin 0 .gtr (.t 40) (kI 0)),pF 42 35 41]
def Q5k:List Item:=[fJ 59 2 7,sJ 1 59 58]
def Q5l:List Item:=hJ 52 51::fI 55 (.bsl 4 [.t 54])::fI 56 (.bld [.int .i64 0,.str [],.sl true 4 [],.sl true 5 [],.sl true 5 []] [(0,1,kI 7),(2,1,.t 55)])::fI 57 (.bsl 5 [.t 56])::xJ 58 5 52 57::Q5k
def Qate:SC:=.dreg 10 [0,1,2,3,1,4,5,6,7,8,9] ( fJ 51 2 7::lJ 52 51::mJ 53 0::aJ 54 Qbg [.t 53,kI 2]::Q5l) [6,7]
def s_l3Gen_fn_7:SC:=cT 42 (sR [mJ 43 0,mJ 44 0,kJ 45 44,fJ 46 4 45,lJ 47 46,cJ 48 .sub 47 1,kJ 49 43,fJ 50 4 49,sJ 1 50 48] [0,6,7] Qate) .skip
def Qwd:SC:=sR [tJ 60 3 7,sJ 3 6 60] [6] .ret
def Qatf:SC:=.seq (sR (mJ 30 0::kJ 31 30::fJ 32 4 31::lJ 33 32::cJ 34 .gtr 33 0::mJ 35 34::gTm 36 35 0::gT 37 35 (.nck (.t 36))::gTf 38 35 0 37::gTl 39 35 38::.e (some 40) (some (35,true)) (.call Qz [.t 39,kI 4])::Qrd) [0,6,7,42] s_l3Gen_fn_7) Qwd
def Qapu:SC:=sR (mJ 27 0::aJ 28 Qc9 [.t 27,kI 3]::Q5j) [0,6,7] Qatf
def Qapv:SC:=sR (mJ 19 1::fI 20 (.bsl 1 [])::mJ 21 0::kJ 22 21::fJ 23 2 22::lJ 24 23::xJ 25 1 20 24::Q5i) [0,6,7] Qapu
def Qapw:SC:=sR [mJ 14 0,mJ 15 2,cJ 16 .sub 15 1,kJ 17 14,fJ 18 3 17,sJ 1 18 16] [0,1,6] Qapv
def Qapx:SC:=sR [mJ 8 0,fI 9 (.bsl 1 [.k (.c (.str [97])),.k (.c (.str [98])),.k (.c (.str [99]))]),mJ 10 2,fI 11 (.sli 1 (.t 9) none (some (.t 10))),kJ 12 8,fJ 13 2 12,sJ 1 13 11] [0,1,2,6] Qapw
def Qa3x:SC:=sR [eI 6 (.alloc [.str [],.sl true 1 [],.sl true 5 []])] [0,1,2,6] Qapx
def Qyn:List RS:=[.cell 6 3 true]
theorem Qa2l:mFn prog Qqa 3 61 Qa3x Qyn=true:=by kernel_rfl
def Qei:List Item:=[oJ 8 7]
def Q3w:SC:=cT 8 (sR [fB 2 false] [2] .ret) .skip
def Qej:List Item:=[oJ 22 21]
def Q3x:SC:=cT 22 (sR [fB 2 false] [2] .ret) .skip
def Q3y:SC:=.reg [mJ 14 3,cJ 15 .add 14 1,mJ 3 15] [1,3]
def Q3z:SC:=.seq (.block 1 (sR (fJ 16 0 1::lJ 17 16::mJ 18 3::iJ 19 3 17 18::tJ 20 3 19::aJ 21 Qan7 [.t 20]::Qej) [1,3,22] Q3x)) Q3y
def Q0y:SC:=.seq (sR [mJ 9 3,fJ 10 0 1,lJ 11 10,nJ 12 11,bJ 13 .lss 9 12] [1,3,13] (cT 13 .skip (.exit 0))) Q3z
def Qek:List Item:=[cJ 25 .leq 24 40,mJ 2 25]
def Q30:SC:=sR (tJ 23 1 1::aJ 24 Qacj [.t 23]::Qek) [2] .ret
def Q31:SC:=.seq (sR [zJ 3 0] [1,3] (bL 0 Q0y)) Q30
def Q0x:SC:=.seq (sR (fJ 4 0 1::lJ 5 4::nJ 6 5::aJ 7 Qp9 [.t 6,kI 1,kI 4]::Qei) [1,8] Q3w) Q31
def Q82:SC:=sR [vJ 1 0,fB 2 false] [1] Q0x
def Qcu:List RS:=[.tmp 2]
theorem Qo2:mFn prog Qce 1 26 Q82 Qcu=true:=by kernel_rfl
def Qr6:List Item:=[mJ 7 18]
def Qr7:List Item:=[mJ 6 34]
def Qr8:List Item:=xJ 34 5 30 33::Qr7
def Qagc:SC:=.reg [mJ 28 7,cJ 29 .sub 28 1,mJ 7 29] [0,1,5,6,7]
def Qagd:SC:=.seq (.block 1 (.reg (mJ 30 6::mJ 31 0::mJ 32 1::aJ 33 Qqc [.t 31,.t 32]::Qr8) [0,1,5,6,7])) Qagc
def Qabr:SC:=.seq (sR [mJ 19 7,cJ 20 .gtr 19 0,mJ 21 20,gTm 22 21 0,gT 23 21 (.nck (.t 22)),gTf 24 21 4 23,gTl 25 21 24,gT 26 21 (.bin 0 .gtr (.t 25) (kI 0)),pF 27 21 26] [0,1,5,6,7,27] (cT 27 .skip (.exit 0))) Qagd
def Qage:SC:=sR [mJ 39 6,mJ 4 39] [4] .ret
def Qagf:SC:=sR [mJ 35 0,mJ 36 5,kJ 37 35,fJ 38 2 37,sJ 1 38 36] [6] Qage
def Qagg:SC:=.seq (sR (mJ 13 0::kJ 14 13::fJ 15 0 14::lJ 16 15::fI 17 (.bsl 1 [kI 2,kI 3,kI 1,kI 4])::aJ 18 Qak [.t 16,.t 17]::Qr6) [0,1,5,6,7] (bL 0 Qabr)) Qagf
def Qagh:SC:=sR [fI 12 (.bsl 5 []),mJ 6 12] [0,1,5,6] Qagg
def Qabq:SC:=sR [mJ 8 0,kJ 9 8,fJ 10 2 9,lJ 11 10,mJ 5 11] [0,1,5] Qagh
def Qapt:SC:=sR [fI 4 (.mv (.k (.c (.sl true 5 []))))] [0,1] Qabq
theorem Qaor:mFn prog Qc9 2 40 Qapt Qm4=true:=by kernel_rfl
def Qv6:List Item:=[hJ 12 11,hJ 16 15,sJ 4 5 18]
def Qv7:List Item:=eI 5 (.alloc [.int .i64 0,.int .i64 0,.str [],.sl true 4 []])::Qv6
def Ql5:List Item:=[gF 31 25 (.bin 0 .gtr (.t 30) (kI 0)),pT 32 25 31]
def s_l3Gen_expr_3:SC:=cT 32 (sR [tJ 33 4 5,sJ 4 4 33] [4] .ret) .skip
def Qv8:List Item:=[hJ 37 36,hJ 41 40,hJ 45 44,.chk 46 none (.len (.t 45)),.chk 48 none (.iad 3 (.t 37) (.t 47)),.chk 49 none (.ld 3 true (.t 48)),sJ 3 6 49]
def Qv9:List Item:=hJ 37 36::iJ 48 3 37 47::tJ 49 3 48::eI 6 (.alloc [.str [],.sl true 1 [],.sl true 5 []])::Qv8
def Qwa:List Item:=[sJ 4 7 52]
def Qwb:List Item:=[fJ 73 3 7,sJ 1 73 72]
def Qwc:List Item:=hJ 61 60::fI 71 (.bsl 4 [.t 70])::xJ 72 4 61 71::Qwb
def Qak6:SC:=.reg [mJ 58 8,cJ 59 .add 58 1,mJ 8 59] [0,4,6,7,8]
def Qagi:SC:=.seq (.block 1 (.dreg 15 [0,1,2,3,4,5,6,7,8,9,10,1,11,12,13,14] ( fJ 60 3 7::lJ 61 60::mJ 62 0::kJ 63 62::fJ 64 0 63::lJ 65 64::mJ 66 0::kJ 67 66::fJ 68 2 67::lJ 69 68::aJ 70 Qdr [.t 65,.t 69,kI 2]::Qwc) [0,4,6,7,8])) Qak6
def Qabs:SC:=.seq (sR [mJ 53 8,fJ 54 1 6,lJ 55 54,nJ 56 55,bJ 57 .lss 53 56] [0,4,6,7,8,57] (cT 57 .skip (.exit 0))) Qagi
def Qr9:List Item:=[cJ 79 .eql 78 0]
def Qagj:SC:=cT 79 (sR [tJ 80 4 7,sJ 4 4 80] [4] .ret) .skip
def Qsa:List Item:=[.chk 87 none (.ld 4 true (.t 7)),fI 97 (.bsl 4 [.t 87,.t 96]),fI 98 (.bld [.int .i64 0,.int .i64 0,.str [],.sl true 4 []] [(0,1,.t 86),(3,1,.t 97)]),sJ 4 4 98]
def Qsb:List Item:=.chk 87 none (.ld 4 true (.t 7))::hJ 91 90::hJ 95 94::aJ 96 Qdr [.t 91,.t 95,kI 2]::Qsa
def Qagk:SC:=.seq (.dreg 19 [0,1,2,3,4,6,7,8,9,10,11,12,13,14,5,6,10,14,15,6,16,17,18] ( mJ 81 0::kJ 82 81::fJ 83 0 82::lJ 84 83::fI 85 (.bsl 1 [kI 3,kI 4,kI 8,kI 10])::tJ 87 4 7::mJ 88 0::kJ 89 88::fJ 90 0 89::lJ 91 90::mJ 92 0::kJ 93 92::fJ 94 2 93::lJ 95 94::aJ 86 Qak [.t 84,.t 85]::Qsb) [4]) .ret
def Qagl:SC:=.seq (sR (mJ 74 0::kJ 75 74::fJ 76 0 75::lJ 77 76::aJ 78 Qz [.t 77,kI 2]::Qr9) [0,4,7,79] Qagj) Qagk
def Qagm:SC:=.seq (sR [zJ 8 0] [0,4,6,7,8] (bL 0 Qabs)) Qagl
def Qagn:SC:=sR (fJ 50 0 6::lJ 51 50::fI 52 (.bld [.int .i64 0,.int .i64 0,.str [],.sl true 4 []] [(0,1,kI 13),(2,1,.t 51)])::eI 7 (.alloc [.int .i64 0,.int .i64 0,.str [],.sl true 4 []])::Qwa) [0,4,6,7] Qagm
def Qv5:SC:=.seq (.dreg 16 [0,1,2,3,4,5,6,7,8,9,10,11,12,13,3,14,15,16,3,7,11,12,14,15,17] ( mJ 34 0::kJ 35 34::fJ 36 1 35::lJ 37 36::mJ 38 0::kJ 39 38::fJ 40 0 39::lJ 41 40::mJ 42 0::kJ 43 42::fJ 44 1 43::lJ 45 44::nJ 46 45::aJ 47 Qz [.t 41,.t 46]::Qv9) [0,4,6]) Qagn
def Qago:SC:=.seq (sR (mJ 19 0::kJ 20 19::fJ 21 1 20::lJ 22 21::nJ 23 22::cJ 24 .eql 23 0::mJ 25 24::gFm 26 25 0::gF 27 25 (.nck (.t 26))::gFf 28 25 0 27::gFl 29 25 28::.e (some 30) (some (25,false)) (.call Qz [.t 29,kI 4])::Ql5) [0,4,5,32] s_l3Gen_expr_3) Qv5
def Qagp:SC:=.seq (.dreg 10 [0,1,2,3,4,5,6,7,8,9,10,3,7,11] ( mJ 9 0::kJ 10 9::fJ 11 0 10::lJ 12 11::mJ 13 0::kJ 14 13::fJ 15 2 14::lJ 16 15::mJ 17 1::aJ 18 Qdr [.t 12,.t 16,.t 17]::Qv7) [0,4,5]) Qago
def Qatd:SC:=sR [eI 4 (.alloc [.int .i64 0,.int .i64 0,.str [],.sl true 4 []])] [0,1,4] Qagp
def Qm5:List RS:=[.cell 4 4 true]
theorem Qark:mFn prog Qbg 2 99 Qatd Qm5=true:=by kernel_rfl
def Qaga:List Item:=[oJ 17 16]
def Qbdo:SC:=cT 17 (sR [fB 2 false] [2] .ret) .skip
def Qbdp:SC:=.reg [mJ 9 3,cJ 10 .add 9 1,mJ 3 10] [1,3]
def Qbdq:SC:=.seq (.block 1 (sR (fJ 11 1 1::lJ 12 11::mJ 13 3::iJ 14 1 12 13::lJ 15 14::aJ 16 Qdu [.t 15]::Qaga) [1,3,17] Qbdo)) Qbdp
def Qa9c:SC:=.seq (sR [mJ 4 3,fJ 5 1 1,lJ 6 5,nJ 7 6,bJ 8 .lss 4 7] [1,3,8] (cT 8 .skip (.exit 0))) Qbdq
def Qv2:List Item:=[pF 31 27 30,mJ 2 31]
def Qagb:List Item:=mJ 21 20::gTf 22 21 1 1::gTl 23 21 22::gT 24 21 (.len (.t 23))::gT 25 21 (.bin 0 .leq (.t 24) (kI 3))::pF 26 21 25::mJ 27 26::gTf 28 27 2 1::gTl 29 27 28::.e (some 30) (some (27,true)) (.call Qk4 [.t 29,kI 4])::Qv2
def Qbdr:SC:=sR (fJ 18 0 1::lJ 19 18::aJ 20 Qdu [.t 19]::Qagb) [2] .ret
def Qbds:SC:=.seq (sR [zJ 3 0] [1,3] (bL 0 Qa9c)) Qbdr
def Qbj1:SC:=sR [vJ 1 0,fB 2 false] [1] Qbds
theorem Qbe7:mFn prog Qan7 1 32 Qbj1 Qcu=true:=by kernel_rfl
def Q8f:List Item:=[bJ 20 .add 12 19,mJ 3 20]
def Qa86:SC:=.reg [mJ 10 4,cJ 11 .add 10 1,mJ 4 11] [1,3,4]
def Qa87:SC:=.seq (.block 1 (.reg (mJ 12 3::fJ 13 0 1::lJ 14 13::mJ 15 4::iJ 16 3 14 15::fJ 17 2 16::lJ 18 17::aJ 19 Qk3 [.t 18]::Q8f) [1,3,4])) Qa86
def Qa3t:SC:=.seq (sR [mJ 5 4,fJ 6 0 1,lJ 7 6,nJ 8 7,bJ 9 .lss 5 8] [1,3,4,9] (cT 9 .skip (.exit 0))) Qa87
def Qa88:SC:=sR [mJ 21 3,mJ 2 21] [2] .ret
def Qa89:SC:=.seq (sR [zJ 4 0] [1,3,4] (bL 0 Qa3t)) Qa88
def Qa9a:SC:=sR [zJ 3 0] [1,3] Qa89
def Qbhx:SC:=sR [vJ 1 0,zJ 2 0] [1] Qa9a
theorem Qa7q:mFn prog Qacj 1 22 Qbhx Qcu=true:=by kernel_rfl
def Qazd:SC:=cT 3 (sR [zJ 2 1] [2] .ret) .skip
def Qaze:SC:=sR [zJ 2 0] [2] .ret
def Qazf:SC:=.seq (sR [mJ 3 0] [3] Qazd) Qaze
def Qa93:SC:=sR [zJ 2 0] [0] Qazf
theorem Qa7s:mFn prog Qk5 1 4 Qa93 Qcu=true:=by kernel_rfl
def Qwn:List Item:=[mJ 5 19]
def Qwo:List Item:=[fI 42 (.bsl 4 [.t 41]),fI 43 (.bld [.int .i64 0,.str [],.sl true 4 [],.sl true 5 [],.sl true 5 []] [(0,1,kI 2),(1,1,.t 39),(2,1,.t 42)]),fI 44 (.bsl 5 [.t 43]),mJ 4 44]
def Qwp:List Item:=aJ 41 Qbg [.t 40,kI 3]::Qwo
def Qwq:List Item:=[fI 52 (.bsl 5 [.t 51]),mJ 4 52]
def Qwr:List Item:=aJ 51 Qmx [.t 48,.t 50]::Qwq
def Qws:List Item:=[fI 62 (.bsl 4 [.t 61]),fI 63 (.bld [.int .i64 0,.str [],.sl true 4 [],.sl true 5 [],.sl true 5 []] [(0,1,kI 3),(2,1,.t 62)]),fI 64 (.bsl 5 [.t 63]),mJ 4 64]
def Qwt:List Item:=[fI 72 (.bsl 4 [.t 69,.t 71]),fI 73 (.bld [.int .i64 0,.str [],.sl true 4 [],.sl true 5 [],.sl true 5 []] [(0,1,kI 4),(2,1,.t 72)]),fI 74 (.bsl 5 [.t 73]),mJ 4 74]
def Qwu:List Item:=mJ 70 0::aJ 71 Qbg [.t 70,kI 2]::Qwt
def Qwv:List Item:=[fI 80 (.bsl 4 [.t 79]),fI 81 (.bld [.int .i64 0,.int .i64 0,.str [],.sl true 4 []] [(0,1,kI 12),(3,1,.t 80)]),fI 82 (.bsl 4 [.t 81]),fI 83 (.bld [.int .i64 0,.str [],.sl true 4 [],.sl true 5 [],.sl true 5 []] [(0,1,kI 3),(2,1,.t 82)]),fI 84 (.bsl 5 [.t 83]),mJ 4 84]
def Qww:List Item:=[sJ 5 6 95]
def Qse:List Item:=fI 95 (.bld [.int .i64 0,.str [],.sl true 4 [],.sl true 5 [],.sl true 5 []] [(0,1,kI 5),(2,1,.t 90),(3,1,.t 94)])::eI 6 (.alloc [.int .i64 0,.str [],.sl true 4 [],.sl true 5 [],.sl true 5 []])::Qww
def Qsf:List Item:=fI 90 (.bsl 4 [.t 89])::mJ 91 0::mJ 92 1::cJ 93 .sub 92 1::aJ 94 Qc9 [.t 91,.t 93]::Qse
def Qsg:List Item:=[cJ 101 .eql 100 0]
def Qsh:List Item:=[fJ 106 4 6,sJ 1 106 105]
def Qagx:SC:=cT 101 (.reg (mJ 102 0::mJ 103 1::cJ 104 .sub 103 1::aJ 105 Qc9 [.t 102,.t 104]::Qsh) [6]) .skip
def Qwl:SC:=sR [tJ 107 5 6,fI 108 (.bsl 5 [.t 107]),mJ 4 108] [4] .ret
def Qagy:SC:=.seq (sR (mJ 96 0::kJ 97 96::fJ 98 0 97::lJ 99 98::aJ 100 Qz [.t 99,kI 2]::Qsg) [0,1,6,101] Qagx) Qwl
def Qi7:List Item:=[gT 118 112 (.bin 0 .eql (.t 117) (kI 0)),pF 119 112 118,mJ 109 119]
def Qsi:List Item:=[fI 122 (.bsl 4 [.t 121]),fI 123 (.bld [.int .i64 0,.str [],.sl true 4 [],.sl true 5 [],.sl true 5 []] [(0,1,kI 7),(2,1,.t 122)]),fI 124 (.bsl 5 [.t 123]),mJ 4 124]
def Qwm:SC:=cT 109 (sR (mJ 120 0::aJ 121 Qbg [.t 120,kI 2]::Qsi) [4] .ret) .skip
def Qagz:SC:=cT 85 (sR (mJ 88 0::aJ 89 Qbg [.t 88,kI 3]::Qsf) [0,1,6] Qagy) (sR (mJ 110 5::cJ 111 .eql 110 11::mJ 112 111::gTm 113 112 0::gT 114 112 (.nck (.t 113))::gTf 115 112 0 114::gTl 116 112 115::.e (some 117) (some (112,true)) (.call Qz [.t 116,kI 3])::Qi7) [0,1,109] Qwm)
def Qag0:SC:=cT 75 (sR (mJ 78 0::aJ 79 Qkn [.t 78]::Qwv) [4] .ret) (sR [mJ 86 5,cJ 87 .lss 86 11,mJ 85 87] [0,1,5,85] Qagz)
def Qag1:SC:=cT 65 (sR (mJ 68 0::aJ 69 Qkn [.t 68]::Qwu) [4] .ret) (sR [mJ 76 5,cJ 77 .eql 76 8,mJ 75 77] [0,1,5,75] Qag0)
def Qag2:SC:=cT 53 (sR (mJ 60 0::aJ 61 Qbg [.t 60,kI 3]::Qws) [4] .ret) (sR [mJ 66 5,cJ 67 .eql 66 7,mJ 65 67] [0,1,5,65] Qag1)
def Qag3:SC:=cT 45 (sR (mJ 48 0::mJ 49 0::aJ 50 Qbg [.t 49,kI 3]::Qwr) [4] .ret) (sR [mJ 54 5,cJ 55 .lss 54 7,mJ 56 55,gFm 57 56 1,gF 58 56 (.bin 0 .lss (.t 57) (kI 2)),pT 59 56 58,mJ 53 59] [0,1,5,53] Qag2)
def Qag4:SC:=cT 20 (.seq (.dreg 15 [0,1,2,3,4,5,6,7,9,8,10,11,12,13,14] ( mJ 31 0::kJ 32 31::fJ 33 0 32::lJ 34 33::mJ 35 0::kJ 36 35::fJ 37 2 36::lJ 38 37::mJ 40 0::aJ 39 Qbd [.t 34,.t 38]::Qwp) [4]) .ret) (sR [mJ 46 5,cJ 47 .lss 46 5,mJ 45 47] [0,1,5,45] Qag3)
def Qsj:List Item:=[mJ 4 127]
def Ql6:SC:=sR (mJ 125 0::mJ 126 1::aJ 127 Qqb [.t 125,.t 126]::Qsj) [4] .ret
def Qag5:SC:=.seq (.block 0 (sR [mJ 21 5,cJ 22 .lss 21 3,mJ 23 22,gTm 24 23 0,gT 25 23 (.nck (.t 24)),gTf 26 23 2 25,gTl 27 23 26,gT 28 23 (.len (.t 27)),gT 29 23 (.bin 0 .gtr (.t 28) (kI 0)),pF 30 23 29,mJ 20 30] [0,1,5,20] Qag4)) Ql6
def Qag6:SC:=sR (mJ 15 0::kJ 16 15::fJ 17 0 16::lJ 18 17::aJ 19 Qz [.t 18,kI 13]::Qwn) [0,1,5] Qag5
def Qag7:SC:=sR [mJ 7 0,mJ 8 0,kJ 9 8,fJ 10 4 9,lJ 11 10,cJ 12 .sub 11 1,kJ 13 7,fJ 14 4 13,sJ 1 14 12] [0,1] Qag6
def Qath:SC:=sR [fI 4 (.mv (.k (.c (.sl true 5 []))))] [0,1] Qag7
theorem Qarm:mFn prog Qqc 2 128 Qath Qm4=true:=by kernel_rfl
def Ql1:List Item:=[gF 13 10 (.bin 0 .eql (.t 12) (kI 0)),pT 14 10 13]
def Q2q:List Item:=[sJ 4 6 17]
def s_l2Expr_2:SC:=cT 14 (sR (mJ 15 0::mJ 16 1::aJ 17 Quf [.t 15,.t 16]::Q2q) [6] .ret) .skip
def Q2r:List Item:=[cJ 20 .eql 19 0]
def Q2s:List Item:=[fI 29 (.bsl 4 [.t 28]),fI 30 (.bld [.int .i64 0,.int .i64 0,.str [],.sl true 4 []] [(0,1,.t 23),(3,1,.t 29)]),sJ 4 6 30]
def Q2t:List Item:=mJ 24 0::mJ 25 1::mJ 26 2::cJ 27 .sub 26 1::aJ 28 Qdr [.t 24,.t 25,.t 27]::Q2s
def Qa3j:SC:=cT 20 (sR (mJ 21 0::fI 22 (.bsl 1 [kI 11,kI 12,kI 11])::aJ 23 Qak [.t 21,.t 22]::Q2t) [6] .ret) .skip
def Q2u:List Item:=[mJ 7 33]
def Q2v:List Item:=[fI 45 (.bsl 4 [.t 39,.t 44]),fI 46 (.bld [.int .i64 0,.int .i64 0,.str [],.sl true 4 []] [(0,1,.t 34),(3,1,.t 45)]),sJ 4 6 46]
def Q2w:List Item:=mJ 40 0::mJ 41 1::mJ 42 2::cJ 43 .sub 42 1::aJ 44 Qdr [.t 40,.t 41,.t 43]::Q2v
def Qaxa:SC:=sR (mJ 34 7::mJ 35 0::mJ 36 1::mJ 37 2::cJ 38 .sub 37 1::aJ 39 Qdr [.t 35,.t 36,.t 38]::Q2w) [6] .ret
def Qaxb:SC:=sR (mJ 31 0::fI 32 (.bsl 1 [kI 3,kI 3,kI 4,kI 5,kI 6,kI 7,kI 8,kI 9,kI 10])::aJ 33 Qak [.t 31,.t 32]::Q2u) [0,1,2,6,7] Qaxa
def Q2p:SC:=.seq (sR (mJ 18 0::aJ 19 Qz [.t 18,kI 7]::Q2r) [0,1,2,6,20] Qa3j) Qaxb
def Qaxc:SC:=.seq (sR (mJ 8 2::cJ 9 .lss 8 2::mJ 10 9::gFm 11 10 0::.e (some 12) (some (10,false)) (.call Qz [.t 11,kI 4])::Ql1) [0,1,2,6,14] s_l2Expr_2) Q2p
def Qbdi:SC:=sR [eI 6 (.alloc [.int .i64 0,.int .i64 0,.str [],.sl true 4 []])] [0,1,2,6] Qaxc
def Qqn:List RS:=[.cell 6 4 true]
theorem Qa0q:mFn prog Qdr 3 47 Qbdi Qqn=true:=by kernel_rfl
def Qer:List Item:=[gT 13 10 (.not (.t 12)),pF 14 10 13,mJ 2 14]
def Qos:List Item:=mJ 5 4::gTm 6 5 0::gT 7 5 (.lens (.t 6))::gT 8 5 (.bin 0 .leq (.t 7) (kI 4))::pF 9 5 8::mJ 10 9::gTm 11 10 0::.e (some 12) (some (10,true)) (.call Qaci [.t 11])::Qer
def Qap9:SC:=sR (mJ 3 0::aJ 4 Qach [.t 3,kI 1]::Qos) [2] .ret
def Qazm:SC:=sR [fB 2 false] [0] Qap9
theorem Qad0:mFn prog Qdu 1 15 Qazm Qcu=true:=by kernel_rfl
def Qwy:List Item:=[oJ 18 17]
def Qay1:SC:=cT 18 (sR [fB 4 false] [4] .ret) .skip
def Qay2:SC:=.reg [mJ 10 5,cJ 11 .add 10 1,mJ 5 11] [0,1,5]
def Qay3:SC:=.seq (.block 1 (sR (mJ 12 0::mJ 13 5::iJ 14 5 12 13::tJ 15 5 14::mJ 16 1::aJ 17 Q4c [.t 15,.t 16]::Qwy) [0,1,5,18] Qay1)) Qay2
def Qatj:SC:=.seq (sR [mJ 6 5,mJ 7 0,nJ 8 7,bJ 9 .lss 6 8] [0,1,5,9] (cT 9 .skip (.exit 0))) Qay3
def Qay4:SC:=sR [fB 4 true] [4] .ret
def Qay5:SC:=.seq (sR [zJ 5 0] [0,1,5] (bL 0 Qatj)) Qay4
def Qa9d:SC:=sR [fB 4 false] [0,1] Qay5
theorem Qarn:mFn prog Qk4 2 19 Qa9d Qm4=true:=by kernel_rfl
def Qv0:List Item:=[bJ 27 .add 20 26,mJ 3 27]
def Qv1:List Item:=.chk 23 none (.iad 5 (.t 21) (.t 22))::hJ 25 24::bJ 20 .add 13 19::aJ 26 Qk3 [.t 25]::Qv0
def Qayf:SC:=.reg [mJ 11 4,cJ 12 .add 11 1,mJ 4 12] [0,3,4]
def Qayg:SC:=.seq (.block 1 (.dreg 16 [0,1,2,3,4,5,8,9,10,11,12,6,10,12,7,13,14,15] ( mJ 13 3::mJ 14 0::mJ 15 4::iJ 16 5 14 15::fJ 17 3 16::lJ 18 17::mJ 21 0::mJ 22 4::iJ 23 5 21 22::fJ 24 4 23::lJ 25 24::aJ 19 Qk3 [.t 18]::Qv1) [0,3,4])) Qayf
def Qatb:SC:=.seq (sR [mJ 7 4,mJ 8 0,nJ 9 8,bJ 10 .lss 7 9] [0,3,4,10] (cT 10 .skip (.exit 0))) Qayg
def Qayh:SC:=sR [mJ 28 3,mJ 2 28] [2] .ret
def Qayi:SC:=.seq (sR [zJ 4 0] [0,3,4] (bL 0 Qatb)) Qayh
def Qayj:SC:=sR [mJ 5 0,nJ 6 5,mJ 3 6] [0,3] Qayi
def Qa9b:SC:=sR [zJ 2 0] [0] Qayj
theorem Qari:mFn prog Qk3 1 29 Qa9b Qcu=true:=by kernel_rfl
def Q5g:List Item:=[iJ 10 1 5 9,lJ 11 10,mJ 4 11]
def Qas7:SC:=sR (mJ 5 1::mJ 6 0::mJ 7 1::nJ 8 7::aJ 9 Qz [.t 6,.t 8]::Q5g) [4] .ret
def Qa3s:SC:=sR [fI 4 (.mv (.k (.c (.str []))))] [0,1] Qas7
theorem Qa2k:mFn prog Qbd 2 12 Qa3s Qm4=true:=by kernel_rfl
def Q08:List Item:=[mJ 5 7]
def Q09:List Item:=[kJ 18 8,fJ 19 2 18,sJ 1 19 17]
def Q1a:List Item:=mJ 15 5::fI 16 (.bsl 1 [.t 15])::xJ 17 1 14 16::Q09
def Qapz:SC:=sR [mJ 20 5,tJ 21 4 3,fI 22 (.bsl 4 [.t 21]),fI 23 (.bld [.int .i64 0,.str [],.sl true 4 [],.sl true 5 [],.sl true 5 []] [(0,1,kI 1),(1,1,.t 20),(2,1,.t 22)]),sJ 5 4 23] [4] .ret
def Qap0:SC:=sR (mJ 8 0::fI 9 (.bsl 1 [])::mJ 10 0::kJ 11 10::fJ 12 2 11::lJ 13 12::xJ 14 1 9 13::Q1a) [3,4,5] Qapz
def Qap1:SC:=sR (mJ 6 0::aJ 7 Qoe [.t 6]::Q08) [0,3,4,5] Qap0
def Qayk:SC:=sR [vJ 3 1,eI 4 (.alloc [.int .i64 0,.str [],.sl true 4 [],.sl true 5 [],.sl true 5 []])] [0,3,4] Qap1
def Qaei:List RS:=[.cell 4 5 true]
theorem Qawf:mFn prog Qmx 2 24 Qayk Qaei=true:=by kernel_rfl
def Qv3:List Item:=[fI 11 (.bld [.int .i64 0,.int .i64 0,.str [],.sl true 4 []] [(0,1,kI 1),(1,1,.t 10)]),fI 12 (.bsl 4 [.t 4,.t 11]),fI 13 (.bld [.int .i64 0,.int .i64 0,.str [],.sl true 4 []] [(0,1,kI 7),(3,1,.t 12)]),sJ 4 2 13]
def Qv4:List Item:=hJ 8 7::aJ 10 Qak [.t 8,.t 9]::Qv3
def Qak5:SC:=.seq (.dreg 12 [0,2,3,4,5,6,1,5,7,8,9,10,11] ( mJ 3 0::mJ 5 0::kJ 6 5::fJ 7 0 6::lJ 8 7::fI 9 (.bsl 1 [kI 16,kI 16,kI 16,kI 8,kI 17,kI 0])::aJ 4 Qbg [.t 3,kI 2]::Qv4) [2]) .ret
def Qatc:SC:=sR [eI 2 (.alloc [.int .i64 0,.int .i64 0,.str [],.sl true 4 []])] [0,2] Qak5
def Q9m:List RS:=[.cell 2 4 true]
theorem Qarj:mFn prog Qkn 1 14 Qatc Q9m=true:=by kernel_rfl
def Qwe:List Item:=[sJ 5 5 17]
def Qwf:List Item:=eI 5 (.alloc [.int .i64 0,.str [],.sl true 4 [],.sl true 5 [],.sl true 5 []])::Qwe
def Qwg:List Item:=fI 16 (.bld [.int .i64 0,.int .i64 0,.str [],.sl true 4 []] [(0,1,kI 1),(1,1,.t 15)])::aJ 17 Qmx [.t 9,.t 16]::Qwf
def Qwh:List Item:=[sJ 4 6 20]
def Qwi:List Item:=[mJ 7 24]
def Qwj:List Item:=[sJ 5 8 32]
def Qwk:List Item:=[.chk 41 none (.ld 5 true (.t 5)),.chk 42 none (.ld 4 true (.t 6)),fI 48 (.bld [.int .i64 0,.str [],.sl true 4 [],.sl true 5 [],.sl true 5 []] [(0,1,kI 6),(2,1,.t 43),(3,1,.t 47)]),fI 49 (.bsl 5 [.t 41,.t 48]),mJ 4 49]
def Qak7:SC:=.seq (.dreg 10 [0,1,2,3,4,5,6,0,1,7,8,9] ( tJ 41 5 5::tJ 42 4 6::fI 43 (.bsl 4 [.t 42])::mJ 44 7::tJ 45 5 8::fI 46 (.bsl 5 [.t 45])::xJ 47 5 44 46::Qwk) [4]) .ret
def Qak8:SC:=sR [mJ 33 0,mJ 34 0,kJ 35 34,fJ 36 4 35,lJ 37 36,cJ 38 .sub 37 2,kJ 39 33,fJ 40 4 39,sJ 1 40 38] [5,6,7,8] Qak7
def Qak9:SC:=sR (fJ 25 1 5::lJ 26 25::tJ 27 4 6::fI 28 (.bld [.int .i64 0,.int .i64 0,.str [],.sl true 4 []] [(0,1,kI 1),(1,1,kI 1)])::fI 29 (.bsl 4 [.t 27,.t 28])::fI 30 (.bld [.int .i64 0,.int .i64 0,.str [],.sl true 4 []] [(0,1,kI 4),(3,1,.t 29)])::fI 31 (.bsl 4 [.t 30])::fI 32 (.bld [.int .i64 0,.str [],.sl true 4 [],.sl true 5 [],.sl true 5 []] [(0,1,kI 2),(1,1,.t 26),(2,1,.t 31)])::eI 8 (.alloc [.int .i64 0,.str [],.sl true 4 [],.sl true 5 [],.sl true 5 []])::Qwj) [0,5,6,7,8] Qak8
def Qagu:SC:=sR (mJ 21 0::mJ 22 1::cJ 23 .sub 22 1::aJ 24 Qc9 [.t 21,.t 23]::Qwi) [0,5,6,7] Qak9
def Qagv:SC:=sR (fJ 18 1 5::lJ 19 18::fI 20 (.bld [.int .i64 0,.int .i64 0,.str [],.sl true 4 []] [(0,1,kI 2),(2,1,.t 19)])::eI 6 (.alloc [.int .i64 0,.int .i64 0,.str [],.sl true 4 []])::Qwh) [0,1,5,6] Qagu
def Qagw:SC:=sR (mJ 9 0::mJ 10 0::kJ 11 10::fJ 12 0 11::lJ 13 12::fI 14 (.bsl 1 [kI 2,kI 3,kI 1,kI 0,kI 5])::aJ 15 Qak [.t 13,.t 14]::Qwg) [0,1,5] Qagv
def Qatg:SC:=sR [fI 4 (.mv (.k (.c (.sl true 5 []))))] [0,1] Qagw
theorem Qarl:mFn prog Qqb 2 50 Qatg Qm4=true:=by kernel_rfl
def Ql4:List Item:=[gF 11 8 (.bin 0 .eql (.t 10) (kI 0)),pT 12 8 11]
def Q22:List Item:=[fI 16 (.bld [.int .i64 0,.int .i64 0,.str [],.sl true 4 []] [(0,1,kI 1),(1,1,.t 15)]),sJ 4 4 16]
def s_l2Leaf_2:SC:=cT 12 (sR (mJ 13 0::fI 14 (.bsl 1 [kI 0,kI 1,kI 2,kI 3,kI 5,kI 7,kI 15,kI 16,kI 100,kI 255])::aJ 15 Qak [.t 13,.t 14]::Q22) [4] .ret) .skip
def Q23:List Item:=[fI 20 (.bld [.int .i64 0,.int .i64 0,.str [],.sl true 4 []] [(0,1,kI 2),(2,1,.t 19)]),sJ 4 4 20]
def Q8e:SC:=sR (mJ 17 0::mJ 18 1::aJ 19 Qbd [.t 17,.t 18]::Q23) [4] .ret
def Qa3r:SC:=.seq (sR (mJ 5 1::nJ 6 5::cJ 7 .eql 6 0::mJ 8 7::gFm 9 8 0::.e (some 10) (some (8,false)) (.call Qz [.t 9,kI 3])::Ql4) [0,1,4,12] s_l2Leaf_2) Q8e
def Qbdl:SC:=sR [eI 4 (.alloc [.int .i64 0,.int .i64 0,.str [],.sl true 4 []])] [0,1,4] Qa3r
theorem Qa0t:mFn prog Quf 2 21 Qbdl Qm5=true:=by kernel_rfl
def Q8a:List Item:=[mJ 16 1,bJ 17 .neq 15 16]
def Qa8p:SC:=cT 17 (sR [fB 4 false] [4] .ret) .skip
def Qa8q:SC:=.reg [mJ 10 5,cJ 11 .add 10 1,mJ 5 11] [0,1,5]
def Qa8r:SC:=.seq (.block 1 (sR (mJ 12 0::mJ 13 5::fI 14 (.idx (.t 12) (.t 13))::aJ 15 Qyh [.t 14]::Q8a) [0,1,5,17] Qa8p)) Qa8q
def Qa21:SC:=.seq (sR [mJ 6 5,mJ 7 0,fI 8 (.lens (.t 7)),bJ 9 .lss 6 8] [0,1,5,9] (cT 9 .skip (.exit 0))) Qa8r
def Qa8s:SC:=sR [mJ 18 0,fI 19 (.lens (.t 18)),cJ 20 .gtr 19 0,mJ 4 20] [4] .ret
def Qa8t:SC:=.seq (sR [zJ 5 0] [0,1,5] (bL 0 Qa21)) Qa8s
def Qbhu:SC:=sR [fB 4 false] [0,1] Qa8t
theorem Qa7l:mFn prog Qach 2 21 Qbhu Qm4=true:=by kernel_rfl
def Q8b:List Item:=[mJ 3 5]
def Qa8v:SC:=cT 17 (sR [fB 2 true] [2] .ret) .skip
def Qa8w:SC:=.reg [mJ 10 4,cJ 11 .add 10 1,mJ 4 11] [0,3,4]
def Qa8x:SC:=.seq (.block 1 (sR [mJ 12 3,mJ 13 4,iJ 14 1 12 13,lJ 15 14,mJ 16 0,bJ 17 .eql 15 16] [0,3,4,17] Qa8v)) Qa8w
def Qa22:SC:=.seq (sR [mJ 6 4,mJ 7 3,nJ 8 7,bJ 9 .lss 6 8] [0,3,4,9] (cT 9 .skip (.exit 0))) Qa8x
def Qa8y:SC:=sR [fB 2 false] [2] .ret
def Qa8z:SC:=.seq (sR [zJ 4 0] [0,3,4] (bL 0 Qa22)) Qa8y
def Qa80:SC:=sR (aJ 5 Qh0 []::Q8b) [0,3] Qa8z
def Qbhv:SC:=sR [fB 2 false] [0] Qa80
theorem Qa7m:mFn prog Qaci 1 18 Qbhv Qcu=true:=by kernel_rfl
def Qe7:List Item:=[.chk 17 (some (15,false)) (.ld 1 false (.t 16)),.chk 18 (some (15,false)) (.len (.t 17)),gF 22 15 (.bin 0 .neq (.t 18) (.t 21)),pT 23 15 22]
def Ql7:List Item:=gF 13 9 (.not (.t 12))::pT 14 9 13::mJ 15 14::gFf 16 15 2 2::gFl 17 15 16::gF 18 15 (.len (.t 17))::gFf 19 15 0 2::gFl 20 15 19::.e (some 21) (some (15,false)) (.call Qadb [.t 20])::Qe7
def s_l3Stmt_2:SC:=cT 23 (sR [fB 4 false] [4] .ret) .skip
def Q25:List Item:=[fI 36 (.bin 1 .neq (.t 32) (.t 35)),mJ 37 36,gFm 38 37 5,gF 39 37 (.not (.t 38)),gFm 40 37 39,gTf 41 40 1 2,gTl 42 40 41,gT 43 40 (.bin 0 .neq (.t 42) (.k (.c (.str [])))),gF 44 37 (.pick (.t 40) (.t 43) (.k (.c (.bool false)))),pT 45 37 44]
def Qa31:SC:=cT 45 (sR [fB 4 false] [4] .ret) .skip
def Q26:List Item:=[oJ 59 58]
def Qa32:SC:=cT 59 (sR [fB 4 false] [4] .ret) .skip
def Qa33:SC:=.reg [mJ 51 6,cJ 52 .add 51 1,mJ 6 52] [1,2,6]
def Qa34:SC:=.seq (.block 1 (sR (fJ 53 2 2::lJ 54 53::mJ 55 6::iJ 56 4 54 55::tJ 57 4 56::aJ 58 Qf1 [.t 57]::Q26) [1,2,6,59] Qa32)) Qa33
def Qay0:SC:=.seq (sR [mJ 46 6,fJ 47 2 2,lJ 48 47,nJ 49 48,bJ 50 .lss 46 49] [1,2,6,50] (cT 50 .skip (.exit 0))) Qa34
def Qays:SC:=cT 70 (sR [fB 4 false] [4] .ret) .skip
def Qayt:SC:=cT 95 (sR [fB 4 false] [4] .ret) .skip
def Qiy:List Item:=[pF 107 101 106,mJ 4 107]
def Qwx:List Item:=mJ 101 100::gTf 102 101 4 2::gTl 103 101 102::gTm 104 101 1::gT 105 101 (.bin 0 .sub (.t 104) (kI 1))::.e (some 106) (some (101,true)) (.call Qk4 [.t 103,.t 105])::Qiy
def Qayu:SC:=sR (fJ 96 3 2::lJ 97 96::mJ 98 1::cJ 99 .sub 98 1::aJ 100 Qk4 [.t 97,.t 99]::Qwx) [4] .ret
def Qayv:SC:=.seq (sR [fJ 71 4 2,lJ 72 71,nJ 73 72,cJ 74 .gtr 73 0,mJ 75 74,gTf 76 75 0 2,gTl 77 75 76,gT 78 75 (.bin 0 .neq (.t 77) (kI 5)),pF 79 75 78,mJ 80 79,gFf 81 80 3 2,gFl 82 80 81,gF 83 80 (.len (.t 82)),gF 84 80 (.bin 0 .gtr (.t 83) (kI 0)),gFm 85 80 84,gTf 86 85 0 2,gTl 87 85 86,gT 88 85 (.bin 0 .neq (.t 87) (kI 5)),gF 89 80 (.pick (.t 85) (.t 88) (.k (.c (.bool false)))),gFm 90 80 89,gTf 91 90 0 2,gTl 92 90 91,gT 93 90 (.bin 0 .neq (.t 92) (kI 6)),gF 94 80 (.pick (.t 90) (.t 93) (.k (.c (.bool false)))),pT 95 80 94] [1,2,95] Qayt) Qayu
def Qayw:SC:=.seq (sR [fJ 60 0 2,lJ 61 60,cJ 62 .eql 61 8,mJ 63 62,gTf 64 63 2 2,gTl 65 63 64,gT 66 63 (.iad 4 (.t 65) (kI 0)),gTf 67 63 0 66,gTl 68 63 67,gT 69 63 (.bin 0 .neq (.t 68) (kI 13)),pF 70 63 69] [1,2,70] Qays) Qayv
def Qayx:SC:=.seq (sR [zJ 6 0] [1,2,6] (bL 0 Qay0)) Qayw
def Qayy:SC:=.seq (sR (mJ 32 5::fJ 33 1 2::lJ 34 33::aJ 35 Qdu [.t 34]::Q25) [1,2,45] Qa31) Qayx
def Q24:SC:=sR [fJ 24 0 2,lJ 25 24,cJ 26 .eql 25 1,mJ 27 26,gFf 28 27 0 2,gFl 29 27 28,gF 30 27 (.bin 0 .eql (.t 29) (kI 2)),pT 31 27 30,mJ 5 31] [1,2,5] Qayy
def Qayz:SC:=.seq (.seq (.dreg 17 [0,1,2,3,4,5,6,7,8,9,10,11,12,13,14,10,11,15,16] ( mJ 7 1::cJ 8 .lss 7 1::mJ 9 8::gFf 10 9 0 2::gFl 11 9 10::.e (some 12) (some (9,false)) (.call Qp9 [.t 11,kI 1,kI 8])::Ql7) [1,2,23]) s_l3Stmt_2) Q24
def Qbdu:SC:=sR [vJ 2 0,fB 4 false] [1,2] Qayz
theorem Qa0u:mFn prog Q4c 2 108 Qbdu Qm4=true:=by kernel_rfl
def Qazh:SC:=cT 20 (sR [mJ 21 5,mJ 4 21] [4] .ret) .skip
def Qazi:SC:=.reg [mJ 11 5,cJ 12 .add 11 1,mJ 5 12] [1,2,5]
def Qazj:SC:=.seq (.block 1 (sR [fJ 13 0 2,lJ 14 13,mJ 15 5,iJ 16 3 14 15,fJ 17 0 16,lJ 18 17,mJ 19 1,bJ 20 .eql 18 19] [1,2,5,20] Qazh)) Qazi
def Qau3:SC:=.seq (sR [mJ 6 5,fJ 7 0 2,lJ 8 7,nJ 9 8,bJ 10 .lss 6 9] [1,2,5,10] (cT 10 .skip (.exit 0))) Qazj
def Qazk:SC:=sR [zJ 4 (-1)] [4] .ret
def Qazl:SC:=.seq (sR [zJ 5 0] [1,2,5] (bL 0 Qau3)) Qazk
def Qbai:SC:=sR [vJ 2 0,zJ 4 0] [1,2] Qazl
theorem Qa7u:mFn prog Qox 2 22 Qbai Qm4=true:=by kernel_rfl
def Qsc:List Item:=[cJ 16 .eql 15 0,mJ 17 16,gTm 18 17 0,gT 19 17 (.nck (.t 18)),gTf 20 17 2 19,gTl 21 17 20,gT 22 17 (.len (.t 21)),gT 23 17 (.bin 0 .gtr (.t 22) (kI 0)),pF 24 17 23]
def Qsd:List Item:=[mJ 2 33]
def Qagq:SC:=cT 24 (.seq (.dreg 10 [0,1,2,3,4,5,6,7,8,9] ( mJ 25 0::kJ 26 25::fJ 27 0 26::lJ 28 27::mJ 29 0::kJ 30 29::fJ 31 2 30::lJ 32 31::aJ 33 Qbd [.t 28,.t 32]::Qsd) [2]) .ret) .skip
def Qagr:SC:=.seq (.dreg 13 [0,1,2,3,4,5,6,7,8,9,10,11,12] ( mJ 34 0::kJ 35 34::fJ 36 3 35::lJ 37 36::cJ 38 .rem 37 24::mJ 39 0::kJ 40 39::fJ 41 3 40::lJ 42 41::cJ 43 .rem 42 24::cJ 44 .add 43 1::fI 45 (.slis (.k (.c (.str [97,98,99,100,101,103,104,105,106,107,108,109,110,112,113,114,115,116,117,118,119,120,121,122]))) (some (.t 38)) (some (.t 44)))::mJ 2 45::[]) [2]) .ret
def Qags:SC:=.seq (sR (mJ 11 0::kJ 12 11::fJ 13 0 12::lJ 14 13::aJ 15 Qz [.t 14,kI 9]::Qsc) [0,24] Qagq) Qagr
def Qagt:SC:=sR [mJ 3 0,mJ 4 0,kJ 5 4,fJ 6 3 5,lJ 7 6,cJ 8 .add 7 1,kJ 9 3,fJ 10 3 9,sJ 1 10 8] [0] Qags
def Qapy:SC:=sR [fI 2 (.mv (.k (.c (.str []))))] [0] Qagt
theorem Qaos:mFn prog Qoe 1 46 Qapy Qcu=true:=by kernel_rfl
def Qvz:List Item:=[cJ 20 .geq 19 0,mJ 17 20]
def Qaww:SC:=cT 21 (sR [zJ 2 4] [2] .ret) .skip
def Qawx:SC:=cT 17 (sR [zJ 2 3] [2] .ret) (sR [mJ 22 0,fI 23 (.bin 0 .eql (.t 22) (.k (.c (.int .u8 32)))),mJ 24 23,gFm 25 24 0,gF 26 24 (.bin 0 .eql (.t 25) (.k (.c (.int .u8 10)))),pT 27 24 26,mJ 21 27] [21] Qaww)
def Qawy:SC:=cT 10 (sR [zJ 2 2] [2] .ret) (sR (mJ 18 0::eI 19 (.call Q6d [.k (.c (.str [40,41,123,125,59,44,43,45,42,47,37,60,61,38,33,64])),.t 18])::Qvz) [0,17] Qawx)
def Qawz:SC:=cT 3 (sR [zJ 2 1] [2] .ret) (sR [mJ 11 0,fI 12 (.bin 0 .geq (.t 11) (.k (.c (.int .u8 48)))),mJ 13 12,gTm 14 13 0,gT 15 13 (.bin 0 .leq (.t 14) (.k (.c (.int .u8 57)))),pF 16 13 15,mJ 10 16] [0,10] Qawy)
def Qaw0:SC:=sR [zJ 2 0] [2] .ret
def Qaw1:SC:=.seq (.block 0 (sR [mJ 4 0,fI 5 (.bin 0 .geq (.t 4) (.k (.c (.int .u8 97)))),mJ 6 5,gTm 7 6 0,gT 8 6 (.bin 0 .leq (.t 7) (.k (.c (.int .u8 122)))),pF 9 6 8,mJ 3 9] [0,3] Qawz)) Qaw0
def Qa8u:SC:=sR [zJ 2 0] [0] Qaw1
theorem Qarg:mFn prog Qyh 1 28 Qa8u Qcu=true:=by kernel_rfl
def Qai9:SC:=sR [fI 1 (.bsl 1 [.k (.c (.str [102,110])),.k (.c (.str [108,101,116])),.k (.c (.str [115,97,121])),.k (.c (.str [112,117,116])),.k (.c (.str [105,102])),.k (.c (.str [101,108,115,101])),.k (.c (.str [108,111,111,112])),.k (.c (.str [98,97,99,107])),.k (.c (.str [100,111]))]),mJ 0 1] [0] .ret
def Qaqa:SC:=sR [fI 0 (.mv (.k (.c (.sl true 1 []))))] [] Qai9
def Qqv:List RS:=[.tmp 0]
theorem Q4q:mFn prog Qh0 0 2 Qaqa Qqv=true:=by kernel_rfl
def Qa3u:SC:=cT 4 (sR [zJ 2 2] [2] .ret) .skip
def Qa3v:SC:=sR [zJ 2 1] [2] .ret
def Qa3w:SC:=.seq (sR [mJ 3 0,cJ 4 .eql 3 4] [4] Qa3u) Qa3v
def Qbdm:SC:=sR [zJ 2 0] [0] Qa3w
theorem Qbcy:mFn prog Qadb 1 5 Qbdm Qcu=true:=by kernel_rfl
def Qcv:List Item:=[gT 8 5 (.bin 0 .leq (.t 7) (kI 30)),pF 9 5 8,mJ 2 9]
def Qhs:List Item:=mJ 5 4::gT 6 5 (.ld 4 true (.t 1))::.e (some 7) (some (5,true)) (.call Qyj [.t 6])::Qcv
def Qacc:SC:=sR (tJ 3 4 1::aJ 4 Que [.t 3,kI 6]::Qhs) [2] .ret
def Qamg:SC:=sR [vJ 1 0,fB 2 false] [1] Qacc
theorem Q0z:mFn prog Qf1 1 10 Qamg Qcu=true:=by kernel_rfl
def Qaxn:SC:=cT 16 (sR [mJ 17 5,mJ 4 17] [4] .ret) .skip
def Qaxo:SC:=.reg [mJ 10 5,cJ 11 .add 10 1,mJ 5 11] [0,1,5]
def Qaxp:SC:=.seq (.block 1 (sR [mJ 12 0,mJ 13 5,fI 14 (.idx (.t 12) (.t 13)),mJ 15 1,bJ 16 .eql 14 15] [0,1,5,16] Qaxn)) Qaxo
def Qas6:SC:=.seq (sR [mJ 6 5,mJ 7 0,fI 8 (.lens (.t 7)),bJ 9 .lss 6 8] [0,1,5,9] (cT 9 .skip (.exit 0))) Qaxp
def Qaxq:SC:=sR [zJ 4 (-1)] [4] .ret
def Qaxr:SC:=.seq (sR [zJ 5 0] [0,1,5] (bL 0 Qas6)) Qaxq
def Qa84:SC:=sR [zJ 4 0] [0,1] Qaxr
theorem Qa7o:mFn prog Q6d 2 18 Qa84 Qm4=true:=by kernel_rfl
def Q2z:List Item:=[mJ 9 12,fI 13 (.ext (.t 9) 0),fI 14 (.ext (.t 9) 1),mJ 5 13,mJ 6 14]
def Qe6:List Item:=[gF 30 23 (.not (.t 29)),pT 31 23 30]
def Ql2:List Item:=gF 21 17 (.not (.t 20))::pT 22 17 21::mJ 23 22::gFf 24 23 3 2::gFl 25 23 24::gF 26 23 (.len (.t 25))::gFm 27 23 5::gFm 28 23 6::.e (some 29) (some (23,false)) (.call Qp9 [.t 26,.t 27,.t 28])::Qe6
def s_l2Form_3:SC:=cT 31 (sR [fB 4 false] [4] .ret) .skip
def Ql3:List Item:=[gF 58 54 (.not (.t 57)),pT 59 54 58,mJ 60 59,gFf 61 60 0 2,gFl 62 60 61,gF 63 60 (.bin 0 .neq (.t 62) (kI 1)),gFm 64 60 63,gTf 65 64 1 2,gTl 66 64 65,gT 67 64 (.bin 0 .neq (.t 66) (kI 0)),gF 68 60 (.pick (.t 64) (.t 67) (.k (.c (.bool false)))),pT 69 60 68]
def Q20:List Item:=fI 44 (.bin 1 .neq (.t 40) (.t 43))::mJ 45 44::gFm 46 45 7::gF 47 45 (.not (.t 46))::gFm 48 45 47::gTf 49 48 2 2::gTl 50 48 49::gT 51 48 (.bin 0 .neq (.t 50) (.k (.c (.str []))))::gF 52 45 (.pick (.t 48) (.t 51) (.k (.c (.bool false))))::pT 53 45 52::mJ 54 53::gFf 55 54 1 2::gFl 56 54 55::.e (some 57) (some (54,false)) (.call Qp9 [.t 56,kI 0,kI 255])::Ql3
def s_l2Form_6:SC:=cT 69 (sR [fB 4 false] [4] .ret) .skip
def Q21:List Item:=[oJ 85 84]
def Qa3k:SC:=cT 85 (sR [fB 4 false] [4] .ret) .skip
def Qa3l:SC:=.reg [mJ 75 8,cJ 76 .add 75 1,mJ 8 76] [1,2,8]
def Qaxd:SC:=.seq (.block 1 (sR (fJ 77 3 2::lJ 78 77::mJ 79 8::iJ 80 4 78 79::tJ 81 4 80::mJ 82 1::cJ 83 .sub 82 1::aJ 84 Que [.t 81,.t 83]::Q21) [1,2,8,85] Qa3k)) Qa3l
def Qas4:SC:=.seq (sR [mJ 70 8,fJ 71 3 2,lJ 72 71,nJ 73 72,bJ 74 .lss 70 73] [1,2,8,74] (cT 74 .skip (.exit 0))) Qaxd
def Qaxe:SC:=sR [fB 4 true] [4] .ret
def Q2x:SC:=.seq (sR [zJ 8 0] [1,2,8] (bL 0 Qas4)) Qaxe
def Qaxf:SC:=.seq (sR (mJ 40 7::fJ 41 2 2::lJ 42 41::aJ 43 Qdu [.t 42]::Q20) [1,2,69] s_l2Form_6) Q2x
def Q2y:SC:=sR [fJ 32 0 2,lJ 33 32,cJ 34 .eql 33 2,mJ 35 34,gFf 36 35 0 2,gFl 37 35 36,gF 38 35 (.bin 0 .eql (.t 37) (kI 13)),pT 39 35 38,mJ 7 39] [1,2,7] Qaxf
def Qaxg:SC:=.seq (sR (mJ 15 1::cJ 16 .lss 15 1::mJ 17 16::gFf 18 17 0 2::gFl 19 17 18::.e (some 20) (some (17,false)) (.call Qp9 [.t 19,kI 1,kI 13])::Ql2) [1,2,31] s_l2Form_3) Q2y
def Qaxh:SC:=sR (fJ 10 0 2::lJ 11 10::aJ 12 Q4b [.t 11]::Q2z) [1,2,5,6] Qaxg
def Qbdj:SC:=sR [vJ 2 0,fB 4 false] [1,2] Qaxh
theorem Qa0r:mFn prog Que 2 86 Qbdj Qm4=true:=by kernel_rfl
def Q9r:List Item:=[bJ 19 .add 12 18,mJ 3 19]
def Qaxi:SC:=.reg [mJ 10 4,cJ 11 .add 10 1,mJ 4 11] [1,3,4]
def Qaxj:SC:=.seq (.block 1 (.reg (mJ 12 3::fJ 13 3 1::lJ 14 13::mJ 15 4::iJ 16 4 14 15::tJ 17 4 16::aJ 18 Qyj [.t 17]::Q9r) [1,3,4])) Qaxi
def Qas5:SC:=.seq (sR [mJ 5 4,fJ 6 3 1,lJ 7 6,nJ 8 7,bJ 9 .lss 5 8] [1,3,4,9] (cT 9 .skip (.exit 0))) Qaxj
def Qaxk:SC:=sR [mJ 20 3,mJ 2 20] [2] .ret
def Qaxl:SC:=.seq (sR [zJ 4 0] [1,3,4] (bL 0 Qas5)) Qaxk
def Qaxm:SC:=sR [zJ 3 1] [1,3] Qaxl
def Qa83:SC:=sR [vJ 1 0,zJ 2 0] [1] Qaxm
theorem Qa7n:mFn prog Qyj 1 21 Qa83 Qcu=true:=by kernel_rfl
def Qa3m:SC:=cT 5 .skip (.reg [cJ 7 .eql 4 2,mJ 5 7] [4,5])
def Qa3n:SC:=cT 8 .skip (.reg [cJ 10 .eql 4 12,mJ 8 10] [4,8])
def Qa3o:SC:=cT 11 (sR [zJ 2 0,zJ 3 3] [2,3] .ret) .skip
def Q8c:SC:=cT 8 (sR [zJ 2 1,zJ 3 1] [2,3] .ret) (sR [cJ 12 .eql 4 13,mJ 11 12] [11] Qa3o)
def Q8d:SC:=cT 5 (sR [zJ 2 0,zJ 3 0] [2,3] .ret) (.seq (sR [cJ 9 .eql 4 11,mJ 8 9] [4,8] Qa3n) Q8c)
def Qa3p:SC:=.block 0 (.seq (sR [cJ 6 .eql 4 1,mJ 5 6] [4,5] Qa3m) Q8d)
def Qpn:SC:=sR [zJ 2 2,zJ 3 2] [2,3] .ret
def Qa3q:SC:=.seq (sR [mJ 4 0] [4] Qa3p) Qpn
def Qbdk:SC:=sR [zJ 2 0,zJ 3 0] [0] Qa3q
def Qkv:List RS:=[.tmp 2,.tmp 3]
theorem Qa0s:mFn prog Q4b 1 13 Qbdk Qkv=true:=by kernel_rfl
def Qaxs:SC:=cT 5 (.reg [mJ 6 0,fI 7 (.sli 1 (.t 6) none (some (kI 2000))),mJ 0 7] [0]) .skip
def Q9s:List Item:=[mJ 2 10]
def Qafy:SC:=sR (mJ 8 0::fI 9 (.bld [.sl true 1 [],.int .i64 0] [(0,1,.t 8)])::eI 10 (.boxm (.t 9))::Q9s) [2] .ret
def Qaxt:SC:=.seq (sR [mJ 3 0,nJ 4 3,cJ 5 .gtr 4 2000] [0,5] Qaxs) Qafy
def Qa85:SC:=sR [fI 2 (.mv (.k (.c .pnil)))] [0] Qaxt
theorem Qa7p:mFn prog Q6e 1 11 Qa85 Qcu=true:=by kernel_rfl
def Qkh:List Item:=[cJ 8 .geq 7 0,mJ 4 8]
def Q3b:SC:=sR (mJ 5 0::mJ 6 1::aJ 7 Qlg [.t 5,.t 6]::Qkh) [4] .ret
def Q8x:SC:=sR [fB 4 false] [0,1] Q3b
theorem Q6w:mFn prog Qfw 2 9 Q8x Qm4=true:=by kernel_rfl
def Qc4:List Item:=[fI 8 (.ext (.t 7) 0)]
def Qgk:List Item:=[fI 10 (.ext (.t 9) 0),mJ 4 10]
def Qgl:List Item:=[mJ 3 14]
def Qs7:SC:=.reg (mJ 11 3::mJ 12 4::fI 13 (.bsl 1 [.t 12])::xJ 14 1 11 13::Qgl) [3,6]
def Qs8:SC:=.block 1 (sR (eI 9 (.ent (.t 6))::Qgk) [3,4,6] Qs7)
def Qrb:SC:=sR (eI 7 (.nxt (.t 6))::Qc4) [3,6,8] (cX 8 0 Qs8)
def Qs9:SC:=sR [mJ 17 3,mJ 2 17] [2] .ret
def Qta:SC:=sR [mJ 15 3,aJ 16 Qov [.t 15]] [3] Qs9
def Qtb:SC:=.seq (sR [mJ 5 0,eI 6 (.rng (.t 5))] [3,6] (bL 0 Qrb)) Qta
def Qtc:SC:=sR [fI 3 (.mv (.k (.c (.sl true 1 []))))] [0,3] Qtb
def Q0p:SC:=sR [fI 2 (.mv (.k (.c (.sl true 1 []))))] [0] Qtc
theorem Qyu:mFn prog Qcd 1 18 Q0p Qcu=true:=by kernel_rfl
def Qaur:SC:=cT 4 (sR [fI 2 (.mv (.k (.c (.sl true 1 []))))] [2] .ret) .skip
def Q5x:List Item:=[mJ 2 7]
def Qaus:SC:=sR (fI 5 (.bsl 1 [])::mJ 6 0::xJ 7 1 5 6::Q5x) [2] .ret
def Qaut:SC:=.seq (sR [mJ 3 0,eI 4 (.nilq (.t 3))] [0,4] Qaur) Qaus
def Qa48:SC:=sR [fI 2 (.mv (.k (.c (.sl true 1 []))))] [0] Qaut
theorem Qa2n:mFn prog Q1g 1 8 Qa48 Qcu=true:=by kernel_rfl
def Qaan:List Item:=[aJ 10 Qbq [.t 5,kI 0,.t 6,.t 9]]
def Qazg:SC:=.reg (mJ 5 0::mJ 6 2::mJ 7 2::fI 8 (.cvt .u64 (.t 7))::aJ 9 Qac8 [.t 8]::Qaan) []
def Qbah:SC:=sR [mJ 3 0,nJ 4 3,mJ 2 4] [0,2] Qazg
def Qasa:List RS:=[]
theorem Qa7t:mFn prog Qov 1 11 Qbah Qasa=true:=by kernel_rfl
def Qal6:SC:=cT 8 (sR [mJ 9 0,mJ 2 9] [2] .ret) .skip
def Qal7:SC:=.reg [mJ 52 3,cJ 53 .add 52 1,mJ 3 53] [0,3,4,5]
def Qal8:SC:=cT 44 (sR [mJ 45 0,mJ 46 3,mJ 47 4,mJ 48 5,iJ 49 1 47 48,lJ 50 49,iJ 51 1 45 46,sJ 1 51 50] [0,3,4,5] Qal7) .skip
def Qal9:SC:=.reg [mJ 33 5,cJ 34 .add 33 1,mJ 5 34] [0,3,4,5]
def Qama:SC:=.seq (.block 3 (.seq (.dreg 10 [0,1,2,3,4,5,6,7,8,9] ( mJ 35 4::mJ 36 5::iJ 37 1 35 36::lJ 38 37::mJ 39 4::mJ 40 5::cJ 41 .sub 40 1::iJ 42 1 39 41::lJ 43 42::bJ 44 .neq 38 43::[]) [0,3,4,5,44]) Qal8)) Qal9
def Qai8:SC:=.seq (sR [mJ 29 5,mJ 30 4,nJ 31 30,bJ 32 .lss 29 31] [0,3,4,5,32] (cT 32 .skip (.exit 2))) Qama
def Qamb:SC:=sR [mJ 57 0,mJ 58 3,fI 59 (.sli 1 (.t 57) none (some (.t 58))),mJ 2 59] [2] .ret
def Qamc:SC:=sR [mJ 54 0,mJ 55 3,fI 56 (.sli 1 (.t 54) (some (.t 55)) none),.e none none (.clrs 1 [.int .i64 0] (.t 56))] [0,3] Qamb
def Qamd:SC:=.seq (sR [zJ 5 1] [0,3,4,5] (bL 2 Qai8)) Qamc
def Qame:SC:=cT 25 (sR [mJ 26 0,mJ 27 3,fI 28 (.sli 1 (.t 26) (some (.t 27)) none),mJ 4 28] [0,3,4] Qamd) .skip
def Qai3:SC:=.reg [mJ 14 3,cJ 15 .add 14 1,mJ 3 15] [0,3]
def Qai4:SC:=.seq (.block 1 (.seq (.dreg 10 [0,1,2,3,4,5,6,7,8,9] ( mJ 16 0::mJ 17 3::iJ 18 1 16 17::lJ 19 18::mJ 20 0::mJ 21 3::cJ 22 .sub 21 1::iJ 23 1 20 22::lJ 24 23::bJ 25 .eql 19 24::[]) [0,3,25]) Qame)) Qai3
def Qab5:SC:=.seq (sR [mJ 10 3,mJ 11 0,nJ 12 11,bJ 13 .lss 10 12] [0,3,13] (cT 13 .skip (.exit 0))) Qai4
def Qai5:SC:=sR [mJ 60 0,mJ 2 60] [2] .ret
def Qai6:SC:=.seq (sR [zJ 3 1] [0,3] (bL 0 Qab5)) Qai5
def Qai7:SC:=.seq (sR [mJ 6 0,nJ 7 6,cJ 8 .lss 7 2] [0,8] Qal6) Qai6
def Qauu:SC:=sR [fI 2 (.mv (.k (.c (.sl true 1 []))))] [0] Qai7
theorem Qaru:mFn prog Qqf 1 61 Qauu Qcu=true:=by kernel_rfl
def Qapr:SC:=sR [mJ 7 1,mJ 8 0,bJ 9 .leq 7 8,mJ 10 9,gTm 11 10 0,gTm 12 10 2,gT 13 10 (.bin 0 .leq (.t 11) (.t 12)),pF 14 10 13,mJ 6 14] [6] .ret
def Qawv:SC:=sR [fB 6 false] [0,1,2] Qapr
theorem Qady:mFn prog Qcx 3 15 Qawv Qbe9=true:=by kernel_rfl
def Qab6:SC:=cT 16 (sR [mJ 17 5,mJ 4 17] [4] .ret) .skip
def Qab7:SC:=sR [mJ 11 1,mJ 12 0,mJ 13 5,iJ 14 1 12 13,lJ 15 14,eI 16 (.callv (.t 11) [.t 15])] [0,1,5,7,8,16] Qab6
def Qab8:SC:=.reg [cJ 18 .add 8 1,mJ 8 18] [0,1,7,8]
def Qab9:SC:=.seq (.block 1 (sR [mJ 10 8,mJ 5 10] [0,1,5,7,8] Qab7)) Qab8
def Q8z:SC:=sR [bJ 9 .lss 8 7] [0,1,7,8,9] (cX 9 0 Qab9)
def Qaca:SC:=sR [zJ 4 (-1)] [4] .ret
def Qacb:SC:=.seq (sR [mJ 6 0,nJ 7 6,zJ 8 0] [0,1,7,8] (bL 0 Q8z)) Qaca
def Qamf:SC:=sR [zJ 4 0] [0,1] Qacb
theorem Qajt:mFn prog Qlg 2 19 Qamf Qm4=true:=by kernel_rfl
def Qxt:SC:=cT 23 (sR [mJ 24 0,mJ 25 1,mJ 26 2,aJ 27 Qb8 [.t 24,.t 25,.t 26]] [] .ret) .skip
def Qxu:SC:=cT 29 (sR [mJ 30 0,mJ 31 1,mJ 32 2,aJ 33 Quh [.t 30,.t 31,.t 32]] [] .ret) .skip
def Qxv:SC:=.reg [mJ 40 3,cJ 41 .sub 40 1,mJ 3 41] [0,1,2,3,8,9,10]
def Qxw:SC:=cT 35 (sR [mJ 36 0,mJ 37 1,mJ 38 2,aJ 39 Qms [.t 36,.t 37,.t 38]] [0,1,2,3,8,9,10] Qxv) .skip
def Qt0:List Item:=[mJ 42 46,fI 47 (.ext (.t 42) 0),fI 48 (.ext (.t 42) 1),mJ 11 47,mJ 12 48]
def Qxx:SC:=.reg [zJ 12 1] [0,1,2,3,8,9,10,11,12]
def Qxy:SC:=sR [mJ 55 2,cJ 56 .sub 55 1,mJ 57 11,mJ 58 1,bJ 59 .sub 57 58,bJ 60 .sub 56 59,mJ 11 60] [0,1,2,3,8,9,10,11] Qxx
def Qxz:SC:=cT 50 (sR [mJ 51 0,mJ 52 1,mJ 53 2,aJ 54 Qof [.t 51,.t 52,.t 53]] [0,1,2,3,8,9,10,11] Qxy) .skip
def Qx0:SC:=cT 68 (sR [mJ 69 0,mJ 70 1,mJ 71 2,aJ 72 Qfz [.t 69,.t 70,.t 71]] [0,1,2,3,8,9,10,11,72] (cT 72 .ret .skip)) .skip
def Qt1:List Item:=[gT 86 75 (.not (.t 85)),pF 87 75 86]
def Qrl:List Item:=[mJ 13 92]
def Qtg:SC:=sR [mJ 93 13,mJ 1 93] [0,1,2,3,8,9] (.exit 1)
def Qth:SC:=cT 87 (sR (mJ 88 0::mJ 89 1::mJ 90 2::mJ 91 11::aJ 92 Qlh [.t 88,.t 89,.t 90,.t 91]::Qrl) [0,2,3,8,9,13] Qtg) .skip
def Qrm:List Item:=[mJ 94 99,fI 100 (.ext (.t 94) 0),fI 101 (.ext (.t 94) 1),mJ 14 100,mJ 15 101]
def Qti:SC:=.reg [mJ 122 14,cJ 123 .add 122 1,mJ 1 123] [0,1,2,3,8,9]
def Qtj:SC:=sR [mJ 117 0,mJ 118 1,mJ 119 14,mJ 120 3,aJ 121 Qbq [.t 117,.t 118,.t 119,.t 120]] [0,2,3,8,9,14] Qti
def Qtk:SC:=.reg [mJ 133 14,mJ 2 133] [0,1,2,3,8,9]
def Qtl:SC:=sR [mJ 127 0,mJ 128 14,cJ 129 .add 128 1,mJ 130 2,mJ 131 3,aJ 132 Qbq [.t 127,.t 129,.t 130,.t 131]] [0,1,3,8,9,14] Qtk
def Qtm:SC:=cT 113 (sR [mJ 114 16,mJ 115 18,bJ 116 .geq 114 115,mJ 8 116] [0,1,2,3,8,9,14] Qtj) (sR [mJ 124 17,mJ 125 18,bJ 126 .geq 124 125,mJ 8 126] [0,1,2,3,8,9,14] Qtl)
def Qtn:SC:=sR [mJ 111 16,mJ 112 17,bJ 113 .lss 111 112] [0,1,2,3,9,14,16,17,18,113] Qtm
def Qto:SC:=sR [mJ 109 10,cJ 110 .quo 109 8,mJ 18 110] [0,1,2,3,9,14,16,17,18] Qtn
def Qtp:SC:=sR [mJ 103 14,mJ 104 1,bJ 105 .sub 103 104,mJ 106 2,mJ 107 14,bJ 108 .sub 106 107,mJ 16 105,mJ 17 108] [0,1,2,3,9,10,14,16,17] Qto
def Qtq:SC:=sR [mJ 102 15,mJ 9 102] [0,1,2,3,9,10,14] Qtp
def Qtr:SC:=sR (mJ 95 0::mJ 96 1::mJ 97 2::mJ 98 11::aJ 99 Qst [.t 95,.t 96,.t 97,.t 98]::Qrm) [0,1,2,3,10,14,15] Qtq
def Qts:SC:=.seq (.seq (.dreg 15 [0,1,2,3,4,5,6,7,8,9,10,11,12,13,14] ( mJ 73 1::cJ 74 .gtr 73 0::mJ 75 74::gTm 76 75 0::gTm 77 75 1::gT 78 75 (.bin 0 .sub (.t 77) (kI 1))::gT 79 75 (.iad 1 (.t 76) (.t 78))::gTl 80 75 79::gTm 81 75 0::gTm 82 75 11::gT 83 75 (.iad 1 (.t 81) (.t 82))::gTl 84 75 83::.e (some 85) (some (75,true)) (.call Qac9 [.t 80,.t 84])::Qt1) [0,1,2,3,8,9,10,11,87]) Qth) Qtr
def Qtt:SC:=.seq (sR [mJ 61 8,mJ 62 61,gTm 63 62 9,pF 64 62 63,mJ 65 64,gTm 66 65 12,gT 67 65 (.bin 0 .eql (.t 66) (kI 1)),pF 68 65 67] [0,1,2,3,8,9,10,11,68] Qx0) Qts
def Qtu:SC:=.seq (sR [mJ 49 12,cJ 50 .eql 49 2] [0,1,2,3,8,9,10,11,12,50] Qxz) Qtt
def Qtv:SC:=sR (mJ 43 0::mJ 44 1::mJ 45 2::aJ 46 Qow [.t 43,.t 44,.t 45]::Qt0) [0,1,2,3,8,9,10,11,12] Qtu
def Qtw:SC:=.seq (sR [mJ 34 8,oJ 35 34] [0,1,2,3,8,9,10,35] Qxw) Qtv
def Qtx:SC:=.seq (sR [mJ 28 3,cJ 29 .eql 28 0] [0,1,2,3,8,9,10,29] Qxu) Qtw
def Qty:SC:=.seq (sR [mJ 22 10,cJ 23 .leq 22 12] [0,1,2,3,8,9,10,23] Qxt) Qtx
def Qrn:SC:=.block 1 (sR [mJ 19 2,mJ 20 1,bJ 21 .sub 19 20,mJ 10 21] [0,1,2,3,8,9,10] Qty)
def Qtz:SC:=sR [fB 9 true] [0,1,2,3,8,9] (bL 0 Qrn)
def Q3p:SC:=sR [fB 8 true] [0,1,2,3,8] Qtz
theorem Q1i:mFn prog Qbq 4 134 Q3p Qasa=true:=by kernel_rfl
def Qkw:List Item:=[pF 30 19 29]
def Qkx:List Item:=[iJ 48 1 35 37,sJ 1 48 46]
def Qmk:SC:=.reg [mJ 31 7,cJ 32 .sub 31 1,mJ 7 32] [0,1,2,6,7]
def Qml:SC:=.seq (.block 3 (.dreg 18 [0,1,2,3,4,5,6,7,8,9,10,11,12,13,14,15,16,17] ( mJ 33 0::mJ 34 7::mJ 35 0::mJ 36 7::cJ 37 .sub 36 1::mJ 38 0::mJ 39 7::cJ 40 .sub 39 1::iJ 41 1 38 40::lJ 42 41::mJ 43 0::mJ 44 7::iJ 45 1 43 44::lJ 46 45::iJ 47 1 33 34::sJ 1 47 42::Qkx) [0,1,2,6,7])) Qmk
def Qky:SC:=.seq (.seq (.dreg 15 [0,1,2,3,4,5,6,7,8,9,10,11,12,13,14] ( mJ 16 7::mJ 17 1::bJ 18 .gtr 16 17::mJ 19 18::gTm 20 19 0::gTm 21 19 7::gT 22 19 (.iad 1 (.t 20) (.t 21))::gTl 23 19 22::gTm 24 19 0::gTm 25 19 7::gT 26 19 (.bin 0 .sub (.t 25) (kI 1))::gT 27 19 (.iad 1 (.t 24) (.t 26))::gTl 28 19 27::.e (some 29) (some (19,true)) (.call Qac9 [.t 23,.t 28])::Qkw) [0,1,2,6,7,30]) (cT 30 .skip (.exit 2))) Qml
def Qmm:SC:=.reg [mJ 13 6,cJ 14 .add 13 1,mJ 6 14] [0,1,2,6]
def Qmn:SC:=.seq (.block 1 (sR [mJ 15 6,mJ 7 15] [0,1,2,6,7] (bL 2 Qky))) Qmm
def Qkz:SC:=.seq (sR [mJ 10 6,mJ 11 2,bJ 12 .lss 10 11] [0,1,2,6,12] (cT 12 .skip (.exit 0))) Qmn
def Qor:SC:=sR [mJ 8 1,cJ 9 .add 8 1,mJ 6 9] [0,1,2,6] (bL 0 Qkz)
theorem Qoh:mFn prog Qb8 3 49 Qor Qasa=true:=by kernel_rfl
def Qop:List Item:=[mJ 2 4]
def Qapj:SC:=sR (mJ 3 0::aJ 4 Qcx [.t 3,kI 0,kI 255]::Qop) [2] .ret
def Qawt:SC:=sR [fB 2 false] [0] Qapj
theorem Qadt:mFn prog Qh4 1 5 Qawt Qcu=true:=by kernel_rfl
end Go.AE.Y
namespace Go.AE
variable {P:Program}{H:Heap}{g:G}{w:World}{e:Env}
def Obj.used:Obj→Bool
 |.none=>false
 |_=>true
def Heap.frz (H:Heap)(S:Nat→Bool):Heap:=fun l=>if S l then .none else H l
def G.frz (g:G)(H:Heap)(S:Nat→Bool):G:=
 { g with
  per:=fun b=>g.per b || (match g.own b with
   |some (l,_)=>S l&&(H l).used
   |none=>false)
  own:=fun b=>match g.own b with
   |some (l,p)=>if S l&&(H l).used then none else some (l,p)
   |none=>none }
theorem Qbe2 (H:Heap)(S:Nat→Bool)(g:G)(w:World):Le g w (g.frz H S) w:=
 ⟨fun b h=>⟨by simp[G.frz,h],rfl⟩,fun _ _ h=>h,Jau _,fun _ _ _ h=>h,rfl,rfl,rfl⟩
theorem Qui {S:Nat→Bool}{m:Nat}(hm:¬(S m=true∧(H m).used=true)):Q55 g w (g.frz H S) w m:=by
 intro b q hb;refine⟨?_,rfl⟩;have:¬(S m&&(H m).used)=true:=by simpa using hm
 simp only[G.frz,hb];rw[if_neg this]
theorem Qazo (hs:Sat H g w)(S:Nat→Bool):Stp H g w (H.frz S) (g.frz H S) w:=by
 have hle:=Qbe2 H S g w;refine⟨hle,fun m hm hn=>?_,⟨fun b hb=>?_,hs.names,fun b x hb=>?_,fun b m p hb=>?_,fun m=>?_⟩⟩
 ·refine⟨by simp only[Heap.frz,hn];split <;> rfl,?_⟩;exact Qui (by rw[hn];simp[Obj.used])
 ·obtain⟨h1,h2⟩:=hs.fresh b hb;simp[G.frz,h1,h2]
 ·have hb':(match g.own b with
   |some (l,p)=>if S l&&(H l).used then none else some (l,p)
   |none=>none)=some x:=hb
  show (g.per b || (match g.own b with
   |some (l,_)=>S l&&(H l).used
   |none=>false))=false
  cases ho:g.own b with
  |none=>rw[ho]at hb';simp at hb'
  |some y=>
   obtain⟨l,p⟩:=y;rw[ho]at hb';simp only at hb'⊢;have:=hs.excl b _ ho;by_cases hx:(S l&&(H l).used)=true
   ·rw[if_pos hx]at hb';simp at hb'
   ·simp[this,hx]
 ·have hb':(match g.own b with
   |some (l,p)=>if S l&&(H l).used then none else some (l,p)
   |none=>none)=some (m,p):=hb
  cases ho:g.own b with
  |none=>rw[ho]at hb';simp at hb'
  |some y=>
   obtain⟨l,q⟩:=y;rw[ho]at hb';simp only at hb';by_cases hx:(S l&&(H l).used)=true
   ·rw[if_pos hx]at hb';simp at hb'
   ·rw[if_neg hx]at hb';simp at hb';obtain⟨rfl,rfl⟩:=hb';exact hs.named b _ _ ho
 ·by_cases hS:S m=true
  ·simp[Heap.frz,hS,SatObj]
  ·have hH':H.frz S m=H m:=by simp[Heap.frz,hS]
   have hk:Q55 g w (g.frz H S) w m:=Qui (by simp[hS]);refine SatObj.keep (H':=H.frz S) hs hle hk hH' fun m' v left cur hc v' es hv=>?_;by_cases hS':S m'=true
   ·simp[Heap.frz,hS']at hv
   ·have:H.frz S m'=H m':=(by simp[Heap.frz,hS']);rw[this]at hv;exact .inl ⟨hv,Qui (by simp[hS'])⟩
inductive FrzC (H:Heap)(S:Nat→Bool):C→C→Prop
 |same (c:C) (h:c.isOw=false):FrzC H S c c
 |sl (fl:Bool) (sz:Nat) (rows rows':List (List C)) (hl:rows'.length=rows.length) (hr:∀(i:Nat) (r r':List C),rows[i]? = some r→rows'[i]? = some r'→r'.length=r.length)
   (hc:∀(i:Nat) (r r':List C) (j:Nat) (c c':C),rows[i]? = some r→rows'[i]? = some r'→r[j]? = some c→r'[j]? = some c'→FrzC H S c c'):FrzC H S (.sl fl sz rows) (.sl false sz rows')
 |pp (cells cells':List C) (hl:cells'.length=cells.length) (hc:∀(j:Nat) (c c':C),cells[j]? = some c→cells'[j]? = some c'→FrzC H S c c'):FrzC H S (.pp cells) (.pp cells')
 |vsl (l sz st n:Nat) (all rows rows':List (List C)) (hS:S l=true) (hH:H l=.vec sz all) (hb:st+n≤all.length) (hrows:rows=(all.drop st).take n)
   (hl:rows'.length=rows.length) (hr:∀(i:Nat) (r r':List C),rows[i]? = some r→rows'[i]? = some r'→r'.length=r.length)
   (hc:∀(i:Nat) (r r':List C) (j:Nat) (c c':C),rows[i]? = some r→rows'[i]? = some r'→r[j]? = some c→r'[j]? = some c'→FrzC H S c c'):FrzC H S (.vsl l sz st n) (.sl false sz rows')
 |ptr (l k:Nat) (all cells cells':List C) (hS:S l=true) (hH:H l=.st all) (hcells:cells=all.drop k) (hl:cells'.length=cells.length)
   (hc:∀(j:Nat) (c c':C),cells[j]? = some c→cells'[j]? = some c'→FrzC H S c c'):FrzC H S (.ptr l k) (.pp cells')
 |ow (sz:Nat) (rows rows':List (List C)) (hl:rows'.length=rows.length) (hr:∀(i:Nat) (r r':List C),rows[i]? = some r→rows'[i]? = some r'→r'.length=r.length)
   (hc:∀(i:Nat) (r r':List C) (j:Nat) (c c':C),rows[i]? = some r→rows'[i]? = some r'→r[j]? = some c→r'[j]? = some c'→FrzC H S c c'):FrzC H S (.ow sz rows) (.sl false sz rows')
theorem Qag {α:Type}{l l':List α}(h:l'.length=l.length){i:Nat}{x:α}(hx:l'[i]? = some x):∃y,l[i]? = some y:=by
 have:i<l'.length:=(Jq.1 hx).1;exact⟨l[i]'(by omega),Jm (by omega)⟩
theorem Qav4 {S:Nat→Bool}{b l:Nat}{p:List Nat}(ho:g.own b=some (l,p))(hS:S l=true)(hu:(H l).used=true):(g.frz H S).per b=true:=by
 simp[G.frz,ho,hS,hu]
theorem Qav5 (hs:Sat H g w){S:Nat→Bool}{c c':C}(h:FrzC H S c c') :
  (∀v,RepC w g c v→RepC w (g.frz H S) c' v)∧∀l p v,S l=true→(H l).used=true→RepO w g l p c v→RepC w (g.frz H S) c' v:=by
 have hle:=Qbe2 H S g w
 induction h with
 |same c h=>
  refine⟨fun v hv=>hv.mono hle,fun l p v _ _ hv=>?_⟩;exact (hv.plain_of fun sz rows hc=>by subst hc;simp[C.isOw]at h).mono hle
 |sl fl sz rows rows' hl hr hc ih=>
  have key:∀v,RepC w g (.sl fl sz rows) v→RepC w (g.frz H S) (.sl false sz rows') v:=by
   intro v hv
   cases hv with
   |slnil _ _ ad=>
    have:rows'=[]:=Jo.1 (by simpa using hl);subst this;exact .slnil _ _ _
   |sl _ _ _ b off cap val h1 h2 h3 h4 h5 h6 h7=>
    rw[←hl]at h1 h2 h3⊢;refine .sl false sz rows' b off cap val h1 (by simp) h3 (hle.per b h4).1 (fun i r' hr'=>?_) (fun i r' j c' hr' hc'=>?_) (fun i r' j c' hr' hc'=>?_)
    ·obtain⟨r,hr0⟩:=Qag hl hr';rw[hr i r r' hr0 hr'];exact h5 i r hr0
    ·obtain⟨r,hr0⟩:=Qag hl hr';obtain⟨c,hc0⟩:=Qag (hr i r r' hr0 hr') hc';exact h6 i r j c hr0 hc0
    ·obtain⟨r,hr0⟩:=Qag hl hr';obtain⟨c,hc0⟩:=Qag (hr i r r' hr0 hr') hc';exact (ih i r r' j c c' hr0 hr' hc0 hc').1 _ (h7 i r j c hr0 hc0)
  exact⟨key,fun l p v _ _ hv=>key v (hv.plain_of fun _ _ hc=>by simp at hc)⟩
 |pp cells cells' hl hc ih=>
  have key:∀v,RepC w g (.pp cells) v→RepC w (g.frz H S) (.pp cells') v:=by
   intro v hv
   cases hv with
   |pp _ b off val h1 h2 h3=>
    refine .pp cells' b off val (hle.per b h1).1 (fun j c' hc'=>?_) (fun j c' hc'=>?_)
    ·obtain⟨c,hc0⟩:=Qag hl hc';exact h2 j c hc0
    ·obtain⟨c,hc0⟩:=Qag hl hc';exact (ih j c c' hc0 hc').1 _ (h3 j c hc0)
  exact⟨key,fun l p v _ _ hv=>key v (hv.plain_of fun _ _ hc=>by simp at hc)⟩
 |vsl l sz st n all rows rows' hS hH hb hrows hl hr hc ih=>
  have key:∀v,RepC w g (.vsl l sz st n) v→RepC w (g.frz H S) (.sl false sz rows') v:=by
   intro v hv;have hlen:rows.length=n:=by rw[hrows];simp;omega
   cases hv with
   |vslnil _ _ _ ad=>
    have:rows'=[]:=Jo.1 (by omega);subst this;exact .slnil _ _ _
   |vsl _ _ _ _ cap b base T m h1 h2 h3 h4=>
    have hob:=hs.objs l;rw[hH]at hob;obtain⟨b',base',T',cs,val,r1,r2,r3,r4,r5,r6,r7,r8⟩:=SatVec.of hob h1;rw[h1]at r1;simp only[Je,Jv,true_and]at r1;obtain⟨rfl,rfl⟩:=r1;have hper:=Qav4 (g:=g) (H:=H) r2 hS (by rw[hH];rfl);have hget:∀(i:Nat) (r:List C),rows[i]? = some r→all[st+i]? = some r:=by
     intro i r hi;rw[hrows,Jam]at hi;split at hi
     ·rw[Jac]at hi;exact hi
     ·simp at hi
    have hn:n=rows'.length:=(by omega);rw[hn]at h2⊢;refine .sl false sz rows' b (base+st * sz) cap (fun i j=>val (st+i) j) (by omega) (by simp) h2 hper (fun i r' hr'=>?_) (fun i r' j c' hr' hc'=>?_) (fun i r' j c' hr' hc'=>?_)
    ·obtain⟨r,hr0⟩:=Qag hl hr';rw[hr i r r' hr0 hr'];exact r6 _ r (hget i r hr0)
    ·obtain⟨r,hr0⟩:=Qag hl hr';obtain⟨c,hc0⟩:=Qag (hr i r r' hr0 hr') hc';rw[Qci r3,show base+st * sz+i * sz+j=base+(st+i) * sz+j by rw[Jp];omega];exact r7 _ r j c (hget i r hr0) hc0
    ·obtain⟨r,hr0⟩:=Qag hl hr';obtain⟨c,hc0⟩:=Qag (hr i r r' hr0 hr') hc';exact (ih i r r' j c c' hr0 hr' hc0 hc').2 l _ _ hS (by rw[hH];rfl) (r8 _ r j c (hget i r hr0) hc0)
  exact⟨key,fun l p v _ _ hv=>key v (hv.plain_of fun _ _ hc=>by simp at hc)⟩
 |ptr l k all cells cells' hS hH hcells hl hc ih=>
  have key:∀v,RepC w g (.ptr l k) v→RepC w (g.frz H S) (.pp cells') v:=by
   intro v hv
   cases hv with
   |ptr _ _ b sz base h1=>
    have hob:=hs.objs l;rw[hH]at hob;obtain⟨b',sz',T,cs,r1,r2,r3,r4,r5⟩:=hob;rw[h1]at r1;simp only[Je,Jv]at r1;obtain⟨rfl,rfl,rfl⟩:=r1;have hper:=Qav4 (g:=g) (H:=H) r2 hS (by rw[hH];rfl);have hget:∀(j:Nat) (c:C),cells[j]? = some c→all[k+j]? = some c:=by
     intro j c hj;rw[hcells,Jac]at hj;exact hj
    have hcs:∀(j:Nat) (c:C),all[j]? = some c→cs[j]? = some (cs.getD j undef):=by
     intro j c hj;have hlt:j<cs.size:=(by rw[r4];exact (Jq.1 hj).1);rw[Jl hlt,Jc,Jl hlt];rfl
    refine .pp cells' b (0+k) (fun j=>cs.getD (k+j) undef) hper (fun j c' hc'=>?_) (fun j c' hc'=>?_)
    ·obtain⟨c,hc0⟩:=Qag hl hc';rw[Qci r3,show 0+k+j=k+j by omega];exact hcs _ c (hget j c hc0)
    ·obtain⟨c,hc0⟩:=Qag hl hc';exact (ih j c c' hc0 hc').2 l _ _ hS (by rw[hH];rfl) (r5 _ c _ (hget j c hc0) (hcs _ c (hget j c hc0)))
  exact⟨key,fun l p v _ _ hv=>key v (hv.plain_of fun _ _ hc=>by simp at hc)⟩
 |ow sz rows rows' hl hr hc ih=>
  refine⟨fun v hv=>(by cases hv),fun l p v hS hu hv=>?_⟩
  cases hv with
  |plain _ _ _ h=>cases h
  |ownil _ _ ad=>
   have:rows'=[]:=Jo.1 (by simpa using hl);subst this;exact .slnil _ _ _
  |ow _ _ _ b off cap T cs val h1 h2 h3 h4 h5 h6 h7 h8=>
   have hper:=Qav4 (g:=g) (H:=H) h3 hS hu;rw[←hl]at h1 h2⊢;refine .sl false sz rows' b off cap val h1 (by simp) h2 hper (fun i r' hr'=>?_) (fun i r' j c' hr' hc'=>?_) (fun i r' j c' hr' hc'=>?_)
   ·obtain⟨r,hr0⟩:=Qag hl hr';rw[hr i r r' hr0 hr'];exact h6 i r hr0
   ·obtain⟨r,hr0⟩:=Qag hl hr';obtain⟨c,hc0⟩:=Qag (hr i r r' hr0 hr') hc';rw[Qci h4];exact h7 i r j c hr0 hc0
   ·obtain⟨r,hr0⟩:=Qag hl hr';obtain⟨c,hc0⟩:=Qag (hr i r r' hr0 hr') hc';exact (ih i r r' j c c' hr0 hr' hc0 hc').2 l _ _ hS hu (h8 i r j c hr0 hc0)
inductive FrzV (H:Heap)(S:Nat→Bool):V→V→Prop
 |c (a b:C) (h:FrzC H S a b):FrzV H S (.c a) (.c b)
 |ag (cs cs':List C) (hl:cs'.length=cs.length) (h:∀(j:Nat) (c c':C),cs[j]? = some c→cs'[j]? = some c'→FrzC H S c c'):FrzV H S (.ag cs) (.ag cs')
 |tup (xs xs':List V) (hl:xs'.length=xs.length) (h:∀(j:Nat) (x x':V),xs[j]? = some x→xs'[j]? = some x'→FrzV H S x x'):FrzV H S (.tup xs) (.tup xs')
 |unk (x:V):FrzV H S x .unk
theorem Qaoa (hs:Sat H g w){S:Nat→Bool}{x x':V}(h:FrzV H S x x'):∀v,RepV w g x v→RepV w (g.frz H S) x' v:=by
 induction h with
 |c a b h=>
  intro v hv;exact .c _ _ ((Qav5 hs h).1 v hv.c_inv)
 |ag cs cs' hl h=>
  intro v hv
  cases hv with
  |ag _ vs h1 h2=>
   refine .ag cs' vs (by omega) fun j c' u hc' hu=>?_;obtain⟨c,hc⟩:=Qag hl hc';exact (Qav5 hs (h j c c' hc hc')).1 u (h2 j c u hc hu)
 |tup xs xs' hl h ih=>
  intro v hv
  cases hv with
  |tup _ vs h1 h2=>
   refine .tup xs' vs (by omega) fun j x' u hx' hu=>?_;obtain⟨x,hx⟩:=Qag hl hx';exact ih j x x' hx hx' u (h2 j x u hx hu)
 |unk x=>exact fun v _=>.unk v
abbrev frzK (K:V→Heap→Prop):V→Heap→Prop
 |.pn v,H'=>∃S,K (.pn v) (H'.frz S)
 |x,H'=>∃S x',FrzV H' S x x'∧K x' (H'.frz S)
theorem Qbbz {K:V→Heap→Prop}{x:V}{v:Value}(h:frzK K x H)(hr:RepV w g x v):∃S x',FrzV H S x x'∧K x' (H.frz S):=by
 cases hr <;> exact h
theorem Qa5p {f:Nat}{args:List V}{K:V→Heap→Prop}(h:Ql P f args H (frzK K)):Ql P f args H K:=by
 refine⟨h.1,fun g w vs hs hl hv=>?_⟩;refine Calls.mono (h.2 g w vs hs hl hv) ?_;rintro e w' (⟨v,x,H',g',he,hx,hst,hr⟩|⟨v,H',g',he,hx,hst⟩)
 ·obtain⟨S,x',hf,hk⟩:=Qbbz hx hr;exact .inl ⟨v,x',H'.frz S,g'.frz H' S,he,hk,hst.trans (Qazo hst.sat S),Qaoa hst.sat hf v hr⟩
 ·obtain⟨S,hk⟩:∃S,K (.pn v) (H'.frz S):=hx;exact .inr ⟨v,H'.frz S,g'.frz H' S,he,hk,hst.trans (Qazo hst.sat S)⟩
theorem Qa1r {f:Nat}{args:List V}{K K':V→Heap→Prop}(h:Ql P f args H K)(hk:∀x H',K x H'→K' x H'):Ql P f args H K':=by
 refine⟨h.1,fun g w vs hs hl hv=>?_⟩;refine Calls.mono (h.2 g w vs hs hl hv) ?_;rintro e w' (⟨v,x,H',g',he,hx,hst,hr⟩|⟨v,H',g',he,hx,hst⟩)
 ·exact .inl ⟨v,x,H',g',he,hk x H' hx,hst,hr⟩
 ·exact .inr ⟨v,H',g',he,hk _ H' hx,hst⟩
def FrzK (H:Heap)(S:Nat→Bool)(c c':C):Prop:=c'=c∨(c.isOw=false∧FrzC H S c c')
inductive FrzO (H:Heap)(S:Nat→Bool):Obj→Obj→Prop
 |same (o:Obj):FrzO H S o o
 |st (cells cells':List C) (hl:cells'.length=cells.length) (h:∀(j:Nat) (c c':C),cells[j]? = some c→cells'[j]? = some c'→FrzK H S c c'):FrzO H S (.st cells) (.st cells')
 |vec (sz:Nat) (rows rows':List (List C)) (hl:rows'.length=rows.length) (hr:∀(i:Nat) (r r':List C),rows[i]? = some r→rows'[i]? = some r'→r'.length=r.length)
   (h:∀(i:Nat) (r r':List C) (j:Nat) (c c':C),rows[i]? = some r→rows'[i]? = some r'→r[j]? = some c→r'[j]? = some c'→FrzK H S c c'):FrzO H S (.vec sz rows) (.vec sz rows')
def FrzH (H:Heap)(S:Nat→Bool)(H':Heap):Prop:=∀m,(S m=true∧H' m=.none)∨(S m=false∧FrzO H S (H m) (H' m))
theorem Qqi (H:Heap)(S:Nat→Bool):FrzH H S (H.frz S):=fun m=>by
 cases h:S m with
 |true=>exact .inl ⟨rfl,by simp[Heap.frz,h]⟩
 |false=>exact .inr ⟨rfl,by simp[Heap.frz,h];exact .same _⟩
theorem FrzH.set {S:Nat→Bool}{H':Heap}(h:FrzH H S H'){l:Nat}{o:Obj}(hl:S l=false)(ho:FrzO H S (H l) o):FrzH H S (H'.set l o):=fun m=>by
 by_cases hm:m=l
 ·subst hm;rw[Heap.set_same];exact .inr ⟨hl,ho⟩
 ·rw[Heap.set_other _ _ hm];exact h m
theorem Qa1h (hs:Sat H g w){S:Nat→Bool}{H':Heap}(h:FrzH H S H'):Stp H g w H' (g.frz H S) w:=by
 have h0:=Qazo hs S;have hle:=h0.le;have hkk:∀m,S m=false→Q55 g w (g.frz H S) w m:=fun m hm=>Qui (by simp[hm]);have hmv:∀(l:Nat) (p:List Nat) (c c':C) (v:Value),S l=false→FrzK H S c c'→RepO w g l p c v→RepO w (g.frz H S) l p c' v:=by
  intro l p c c' v hl hk hr;rcases hk with rfl|⟨h1,h2⟩
  ·exact hr.move hle fun q b hb=>⟨(hkk l hl b _ hb).1,rfl⟩
  ·exact .plain _ _ _ _ ((Qav5 hs h2).1 v (hr.plain_of fun sz rows hc=>by subst hc;simp[C.isOw]at h1))
 refine⟨hle,fun m hm hn=>?_,⟨h0.sat.fresh,h0.sat.names,h0.sat.excl,h0.sat.named,fun m=>?_⟩⟩
 ·refine⟨?_,Qui (by rw[hn];simp[Obj.used])⟩;rcases h m with ⟨_,h1⟩|⟨_,h1⟩
  ·exact h1
  ·rw[hn]at h1;generalize H' m=o at h1;cases h1;rfl
 ·rcases h m with ⟨_,h1⟩|⟨hS,h1⟩
  ·rw[h1];exact trivial
  ·have ho:=hs.objs m;generalize hA:H m=A at h1 ho;generalize hB:H' m=B at h1
   cases h1 with
   |same=>
    have:=SatObj.keep (H':=H') hs hle (hkk m hS) (hB.trans hA.symm) fun m' v left cur hc v' es hv=>?_
    ·rw[hB]at this;exact this
    ·rcases h m' with ⟨_,h2⟩|⟨hS',h2⟩
     ·rw[h2]at hv;simp at hv
     ·rw[hv]at h2;generalize hA':H m'=A' at h2;cases h2;exact .inl ⟨rfl,hkk m' hS'⟩
   |st cells cells' hl hc=>
    obtain⟨b,sz,T,cs,r1,r2,r3,r4,r5⟩:=ho;refine⟨b,sz,T,cs,r1,(hkk m hS b _ r2).1,r3,by rw[hl];exact r4,fun k c' v hc' hv=>?_⟩;obtain⟨c,hc0⟩:=Qag hl hc';exact hmv _ _ c c' v hS (hc k c c' hc0 hc') (r5 k c v hc0 hv)
   |vec sz rows rows' hl hr hc=>
    rcases ho with ⟨r1,r2⟩|⟨b,base,T,cs,val,r1,r2,r3,r4,r5,r6,r7,r8⟩
    ·refine .inl ⟨?_,r2⟩;subst r1;exact Jo.1 hl
    ·refine .inr ⟨b,base,T,cs,val,r1,(hkk m hS b _ r2).1,r3,by rw[hl];exact r4,by rw[hl];exact r5,fun i r' hr'=>?_,fun i r' j c' hr' hc'=>?_,fun i r' j c' hr' hc'=>?_⟩
     ·obtain⟨r,hr0⟩:=Qag hl hr';rw[hr i r r' hr0 hr'];exact r6 i r hr0
     ·obtain⟨r,hr0⟩:=Qag hl hr';obtain⟨c,hc0⟩:=Qag (hr i r r' hr0 hr') hc';exact r7 i r j c hr0 hc0
     ·obtain⟨r,hr0⟩:=Qag hl hr';obtain⟨c,hc0⟩:=Qag (hr i r r' hr0 hr') hc';exact hmv _ _ c c' _ hS (hc i r r' j c c' hr0 hr' hc0 hc') (r8 i r j c hr0 hc0)
abbrev finK (K:V→Heap→Prop):V→Heap→Prop
 |.pn v,H'=>K (.pn v) H'
 |x,H'=>∃S x' H2,FrzV H' S x x'∧FrzH H' S H2∧K x' H2
theorem Qbi5 {K:V→Heap→Prop}{x:C}:finK K (.c x) H=∃S x' H2,FrzV H S (.c x) x'∧FrzH H S H2∧K x' H2:=rfl
theorem Qbgm {K:V→Heap→Prop}{x:List C}:finK K (.ag x) H=∃S x' H2,FrzV H S (.ag x) x'∧FrzH H S H2∧K x' H2:=rfl
theorem Qbbw {K:V→Heap→Prop}{x:List V}:finK K (.tup x) H=∃S x' H2,FrzV H S (.tup x) x'∧FrzH H S H2∧K x' H2:=rfl
theorem Qbgn {K:V→Heap→Prop}{v:Value}:finK K (.pn v) H=K (.pn v) H:=rfl
attribute [go_sem] Qbi5 Qbgm Qbbw Qbgn
theorem Qbbx {K:V→Heap→Prop}{x:V}{v:Value}(h:finK K x H)(hr:RepV w g x v):∃S x' H2,FrzV H S x x'∧FrzH H S H2∧K x' H2:=by
 cases hr <;> exact h
theorem Qacu {f:Nat}{args:List V}{K:V→Heap→Prop}(h:Ql P f args H (finK K)):Ql P f args H K:=by
 refine⟨h.1,fun g w vs hs hl hv=>?_⟩;refine Calls.mono (h.2 g w vs hs hl hv) ?_;rintro e w' (⟨v,x,H',g',he,hx,hst,hr⟩|⟨v,H',g',he,hx,hst⟩)
 ·obtain⟨S,x',H2,hf,hh,hk⟩:=Qbbx hx hr;exact .inl ⟨v,x',H2,g'.frz H' S,he,hk,hst.trans (Qa1h hst.sat hh),Qaoa hst.sat hf v hr⟩
 ·exact .inr ⟨v,H',g',he,hx,hst⟩
theorem Qoz {e e':Env}(S:Nat→Bool){H2:Heap}(h:∀t,FrzV H S (lk t e) (lk t e'))(hh:FrzH H S H2):Qbfm e H e' H2:=by
 intro g w tmps hs hr;exact⟨g.frz H S,Qa1h hs hh,fun t=>Qaoa hs (h t) _ (hr t)⟩
def un (H:Heap)(m:Nat):Bool:=!(H m).used
theorem Qazr {m:Nat}(h:H m≠.none):un H m=false:=by
 unfold un;cases hm:H m <;> first|rfl|exact absurd hm h
theorem Qyc {m:Nat}(h:H m=.none):un H m=true:=by simp[un,h,Obj.used]
theorem Qbe3 {H':Heap}{m:Nat}(h:H m≠.none):H'.frz (un H) m=H' m:=by simp[Heap.frz,Qazr h]
def C.plain:C→Bool
 |.int _ _|.bool _|.str _|.sl _ _ _|.pp _|.pnil|.mnil|.slb _|.stb _|.cm _ _ _|.fnil|.unk=>true
 |_=>false
theorem Qg {S:Nat→Bool}{c:C}(h:c.plain=true):FrzC H S c c:=.same c (by cases c <;> simp_all[C.plain,C.isOw])
theorem Qaoc {S:Nat→Bool}{l sz n:Nat}{rows:List (List C)}(hS:S l=true)(hH:H l=.vec sz rows)(hn:n=rows.length)(hr:∀r∈rows,∀c∈r,c.isOw=false):FrzC H S (.vsl l sz 0 n) (.sl false sz rows):=by
 subst hn;refine .vsl l sz 0 rows.length rows rows rows hS hH (by omega) (by simp) rfl (fun i r r' h1 h2=>by rw[h1]at h2;simp at h2;rw[h2]) (fun i r r' j c c' h1 h2 h3 h4=>?_);rw[h1]at h2;simp at h2;subst h2;rw[h3]at h4;simp at h4;subst h4;exact .same _ (hr r (Jb h1) c (Jb h3))
theorem Qaob {S:Nat→Bool}{fl:Bool}{sz:Nat}{rows:List (List C)}(hr:∀r∈rows,∀c∈r,c.isOw=false):FrzC H S (.sl fl sz rows) (.sl false sz rows):=by
 refine .sl fl sz rows rows rfl (fun i r r' h1 h2=>by rw[h1]at h2;simp at h2;rw[h2]) (fun i r r' j c c' h1 h2 h3 h4=>?_);rw[h1]at h2;simp at h2;subst h2;rw[h3]at h4;simp at h4;subst h4;exact .same _ (hr r (Jb h1) c (Jb h3))
inductive FrzL (H:Heap)(S:Nat→Bool):List C→List C→Prop
 |nil:FrzL H S [] []
 |cons {c c':C} {l l':List C} (h:FrzC H S c c') (t:FrzL H S l l'):FrzL H S (c::l) (c'::l')
theorem FrzL.spec {S:Nat→Bool}{l l':List C}(h:FrzL H S l l'):l'.length=l.length∧∀(j:Nat) (c c':C),l[j]? = some c→l'[j]? = some c'→FrzC H S c c':=by
 induction h with
 |nil=>exact⟨rfl,fun j c c' h=>by simp at h⟩
 |cons h t ih=>
  refine⟨by simp[ih.1],fun j c c' h1 h2=>?_⟩
  cases j with
  |zero=>simp at h1 h2;subst h1;subst h2;exact h
  |succ j=>simp at h1 h2;exact ih.2 j c c' h1 h2
theorem FrzL.ag {S:Nat→Bool}{l l':List C}(h:FrzL H S l l'):FrzV H S (.ag l) (.ag l'):=.ag _ _ h.spec.1 h.spec.2
inductive FrzKL (H:Heap)(S:Nat→Bool):List C→List C→Prop
 |nil:FrzKL H S [] []
 |same {c:C} {l l':List C} (t:FrzKL H S l l'):FrzKL H S (c::l) (c::l')
 |cons {c c':C} {l l':List C} (h:c.isOw=false) (h':FrzC H S c c') (t:FrzKL H S l l'):FrzKL H S (c::l) (c'::l')
theorem FrzKL.st {S:Nat→Bool}{l l':List C}(h:FrzKL H S l l'):FrzO H S (.st l) (.st l'):=by
 have:l'.length=l.length∧∀(j:Nat) (c c':C),l[j]? = some c→l'[j]? = some c'→FrzK H S c c':=by
  induction h with
  |nil=>exact⟨rfl,fun j c c' h=>by simp at h⟩
  |same t ih=>
   refine⟨by simp[ih.1],fun j c c' h1 h2=>?_⟩
   cases j with
   |zero=>simp at h1 h2;subst h1;subst h2;exact .inl rfl
   |succ j=>simp at h1 h2;exact ih.2 j c c' h1 h2
  |cons h h' t ih=>
   refine⟨by simp[ih.1],fun j c c' h1 h2=>?_⟩
   cases j with
   |zero=>simp at h1 h2;subst h1;subst h2;exact .inr ⟨h,h'⟩
   |succ j=>simp at h1 h2;exact ih.2 j c c' h1 h2
 exact .st _ _ this.1 this.2
end Go.AE
namespace Go.AE
variable {P:Program}{H0 H H':Heap}{E L:List (Nat×Obj)}
structure Kn (H0 H:Heap)(E L:List (Nat×Obj)):Prop where
 get:∀p∈E++L,H p.1=p.2∧p.2≠.none
 ext:∀p∈E,H0 p.1≠.none
 loc:∀p∈L,H0 p.1=.none
 dE:(E.map Prod.fst).Nodup
 dL:(L.map Prod.fst).Nodup
 chg:∀m,H0 m≠.none→m∉E.map Prod.fst→H m=H0 m
def Upd (H H':Heap)(U:List (Nat×Obj)):Prop:=(∀p∈U,H' p.1=p.2)∧∀m,H m≠.none→m∉U.map Prod.fst→H' m=H m
theorem Kn.start0 (H:Heap):Kn H H [] []:=⟨by simp,by simp,by simp,by simp,by simp,fun _ _ _=>rfl⟩
theorem Kn.start1 {l:Nat}{o:Obj}(h:H l=o)(ho:o≠.none):Kn H H [(l,o)] []:=
 ⟨by simp[h,ho],by simp[h,ho],by simp,by simp,by simp,fun _ _ _=>rfl⟩
theorem Kn.start2 {l m:Nat}{o q:Obj}(h:H l=o)(ho:o≠.none)(h2:H m=q)(hq:q≠.none)(hn:l≠m):Kn H H [(l,o),(m,q)] []:=
 ⟨by simp[h,ho,h2,hq],by simp[h,ho,h2,hq],by simp,by simp[hn],by simp,fun _ _ _=>rfl⟩
theorem Kn.e (hk:Kn H0 H E L)(i:Nat){l:Nat}{o:Obj}(h:E[i]? = some (l,o)):H l=o:=
 (hk.get (l,o) (Jh _ (Jb h))).1
theorem Kn.l (hk:Kn H0 H E L)(i:Nat){l:Nat}{o:Obj}(h:L[i]? = some (l,o)):H l=o:=
 (hk.get (l,o) (Jf _ (Jb h))).1
theorem Kn.free (hk:Kn H0 H E L)(i:Nat){l:Nat}{o:Obj}(h:L[i]? = some (l,o)):H0 l=.none:=hk.loc (l,o) (Jb h)
theorem Kn.un (hk:Kn H0 H E L)(i:Nat){l:Nat}{o:Obj}(h:L[i]? = some (l,o)):un H0 l=true:=Qyc (hk.free i h)
theorem Kn.usedE (hk:Kn H0 H E L)(i:Nat){l:Nat}{o:Obj}(h:E[i]? = some (l,o)):H0 l≠.none:=hk.ext (l,o) (Jb h)
theorem Kn.ne (hk:Kn H0 H E L)(i j:Nat){l m:Nat}{o q:Obj}(h:E[i]? = some (l,o))(h2:L[j]? = some (m,q)):l≠m:=fun hh=>by
 subst hh;exact hk.usedE i h (hk.free j h2)
theorem Qbn {L:List (Nat×Obj)}{p:Nat×Obj}(h:p∈L):p.1∈L.map Prod.fst:=List.mem_map_of_mem h
theorem Qf4 {L:List (Nat×Obj)}(hd:(L.map Prod.fst).Nodup){i j:Nat}{p q:Nat×Obj}(hi:L[i]? = some p)(hj:L[j]? = some q)(h:p.1=q.1):i=j:=by
 have h1:(L.map Prod.fst)[i]? = some p.1:=by simp[hi]
 have h2:(L.map Prod.fst)[j]? = some q.1:=by simp[hj]
 have hlt:i<(L.map Prod.fst).length:=(Jq.1 h1).1;exact (List.getElem?_inj hlt hd).1 (by rw[h1,h2,h])
theorem Kn.neL (hk:Kn H0 H E L)(i j:Nat){l m:Nat}{o q:Obj}(h:L[i]? = some (l,o))(h2:L[j]? = some (m,q))(hij:i≠j):l≠m:=fun hh=>
 hij (Qf4 hk.dL h h2 hh)
theorem Kn.newFree (hk:Kn H0 H E L){x:Nat}(hx:H x=.none):H0 x=.none∧x∉E.map Prod.fst∧x∉L.map Prod.fst:=by
 have hno:∀p∈E++L,p.1≠x:=fun p hp hh=>by
  obtain⟨h1,h2⟩:=hk.get p hp;rw[hh,hx]at h1;exact h2 h1.symm
 have hE:x∉E.map Prod.fst:=fun h=>by
  obtain⟨p,hp,hh⟩:=Ju.1 h;exact hno p (Jh _ hp) hh
 refine⟨?_,hE,fun h=>?_⟩
 ·cases h0:H0 x with
  |none=>rfl
  |_=>have:=hk.chg x (by rw[h0];simp) hE;rw[hx,h0]at this;simp at this
 ·obtain⟨p,hp,hh⟩:=Ju.1 h;exact hno p (Jf _ hp) hh
theorem Kn.alloc (hk:Kn H0 H E L){x:Nat}{o:Obj}(hx:H x=.none)(ho:o≠.none):Kn H0 (H.set x o) E (L++[(x,o)]):=by
 obtain⟨h1,h2,h3⟩:=hk.newFree hx;refine⟨fun p hp=>?_,hk.ext,fun p hp=>?_,hk.dE,?_,fun m hm hn=>?_⟩
 ·rw[←Jae]at hp;rcases Jd.1 hp with hp|hp
  ·have:p.1≠x:=fun hh=>by
    rcases Jd.1 hp with hp|hp
    ·exact h2 (hh▸Qbn hp)
    ·exact h3 (hh▸Qbn hp)
   rw[Heap.set_other _ _ this];exact hk.get p hp
  ·simp at hp;subst hp;exact⟨Heap.set_same _ _ _,ho⟩
 ·rcases Jd.1 hp with hp|hp
  ·exact hk.loc p hp
  ·simp at hp;subst hp;exact h1
 ·rw[Jat];refine Jap.2 ⟨hk.dL,by simp,fun a ha b hb=>?_⟩;simp at hb;subst hb;exact fun hh=>h3 (hh▸ha)
 ·have:m≠x:=fun hh=>by subst hh;exact hm h1
  rw[Heap.set_other _ _ this];exact hk.chg m hm hn
theorem Qc3 {L:List (Nat×Obj)}{i:Nat}{x:Nat}{o o':Obj}(h:L[i]? = some (x,o)):(L.set i (x,o')).map Prod.fst=L.map Prod.fst:=by
 rw[Ja1];refine List.ext_getElem? fun j=>?_;rw[J4];split
 ·rename_i hij
  subst hij;have hlt:=(Jq.1 h).1;rw[if_pos (by simpa using hlt)];simp[h]
 ·rfl
theorem Qb9 {α:Type}{L:List α}{i:Nat}{x p:α}(h:p∈L.set i x):p=x∨∃j,j≠i∧L[j]? = some p:=by
 obtain⟨j,hj⟩:=List.getElem?_of_mem h;rw[J4]at hj;split at hj
 ·split at hj
  ·simp at hj;exact .inl hj.symm
  ·simp at hj
 ·rename_i hn;exact .inr ⟨j,fun h=>hn h.symm,hj⟩
theorem Kn.setL (hk:Kn H0 H E L)(i:Nat){x:Nat}{o o':Obj}(h:L[i]? = some (x,o))(ho:o'≠.none):Kn H0 (H.set x o') E (L.set i (x,o')):=by
 have hf:=hk.free i h;refine⟨fun p hp=>?_,hk.ext,fun p hp=>?_,hk.dE,by rw[Qc3 h];exact hk.dL,fun m hm hn=>?_⟩
 ·rcases Jd.1 hp with hp|hp
  ·have:p.1≠x:=fun hh=>hk.ext p hp (hh▸hf);rw[Heap.set_other _ _ this];exact hk.get p (Jh _ hp)
  ·rcases Qb9 hp with rfl|⟨j,hj,hp⟩
   ·exact⟨Heap.set_same _ _ _,ho⟩
   ·have:p.1≠x:=fun hh=>hj (Qf4 hk.dL hp h hh);rw[Heap.set_other _ _ this];exact hk.get p (Jf _ (Jb hp))
 ·rcases Qb9 hp with rfl|⟨j,hj,hp⟩
  ·exact hf
  ·exact hk.loc p (Jb hp)
 ·have:m≠x:=fun hh=>by subst hh;exact hm hf
  rw[Heap.set_other _ _ this];exact hk.chg m hm hn
theorem Kn.setE (hk:Kn H0 H E L)(i:Nat){x:Nat}{o o':Obj}(h:E[i]? = some (x,o))(ho:o'≠.none):Kn H0 (H.set x o') (E.set i (x,o')) L:=by
 have hf:=hk.usedE i h;refine⟨fun p hp=>?_,fun p hp=>?_,hk.loc,by rw[Qc3 h];exact hk.dE,hk.dL,fun m hm hn=>?_⟩
 ·rcases Jd.1 hp with hp|hp
  ·rcases Qb9 hp with rfl|⟨j,hj,hp⟩
   ·exact⟨Heap.set_same _ _ _,ho⟩
   ·have:p.1≠x:=fun hh=>hj (Qf4 hk.dE hp h hh);rw[Heap.set_other _ _ this];exact hk.get p (Jh _ (Jb hp))
  ·have:p.1≠x:=fun hh=>hf (hh▸hk.loc p hp);rw[Heap.set_other _ _ this];exact hk.get p (Jf _ hp)
 ·rcases Qb9 hp with rfl|⟨j,hj,hp⟩
  ·exact hf
  ·exact hk.ext p (Jb hp)
 ·rw[Qc3 h]at hn;have:m≠x:=fun hh=>by subst hh;exact hn (Qbn (p:=(m,o)) (Jb h))
  rw[Heap.set_other _ _ this];exact hk.chg m hm hn
theorem Kn.app (hk:Kn H0 H E L)(i:Nat){y y':Nat}{o o':Obj}(h:L[i]? = some (y,o))(hy:(H.set y .none) y'=.none)(ho:o'≠.none) :
  Kn H0 ((H.set y .none).set y' o') E (L.set i (y',o')):=by
 have hf:=hk.free i h;have hyf:H0 y'=.none∧y'∉E.map Prod.fst∧∀(j:Nat) (p:Nat×Obj),j≠i→L[j]? = some p→p.1≠y':=by
  by_cases hyy:y'=y
  ·subst hyy;refine⟨hf,fun hh=>?_,fun j p hj hp hh=>hj (Qf4 hk.dL hp h hh)⟩;obtain⟨p,hp,hh⟩:=Ju.1 hh;exact hk.ext p hp (hh▸hf)
  ·rw[Heap.set_other _ _ hyy]at hy;obtain⟨h1,h2,h3⟩:=hk.newFree hy;exact⟨h1,h2,fun j p hj hp hh=>h3 (hh▸Qbn (Jb hp))⟩
 obtain⟨h1,h2,h3⟩:=hyf;refine⟨fun p hp=>?_,hk.ext,fun p hp=>?_,hk.dE,?_,fun m hm hn=>?_⟩
 ·rcases Jd.1 hp with hp|hp
  ·have a1:p.1≠y:=fun hh=>hk.ext p hp (hh▸hf);have a2:p.1≠y':=fun hh=>hk.ext p hp (hh▸h1);rw[Heap.set_other _ _ a2,Heap.set_other _ _ a1];exact hk.get p (Jh _ hp)
  ·rcases Qb9 hp with rfl|⟨j,hj,hp⟩
   ·exact⟨Heap.set_same _ _ _,ho⟩
   ·have a1:p.1≠y:=fun hh=>hj (Qf4 hk.dL hp h hh);rw[Heap.set_other _ _ (h3 j p hj hp),Heap.set_other _ _ a1];exact hk.get p (Jf _ (Jb hp))
 ·rcases Qb9 hp with rfl|⟨j,hj,hp⟩
  ·exact h1
  ·exact hk.loc p (Jb hp)
 ·rw[Ja1];refine Jad.2 fun a b ha hb hab=>?_;rw[List.length_set,List.length_map]at ha hb;have gl:∀(j:Nat) (hj:j<L.length),j≠i→L[j].1≠y':=fun j hj hji=>h3 j L[j] hji (Jm hj);have hd:=Jad.1 hk.dL a b (by simpa using ha) (by simpa using hb) hab;simp only[List.getElem_set,List.getElem_map]at hd⊢;by_cases e1:i=a
  ·subst e1;rw[if_pos rfl,if_neg (by omega)];exact fun hh=>gl b hb (by omega) hh.symm
  ·rw[if_neg e1];by_cases e2:i=b
   ·subst e2;rw[if_pos rfl];exact gl a ha (by omega)
   ·rw[if_neg e2];exact hd
 ·have a1:m≠y:=fun hh=>by subst hh;exact hm hf
  have a2:m≠y':=fun hh=>by subst hh;exact hm h1
  rw[Heap.set_other _ _ a2,Heap.set_other _ _ a1];exact hk.chg m hm hn
theorem Kn.callg (hk:Kn H0 H E L){U E2 L2:List (Nat×Obj)}(hu:Upd H H' U)(hE:E2.map Prod.fst=E.map Prod.fst)(hL:L2.map Prod.fst=L.map Prod.fst)
  (h:∀p∈E2++L2,p.2≠.none∧(p∈U∨(p∈E++L∧p.1∉U.map Prod.fst))) (hU:∀u∈U,u.1∈E.map Prod.fst∨u.1∈L.map Prod.fst):Kn H0 H' E2 L2:=by
 have hin:∀{A B:List (Nat×Obj)} {p:Nat×Obj},B.map Prod.fst=A.map Prod.fst→p∈B→∃q∈A,q.1=p.1:=fun hAB hp=>by
  have:=Qbn hp;rw[hAB]at this;obtain⟨q,h1,h2⟩:=Ju.1 this;exact⟨q,h1,h2⟩
 refine⟨fun p hp=>?_,fun p hp=>?_,fun p hp=>?_,by rw[hE];exact hk.dE,by rw[hL];exact hk.dL,fun m hm hn=>?_⟩
 ·obtain⟨h1,h2⟩:=h p hp;refine⟨?_,h1⟩;rcases h2 with h2|⟨h2,h3⟩
  ·exact hu.1 p h2
  ·obtain⟨a1,a2⟩:=hk.get p h2;rw[hu.2 p.1 (by rw[a1];exact a2) h3,a1]
 ·obtain⟨q,hq,hh⟩:=hin hE hp;rw[←hh];exact hk.ext q hq
 ·obtain⟨q,hq,hh⟩:=hin hL hp;rw[←hh];exact hk.loc q hq
 ·rw[hE]at hn;have h0:=hk.chg m hm hn;rw[hu.2 m (by rw[h0];exact hm) (fun hh=>?_),h0];obtain⟨u,hu1,hu2⟩:=Ju.1 hh;rcases hU u hu1 with a|a
  ·exact hn (hu2▸a)
  ·obtain⟨q,hq,hh⟩:=Ju.1 a;exact hm (by rw[←hu2,←hh];exact hk.loc q hq)
theorem Kn.call0 (hk:Kn H0 H E L)(hu:Upd H H' []):Kn H0 H' E L:=hk.callg hu rfl rfl (fun p hp=>⟨(hk.get p hp).2,.inr ⟨hp,by simp⟩⟩) (by simp)
theorem Kn.callE (hk:Kn H0 H E L)(i:Nat){l:Nat}{o o':Obj}(h:E[i]? = some (l,o))(hu:Upd H H' [(l,o')])(ho:o'≠.none):Kn H0 H' (E.set i (l,o')) L:=by
 refine hk.callg hu (Qc3 h) rfl (fun p hp=>?_) (fun u hu=>by simp at hu;subst hu;exact .inl (Qbn (p:=(l,o)) (Jb h)));rcases Jd.1 hp with hp|hp
 ·rcases Qb9 hp with rfl|⟨j,hj,hp⟩
  ·exact⟨ho,.inl (by simp)⟩
  ·have hm:=Jh L (Jb hp);exact⟨(hk.get p hm).2,.inr ⟨hm,by simp;exact fun hh=>hj (Qf4 hk.dE hp h hh)⟩⟩
 ·have hm:=Jf E hp;exact⟨(hk.get p hm).2,.inr ⟨hm,by simp;exact fun hh=>hk.usedE i h (hh▸hk.loc p hp)⟩⟩
theorem Kn.callL (hk:Kn H0 H E L)(i:Nat){l:Nat}{o o':Obj}(h:L[i]? = some (l,o))(hu:Upd H H' [(l,o')])(ho:o'≠.none):Kn H0 H' E (L.set i (l,o')):=by
 refine hk.callg hu rfl (Qc3 h) (fun p hp=>?_) (fun u hu=>by simp at hu;subst hu;exact .inr (Qbn (p:=(l,o)) (Jb h)));rcases Jd.1 hp with hp|hp
 ·have hm:=Jh L hp;exact⟨(hk.get p hm).2,.inr ⟨hm,by simp;exact fun hh=>hk.ext p hp (hh▸hk.free i h)⟩⟩
 ·rcases Qb9 hp with rfl|⟨j,hj,hp⟩
  ·exact⟨ho,.inl (by simp)⟩
  ·have hm:=Jf E (Jb hp);exact⟨(hk.get p hm).2,.inr ⟨hm,by simp;exact fun hh=>hj (Qf4 hk.dL hp h hh)⟩⟩
theorem Kn.callEE (hk:Kn H0 H E L)(i j:Nat){l m:Nat}{o o' q q':Obj}(h:E[i]? = some (l,o))(h2:E[j]? = some (m,q))(hij:i≠j)(hu:Upd H H' [(l,o'),(m,q')])(ho:o'≠.none)(hq:q'≠.none) :
  Kn H0 H' ((E.set i (l,o')).set j (m,q')) L:=by
 have h2':(E.set i (l,o'))[j]? = some (m,q):=by rw[J4];rw[if_neg hij];exact h2
 refine hk.callg hu ((Qc3 h2').trans (Qc3 h)) rfl (fun p hp=>?_) (fun u hu=>?_)
 ·rcases Jd.1 hp with hp|hp
  ·rcases Qb9 hp with rfl|⟨b,hb,hp⟩
   ·exact⟨hq,.inl (by simp)⟩
   ·rcases Qb9 (Jb hp)with rfl|⟨c,hc,hp'⟩
    ·exact⟨ho,.inl (by simp)⟩
    ·have hm:=Jh L (Jb hp');rw[J4]at hp;split at hp
     ·rename_i hib
      split at hp
      ·simp at hp;subst hp;exact⟨ho,.inl (by simp)⟩
      ·simp at hp
     ·rename_i hib
      refine⟨(hk.get p hm).2,.inr ⟨hm,?_⟩⟩;simp only[Jt,Jaq,Ji,J8,or_false,not_or];exact⟨fun hh=>hib (Qf4 hk.dE hp h hh).symm,fun hh=>hb (Qf4 hk.dE hp h2 hh)⟩
  ·have hm:=Jf E hp;refine⟨(hk.get p hm).2,.inr ⟨hm,?_⟩⟩;simp only[Jt,Jaq,Ji,J8,or_false,not_or];exact⟨fun hh=>hk.usedE i h (hh▸hk.loc p hp),fun hh=>hk.usedE j h2 (hh▸hk.loc p hp)⟩
 ·simp at hu;rcases hu with rfl|rfl
  ·exact .inl (Qbn (p:=(l,o)) (Jb h))
  ·exact .inl (Qbn (p:=(m,q)) (Jb h2))
theorem Kn.fin (hk:Kn H0 H E L):Upd H0 (H.frz (Go.AE.un H0)) E:=by
 refine⟨fun p hp=>?_,fun m hm hn=>?_⟩
 ·rw[Qbe3 (hk.ext p hp)];exact (hk.get p (Jh _ hp)).1
 ·rw[Qbe3 hm];exact hk.chg m hm hn
abbrev unK (H:Heap)(K:V→Heap→Prop):V→Heap→Prop
 |.pn v,H'=>K (.pn v) (H'.frz (un H))
 |x,H'=>∃x',FrzV H' (un H) x x'∧K x' (H'.frz (un H))
theorem Qbl5 {K:V→Heap→Prop}{H0:Heap}{x:C}:unK H0 K (.c x) H=∃x',FrzV H (un H0) (.c x) x'∧K x' (H.frz (un H0)):=rfl
theorem Qbkp {K:V→Heap→Prop}{H0:Heap}{x:List C}:unK H0 K (.ag x) H=∃x',FrzV H (un H0) (.ag x) x'∧K x' (H.frz (un H0)):=rfl
theorem Qbib {K:V→Heap→Prop}{H0:Heap}{x:List V}:unK H0 K (.tup x) H=∃x',FrzV H (un H0) (.tup x) x'∧K x' (H.frz (un H0)):=rfl
theorem Qbic {K:V→Heap→Prop}{H0:Heap}:unK H0 K .unk H=∃x',FrzV H (un H0) .unk x'∧K x' (H.frz (un H0)):=rfl
theorem Qbkq {K:V→Heap→Prop}{H0:Heap}{v:Value}:unK H0 K (.pn v) H=K (.pn v) (H.frz (un H0)):=rfl
attribute [go_sem] Qbl5 Qbkp Qbib Qbic Qbkq
theorem Q5 {f:Nat}{args:List V}{K:V→Heap→Prop}(h:Ql P f args H (unK H K)):Ql P f args H K:=
 Qa5p (Qa1r h fun x H' hx=>by
  cases x with
  |pn v=>exact⟨un H,hx⟩
  |_=>
   obtain⟨x',h1,h2⟩:=hx;exact⟨un H,x',h1,h2⟩)
theorem Kn.al (hk:Kn H0 H E L){x:Nat}{o:Obj}(hx:H x=.none)(h1:H'=H.set x o)(ho:o≠.none:=by nofun):Kn H0 H' E (L++[(x,o)]):=h1▸hk.alloc hx ho
theorem Kn.stL (hk:Kn H0 H E L)(i:Nat){x:Nat}{o o':Obj}(h:L[i]? = some (x,o))(h1:H'=H.set x o')(ho:o'≠.none:=by nofun):Kn H0 H' E (L.set i (x,o')):=h1▸hk.setL i h ho
theorem Kn.stE (hk:Kn H0 H E L)(i:Nat){x:Nat}{o o':Obj}(h:E[i]? = some (x,o))(h1:H'=H.set x o')(ho:o'≠.none:=by nofun):Kn H0 H' (E.set i (x,o')) L:=h1▸hk.setE i h ho
theorem Kn.ap (hk:Kn H0 H E L)(i:Nat){y y':Nat}{o o':Obj}(h:L[i]? = some (y,o))(hy:(H.set y .none) y'=.none)(h1:H'=(H.set y .none).set y' o')(ho:o'≠.none:=by nofun):Kn H0 H' E (L.set i (y',o')):=h1▸hk.app i h hy ho
end Go.AE
namespace Go.AE.Y
theorem Q1 {x:Int}(h1:-(2^63)≤x)(h2:x<2^63):inR .i64 x:=by
 unfold inR;have a1:IntKind.min .i64=-(2^63):=by decide
 have a2:IntKind.max .i64=2^63-1:=by decide
 rw[a1,a2];omega
theorem Qazx (b:UInt8):inR .i64 (b.toNat:Int):=Q1 (by omega) (by have:=b.toNat_lt;omega)
def Qch (bs:List UInt8):List (List C):=bs.map fun b=>[.int .u8 b.toNat]
theorem Qb0 (bs:List UInt8):(Qch bs).length=bs.length:=by simp[Qch]
theorem Q88 (bs:List UInt8)(i:Nat)(h:i<bs.length):(Qch bs).getD i []=[.int .u8 (bs.getD i 0).toNat]:=by
 simp[Qch,Jg,h]
theorem Qbih {a b:Int}(ha:0≤a)(hb:0≤b)(ha':a<2^62)(hb':b<2^62):0≤Qa1w .xor .i64 a b:=by
 obtain⟨m,rfl⟩:=Js ha;obtain⟨n,rfl⟩:=Js hb;have hm:m<2^62:=by omega
 have hn:n<2^62:=by omega
 have hx:m ^^^ n<2^62:=Nat.xor_lt_two_pow hm hn;have h1:(BitVec.ofInt (IntKind.bits .i64) (m:Int) ^^^ BitVec.ofInt (IntKind.bits .i64) (n:Int)).toNat=m ^^^ n:=by
  have hb:IntKind.bits .i64=64:=rfl;rw[hb,BitVec.toNat_xor];have e1:(BitVec.ofInt 64 (m:Int)).toNat=m:=by simp;omega
  have e2:(BitVec.ofInt 64 (n:Int)).toNat=n:=by simp;omega
  rw[e1,e2]
 simp only[Qa1w];rw[h1];simp only[IntKind.wrap];have hb:IntKind.bits .i64=64:=rfl;have hm:((m ^^^ n:Nat):Int) % 2 ^ 64=(m ^^^ n:Nat):=Int.emod_eq_of_lt (by omega) (by omega);rw[hb,hm];rw[if_neg]
 ·omega
 ·simp only[Ja,decide_eq_true_eq,not_and];intro _;omega
structure Rdr where
 l:Nat
 fl:Bool
 bs:List UInt8
def Rdr.o (R:Rdr)(k:Nat):Obj:=.st [.sl R.fl 1 (Qch R.bs),.int .i64 k]
theorem Rdr.o_ne (R:Rdr)(k:Nat):R.o k≠.none:=by simp[Rdr.o]
def Qm (ns:List Int):List (List C):=ns.map fun n=>[.int .i64 n]
theorem Qv (ns:List Int):(Qm ns).length=ns.length:=by simp[Qm]
theorem Qb3 (ns:List Int)(i:Nat)(h:i<ns.length):(Qm ns).getD i []=[.int .i64 (ns.getD i 0)]:=by
 simp[Qm,Jg,h]
theorem Qav6 (a:List Int)(n:Int):Qm a++[[.int .i64 n]]=Qm (a++[n]):=by simp[Qm]
theorem Qa7 (ns:List Int):∀r∈Qm ns,noOw r=true:=by
 intro r hr;simp[Qm]at hr;obtain⟨n,_,rfl⟩:=hr;rfl
def Q0 (ss:List (List UInt8)):List (List C):=ss.map fun s=>[.str s]
theorem Qo (ss:List (List UInt8)):(Q0 ss).length=ss.length:=by simp[Q0]
theorem Qbo (ss:List (List UInt8))(i:Nat)(h:i<ss.length):(Q0 ss).getD i []=[.str (ss.getD i [])]:=by
 simp[Q0,Jg,h]
theorem Qa5b:Q0 []=[]:=rfl
theorem Q34 (a:List (List UInt8))(n:List UInt8):Q0 a++[[.str n]]=Q0 (a++[n]):=by simp[Q0]
theorem Qaw (ns:List (List UInt8)):∀r∈Q0 ns,noOw r=true:=by
 intro r hr;simp[Q0]at hr;obtain⟨n,_,rfl⟩:=hr;rfl
theorem Qqk {rows:List (List C)}(h:∀r∈rows,noOw r=true):∀r∈rows,∀c∈r,c.isOw=false:=fun r hr c hc=>by
 have:=h r hr;simp only[noOw,J6]at this;simpa using this c hc
theorem noOw_app {a b:List (List C)}(ha:∀r∈a,noOw r=true)(hb:∀r∈b,noOw r=true):∀r∈a++b,noOw r=true:=fun r hr=>by
 rcases Jd.1 hr with h|h
 ·exact ha r h
 ·exact hb r h
inductive Ex where
 |mk (op n:Int) (name:List UInt8) (kids:List Ex)
def Ex.op:Ex→Int|.mk op _ _ _=>op
def Ex.n:Ex→Int|.mk _ n _ _=>n
def Ex.name:Ex→List UInt8|.mk _ _ s _=>s
def Ex.kids:Ex→List Ex|.mk _ _ _ k=>k
mutual
def Ex.cells:Ex→List C
 |.mk op n name kids=>[.int .i64 op,.int .i64 n,.str name,.sl false 4 (Qt kids)]
def Qt:List Ex→List (List C)
 |[]=>[]
 |x::r=>x.cells::Qt r
end
theorem Ex.cells_eq (x:Ex):x.cells=[.int .i64 x.op,.int .i64 x.n,.str x.name,.sl false 4 (Qt x.kids)]:=by
 cases x;simp[Ex.cells,Ex.op,Ex.n,Ex.name,Ex.kids]
theorem Qt8 (l:List Ex):Qt l=l.map Ex.cells:=by
 induction l with
 |nil=>simp[Qt]
 |cons x r ih=>simp[Qt,ih]
theorem Qj (l:List Ex):(Qt l).length=l.length:=by simp[Qt8]
theorem Qr (l:List Ex)(i:Nat)(h:i<l.length):(Qt l).getD i []=(l[i]'h).cells:=by
 simp[Qt8,Jg,h]
theorem Qe9 (a:List Ex)(x:Ex):Qt a++[x.cells]=Qt (a++[x]):=by simp[Qt8]
theorem Ex.noOw (x:Ex):Go.AE.noOw x.cells=true:=by rw[x.cells_eq];rfl
theorem Qa4 (l:List Ex):∀r∈Qt l,Go.AE.noOw r=true:=by
 intro r hr;rw[Qt8]at hr;obtain⟨x,_,rfl⟩:=Ju.1 hr;exact x.noOw
theorem Ex.cells_len (x:Ex):x.cells.length=4:=by rw[x.cells_eq];rfl
mutual
def Ex.size:Ex→Nat
 |.mk _ _ _ kids=>1+Qu kids
def Qu:List Ex→Nat
 |[]=>0
 |x::r=>x.size+Qu r
end
mutual
def Ex.ok:Ex→Prop
 |.mk op _ _ kids=>(op=10→kids.length=2)∧Qdn kids
def Qdn:List Ex→Prop
 |[]=>True
 |x::r=>x.ok∧Qdn r
end
theorem Qa6e {a b:List Ex}(ha:Qdn a)(hb:Qdn b):Qdn (a++b):=by
 induction a with
 |nil=>exact hb
 |cons x r ih=>simp only[Qdn]at ha;exact⟨ha.1,ih ha.2⟩
theorem Qey (a b:List Ex):Qu (a++b)=Qu a+Qu b:=by
 induction a with
 |nil=>simp[Qu]
 |cons x r ih=>simp[Qu,ih];omega
theorem Ex.size_pos (x:Ex):1≤x.size:=by cases x;simp[Ex.size]
theorem Qau {l:List Ex}{x:Ex}(h:x∈l):x.size≤Qu l:=by
 induction l with
 |nil=>simp at h
 |cons y r ih=>
  simp only[Qu];rcases Ji.1 h with rfl|h
  ·omega
  ·have:=ih h;omega
theorem Ex.size_kids (x:Ex):x.size=1+Qu x.kids:=by cases x;simp[Ex.size,Ex.kids]
theorem Ex.ok_kids {x:Ex}(h:x.ok):Qdn x.kids:=by cases x;simp only[Ex.ok]at h;exact h.2
theorem Ex.ok_and {x:Ex}(h:x.ok)(h1:x.op=10):x.kids.length=2:=by cases x;simp only[Ex.ok]at h;exact h.1 h1
theorem Ex.frz {H:Heap}{S:Nat→Bool}{fl:Bool}(x:Ex):FrzV H S (.ag [.int .i64 x.op,.int .i64 x.n,.str x.name,.sl fl 4 (Qt x.kids)]) (.ag x.cells):=by
 rw[x.cells_eq];exact (FrzL.cons (Qg rfl) (FrzL.cons (Qg rfl) (FrzL.cons (Qg rfl) (FrzL.cons (Qaob (Qqk (Qa4 _))) FrzL.nil)))).ag
end Go.AE.Y
attribute [go_sem_proc] reduceIte reduceEqDiff reduceAdd reduceLeDiff reduceLT reduceCtorEq
namespace Go.AE.Y
open Go.Proofs.Tryz
theorem Qal:prog.follows .mixedOrders=true:=by kernel_rfl
theorem Qbho (l : Nat) (fl : Bool) (bs : List UInt8) (k : Nat) (n : Int) (H : Heap) (K : V → Heap → Prop)
   (hH : H l = .st [.sl fl 1 (Qch bs), .int .i64 k]) (hp' : k ≤ 2^40)
   (hK : ∀ v : Int, (if n < 1 then v = 0 else 0 ≤ v ∧ v < n) → K (.c (.int .i64 v)) (H.set l (.st [.sl fl 1 (Qch bs), .int .i64 ((k + 1 : Nat) : Int)]))) :
   Ql prog Qz [.c (.ptr l 0), .c (.int .i64 n)] H K := by
  refine Qc Qal Qarh ?_;refine Qa ?_;simp only [go_sem, Nat.reduceEqDiff, Nat.reduceAdd];refine Qa ?_;simp only [go_sem, Nat.reduceEqDiff, Nat.reduceAdd, Nat.reduceLT, hH];refine ⟨Q1 (by omega) (by omega), fun H2 hH2' => ?_⟩;have hH2 : H2 l = .st [C.sl fl 1 (Qch bs), C.int IntKind.i64 (k + 1)] := by rw [hH2']; exact Heap.set_same _ _ _
  have hK2 : ∀ v : Int, (if n < 1 then v = 0 else 0 ≤ v ∧ v < n) → K (.c (.int .i64 v)) H2 := by
    intro v hv; rw [hH2']; exact hK v hv
  clear hK;refine Q6 ?_;refine Qa ?_;simp only [go_sem, Qb0, Nat.reduceEqDiff, Nat.reduceAdd, Nat.reduceLeDiff, hH2];intro _;refine Qf (Qb rfl ?_ ?_)
  · intro hc;refine Qa ?_;simp only [go_sem, Nat.reduceEqDiff];refine Qh ?_;simp only [go_sem, Qp, Q8, Qm4, Jj, forall_eq, RS.op];refine hK2 0 ?_;split <;> omega
  · intro hc;refine Qe ?_;simp only [go_sem];have hn : 1 ≤ n ∧ bs.length ≠ 0 := by
      simp only [cond_eq_ite] at hc;split at hc
      · simp at hc
      · simp at hc; simp_all
    refine Qa ?_;simp only [go_sem, Nat.reduceEqDiff, Nat.reduceAdd, hH2];refine ⟨Q1 (by omega) (by omega), ?_⟩;refine Q6 ?_;refine Qa ?_;simp only [go_sem, Qb0, Nat.reduceEqDiff, Nat.reduceAdd, Nat.reduceLeDiff, hH2];intro hl;refine Qf (Qb rfl ?_ ?_)
    · intro hc2;have hk : k < bs.length := (by simpa using hc2);refine Qa ?_;simp only [go_sem, Qb0, Qazx, Nat.reduceEqDiff, Nat.reduceAdd, Nat.reduceLeDiff, hH2, hk, Q88];refine ⟨by omega, ?_⟩;refine Qh ?_;simp only [go_sem, Qp, Q8, Qm4, Jj, forall_eq, RS.op];refine hK2 _ ?_;rw [if_neg (by omega)];exact ⟨Jai _ (by omega), Jab _ (by omega)⟩
    · intro hc2;refine Qe ?_;simp only [go_sem];refine Qa1 ?_;have e1 : ((k : Int).tmod (bs.length : Int)) = ((k % bs.length : Nat) : Int) := rfl;have e2 : (((k : Int) * 7 + 3).tmod (bs.length : Int)) = (((k * 7 + 3) % bs.length : Nat) : Int) := rfl;have h1 : k % bs.length < bs.length := Nat.mod_lt _ (by omega);have h2 : (k * 7 + 3) % bs.length < bs.length := Nat.mod_lt _ (by omega);simp only [go_sem, Qb0, Qazx, Nat.reduceEqDiff, Nat.reduceAdd, Nat.reduceLeDiff, hH2, e1, e2, h1, h2, Q88];have e3 : (k : Int).tdiv (bs.length : Int) = ((k / bs.length : Nat) : Int) := rfl;have h3 : k / bs.length ≤ k := Nat.div_le_self _ _;rw [e3];have h4 := (bs.getD (k % bs.length) 0).toNat_lt;have h5 := (bs.getD ((k * 7 + 3) % bs.length) 0).toNat_lt;generalize (bs.getD (k % bs.length) 0).toNat = b1 at *;generalize (bs.getD ((k * 7 + 3) % bs.length) 0).toNat = b2 at *;generalize k / bs.length = d at *;clear e1 e2 h1 h2 e3;refine ⟨by omega, Q1 (by omega) (by omega), Q1 (by omega) (by omega), Q1 (by omega) (by omega), by omega, Q1 (by omega) (by omega), Q1 (by omega) (by omega),
        Q1 (by omega) (by omega), Q1 (by omega) (by omega), ⟨by omega, Q1 (by omega) (by omega)⟩, Q1 (by omega) (by omega), Q1 (by omega) (by omega), ?_⟩
      have hx : 0 ≤ (b1 : Int) * 131 + b2 * 1117 + k * 29 + d * 53 := (by omega);have hx' : (b1 : Int) * 131 + b2 * 1117 + k * 29 + d * 53 < 2 ^ 62 := (by omega);generalize (b1 : Int) * 131 + b2 * 1117 + k * 29 + d * 53 = x at *;refine Qa ?_;simp only [go_sem, Nat.reduceEqDiff];have hq : 0 ≤ x.tdiv 64 := Int.tdiv_nonneg hx (by omega);have hq' : x.tdiv 64 ≤ x := (by have := Int.tdiv_le_self (a := x) 64 hx; exact this);refine ⟨⟨by omega, Q1 (by omega) (by omega)⟩, ?_⟩;have hy := Qbih hx hq hx' (by omega);generalize Qa1w .xor .i64 x (x.tdiv 64) = y at *;refine Qa ?_;simp only [go_sem, Nat.reduceEqDiff];refine ⟨by omega, ?_⟩;refine Qh ?_;simp only [go_sem, Qp, Q8, Qm4, Jj, forall_eq, RS.op];refine hK2 _ ?_;rw [if_neg (by omega)];exact ⟨Jai _ (by omega), Jab _ (by omega)⟩
theorem Qbx {R:Rdr}{k:Nat}{n:Int}{H:Heap}{K:V→Heap→Prop}(hH:H R.l=R.o k)(hk:k≤2^40)
  (hK:∀(v:Int) (H':Heap),(if n<1 then v=0 else 0≤v∧v<n)→Upd H H' [(R.l,R.o (k+1))]→K (.c (.int .i64 v)) H') :
  Ql prog Qz [.c (.ptr R.l 0),.c (.int .i64 n)] H K:=
 Qbho R.l R.fl R.bs k n H K hH hk fun v hv=>hK v _ hv ⟨by simp[Heap.set_same,Rdr.o],fun m _ hm=>Heap.set_other _ _ (by simpa using hm)⟩
theorem Qo3 {R:Rdr}{k:Nat}{fl:Bool}{ns:List Int}{H:Heap}{K:V→Heap→Prop}(hH:H R.l=R.o k)(hk:k≤2^40)(hns:0<ns.length)
  (hK:∀(v:Int) (H':Heap),v∈ns→Upd H H' [(R.l,R.o (k+1))]→K (.c (.int .i64 v)) H') :
  Ql prog Qak [.c (.ptr R.l 0),.c (.sl fl 1 (Qm ns))] H K:=by
 refine Qc Qal Qawe ?_;refine Qa ?_;simp only[go_sem];refine Qa ?_;simp only[go_sem,Qv];intro hl;refine Qbx hH hk fun v H' hv hu=>?_;rw[if_neg (by omega)]at hv;obtain⟨i,rfl⟩:=Js hv.1;have hi:i<ns.length:=by omega
 simp only[go_sem,Q07,Qv,Qb3,hi];refine Qh ?_;simp only[go_sem,Qp,Q8,Qm4,Jj,forall_eq,RS.op];refine hK _ H' ?_ hu;rw[Jg,Jm hi];exact Jag hi
theorem of_c {R:Rdr}{k:Nat}{fl:Bool}{ss:List (List UInt8)}{H:Heap}{K:V→Heap→Prop}(hH:H R.l=R.o k)(hk:k≤2^40)(hns:0<ss.length)
  (hK:∀(v:List UInt8) (H':Heap),v∈ss→Upd H H' [(R.l,R.o (k+1))]→K (.c (.str v)) H') :
  Ql prog Qbd [.c (.ptr R.l 0),.c (.sl fl 1 (Q0 ss))] H K:=by
 refine Qc Qal Qa2k ?_;refine Qa ?_;simp only[go_sem];refine Qa ?_;simp only[go_sem,Qo];intro hl;refine Qbx hH hk fun v H' hv hu=>?_;rw[if_neg (by omega)]at hv;obtain⟨i,rfl⟩:=Js hv.1;have hi:i<ss.length:=by omega
 simp only[go_sem,Q5g,Qo,Qbo,hi];refine Qh ?_;simp only[go_sem,Qp,Q8,Qm4,Jj,forall_eq,RS.op];refine hK _ H' ?_ hu;rw[Jg,Jm hi];exact Jag hi
theorem Qa0g {R:Rdr}{k:Nat}{fl:Bool}{ss:List (List UInt8)}{H:Heap}{K:V→Heap→Prop}(hH:H R.l=R.o k)(hk:k+2≤2^40)
  (hK:∀(x:Ex) (H':Heap) (k':Nat),k<k'→k'≤k+2→Upd H H' [(R.l,R.o k')]→x.ok→x.size=1→K (.ag x.cells) H') :
  Ql prog Quf [.c (.ptr R.l 0),.c (.sl fl 1 (Q0 ss))] H K:=by
 refine Q5 ?_;refine Qc Qal Qa0t ?_;refine Qa ?_;simp only[go_sem];intro x hx H1 h1;have kn:=(Kn.start1 hH (R.o_ne k)).al hx h1;refine Q6 ?_;refine Qa ?_;simp only[go_sem,Qo];intro hl;have rest:∀(b:Bool) (H2:Heap) (k2:Nat),k≤k2→k2≤k+1→Kn H H2 [(R.l,R.o k2)] [(x,.st [.int .i64 0,.int .i64 0,.str [],.sl true 4 []])]→(b=false→0<ss.length)→
   Q3 prog (s_l2Leaf_2.seq Q8e) (Qp Qm5 (unK H K)) [(0,V.c (C.ptr R.l 0)),(1,V.c (C.sl fl 1 (Q0 ss))),(4,V.c (C.ptr x 0)),(12,V.c (.bool b))] H2:=by
  intro b H2 k2 hk1 hk2 kn hb;refine Qf (Qb rfl ?_ ?_)
  ·intro hb';refine Qa ?_;simp only[go_sem];refine Qo3 (ns:=[0,1,2,3,5,7,15,16,100,255]) (kn.e 0 rfl) (by omega) (by simp) fun v H3 hv hu=>?_;have kn:=kn.callE 0 rfl hu (R.o_ne _);have hx3:=kn.l 0 rfl;simp only[go_sem,Q22,hx3];intro H4 h4;have kn:=kn.stL 0 rfl h4;have hx4:=kn.l 0 rfl;refine Qh ?_;simp only[go_sem,Qp,Q8,Qm5,Jj,forall_eq,RS.op,hx4];refine⟨_,(Ex.mk 1 v [] []).frz,hK _ _ (k2+1) (by omega) (by omega) kn.fin ?_ ?_⟩
   ·simp[Ex.ok,Qdn]
   ·simp[Ex.size,Qu]
  ·intro hb';refine Qe ?_;simp only[go_sem];refine Qa ?_;simp only[go_sem];refine of_c (kn.e 0 rfl) (by omega) (hb hb') fun v H3 hv hu=>?_;have kn:=kn.callE 0 rfl hu (R.o_ne _);have hx3:=kn.l 0 rfl;simp only[go_sem,Q23,hx3];intro H4 h4;have kn:=kn.stL 0 rfl h4;have hx4:=kn.l 0 rfl;refine Qh ?_;simp only[go_sem,Qp,Q8,Qm5,Jj,forall_eq,RS.op,hx4];refine⟨_,(Ex.mk 2 0 v []).frz,hK _ _ (k2+1) (by omega) (by omega) kn.fin ?_ ?_⟩
   ·simp[Ex.ok,Qdn]
   ·simp[Ex.size,Qu]
 refine⟨fun hb=>?_,fun hb=>?_⟩
 ·refine Qbx (kn.e 0 rfl) (by omega) fun v H2 hv hu=>?_;have kn:=kn.callE 0 rfl hu (R.o_ne _);simp only[go_sem,Ql4];refine rest _ H2 (k+1) (by omega) (by omega) kn ?_;intro h;have:¬ss.length=0:=by simpa using hb
  omega
 ·have hb2:decide ((ss.length:Int)=0)=true:=by simpa using hb
  simp only[go_sem,Ql4,hb2];exact rest true H1 k (by omega) (by omega) kn (fun h=>by simp at h)
variable {H:Heap}{K:V→Heap→Prop}
theorem Qa65 {fl:Bool}{bs:List UInt8}(hK:∀(R:Rdr) (H':Heap),H R.l=.none→H'=H.set R.l (R.o 0)→K (.c (.ptr R.l 0)) H'):Ql prog Q6e [.c (.sl fl 1 (Qch bs))] H K:=by
 refine Qc Qal Qa7p ?_;refine Qa ?_;simp only[go_sem];refine Q6 ?_;refine Qa ?_;simp only[go_sem,Qb0];intro _;have tail:∀(fl:Bool) (bs:List UInt8) (E1:Env),lk 0 E1=.c (.sl fl 1 (Qch bs))→Q3 prog Qafy (Qp Qcu K) E1 H:=by
  intro fl bs E1 l0;refine Qa ?_;simp only[go_sem,l0];intro l hl H' h';simp only[go_sem,Q9s];refine Qh ?_;simp only[go_sem,Qp,Q8,Qcu,Jj,forall_eq,RS.op];exact hK ⟨l,fl,bs⟩ H' hl h'
 refine Qf (Qb rfl ?_ ?_)
 ·intro hc;have h2:(2000:Int)<bs.length:=by simpa using hc
  refine Qq ?_;simp only[go_sem,Qb0];refine⟨⟨by omega,by omega,by omega⟩,?_⟩;have ht:List.take 2000 (Qch bs)=Qch (bs.take 2000):=by simp[Qch,List.map_take]
  rw[ht];exact tail _ (bs.take 2000) _ (by simp[lk];rfl)
 ·intro hc;refine Qe ?_;exact tail fl bs _ (by simp[lk])
end Go.AE.Y
namespace Go.AE.Y
open Go.Proofs.Tryz
theorem Q4i {R : Rdr} {fl : Bool} {ss : List (List UInt8)} : ∀ (d : Nat) {k : Nat} {H : Heap} {K : V → Heap → Prop} (deep : Int), deep ≤ d → H R.l = R.o k → k + 6 * 2^d ≤ 2^40 →
    (∀ (x : Ex) (H' : Heap) (k' : Nat), k < k' → k' + 3 ≤ k + 6 * 2^d → Upd H H' [(R.l, R.o k')] → x.ok → k + x.size ≤ k' → K (.ag x.cells) H') →
    Ql prog Qdr [.c (.ptr R.l 0), .c (.sl fl 1 (Q0 ss)), .c (.int .i64 deep)] H K := by
  intro d
  induction d using Nat.strongRecOn with
  | ind d ih =>
  intro k H K deep hd hH hk hK;have hp1 : 1 ≤ 2^d := Jan;have hp0 : d < 2^d := Nat.lt_two_pow_self;refine Q5 ?_;refine Qc Qal Qa0q ?_;refine Qa ?_;simp only [go_sem];intro x hx H1 h1;have kn := (Kn.start1 hH (R.o_ne k)).al hx h1;refine Q6 ?_;refine Qa ?_;simp only [go_sem];have rest : ∀ (b : Bool) (H2 : Heap) (k2 : Nat), k ≤ k2 → k2 ≤ k + 1 → Kn H H2 [(R.l, R.o k2)] [(x, .st [.int .i64 0, .int .i64 0, .str [], .sl true 4 []])] → (b = false → 2 ≤ deep) →
      Q3 prog (s_l2Expr_2.seq Q2p) (Qp Qqn (unK H K))
       [(0, V.c (C.ptr R.l 0)), (1, V.c (C.sl fl 1 (Q0 ss))), (2, .c (.int .i64 deep)), (6, V.c (C.ptr x 0)), (14, V.c (.bool b))] H2 := by
    intro b H2 k2 hk1 hk2 kn hb;have fin : ∀ (op n : Int) (name : List UInt8) (fl : Bool) (kids : List Ex) (H3 : Heap) (k3 : Nat) (o : Obj), k < k3 → k3 + 3 ≤ k + 6 * 2^d → Kn H H3 [(R.l, R.o k3)] [(x, .st [.int .i64 op, .int .i64 n, .str name, .sl fl 4 (Qt kids)])] →
        (op = 10 → kids.length = 2) → Qdn kids → k + 1 + Qu kids ≤ k3 →
        Q8 Qqn [(6, V.c (C.ptr x 0))] H3 (unK H K) := by
      intro op n name fl kids H3 k3 o g1 g2 kn g3 g4 g5;have hx3 := kn.l 0 rfl;simp only [go_sem, Q8, Qqn, Jj, forall_eq, RS.op, hx3];refine ⟨_, (Ex.mk op n name kids).frz, hK _ _ k3 g1 g2 kn.fin ?_ ?_⟩
      · simp only [Ex.ok]; exact ⟨g3, g4⟩
      · simp only [Ex.size]; omega
    refine Qf (Qb rfl ?_ ?_)
    · intro hb';refine Qa ?_;simp only [go_sem];refine Qa0g (kn.e 0 rfl) (by omega) fun y H3 k3 g1 g2 hu hok hsz => ?_;have kn := kn.callE 0 rfl hu (R.o_ne _);have hx3 := kn.l 0 rfl;simp only [go_sem, Q2q, hx3, y.cells_eq];intro H4 h4;have kn := kn.stL 0 rfl h4;refine Qh ?_;simp only [go_sem, Qp];refine fin _ _ _ _ _ _ k3 .none (by omega) (by omega) kn (Ex.ok_and hok) (Ex.ok_kids hok) ?_;have := y.size_kids; omega
    · intro hb';have hdp := hb hb';have hp : 2^d = 2 * 2^(d-1) := (by rw [← Nat.pow_succ']; congr 1; omega);have hp2 : 1 ≤ 2^(d-1) := Jan;have ihd := fun {k H K} => @ih (d-1) (by omega) k H K;generalize 2^(d-1) = e at *;refine Qe ?_;simp only [go_sem];refine Q6 ?_;refine Qa ?_;simp only [go_sem];refine Qbx (kn.e 0 rfl) (by omega) fun v H3 hv hu => ?_;have kn := kn.callE 0 rfl hu (R.o_ne _);simp only [go_sem, Q2r];refine Qf (Qb rfl ?_ ?_)
      · intro hc;refine Qa ?_;simp only [go_sem];refine Qo3 (ns := [11, 12, 11]) (kn.e 0 rfl) (by omega) (by simp) fun op H4 hop hu => ?_;have kn := kn.callE 0 rfl hu (R.o_ne _);simp only [go_sem, Q2t];refine ⟨Q1 (by omega) (by omega), ?_⟩;refine ihd (deep - 1) (by omega) (kn.e 0 rfl) (by omega) fun y H5 k5 g1 g2 hu hok hsz => ?_;have kn := kn.callE 0 rfl hu (R.o_ne _);have hx5 := kn.l 0 rfl;simp only [go_sem, Q2s, hx5, y.cells_len];intro H6 h6;have kn := kn.stL 0 rfl h6;refine Qh ?_;simp only [go_sem, Qp];refine fin op 0 [] true [y] _ k5 .none (by omega) (by omega) kn (fun h => ?_) ⟨hok, trivial⟩ ?_
        · subst h; simp at hop
        · simp only [Qu]; omega
      · intro hc;refine Qe ?_;simp only [go_sem];refine Qa ?_;simp only [go_sem];refine Qo3 (ns := [3, 3, 4, 5, 6, 7, 8, 9, 10]) (kn.e 0 rfl) (by omega) (by simp) fun op H4 hop hu => ?_;have kn := kn.callE 0 rfl hu (R.o_ne _);simp only [go_sem, Q2u];refine Qa ?_;simp only [go_sem];refine ⟨Q1 (by omega) (by omega), ?_⟩;refine ihd (deep - 1) (by omega) (kn.e 0 rfl) (by omega) fun y H5 k5 g1 g2 hu hok hsz => ?_;have kn := kn.callE 0 rfl hu (R.o_ne _);simp only [go_sem, Q2w];refine ⟨Q1 (by omega) (by omega), ?_⟩;refine ihd (deep - 1) (by omega) (kn.e 0 rfl) (by omega) fun z H6 k6 g3 g4 hu hok2 hsz2 => ?_;have kn := kn.callE 0 rfl hu (R.o_ne _);have hx5 := kn.l 0 rfl;simp only [go_sem, Q2v, hx5, y.cells_len, z.cells_len];intro H7 h7;have kn := kn.stL 0 rfl h7;refine Qh ?_;simp only [go_sem, Qp];refine fin op 0 [] true [y, z] _ k6 .none (by omega) (by omega) kn (fun h => rfl) ⟨hok, hok2, trivial⟩ ?_;simp only [Qu]; omega
  refine ⟨fun hb => ?_, fun hb => ?_⟩
  · refine Qbx (kn.e 0 rfl) (by omega) fun v H2 hv hu => ?_;have kn := kn.callE 0 rfl hu (R.o_ne _);simp only [go_sem, Ql1];refine rest _ H2 (k + 1) (by omega) (by omega) kn ?_;intro h;have : ¬ deep < 2 := (by simpa using hb);omega
  · have hb2 : decide (deep < 2) = true := (by simpa using hb);simp only [go_sem, Ql1, hb2];exact rest true H1 k (by omega) (by omega) kn (fun h => by simp at h)
end Go.AE.Y
namespace Go.AE.Y
variable {H:Heap}{S:Nat→Bool}
inductive FrzR (H:Heap)(S:Nat→Bool):List (List C)→List (List C)→Prop
 |nil:FrzR H S [] []
 |cons {r r':List C} {l l':List (List C)} (h:FrzL H S r r') (t:FrzR H S l l'):FrzR H S (r::l) (r'::l')
theorem FrzR.spec {l l':List (List C)}(h:FrzR H S l l'):l'.length=l.length∧∀(i:Nat) (r r':List C),l[i]? = some r→l'[i]? = some r'→FrzL H S r r':=by
 induction h with
 |nil=>exact⟨rfl,fun j c c' h=>by simp at h⟩
 |cons h t ih=>
  refine⟨by simp[ih.1],fun j c c' h1 h2=>?_⟩
  cases j with
  |zero=>simp at h1 h2;subst h1;subst h2;exact h
  |succ j=>simp at h1 h2;exact ih.2 j c c' h1 h2
theorem FrzR.sl {fl:Bool}{sz:Nat}{l l':List (List C)}(h:FrzR H S l l'):FrzC H S (.sl fl sz l) (.sl false sz l'):=
 .sl fl sz l l' h.spec.1 (fun i r r' h1 h2=>(h.spec.2 i r r' h1 h2).spec.1) fun i r r' j c c' h1 h2 h3 h4=>(h.spec.2 i r r' h1 h2).spec.2 j c c' h3 h4
theorem FrzR.vsl {l sz n:Nat}{rows rows':List (List C)}(hS:S l=true)(hH:H l=.vec sz rows)(hn:n=rows.length)(h:FrzR H S rows rows'):FrzC H S (.vsl l sz 0 n) (.sl false sz rows'):=by
 subst hn;exact .vsl l sz 0 rows.length rows rows rows' hS hH (by omega) (by simp) h.spec.1 (fun i r r' h1 h2=>(h.spec.2 i r r' h1 h2).spec.1) fun i r r' j c c' h1 h2 h3 h4=>(h.spec.2 i r r' h1 h2).spec.2 j c c' h3 h4
end Go.AE.Y
namespace Go.AE
open Go.AE.Y
variable {H:Heap}{S:Nat→Bool}
theorem FrzL.same {l:List C}(h:noOw l=true):FrzL H S l l:=by
 induction l with
 |nil=>exact .nil
 |cons c r ih=>
  simp only[noOw,Ja0,Ja,Jz]at h ih;exact .cons (.same _ h.1) (ih (by simpa using h.2))
end Go.AE
namespace Go.AE.Y
variable {H:Heap}{S:Nat→Bool}
theorem FrzR.same {l:List (List C)}(h:∀r∈l,noOw r=true):FrzR H S l l:=by
 induction l with
 |nil=>exact .nil
 |cons c r ih=>exact .cons (.same (h _ List.mem_cons_self)) (ih fun x hx=>h x (List.mem_cons_of_mem _ hx))
theorem FrzR.app {a a' b b':List (List C)}(h:FrzR H S a a')(k:FrzR H S b b'):FrzR H S (a++b) (a'++b'):=by
 induction h with
 |nil=>exact k
 |cons h t ih=>exact .cons h ih
end Go.AE.Y
namespace Go.AE
open Go.AE.Y
variable {H:Heap}{S:Nat→Bool}
theorem Upd.set2 {H H':Heap}{a b:Nat}{oa ob o:Obj}(h:Upd H H' [(a,oa),(b,ob)])(hn:a≠b):Upd H (H'.set b o) [(a,oa),(b,o)]:=by
 refine⟨fun p hp=>?_,fun m hm hx=>?_⟩
 ·simp at hp;rcases hp with rfl|rfl
  ·show (H'.set b o) a=oa;rw[Heap.set_other _ _ hn];exact h.1 (a,oa) (by simp)
  ·exact Heap.set_same _ _ _
 ·have:m≠b:=by simp at hx;exact hx.2
  rw[Heap.set_other _ _ this];exact h.2 m hm (by simpa using hx)
end Go.AE
namespace Go.AE.Y
variable {H:Heap}{S:Nat→Bool}
inductive St where
 |mk (op:Int) (name:List UInt8) (args:List Ex) (body els:List St)
def St.op:St→Int|.mk op _ _ _ _=>op
def St.name:St→List UInt8|.mk _ s _ _ _=>s
def St.args:St→List Ex|.mk _ _ a _ _=>a
def St.body:St→List St|.mk _ _ _ b _=>b
def St.els:St→List St|.mk _ _ _ _ e=>e
mutual
def St.cells:St→List C
 |.mk op name args body els=>[.int .i64 op,.str name,.sl false 4 (Qt args),.sl false 5 (Qk body),.sl false 5 (Qk els)]
def Qk:List St→List (List C)
 |[]=>[]
 |x::r=>x.cells::Qk r
end
theorem St.cells_eq (x:St):x.cells=[.int .i64 x.op,.str x.name,.sl false 4 (Qt x.args),.sl false 5 (Qk x.body),.sl false 5 (Qk x.els)]:=by
 cases x;simp[St.cells,St.op,St.name,St.args,St.body,St.els]
theorem Qpy (l:List St):Qk l=l.map St.cells:=by
 induction l with
 |nil=>simp[Qk]
 |cons x r ih=>simp[Qk,ih]
theorem Qx (l:List St):(Qk l).length=l.length:=by simp[Qpy]
theorem Qbe (l:List St)(i:Nat)(h:i<l.length):(Qk l).getD i []=(l[i]'h).cells:=by
 simp[Qpy,Jg,h]
theorem Qmq (a b:List St):Qk a++Qk b=Qk (a++b):=by simp[Qpy]
theorem Qanw (a:List St)(x:St):Qk a++[x.cells]=Qk (a++[x]):=by simp[Qpy]
theorem St.noOw (x:St):Go.AE.noOw x.cells=true:=by rw[x.cells_eq];rfl
theorem Qas (l:List St):∀r∈Qk l,Go.AE.noOw r=true:=by
 intro r hr;rw[Qpy]at hr;obtain⟨x,_,rfl⟩:=Ju.1 hr;exact x.noOw
theorem St.cells_len (x:St):x.cells.length=5:=by rw[x.cells_eq];rfl
mutual
def St.size:St→Nat
 |.mk _ _ args body els=>1+Qu args+Qi body+Qi els
def Qi:List St→Nat
 |[]=>0
 |x::r=>x.size+Qi r
end
mutual
def St.ok:St→Prop
 |.mk _ _ args body els=>0<args.length∧Qdn args∧Qdl body∧Qdl els
def Qdl:List St→Prop
 |[]=>True
 |x::r=>x.ok∧Qdl r
end
theorem Qbaw {l:List St}(h:Qdl l):∀x∈l,x.ok:=by
 induction l with
 |nil=>simp
 |cons y r ih=>
  simp only[Qdl]at h;intro x hx;rcases Ji.1 hx with rfl|hx
  ·exact h.1
  ·exact ih h.2 x hx
theorem Qaje {a b:List St}(ha:Qdl a)(hb:Qdl b):Qdl (a++b):=by
 induction a with
 |nil=>exact hb
 |cons x r ih=>simp only[Qdl]at ha;exact⟨ha.1,ih ha.2⟩
theorem Qbf (a b:List St):Qi (a++b)=Qi a+Qi b:=by
 induction a with
 |nil=>simp[Qi]
 |cons x r ih=>simp[Qi,ih];omega
theorem St.size_eq (x:St):x.size=1+Qu x.args+Qi x.body+Qi x.els:=by cases x;simp[St.size,St.args,St.body,St.els]
theorem St.ok_eq (x:St):x.ok=(0<x.args.length∧Qdn x.args∧Qdl x.body∧Qdl x.els):=by cases x;simp[St.ok,St.args,St.body,St.els]
theorem Qa3 {l:List St}{x:St}(h:x∈l):x.size≤Qi l:=by
 induction l with
 |nil=>simp at h
 |cons y r ih=>
  simp only[Qi];rcases Ji.1 h with rfl|h
  ·omega
  ·have:=ih h;omega
structure Fn where
 name:List UInt8
 params:List (List UInt8)
 body:List St
def Fn.cells (f:Fn):List C:=[.str f.name,.sl false 1 (Q0 f.params),.sl false 5 (Qk f.body)]
def Qy (l:List Fn):List (List C):=l.map Fn.cells
theorem Qw (l:List Fn):(Qy l).length=l.length:=by simp[Qy]
theorem Qaf (l:List Fn)(i:Nat)(h:i<l.length):(Qy l).getD i []=(l[i]'h).cells:=by
 simp[Qy,Jg,h]
theorem Qyk (a:List Fn)(x:Fn):Qy a++[x.cells]=Qy (a++[x]):=by simp[Qy]
theorem Fn.noOw (x:Fn):Go.AE.noOw x.cells=true:=rfl
theorem Fn.cells_len (x:Fn):x.cells.length=3:=rfl
theorem Qcr (l:List Fn):∀r∈Qy l,Go.AE.noOw r=true:=by
 intro r hr;obtain⟨x,_,rfl⟩:=Ju.1 hr;exact x.noOw
structure GS where
 fns:List Fn
 ffl:C×List (Nat×Obj)
 vars:List (List UInt8)
 vfl:Bool
 next:Int
 left:Int
def GS.o (s:GS)(R:Rdr):Obj:=.st [.ptr R.l 0,s.ffl.1,.sl s.vfl 1 (Q0 s.vars),.int .i64 s.next,.int .i64 s.left]
theorem GS.o_ne (s:GS)(R:Rdr):s.o R≠.none:=by simp[GS.o]
structure GS.ok (s:GS)(k:Nat):Prop where
 n0:-1≤s.next
 n1:s.next≤k+10
 l0:-(4 * (k:Int)+10)≤s.left
 l1:s.left≤100
 v:s.vars.length≤k+10
 f:∀f∈s.fns,f.params.length≤3
 fn:s.fns.length≤3
theorem GS.ok.mono {s:GS}{k k':Nat}(h:s.ok k)(hk:k≤k'):s.ok k':=
 ⟨h.n0,by have:=h.n1;omega,by have:=h.l0;omega,h.l1,by have:=h.v;omega,h.f,h.fn⟩
end Go.AE.Y
namespace Go.AE.Y
open Go.Proofs.Tryz
theorem Qaoh {R:Rdr}{gl k:Nat}{s:GS}{H:Heap}{K:V→Heap→Prop}(hR:H R.l=R.o k)(hG:H gl=s.o R)(hne:R.l≠gl)(hs:s.ok k)(hk:k+2≤2^30)
  (hK:∀(name:List UInt8) (H':Heap) (k':Nat),k+1≤k'→k'≤k+2→Upd H H' [(R.l,R.o k'),(gl,GS.o { s with next:=s.next+1 } R)]→K (.c (.str name)) H') :
  Ql prog Qoe [.c (.ptr gl 0)] H K:=by
 have h0:=hs.n0;have h1':=hs.n1;refine Q5 ?_;refine Qc Qal Qaos ?_;refine Qa ?_;simp only[go_sem];refine Qa ?_;simp only[go_sem,hG,GS.o];refine⟨Q1 (by omega) (by omega),fun H1 h1=>?_⟩;have kn:Kn H H1 [(R.l,R.o k),(gl,GS.o { s with next:=s.next+1 } R)] []:=(Kn.start2 hR (R.o_ne k) hG (s.o_ne R) hne).stE 1 rfl h1;have hG1:=kn.e 1 rfl;refine Q6 ?_;refine Qa ?_;simp only[go_sem,hG1,GS.o];refine Qbx (kn.e 0 rfl) (by omega) fun v H2 hv hu=>?_;have kn:=kn.callE 0 rfl hu (R.o_ne _);have hG2:=kn.e 1 rfl;simp only[go_sem,Qsc,hG2,GS.o];intro hl;refine Qf (Qb rfl ?_ ?_)
 ·intro hc;have hv0:0<s.vars.length:=by
   rw[Qo]at hc;cases h:decide (v=0) <;> rw[h]at hc <;> simp_all
  refine Qa1 ?_;simp only[go_sem,hG2,GS.o];refine of_c (kn.e 0 rfl) (by omega) hv0 fun name H3 hn hu=>?_;have kn:=kn.callE 0 rfl hu (R.o_ne _);simp only[go_sem,Qsd];refine Qh ?_;simp only[go_sem,Qp,Q8,Qcu,Jj,forall_eq,RS.op];exact⟨_,.c _ _ (Qg rfl),hK _ _ (k+1+1) (by omega) (by omega) kn.fin⟩
 ·intro hc;refine Qe ?_;simp only[go_sem];refine Qa1 ?_;have e1:0≤(s.next+1).tmod 24:=Jai _ (by omega);have e2:(s.next+1).tmod 24<24:=Jab _ (by omega);simp only[go_sem,hG2,GS.o];refine⟨by omega,by omega,Q1 (by omega) (by omega),by omega,?_⟩;refine Qh ?_;simp only[go_sem,Qp,Q8,Qcu,Jj,forall_eq,RS.op];exact⟨_,.c _ _ (Qg rfl),hK _ _ (k+1) (by omega) (by omega) kn.fin⟩
theorem Qadj {R:Rdr}{gl k:Nat}{s:GS}{x:Ex}{fl:Bool}{H:Heap}{K:V→Heap→Prop}(hR:H R.l=R.o k)(hG:H gl=s.o R)(hne:R.l≠gl)(hs:s.ok k)(hk:k+2≤2^30)
  (hK:∀(name:List UInt8) (H':Heap) (k':Nat),k+1≤k'→k'≤k+2→Upd H H' [(R.l,R.o k'),(gl,GS.o { s with next:=s.next+1,vars:=s.vars++[name],vfl:=false } R)]→K (.ag (St.mk 1 name [x] [] []).cells) H') :
  Ql prog Qmx [.c (.ptr gl 0),.ag [.int .i64 x.op,.int .i64 x.n,.str x.name,.sl fl 4 (Qt x.kids)]] H K:=by
 have hv:=hs.v;refine Qacu ?_;refine Qc Qal Qawf ?_;refine Qa ?_;simp only[go_sem];intro y hy H1 h1;have kn:=(Kn.start2 hR (R.o_ne k) hG (s.o_ne R) hne).al hy h1;refine Qa ?_;simp only[go_sem];refine Qaoh (kn.e 0 rfl) (kn.e 1 rfl) hne hs hk fun name H2 k' g1 g2 hu=>?_;have kn:=kn.callEE 0 1 rfl rfl (by decide) hu (R.o_ne _) (GS.o_ne _ _);have hG2:=kn.e 1 rfl;simp only[go_sem,Q08];refine Qa ?_;have hL:s.vars.length≤LIM:=by simp only[LIM];omega
 have hL1:s.vars.length+1≤LIM:=by simp only[LIM];omega
 simp only[go_sem,hG2,GS.o,Qo,J5,Jaj,hL];refine⟨.inl trivial,Qaw _,?_⟩;intro z hz H3 h3;have kn:=kn.al hz h3;have hz3:=kn.l 1 rfl;have hG3:=kn.e 1 rfl;simp only[go_sem,Q1a,hz3,Qo,Q34,hL1,Jx];refine⟨by omega,fun z' hz' H4 h4=>?_⟩;have kn:=kn.ap 1 rfl hz' h4;have hG4:=kn.e 1 rfl;simp only[go_sem,Q09,hG4,GS.o];intro H5 h5;have kn:=kn.stE 1 rfl h5;have hy5:=kn.l 0 rfl;refine Qa ?_;simp only[go_sem,hy5];intro H6 h6;have kn:=kn.stL 0 rfl h6;have hy6:=kn.l 0 rfl;refine Qh ?_;simp only[go_sem,Qp,Q8,Qaei,Jj,forall_eq,RS.op,hy6];refine⟨un H,(.ag (St.mk 1 name [x] [] []).cells),(H6.frz (un H)).set gl (GS.o { s with next:=s.next+1,vars:=s.vars++[name],vfl:=false } R),?_,?_,hK name _ k' g1 g2 (kn.fin.set2 hne)⟩
 ·simp only[St.cells,Qt,Qk,x.cells_eq];exact (FrzL.cons (Qg rfl) (.cons (Qg rfl) (.cons (FrzR.cons (.cons (Qg rfl) (.cons (Qg rfl) (.cons (Qg rfl) (.cons (FrzR.same (Qa4 _)).sl .nil)))) .nil).sl (.cons (FrzR.nil).sl (.cons (FrzR.nil).sl .nil))))).ag
 ·refine (Qqi _ _).set (Qazr (kn.usedE 1 rfl)) ?_;rw[kn.e 1 rfl];refine FrzKL.st (.same (.same (.cons rfl ?_ (.same (.same .nil)))));exact Qaoc (kn.un 1 rfl) (kn.l 1 rfl) (by simp[Q0]) (Qqk (Qaw _))
end Go.AE.Y
namespace Go.AE
variable {H0 H H':Heap}{E L B:List (Nat×Obj)}
theorem Upd.drop2 {H H':Heap}{a b:Nat}{oa ob:Obj}(h:Upd H H' [(a,oa),(b,ob)])(hb:H b=ob):Upd H H' [(a,oa)]:=by
 refine⟨fun p hp=>h.1 p (by simp at hp;subst hp;simp),fun m hm hx=>?_⟩;by_cases hmb:m=b
 ·subst hmb;rw[hb];exact h.1 (m,ob) (by simp)
 ·exact h.2 m hm (by simp at hx⊢;exact⟨hx,hmb⟩)
theorem Upd.drop1 {H H':Heap}{a:Nat}{oa:Obj}(h:Upd H H' [(a,oa)])(ha:H a=oa):Upd H H' []:=by
 refine⟨by simp,fun m hm hx=>?_⟩;by_cases hmb:m=a
 ·subst hmb;rw[ha];exact h.1 (m,oa) (by simp)
 ·exact h.2 m hm (by simpa using hmb)
theorem Kn.perm {L':List (Nat×Obj)}(h:Kn H0 H E L)(hp:L.Perm L'):Kn H0 H E L':=
 ⟨fun p hp'=>h.get p (by
   rcases Jd.1 hp' with a|a
   ·exact Jh _ a
   ·exact Jf _ (hp.mem_iff.2 a)),h.ext,fun p hp'=>h.loc p (hp.mem_iff.2 hp'),h.dE,(hp.map Prod.fst).nodup_iff.1 h.dL,h.chg⟩
def Gr (Lg:List (Nat×Obj))(sz:Nat)(rows:List (List C))(c:C):Prop:=
 (c=.sl true sz []∧rows=[]∧Lg=[])∨∃y,c=.vsl y sz 0 rows.length∧Lg=[(y,.vec sz rows)]
theorem Gr.nil (sz:Nat):Gr [] sz [] (.sl true sz []):=.inl ⟨rfl,rfl,rfl⟩
theorem Gr.mk (y sz:Nat)(rows:List (List C)){n:Nat}(hn:n=rows.length):Gr [(y,.vec sz rows)] sz rows (.vsl y sz 0 n):=.inr ⟨y,by rw[hn],rfl⟩
variable {sz:Nat}{rows:List (List C)}{c:C}{Lg:List (Nat×Obj)}
theorem Gr.isOw (h:Gr Lg sz rows c):c.isOw=false:=by rcases h with ⟨rfl,_⟩|⟨y,rfl,_⟩ <;> rfl
theorem Gr.elemSz (h:Gr Lg sz rows c):c.elemSz=sz:=by rcases h with ⟨rfl,_⟩|⟨y,rfl,_⟩ <;> rfl
theorem Gr.lenC (h:Gr Lg sz rows c):lenC c=rows.length:=by
 rcases h with ⟨rfl,rfl,_⟩|⟨y,rfl,_⟩ <;> rfl
theorem Gr.get (h:Gr Lg sz rows c)(kn:Kn H0 H E (B++Lg)):okSl H c∧rowsOf H c=rows:=by
 rcases h with ⟨rfl,rfl,_⟩|⟨y,rfl,rfl⟩
 ·exact⟨trivial,rfl⟩
 ·have hy:H y=.vec sz rows:=(kn.get (y,.vec sz rows) (by simp)).1;refine⟨?_,?_⟩
  ·simp[okSl,hy]
  ·simp[rowsOf,hy]
theorem Gr.okSl (h:Gr Lg sz rows c)(kn:Kn H0 H E (B++Lg)):Go.AE.okSl H c:=(h.get kn).1
theorem Gr.rowsOf (h:Gr Lg sz rows c)(kn:Kn H0 H E (B++Lg)):Go.AE.rowsOf H c=rows:=(h.get kn).2
theorem Gr.frz (h:Gr Lg sz rows c)(kn:Kn H0 H E (B++Lg))(hr:∀r∈rows,noOw r=true):FrzC H (un H0) c (.sl false sz rows):=by
 rcases h with ⟨rfl,rfl,_⟩|⟨y,rfl,rfl⟩
 ·exact Y.FrzR.nil.sl
 ·exact (Y.FrzR.same hr).vsl (Qyc (kn.loc (y,.vec sz rows) (by simp))) (kn.get (y,.vec sz rows) (by simp)).1 rfl
theorem Gr.frzR {rows':List (List C)}(h:Gr Lg sz rows c)(kn:Kn H0 H E (B++Lg))(hr:Y.FrzR H (un H0) rows rows'):FrzC H (un H0) c (.sl false sz rows'):=by
 rcases h with ⟨rfl,rfl,_⟩|⟨y,rfl,rfl⟩
 ·cases hr;exact Y.FrzR.nil.sl
 ·exact hr.vsl (Qyc (kn.loc (y,.vec sz rows) (by simp))) (kn.get (y,.vec sz rows) (by simp)).1 rfl
structure Slc (H:Heap)(sz:Nat)(rws:List (List C))(b:C):Prop where
 ok:okSl H b
 sz:b.elemSz=sz
 rows:rowsOf H b=rws
 len:Go.AE.lenC b=rws.length
theorem Slc.mk' (H:Heap)(fl:Bool)(sz:Nat)(rows:List (List C)):Slc H sz rows (.sl fl sz rows):=⟨trivial,rfl,rfl,rfl⟩
theorem Kn.grow {K:V→Heap→Prop}{new:List (List C)}{b:C}(kn:Kn H0 H E (B++Lg))(hc:Gr Lg sz rows c)(hb:Slc H sz new b)
  (h1:∀r∈new,noOw r=true) (h2:rows.length+new.length≤LIM)
  (h:∀y' H',Kn H0 H' E (B++[(y',.vec sz (rows++new))])→K (.c (.vsl y' sz 0 (rows.length+new.length))) H'):appQ H sz c b K:=by
 refine⟨hb.ok,hb.sz,?_⟩;rcases hc with ⟨rfl,rfl,rfl⟩|⟨y,rfl,rfl⟩
 ·simp only[hb.rows,hb.len,Jaj,J2,J5];refine⟨trivial,.inl trivial,h1,by simpa using h2,fun l hl H' hH'=>?_⟩;rw[Jas]at kn;have:=h l H' (by simpa using kn.al hl hH');simpa using this
 ·have hy:H y=.vec sz rows:=(kn.get (y,.vec sz rows) (by simp)).1;simp only[hy,hb.rows,hb.len,Jax,List.take_length];refine⟨trivial,trivial,by omega,h1,h2,fun l' hl' H' hH'=>?_⟩;refine h l' H' ?_;have:=kn.ap B.length (y:=y) (o:=.vec sz rows) (by simp) hl' hH';simpa using this
end Go.AE
namespace Go.AE.Y
variable {H H':Heap}{R:Rdr}{gl:Nat}{s s':GS}{L:List (Nat×Obj)}{o q:Obj}
def FnsOk (H:Heap)(R:Rdr)(gl:Nat)(s:GS):Prop:=Gr s.ffl.2 3 (Qy s.fns) s.ffl.1∧∀p∈s.ffl.2,H p.1=p.2∧p.1≠R.l∧p.1≠gl
theorem FnsOk.keep (h:FnsOk H R gl s)(kn:Kn H H' [(R.l,o),(gl,q)] L)(h1:s'.fns=s.fns)(h2:s'.ffl=s.ffl):FnsOk H' R gl s':=by
 refine⟨by rw[h1,h2];exact h.1,fun p hp=>?_⟩;rw[h2]at hp;obtain⟨a1,a2,a3⟩:=h.2 p hp;refine⟨?_,a2,a3⟩;have hn:p.2≠.none:=by
  rcases h.1 with ⟨_,_,hx⟩|⟨y,_,hx⟩
  ·rw[hx]at hp;simp at hp
  ·rw[hx]at hp;simp at hp;subst hp;simp
 rw[kn.chg p.1 (by rw[a1];exact hn) (by simp[a2,a3]),a1]
theorem FnsOk.rd (h:FnsOk H R gl s):okSl H s.ffl.1=True∧rowsOf H s.ffl.1=Qy s.fns:=by
 rcases h.1 with ⟨h1,h2,h3⟩|⟨y,h1,h3⟩
 ·rw[h1,h2];exact⟨rfl,rfl⟩
 ·have hy:H y=.vec 3 (Qy s.fns):=(h.2 (y,.vec 3 (Qy s.fns)) (by rw[h3];simp)).1;rw[h1];exact⟨by simp[okSl,hy],by simp[rowsOf,hy]⟩
theorem FnsOk.ok (h:FnsOk H R gl s)(kn:Kn H H' [(R.l,o),(gl,q)] L):okSl H' s.ffl.1=True:=(h.keep kn rfl rfl).rd.1
theorem FnsOk.rows (h:FnsOk H R gl s)(kn:Kn H H' [(R.l,o),(gl,q)] L):rowsOf H' s.ffl.1=Qy s.fns:=(h.keep kn rfl rfl).rd.2
theorem FnsOk.len (h:FnsOk H R gl s):lenC s.ffl.1=s.fns.length:=by rw[h.1.lenC,Qw]
theorem FnsOk.esz (h:FnsOk H R gl s):s.ffl.1.elemSz=3:=h.1.elemSz
theorem FnsOk.ow (h:FnsOk H R gl s):s.ffl.1.isOw=false:=h.1.isOw
end Go.AE.Y
namespace Go.AE.Y
open Go.Proofs.Tryz
theorem Qcy {R : Rdr} {gl k : Nat} {s : GS} {H : Heap} {K : V → Heap → Prop} (deep : Int) (hd : deep ≤ 3) (hR : H R.l = R.o k) (hG : H gl = s.o R) (hne : R.l ≠ gl) (hs : s.ok k) (hF : FnsOk H R gl s) (hk : k + 200 ≤ 2^30)
    (hK : ∀ (x : Ex) (H' : Heap) (k' : Nat), k < k' → k' ≤ k + 200 → Upd H H' [(R.l, R.o k')] → x.ok → k + x.size ≤ k' → K (.ag x.cells) H') :
    Ql prog Qbg [.c (.ptr gl 0), .c (.int .i64 deep)] H K := by
  have hfl := hs.fn;refine Q5 ?_;refine Qc Qal Qark ?_;refine Qa ?_;simp only [go_sem];intro x4 hx4 H1 h1;have kn := (Kn.start2 hR (R.o_ne k) hG (s.o_ne R) hne).al hx4 h1;have hG1 := kn.e 1 rfl;refine Qa1 ?_;simp only [go_sem, hG1, GS.o];refine Q4i 3 deep (by omega) (kn.e 0 rfl) (by omega) fun e H2 k2 g1 g2 hu heok hesz => ?_;have kn := kn.callE 0 rfl hu (R.o_ne _);have hG2 := kn.e 1 rfl;simp only [go_sem, Qv7];intro x5 hx5 H3 h3;have kn := kn.al hx5 h3;have hG3 := kn.e 1 rfl;have hx53 := kn.l 1 rfl;simp only [go_sem, Qv6, hG3, hx53, GS.o, e.cells_eq];intro H4 h4;have kn := kn.stL 1 rfl h4;have hG4 := kn.e 1 rfl;refine Q6 ?_;refine Qa ?_;simp only [go_sem, hG4, GS.o, hF.ow, hF.ok kn, hF.len];intro hl;have fin : ∀ (op n : Int) (name : List UInt8) (c : C) (kids : List Ex) (H3 : Heap) (k3 : Nat) (L : List (Nat × Obj)), k < k3 → k3 ≤ k + 200 → Kn H H3 [(R.l, R.o k3), (gl, s.o R)] L →
      L[0]? = some (x4, .st [.int .i64 op, .int .i64 n, .str name, c]) → c.isOw = false → FrzC H3 (un H) c (.sl false 4 (Qt kids)) → (Ex.mk op n name kids).ok → k + (Ex.mk op n name kids).size ≤ k3 →
      Q8 Qm5 [(4, V.c (C.ptr x4 0))] H3 (unK H K) := by
    intro op n name c kids H3 k3 L g1 g2 kn g3 hno g4 g5 g6;have hx3 := kn.l 0 g3;simp only [go_sem, Q8, Qm5, Jj, forall_eq, RS.op, hx3, hno];refine ⟨(.ag (Ex.mk op n name kids).cells), ?_, hK _ _ k3 g1 g2 (kn.fin.drop2 hG) g5 g6⟩;rw [Ex.cells_eq];exact (FrzL.cons (Qg rfl) (.cons (Qg rfl) (.cons (Qg rfl) (.cons g4 .nil)))).ag
  have rest : ∀ (b : Bool) (H2 : Heap) (k3 : Nat), k2 ≤ k3 → k3 ≤ k2 + 1 → Kn H H2 [(R.l, R.o k3), (gl, s.o R)] [(x4, .st [.int .i64 0, .int .i64 0, .str [], .sl true 4 []]), (x5, .st [.int .i64 e.op, .int .i64 e.n, .str e.name, .sl false 4 (Qt e.kids)])] →
      (b = false → 0 < s.fns.length) →
      Q3 prog (s_l3Gen_expr_3.seq Qv5) (Qp Qm5 (unK H K))
       [(0, V.c (C.ptr gl 0)), (4, V.c (C.ptr x4 0)), (5, V.c (C.ptr x5 0)), (32, .c (.bool b))] H2 := by
    intro b H2 k3 g3 g4 kn hb;have hx52 := kn.l 1 rfl;have hx42 := kn.l 0 rfl;refine Qf (Qb rfl ?_ ?_)
    · intro hb';refine Qa ?_;simp only [go_sem, hx52, hx42];intro H3 h3;have kn := kn.stL 0 rfl h3;refine Qh ?_;simp only [go_sem, Qp]
      cases e with
      | mk op n name kids => exact fin op n name _ kids H3 k3 _ (by omega) (by omega) kn rfl rfl (Qaob (Qqk (Qa4 _))) heok (by omega)
    · intro hb';have hfn := hb hb';refine Qe ?_;simp only [go_sem];have hG3 := kn.e 1 rfl;refine Qa1 ?_;simp only [go_sem, hG3, GS.o, hF.ow, hF.ok kn, hF.len];refine Qbx (kn.e 0 rfl) (by omega) fun v H3 hv hu => ?_;have kn := kn.callE 0 rfl hu (R.o_ne _);rw [if_neg (by omega)] at hv;obtain ⟨i, rfl⟩ := Js hv.1;have hi : i < s.fns.length := (by omega);have hG4 := kn.e 1 rfl;simp only [go_sem, Qv9, hG4, GS.o, hF.ow, hF.ok kn, hF.len, hF.rows kn, hF.esz, hi, Qaf _ _ hi, Fn.cells];intro x6 hx6 H4 h4;have kn := kn.al hx6 h4;have hG5 := kn.e 1 rfl;have hx64 := kn.l 2 rfl;simp only [go_sem, Qv8, hG5, hx64, GS.o, hF.ow, hF.ok kn, hF.len, hF.rows kn, hF.esz, hi, Qaf _ _ hi, Fn.cells];have hpar := hs.f _ (Jag hi);generalize s.fns[i] = f at *;intro H5 h5;have kn := kn.stL 2 rfl h5;have hx65 := kn.l 2 rfl;refine Qa ?_;simp only [go_sem, hx65];intro x7 hx7 H6 h6;have kn := kn.al hx7 h6;have hx67 := kn.l 2 rfl;have hx77 := kn.l 3 rfl;simp only [go_sem, Qwa, hx77];intro H7 h7;have kn := kn.stL 3 rfl h7;refine Q6 ?_;refine Qa ?_;simp only [go_sem];refine Qf (Qd (Qab (fun n e1 H1 => ∃ (i k4 : Nat) (kids : List Ex) (c : C) (Lg : List (Nat × Obj)), n = f.params.length - i ∧ i ≤ f.params.length ∧ k4 ≤ k3 + 1 + 21 * i ∧ k3 + 1 + Qu kids ≤ k4 ∧ Qdn kids ∧ kids.length = i ∧
        Gr Lg 4 (Qt kids) c ∧ Kn H H1 [(R.l, R.o k4), (gl, s.o R)] ([(x4, .st [.int .i64 0, .int .i64 0, .str [], .sl true 4 []]), (x5, .st [.int .i64 e.op, .int .i64 e.n, .str e.name, .sl false 4 (Qt e.kids)]),
          (x6, .st [.str f.name, .sl false 1 (Q0 f.params), .sl false 5 (Qk f.body)]), (x7, .st [.int .i64 13, .int .i64 0, .str f.name, c])] ++ Lg) ∧
        e1 = [(0, V.c (C.ptr gl 0)), (4, V.c (C.ptr x4 0)), (6, V.c (C.ptr x6 0)), (7, V.c (C.ptr x7 0)), (8, V.c (C.int IntKind.i64 i))]) f.params.length ?_ ?_))
      · exact ⟨0, k3 + 1, [], _, [], by omega, by omega, by omega, by simp [Qu], trivial, rfl, .nil 4, kn, rfl⟩
      · rintro n e1 H1 ⟨i, k4, kids, c, Lg, hn, hi1, hk4, hksz, hkok, hkl, hgr, kn, rfl⟩;have hx61 := kn.l 2 rfl;have hx71 := kn.l 3 rfl;have hG1 := kn.e 1 rfl;refine Q6 ?_;refine Qa ?_;simp only [go_sem, hx61, Qo];intro hpl;refine Qf (Qb rfl ?_ ?_)
        · intro hc;have hlt : i < f.params.length := (by simpa using hc);refine Qe ?_;simp only [go_sem];refine Qf (Qd (Qel ?_));have hcow := hgr.isOw;simp only [go_sem, hx71, hG1, GS.o, hcow];refine Q4i 2 2 (by omega) (kn.e 0 rfl) (by omega) fun z H2 k5 g5 g6 hu hok hsz => ?_;have kn := kn.callE 0 rfl hu (R.o_ne _);have hx72 := kn.l 3 rfl;simp only [go_sem, Qwc, hx72, hcow, z.cells_len];refine kn.grow (new := [z.cells]) hgr (.mk' _ _ _ _) (by simp [z.noOw]) (by simp only [Qj, J7, J2, LIM]; omega) fun y' H3 kn => ?_;have hx73 := kn.l 3 rfl;simp only [go_sem, Qwb, hx73];intro H4 h4;have kn := kn.stL 3 rfl h4;refine Qq ?_;simp only [go_sem];refine ⟨Q1 (by omega) (by omega), ?_⟩;refine ⟨f.params.length - (i + 1), by omega, i + 1, k5, kids ++ [z], _, _, rfl, by omega, by omega, ?_, Qa6e hkok ⟨hok, trivial⟩, by simp [hkl], ?_, kn, ?_⟩
          · simp only [Qey, Qu]; omega
          · rw [← Qe9]; exact .mk _ _ _ (by simp)
          · simp
        · intro hc;have hge : f.params.length ≤ i := (by simpa using hc);refine Q9 ?_;simp only [go_sem, X.next];refine Q6 ?_;refine Qa ?_;simp only [go_sem, hG1, GS.o];refine Qbx (kn.e 0 rfl) (by omega) fun v H2 hv hu => ?_;have kn := kn.callE 0 rfl hu (R.o_ne _);have hx72 := kn.l 3 rfl;have hx42 := kn.l 0 rfl;have hcow := hgr.isOw;have hG2 := kn.e 1 rfl;simp only [go_sem, Qr9];refine Qf (Qb rfl ?_ ?_)
          · intro hc;refine Qa ?_;simp only [go_sem, hx72, hx42, hcow];intro H3 h3;have kn := kn.stL 0 rfl h3;refine Qh ?_;simp only [go_sem, Qp];refine fin 13 0 f.name c kids H3 (k4 + 1) _ (by omega) (by omega) kn rfl hcow (hgr.frz (B := [_, _, _, _]) kn (Qa4 _)) ?_ ?_
            · simp only [Ex.ok]; exact ⟨fun h => by simp at h, hkok⟩
            · simp only [Ex.size]; omega
          · intro hc;refine Qe ?_;simp only [go_sem];refine Qa1 ?_;simp only [go_sem, hx72, hG2, hcow, GS.o];refine Qo3 (ns := [3, 4, 8, 10]) (kn.e 0 rfl) (by omega) (by simp) fun op H3 hop hu => ?_;have kn := kn.callE 0 rfl hu (R.o_ne _);have hx73 := kn.l 3 rfl;have hG3 := kn.e 1 rfl;simp only [go_sem, Qsb, hx73, hG3, hcow, GS.o];refine Q4i 2 2 (by omega) (kn.e 0 rfl) (by omega) fun z H4 k5 g5 g6 hu hok hsz => ?_;have kn := kn.callE 0 rfl hu (R.o_ne _);have hx74 := kn.l 3 rfl;have hx44 := kn.l 0 rfl;simp only [go_sem, Qsa, hx74, hx44, hcow, z.cells_len];intro H5 h5;have kn := kn.stL 0 rfl h5;refine Qh ?_;simp only [go_sem, Qp];refine fin op 0 [] _ [Ex.mk 13 0 f.name kids, z] H5 k5 _ (by omega) (by omega) kn rfl rfl ?_ ?_ ?_
            · refine FrzR.sl (.cons ?_ (.cons (.same z.noOw) .nil));rw [Ex.cells_eq];exact .cons (Qg rfl) (.cons (Qg rfl) (.cons (Qg rfl) (.cons (hgr.frz (B := [_, _, _, _]) kn (Qa4 _)) .nil)))
            · simp only [Ex.ok, Qdn]; exact ⟨fun h => rfl, ⟨fun h => by simp at h, hkok⟩, hok, trivial⟩
            · simp only [Ex.size, Qu]; omega
  refine ⟨fun hb => ?_, fun hb => ?_⟩
  · refine Qbx (kn.e 0 rfl) (by omega) fun v H5 hv hu => ?_;have kn := kn.callE 0 rfl hu (R.o_ne _);simp only [go_sem, Ql5];refine rest _ H5 (k2 + 1) (by omega) (by omega) kn ?_;intro h;have : ¬ s.fns.length = 0 := (by simpa using hb);omega
  · have hb2 : decide ((s.fns.length : Int) = 0) = true := (by simpa using hb);simp only [go_sem, Ql5, hb2];exact rest true H4 k2 (by omega) (by omega) kn (fun h => by simp at h)
end Go.AE.Y
namespace Go.AE
variable {H0 H H':Heap}{E L B E0 L0 Lg:List (Nat×Obj)}
def New (H H':Heap)(N:List (Nat×Obj)):Prop:=∀p∈N,H p.1=.none∧H' p.1=p.2
theorem Kn.add1 (kn0:Kn H0 H E0 L0)(kn:Kn H0 H' E L)(hE:E.map Prod.fst=E0.map Prod.fst)(hL:L.map Prod.fst=L0.map Prod.fst){x:Nat}{o:Obj}(hx:H x=.none)(hx':H' x=o)(ho:o≠.none):Kn H0 H' E (L++[(x,o)]):=by
 obtain⟨h1,h2,h3⟩:=kn0.newFree hx;refine⟨fun p hp=>?_,kn.ext,fun p hp=>?_,kn.dE,?_,kn.chg⟩
 ·rw[←Jae]at hp;rcases Jd.1 hp with hp|hp
  ·exact kn.get p hp
  ·simp at hp;subst hp;exact⟨hx',ho⟩
 ·rcases Jd.1 hp with hp|hp
  ·exact kn.loc p hp
  ·simp at hp;subst hp;exact h1
 ·rw[Jat];refine Jap.2 ⟨kn.dL,by simp,fun a ha b hb=>?_⟩;simp at hb;subst hb;rw[hL]at ha;exact fun hh=>h3 (hh▸ha)
theorem Kn.addGr {sz:Nat}{rows:List (List C)}{c:C}(kn0:Kn H0 H E0 L0)(kn:Kn H0 H' E L)(hE:E.map Prod.fst=E0.map Prod.fst)(hL:L.map Prod.fst=L0.map Prod.fst)(hg:Gr Lg sz rows c)(hn:New H H' Lg):Kn H0 H' E (L++Lg):=by
 rcases hg with ⟨_,_,rfl⟩|⟨y,_,rfl⟩
 ·simpa using kn
 ·obtain⟨h1,h2⟩:=hn (y,.vec sz rows) (by simp);exact kn0.add1 kn hE hL h1 h2 (by simp)
def unx (H:Heap)(Lg:List (Nat×Obj))(m:Nat):Bool:=un H m&&!(Lg.map Prod.fst).contains m
theorem Qa1k {m:Nat}(h:H m≠.none):unx H Lg m=false:=by simp[unx,Qazr h]
theorem Qbid {p:Nat×Obj}(h:p∈Lg):unx H Lg p.1=false:=by
 have:p.1∈Lg.map Prod.fst:=Qbn h;simp only[unx,Bool.and_eq_false_iff,Bool.not_eq_false'];exact .inr (List.contains_iff_mem.2 this)
theorem Kn.finx (hk:Kn H0 H E (B++Lg)):Upd H0 (H.frz (Go.AE.unx H0 Lg)) E∧New H0 (H.frz (Go.AE.unx H0 Lg)) Lg:=by
 refine⟨⟨fun p hp=>?_,fun m hm hn=>?_⟩,fun p hp=>⟨hk.loc p (Jf _ hp),?_⟩⟩
 ·have:H.frz (Go.AE.unx H0 Lg) p.1=H p.1:=by simp[Heap.frz,Qa1k (hk.ext p hp)]
  rw[this];exact (hk.get p (Jh _ hp)).1
 ·have:H.frz (Go.AE.unx H0 Lg) m=H m:=by simp[Heap.frz,Qa1k hm]
  rw[this];exact hk.chg m hm hn
 ·have:H.frz (Go.AE.unx H0 Lg) p.1=H p.1:=by simp only[Heap.frz];rw[Qbid hp];rfl
  rw[this];exact (hk.get p (Jf _ (Jf _ hp))).1
end Go.AE
namespace Go.AE.Y
theorem Qmu {b:Bool}(h:(!b)=false):b=true:=by simpa using h
theorem Qyw {b:Bool}(h:(!b)=true):b=false:=by simpa using h
theorem Ex.ne_nil (x:Ex):(x.cells=[])=False:=by rw[x.cells_eq];simp
theorem Ex.take4 (x:Ex):x.cells.take 4=x.cells:=Jx (by rw[x.cells_len];omega)
theorem Ex.allOw (x:Ex):(x.cells.all fun c=>!c.isOw)=true:=x.noOw
theorem St.take5 (x:St):x.cells.take 5=x.cells:=Jx (by rw[x.cells_len];omega)
theorem St.allOw (x:St):(x.cells.all fun c=>!c.isOw)=true:=x.noOw
theorem Fn.take3 (x:Fn):x.cells.take 3=x.cells:=Jx (by rw[x.cells_len];omega)
theorem Fn.allOw (x:Fn):(x.cells.all fun c=>!c.isOw)=true:=x.noOw
end Go.AE.Y
