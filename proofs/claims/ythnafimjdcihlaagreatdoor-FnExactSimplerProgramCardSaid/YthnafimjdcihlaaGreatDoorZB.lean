/- Part 2 of the proof: the engine, codes, walks and plain laws, each named where it stands. -/
import Derived.Test.YthnafimjdcihlaaGreatDoorZA
import Derived.Test.YthnafimjdcihlaaGreatDoorProg
open Nat (reduceEqDiff reduceAdd reduceLeDiff reduceLT)
set_option linter.unusedVariables false
set_option linter.unusedSimpArgs false
set_option maxRecDepth 4000
namespace Go.AE
variable {P:Program}{H:Heap}{g:G}{w:World}{e:Env}{a:Act}{o:Oper}{p:Bool}
def Qr5 (z:Value)(sz:Nat)(q:Nat):Value:=z.cells[q % sz]!
theorem Qw8 {z:Value}{sz:Nat}(hzs:z.cells.size=sz)(m:Nat):Builtin.zeroCells z.cells m=((List.range (m * sz)).map (Qr5 z sz)).toArray:=by
 subst hzs
 apply Array.ext'
 simp[Builtin.zeroCells,Qr5,Array.toList_range]
theorem Qbco {el:TypeId}{i:TypeInfo}{z:Value}{sz:Nat}(hi:P.info? el=some i)(hzero:i.zero=some z)(hzs:z.cells.size=sz)(m:Nat)(w:World) :
  (if m * sz=0 then (pure #[]:Sem (Array Value))else do pure (Builtin.zeroCells (←zeroValue el).cells m)).run P w=.ok ((List.range (m * sz)).map (Qr5 z sz)).toArray w:=by
 split
 ·rename_i h;rw[h];simp
 ·simp[Qhc hi hzero,Qw8 hzs]
theorem Q58 {ats:Array TypeId}{ty t t2 el:TypeId}{i:TypeInfo}{z:Value}{sz:Nat}(h0:ats[0]? = some t)(h1:ats[1]? = some t2)(hu:P.underlying t=some (.slice el))(hu2:P.underlying t2=some (.int .i64))
  (hi:P.info? el=some i) (hz:i.size=sz) (hzero:i.zero=some z) (hzs:z.cells.size=sz) (hby:i.bytes≤128) {base:Option Addr} {n cap m:Nat} (hm:m≤LIM) (hroom:n+m≤cap)
  {w':World} (hst:∀x,base=some x→(storeCells (x.add (n * sz)) ((List.range (m * sz)).map (Qr5 z sz))).run P w=.ok () w') (hnone:base=none→w'=w) :
  (Builtin.append_ ats ty #[.slice base n cap,.int .i64 m]).run P w=.ok (.slice base (n+m) cap) w':=by
 rw[Ql8]at hm
 have hmul:m * i.bytes≤m * 128:=Nat.mul_le_mul_left _ hby
 have hw:IntKind.i64.wrap (m:Int)=m:=by simp[IntKind.wrap,IntKind.signed,IntKind.bits];omega
 have hmi:¬(281474976710656<(m:Int) * (i.bytes:Int)):=by
  have:((m * i.bytes:Nat):Int)≤((m * 128:Nat):Int):=by exact_mod_cast hmul
  push_cast at this
  omega
 have hzm:=fun w=>Qbco (P:=P) hi hzero hzs m w
 simp only[Builtin.append_,h0,h1]
 simp[Qx hu,Qx hu2,Qat hi,hz,asInt,asIntOf,hw,Qij hi,hmi,hroom]
 rw[if_neg (by omega)]
 split
 ·rename_i h
  rw[h]at hst
  cases base with
  |none=>simp[hnone rfl]
  |some x=>have:=hst x rfl;simp at this;simp[this]
 ·simp only[Qhc hi hzero,Result.andThen,Qw8 hzs]
  cases base with
  |none=>simp[hnone rfl]
  |some x=>simp[hst x rfl]
theorem Qan8 {ats:Array TypeId}{ty t t2 el:TypeId}{i:TypeInfo}{z:Value}{sz:Nat}(h0:ats[0]? = some t)(h1:ats[1]? = some t2)(hu:P.underlying t=some (.slice el))(hu2:P.underlying t2=some (.int .i64))
  (hi:P.info? el=some i) (hz:i.size=sz) (hzero:i.zero=some z) (hzs:z.cells.size=sz) (hby:i.bytes≤128) (hby0:i.bytes≠0) {base:Option Addr} {n cap m:Nat} {f1:Nat→Value} (hroom:¬n+m≤cap) (hlim:n+m≤LIM)
  (hf1:(Builtin.firstCells sz n (.slice base n cap)).run P w.drew=.ok ((List.range (n * sz)).map f1).toArray w.drew) :
  ∃(newCap:Nat) (rest:Array Value),n+m≤newCap∧rest.size=(newCap-(n+m)) * sz∧
   (Builtin.append_ ats ty #[.slice base n cap,.int .i64 m]).run P w=.ok (.slice (some ⟨w.heap.size,0,none⟩) (n+m) newCap)
    (w.drew.alloc (.cells (((List.range (n * sz)).map f1).toArray++((List.range (m * sz)).map (Qr5 z sz)).toArray++rest) el)):=by
 rw[Ql8]at hlim
 have hnc:=Qan5 (Nat.lt_of_not_le hroom)
 have hmul:Builtin.nextslicecap (n+m) cap * i.bytes≤(2 * (n+m)+512) * 128:=Nat.mul_le_mul hnc hby
 have hmul2:m * i.bytes≤m * 128:=Nat.mul_le_mul_left _ hby
 have hw:IntKind.i64.wrap (m:Int)=m:=by simp[IntKind.wrap,IntKind.signed,IntKind.bits];omega
 have hmi:¬(281474976710656<(m:Int) * (i.bytes:Int)):=by
  have:((m * i.bytes:Nat):Int)≤((m * 128:Nat):Int):=by exact_mod_cast hmul2
  push_cast at this
  omega
 have hgr:¬(281474976710656<Builtin.nextslicecap (n+m) cap * i.bytes):=by omega
 have hmax:¬(9223372036854775807<(n:Int)+(m:Int)):=by omega
 generalize hnew:(Question.appendCap (n+m) cap el).cut (w.tape w.drawn (.appendCap (n+m) cap el))=newCap
 refine⟨newCap,Builtin.zeroCells z.cells (newCap-(n+m)),?_,?_,?_⟩
 ·rw[←hnew];simp[Question.cut]
 ·simp[Builtin.zeroCells,hzs]
 ·simp only[Builtin.append_,h0,h1]
  simp[Qx hu,Qx hu2,Qat hi,hz,asInt,asIntOf,hw,Qij hi,hmi,hroom,hby0]
  rw[if_neg (by omega),if_neg (by omega),if_neg hgr]
  simp[Question.forced,hnew,hf1]
  split
  ·rename_i h
   rw[h]
   simp[Qhc hi hzero,newRow]
  ·simp only[Qhc hi hzero,Result.andThen,Qw8 hzs]
   rw[←Array.append_assoc]
   simp[newRow]
theorem Qbk7 {sz m:Nat}{zr:List C}{A:C}{x' y':Operand}{ats:Array TypeId}{t t2 el:TypeId}{i:TypeInfo}{z:Value}{K:V→Heap→Prop}
  (hm:o.op=.call { callee:=.builtin .append,args:=#[x',y'],argTypes:=ats }) (h0:ats[0]? = some t) (h1:ats[1]? = some t2) (hu:P.underlying t=some (.slice el)) (hu2:P.underlying t2=some (.int .i64))
  (hi:P.info? el=some i) (hz:i.size=sz) (hzero:i.zero=some z) (hzs:z.cells.size=sz) (hby:i.bytes≤128) (hby0:i.bytes≠0) (hzl:Qani zr z=true)
  (hcx:RepC w g A (a.eval x')) (hqy:a.eval y'=.int .i64 m) (hml:m≤LIM) (hs:Sat H g w) (q5:appT H sz A (.sl false sz (List.replicate m zr)) K):EOk P H g w a o K:=by
 generalize hqx:a.eval x'=xv at hcx
 have hexec:(execOp a.eval o).run P w=((Builtin.append_ ats o.type #[xv,.int .i64 m]).run P w).andThen fun v w'=>.ok (.value v) w':=by
  simp[execOp,hm,resolve,invoke,builtin,hqx,hqy]
 have hzr:=fun (w:World) (g:G)=>Qm7 (w:=w) (g:=g) hzl
 have hzrl:zr.length=sz:=by
  have:=(hzr w g).1
  omega
 obtain⟨R,hR⟩:∃R,List.replicate m zr=R:=⟨_,rfl⟩
 rw[hR]at q5
 have hRl:R.length=m:=by rw[←hR];simp
 have hRm:∀(i:Nat) (row:List C),R[i]? = some row→i<m∧row=zr:=by
  intro i row h
  rw[←hR,List.getElem?_replicate]at h
  split at h
  ·exact⟨‹_›,(Option.some.inj h).symm⟩
  ·cases h
 have by3:∀(i:Nat) (row:List C),R[i]? = some row→row.length=sz:=fun i row h=>by rw[(hRm i row h).2,hzrl]
 have fz:∀(w:World) (g:G) (j:Nat) (c:C),zr[j]? = some c→∀i,RepC w g c (Qr5 z sz (i * sz+j)):=by
  intro w g j c hj i
  have hjs:j<sz:=by
   rw[←hzrl];exact (List.getElem?_eq_some_iff.1 hj).1
  have e:(i * sz+j) % sz=j:=by rw[Nat.add_comm,Nat.add_mul_mod_self_right,Nat.mod_eq_of_lt hjs]
  have hg:z.cells[j]? = some z.cells[j]!:=by
   rw[getElem!_pos z.cells j (by omega)];exact Array.getElem?_eq_getElem (by omega)
  rw[Qr5,e]
  exact (hzr w g).2 j c _ hj hg
 have f3:∀(w:World) (g:G) (i:Nat) (row:List C) (j:Nat) (c:C),R[i]? = some row→row[j]? = some c→RepC w g c (Qr5 z sz (i * sz+j)):=by
  intro w g i row j c h1 h2
  rw[(hRm i row h1).2]at h2
  exact fz w g j c h2 i
 have f2:∀q,q<m * sz→(Qr5 z sz q).oneCell'=true:=by
  intro q hq
  obtain⟨a1,a2,a3⟩:=Qanv hq
  have:=fz w g (q % sz) (zr[q % sz]'(by omega)) (List.getElem?_eq_getElem (by omega)) (q / sz)
  rw[a3]at this
  exact this.one
 clear hzl hzr hzrl fz hR
 have hsd:=Qasn hs
 unfold appT at q5
 obtain⟨_,_,q5⟩:=q5
 simp only[Q9,lenC,hRl]at q5
 split at q5
 ·
  rename_i z' rows
  obtain⟨rfl,c2,c3,c4,c5⟩:=q5
  have hxv:∃ad,xv=.slice ad rows.length rows.length:=by
   cases hcx with
   |slnil _ _ ad=>exact⟨ad,rfl⟩
   |sl _ _ _ b off cap val hl hf hcap hper hrw hce hva=>rw[hf rfl];exact⟨_,rfl⟩
  obtain⟨ad,rfl⟩:=hxv
  by_cases hm0:m=0
  ·have hrows:rows=[]:=by
    rcases c2 with h|h
    ·exact h
    ·exact absurd (List.length_eq_zero_iff.1 (by omega)) h
   subst hrows
   obtain⟨l,hl,hHl⟩:=hs.newName
   have hrun:=Q58 (P:=P) (w:=w) (ty:=o.type) (base:=ad) (n:=0) (cap:=0) (m:=m) h0 h1 hu hu2 hi hz hzero hzs hby hml (by omega) (w':=w)
    (fun x _=>by rw[hm0];simp[storeCells]) (fun _=>rfl)
   refine EOk.value (v:=.slice ad (0+m) 0) (by rw[hexec];simp only[List.length_nil];rw[hrun];rfl) (c5 l hHl) ?_ ?_ (g':=g.newVirt l z')
   ·have hrB:R=[]:=List.length_eq_zero_iff.1 (by omega)
    rw[hrB]
    exact Qrw hs hl z'
   ·simp only[List.length_nil,hm0,Nat.add_zero]
    exact .c _ _ (.vslnil _ _ _ _)
  ·obtain⟨l,hl,hHl⟩:=hsd.sat.newName
   have hcxd:=hcx.mono hsd.le
   have hA:∀r∈Q9 H (C.sl true z' rows),noOw r=true:=fun r hr=>c3 r (List.mem_append_left _ hr)
   obtain⟨f',f1',f2',f3'⟩:=Qwz hsd.sat hcxd (s:=.sl true z' rows) trivial (sz:=z') rfl hA
   simp only[lenC]at f1'
   obtain⟨newCap,rest,k1,k2,k3⟩:=Qan8 (P:=P) (w:=w) (ty:=o.type) h0 h1 hu hu2 hi hz hzero hzs hby hby0 (base:=ad) (n:=rows.length) (cap:=rows.length) (m:=m) (by omega) c4 f1'
   have hget:=Q40 (n:=rows.length) (m:=m) (sz:=z') (f1:=f') (f:=Qr5 z z') (rest:=rest)
   generalize harr:(((List.range (rows.length * z')).map f').toArray++((List.range (m * z')).map (Qr5 z z')).toArray++rest)=arr at k3 hget
   have hasz:arr.size=newCap * z':=by
    rw[←harr];simp[k2]
    rw[←Nat.add_mul,←Nat.add_mul];congr 1;omega
   have hst:=Qcl hsd.sat hl z' 0 (.cells arr el) (.vec z' (rows++R)) (fun g' hg=>by
    subst hg
    have hle:=Qi5 hsd.sat hl z' 0 (.cells arr el)
    refine .inr (Qjl (nb:=w.drew.heap.size) (base:=0) (T:=el) (arr:=arr) (n:=rows.length) (m:=m) (by simp[G.newObj]) (by simp[G.newObj]) (Qa3 _ _)
     (by rw[hasz,Nat.zero_add];exact Nat.mul_le_mul_right _ k1) c4 rfl (by omega) ?_ by3 ?_ ?_)
    ·cases hcx with
     |slnil=>simp
     |sl _ _ _ b off cap val hl hf hcap hper hrw hce hva=>exact hrw
    ·intro i row j c e1 e2
     have hlr:row.length=z':=by
      cases hcx with
      |slnil=>simp at e1
      |sl _ _ _ b off cap val hl hf hcap hper hrw hce hva=>exact hrw _ _ e1
     refine⟨f' (i * z'+j),hget.1 i j ?_ ?_,.plain _ _ _ _ ((f3' i row j c e1 e2).mono hle)⟩
     ·rcases Nat.lt_or_ge i rows.length with h|h
      ·exact h
      ·rw[List.getElem?_eq_none h]at e1;simp at e1
     ·rw[←hlr]
      rcases Nat.lt_or_ge j row.length with h|h
      ·exact h
      ·rw[List.getElem?_eq_none h]at e2;simp at e2
    ·intro i row j c e1 e2
     refine⟨Qr5 z z' (i * z'+j),hget.2 i j ?_ ?_,f3 _ _ i row j c e1 e2⟩
     ·rcases Nat.lt_or_ge i (R).length with h|h
      ·omega
      ·rw[List.getElem?_eq_none h]at e1;simp at e1
     ·rw[←by3 i row e1]
      rcases Nat.lt_or_ge j row.length with h|h
      ·exact h
      ·rw[List.getElem?_eq_none h]at e2;simp at e2)
   refine EOk.value (v:=.slice (some ⟨w.heap.size,0,none⟩) (rows.length+m) newCap) (by rw[hexec,k3];rfl) (c5 l hHl) (hsd.trans hst) ?_
   have:=RepC.vsl (w:=w.drew.alloc (.cells arr el)) (g:=g.newObj l w.drew.heap.size z' 0) l z' 0 (rows.length+m) newCap w.heap.size 0 el arr.size (by simp[G.newObj]) k1
    (by simp only[World.shape?];rw[show w.heap.size=w.drew.heap.size from rfl,Qa3]) (by rw[hasz];simp)
   simpa using RepV.c _ _ this
 ·
  rename_i l z' st n
  split at q5
  ·rename_i y0 rows hH
   obtain⟨hzz1,hyy1,c2,hnB,c4,c5⟩:=q5
   subst hyy1
   subst hzz1
   have hob:=hs.objs l
   rw[hH]at hob
   have hlne:H l≠.none:=by rw[hH];simp
   have hnomap:∀v es,H l≠.map v es:=by rw[hH];simp
   have hcases:(∃ad,xv=.slice ad 0 0∧n=0)∨∃b base cap T mm,xv=.slice (some ⟨b,base+st * z',none⟩) n cap∧g.io l=some (b,z',base)∧n≤cap∧w.shape? b=some (T,mm)∧base+(st+cap) * z'≤mm:=by
    cases hcx with
    |vslnil _ _ _ ad=>exact .inl ⟨ad,rfl,rfl⟩
    |vsl _ _ _ _ cap b base T mm hio hn hsh hmm=>exact .inr ⟨b,base,cap,T,mm,rfl,hio,hn,hsh,hmm⟩
   have htk:((rows.drop st).take n).length=n:=by simp;omega
   have hrowt:∀(i:Nat) (row:List C),((rows.drop st).take n)[i]? = some row→i<n∧rows[st+i]? = some row:=by
    intro i row h
    simp only[List.getElem?_take,List.getElem?_drop]at h
    split at h
    ·exact⟨by assumption,h⟩
    ·simp at h
   have jlt:∀{row:List C} {j:Nat} {c:C} {k:Nat},row.length=k→row[j]? = some c→j<k:=by
    intro row j c k hk hj
    rw[←hk]
    rcases Nat.lt_or_ge j row.length with h|h
    ·exact h
    ·rw[List.getElem?_eq_none h]at hj;simp at hj
   have grow:∀(ad:Option Addr) (cap:Nat),xv=.slice ad n cap→¬n+m≤cap→EOk P H g w a o K:=by
    intro ad cap hxv hng
    have hold:∃f':Nat→Value,(Builtin.firstCells z' n (.slice ad n cap)).run P w.drew=.ok ((List.range (n * z')).map f').toArray w.drew∧
      ∀(i:Nat) (row:List C) (j:Nat) (c:C),((rows.drop st).take n)[i]? = some row→row[j]? = some c→RepO w g l [st+i,j] c (f' (i * z'+j)):=by
     rcases hcases with ⟨ad',h1,h2⟩|⟨b,base,cap',T,mm,h1,h2,h3,h4,h5⟩
     ·rw[hxv]at h1;simp only[Value.slice.injEq]at h1
      subst h2
      refine⟨fun _=>undef,?_,fun i row j c e1 _=>by simp at e1⟩
      cases ad with
      |none=>simp[Builtin.firstCells]
      |some q=>simp[Builtin.firstCells,loadCells,loadCellsFrom]
     ·rw[hxv]at h1;simp only[Value.slice.injEq]at h1
      obtain⟨rfl,_,rfl⟩:=h1
      obtain⟨b',base',T',cs,val,r1,r2,r3,r4,r5,r6,r7,r8⟩:=SatVec.of hob h2
      rw[h2]at r1
      simp only[Option.some.injEq,Prod.mk.injEq,true_and]at r1
      obtain⟨rfl,rfl⟩:=r1
      have hfit:(st+n) * z'≤rows.length * z':=Nat.mul_le_mul_right _ c2
      rw[Nat.add_mul]at hfit
      refine⟨fun q=>cs.getD (base+st * z'+q) undef,?_,fun i row j c e1 e2=>?_⟩
      ·simp only[Builtin.firstCells]
       refine run_loadCells _ _ _ _ fun j hj=>?_
       rw[Qba]
       rw[show w.drew.cell? ⟨b,base+st * z'+j,none⟩=w.cell? ⟨b,base+st * z'+j,none⟩ from rfl,Qdy r3]
       rw[Array.getD_eq_getD_getElem?,Array.getElem?_eq_getElem (by omega)];rfl
      ·obtain⟨hi,e1'⟩:=hrowt i row e1
       have:=r7 _ _ _ _ e1' e2
       rw[Nat.add_mul]at this
       have e3:base+st * z'+(i * z'+j)=base+(st * z'+i * z')+j:=by omega
       show RepO _ _ _ _ _ (cs.getD (base+st * z'+(i * z'+j)) undef)
       rw[e3,Array.getD_eq_getD_getElem?,this]
       exact r8 _ _ _ _ e1' e2
    obtain⟨f',f1',f3'⟩:=hold
    obtain⟨newCap,rest,k1,k2,k3⟩:=Qan8 (P:=P) (w:=w) (ty:=o.type) h0 h1 hu hu2 hi hz hzero hzs hby hby0 (base:=ad) (n:=n) (cap:=cap) (m:=m) hng c4 f1'
    have hget:=Q40 (n:=n) (m:=m) (sz:=z') (f1:=f') (f:=Qr5 z z') (rest:=rest)
    generalize harr:(((List.range (n * z')).map f').toArray++((List.range (m * z')).map (Qr5 z z')).toArray++rest)=arr at k3 hget
    have hasz:arr.size=newCap * z':=by
     rw[←harr];simp[k2]
     rw[←Nat.add_mul,←Nat.add_mul];congr 1;omega
    obtain⟨l',hl',hHl'⟩:=hsd.sat.newName
    have hll:l'≠l:=fun h=>by subst h;exact hlne (hs.none_of_io hl')
    have hst:=Qn3 hsd.sat (l:=l) (l':=l') hl' hlne (st:=st) (n:=n) (nb:=w.drew.heap.size) (sz:=z') (base:=0) (w':=w.drew.alloc (.cells arr el)) (rows:=(rows.drop st).take n++R)
     (.inr rfl) (by simp) (by simp) (by simp) (fun b hb hlt=>Qdx _ _ hlt) (fun h=>absurd h (Nat.lt_irrefl _)) rfl rfl rfl (fun hle=>by
      refine Qjl (nb:=w.drew.heap.size) (base:=0) (T:=el) (arr:=arr) (n:=n) (m:=m) (by simp[G.handOver]) (by simp[G.handOver]) (Qa3 _ _)
       (by rw[hasz,Nat.zero_add];exact Nat.mul_le_mul_right _ k1) c4 htk (by omega) (fun i row h=>?_) by3 (fun i row j c e1 e2=>?_) (fun i row j c e1 e2=>?_)
      ·obtain⟨hi,h'⟩:=hrowt i row h
       rcases hob with ⟨r1,_⟩|⟨b',base',T',cs,val,r1,r2,r3,r4,r5,r6,r7,r8⟩
       ·rw[r1]at h';simp at h'
       ·exact r6 _ _ h'
      ·obtain⟨hi,h'⟩:=hrowt i row e1
       have hrl:row.length=z':=by
        rcases hob with ⟨r1,_⟩|⟨b',base',T',cs,val,r1,r2,r3,r4,r5,r6,r7,r8⟩
        ·rw[r1]at h';simp at h'
        ·exact r6 _ _ h'
       refine⟨f' (i * z'+j),hget.1 i j hi (jlt hrl e2),?_⟩
       refine (f3' i row j c e1 e2).move (hsd.le.trans hle) fun q b hb=>?_
       have hbl:=Qaff hs hb
       have hbn:b≠w.drew.heap.size:=by simp only[World.size_drew];omega
       exact⟨Qlx hb hi hbn,Qdx _ _ hbl⟩
      ·refine⟨Qr5 z z' (i * z'+j),hget.2 i j ?_ (jlt (by3 i row e1) e2),f3 _ _ i row j c e1 e2⟩
       rcases Nat.lt_or_ge i (R).length with h|h
       ·omega
       ·rw[List.getElem?_eq_none h]at e1;simp at e1) hnomap
    refine EOk.value (v:=.slice (some ⟨w.heap.size,0,none⟩) (n+m) newCap) (by rw[hexec,hxv,k3];rfl) (c5 l' (by rw[Heap.set_other _ _ hll];exact hHl')) (hsd.trans hst) ?_
    have:=RepC.vsl (w:=w.drew.alloc (.cells arr el)) (g:=g.handOver l l' st n w.drew.heap.size z' 0) l' z' 0 (n+m) newCap w.heap.size 0 el arr.size (by simp[G.handOver]) k1
     (by simp only[World.shape?];rw[show w.heap.size=w.drew.heap.size from rfl,Qa3]) (by rw[hasz];simp)
    simpa using RepV.c _ _ this
   rcases hcases with ⟨ad,hxv,rfl⟩|⟨b,base,cap,T,mm,hxv,hio,hncap,hsh,hmm⟩
   ·by_cases hm0:m=0
    ·
     have hrun:=Q58 (P:=P) (w:=w) (ty:=o.type) (base:=ad) (n:=0) (cap:=0) (m:=m) h0 h1 hu hu2 hi hz hzero hzs hby hml (by omega) (w':=w)
      (fun x _=>by rw[hm0];simp[storeCells]) (fun _=>rfl)
     have hd:=Qa33 hs l hnomap
     obtain⟨l',hl',hHl'⟩:=hd.sat.newName
     refine EOk.value (v:=.slice ad (0+m) 0) (by rw[hexec,hxv,hrun];rfl) (c5 l' hHl') ?_ ?_ (g':=g.newVirt l' z')
     ·have hrB:R=[]:=List.length_eq_zero_iff.1 (by omega)
      rw[hrB]
      simp only[List.take_zero,List.append_nil]
      exact hd.trans (Qrw hd.sat hl' z')
     ·simp only[hm0,Nat.add_zero]
      exact .c _ _ (.vslnil _ _ _ _)
    ·exact grow ad 0 hxv (by omega)
   ·by_cases hroom:n+m≤cap
    ·
     obtain⟨b',base',T',cs,val,r1,r2,r3,r4,r5,r6,r7,r8⟩:=SatVec.of hob hio
     rw[hio]at r1
     simp only[Option.some.injEq,Prod.mk.injEq,true_and]at r1
     obtain⟨rfl,rfl⟩:=r1
     have hmms:mm=cs.size∧T=T':=by
      simp only[World.shape?,r3,Option.some.injEq,Prod.mk.injEq]at hsh
      exact⟨hsh.2.symm,hsh.1.symm⟩
     obtain⟨rfl,rfl⟩:=hmms
     have hcapz:(st+(n+m)) * z'≤(st+cap) * z':=Nat.mul_le_mul_right _ (by omega)
     rw[Nat.add_mul,Nat.add_mul]at hcapz
     have hfit:base+st * z'+n * z'+m * z'≤cs.size:=by
      rw[Nat.add_mul]at hmm hcapz
      omega
     have hfold:=fun k=>Qqt (base+st * z'+n * z') ((List.range (m * z')).map (Qr5 z z')) 0 cs k (by simp;omega)
     generalize hcs':(((List.range (m * z')).map (Qr5 z z')).zipIdx 0).foldl (fun (cs:Array Value) (x:Value×Nat)=>cs.setIfInBounds (base+st * z'+n * z'+x.2) x.1) cs=cs' at hfold
     have hstore:=Qfy (P:=P) ((List.range (m * z')).map (Qr5 z z')) 0 w b (base+st * z'+n * z') cs T r3 (by simp;omega) (by
      intro v hv
      simp only[List.mem_map,List.mem_range]at hv
      obtain⟨q,hq,rfl⟩:=hv
      exact f2 q hq)
     rw[hcs']at hstore
     have hrun:=Q58 (P:=P) (w:=w) (ty:=o.type) (base:=some ⟨b,base+st * z',none⟩) (n:=n) (cap:=cap) (m:=m) h0 h1 hu hu2 hi hz hzero hzs hby hml hroom (w':=World.putCells w b cs' T)
      (fun x hx=>by simp only[Option.some.injEq]at hx;subst hx;rw[Qba];exact hstore) (fun h=>by simp at h)
     have hblt:=Qqf r3
     obtain⟨l',hl',hHl'⟩:=hs.newName
     have hll:l'≠l:=fun h=>by subst h;exact hlne (hs.none_of_io hl')
     have hsz':cs'.size=cs.size:=(hfold 0).1
     have hst:=Qn3 hs (l:=l) (l':=l') hl' hlne (st:=st) (n:=n) (nb:=b) (sz:=z') (base:=base+st * z') (w':=World.putCells w b cs' T) (rows:=(rows.drop st).take n++R)
      (.inl ⟨hblt,r2⟩) (by simp[World.putCells]) (by simp[World.putCells];exact hblt) (by simp[World.putCells];omega) (fun b' hb' _=>Qay hb')
      (fun _ T0 k hk=>by
       simp only[World.shape?,r3,Option.some.injEq,Prod.mk.injEq]at hk
       simp only[World.shape?,Qbm hblt,hsz',Option.some.injEq,Prod.mk.injEq]
       exact hk) rfl rfl rfl (fun hle=>by
       refine Qjl (nb:=b) (base:=base+st * z') (T:=T) (arr:=cs') (n:=n) (m:=m) (by simp[G.handOver]) (by simp[G.handOver]) (Qbm hblt)
        (by rw[hsz',Nat.add_mul];omega) c4 htk (by omega) (fun i row h=>r6 _ _ (hrowt i row h).2) by3 (fun i row j c e1 e2=>?_) (fun i row j c e1 e2=>?_)
       ·obtain⟨hi,h'⟩:=hrowt i row e1
        have hj:=jlt (r6 _ _ h') e2
        have hlt:=Qqk hi hj
        refine⟨val (st+i) j,?_,?_⟩
        ·rw[(hfold _).2,if_neg (by omega),←r7 _ _ _ _ h' e2]
         congr 1;rw[Nat.add_mul];omega
        ·refine (r8 _ _ _ _ h' e2).move hle fun q b2 hb2=>?_
         have hbn:b2≠b:=fun h=>by subst h;rw[r2]at hb2;simp at hb2
         exact⟨Qlx hb2 hi hbn,Qay hbn⟩
       ·have hj:=jlt (by3 i row e1) e2
        have hi:i<m:=by
         rcases Nat.lt_or_ge i (R).length with h|h
         ·omega
         ·rw[List.getElem?_eq_none h]at e1;simp at e1
        have hlt:=Qqk hi hj
        refine⟨Qr5 z z' (i * z'+j),?_,f3 _ _ i row j c e1 e2⟩
        have hmul:(n+i) * z'=n * z'+i * z':=by rw[Nat.add_mul]
        rw[(hfold _).2,if_pos (by simp;omega)]
        rw[show base+st * z'+(n+i) * z'+j-(base+st * z'+n * z'+0)=i * z'+j by omega]
        simp only[List.getElem?_map]
        rw[List.getElem?_range hlt];rfl) hnomap
     refine EOk.value (v:=.slice (some ⟨b,base+st * z',none⟩) (n+m) cap) (by rw[hexec,hxv,hrun];rfl) (c5 l' (by rw[Heap.set_other _ _ hll];exact hHl')) hst ?_
     have:=RepC.vsl (w:=World.putCells w b cs' T) (g:=g.handOver l l' st n b z' (base+st * z')) l' z' 0 (n+m) cap b (base+st * z') T cs.size (by simp[G.handOver]) hroom
      (by simp only[World.shape?,Qbm hblt,hsz']) (by rw[Nat.zero_add];rw[Nat.add_mul]at hmm;omega)
     simpa using RepV.c _ _ this
    ·exact grow _ cap hxv hroom
  ·exact q5.elim
 ·exact q5.elim
end Go.AE

namespace Go.AE
variable {P:Program}{H:Heap}{g:G}{w:World}{e:Env}{a:Act}{o:Oper}{p:Bool}
def Qa9n (P:Program)(el:TypeId)(sz:Nat):Bool:=
 match P.info? el with
 |some i=>i.size == sz&&decide (i.bytes≤128)&&decide (i.bytes≠0)&&(match i.zero with
  |some z=>z.cells.size == sz
  |none=>false)
 |none=>false
theorem Q5n {el:TypeId}{sz:Nat}(h:Qa9n P el sz=true):∃i z,P.info? el=some i∧i.size=sz∧i.zero=some z∧z.cells.size=sz∧i.bytes≤128∧i.bytes≠0:=by
 unfold Qa9n at h
 split at h
 ·rename_i i hi
  simp only[Bool.and_eq_true,decide_eq_true_eq,beq_iff_eq]at h
  obtain⟨⟨⟨h1,h2⟩,h3⟩,h4⟩:=h
  split at h4
  ·rename_i z hz;exact⟨i,z,hi,h1,hz,by simpa using h4,h2,h3⟩
  ·simp at h4
 ·simp at h
def mMap (P:Program)(t:TypeId)(tag:Nat):Bool:=
 match P.underlying t with
 |some (.map kt _)=>(match P.underlying kt with
  |some d=>Qa9a d tag
  |none=>false)
 |_=>false
theorem Qae2 {t:TypeId}{tag:Nat}(h:mMap P t tag=true):∃kt et,P.underlying t=some (.map kt et)∧P.underlying kt=some (tagD tag):=by
 unfold mMap at h
 split at h
 ·rename_i kt et hu
  split at h
  ·rename_i d hd;have:=Q5k h;subst this;exact⟨kt,et,hu,hd⟩
  ·simp at h
 ·simp at h
def mE (P:Program)(o:Oper):EOp→Bool
 |.alloc cells=>match o.op with
  |.alloc t=>Qax9 P t cells
  |_=>false
 |.boxm x=>match o.op with
  |.box _ x'=>mO x x'
  |_=>false
 |.sto n x y=>match o.op with
  |.store t x' y'=>Qajr P t n&&mO x x'&&mO y y'
  |_=>false
 |.app sz x y=>match o.op with
  |.call { callee:=.builtin .append,args:=⟨[x',y']⟩,argTypes:=ats }=>mO x x'&&mO y y'&&(match ats[0]?,ats[1]? with
   |some t,some t2=>(match P.underlying t,P.underlying t2 with
    |some (.slice el),some (.slice _)=>Qa9n P el sz
    |_,_=>false)
   |_,_=>false)
  |_=>false
 |.apz sz zr x y=>match o.op with
  |.call { callee:=.builtin .append,args:=⟨[x',y']⟩,argTypes:=ats }=>mO x x'&&mO y y'&&(match ats[0]?,ats[1]? with
   |some t,some t2=>(match P.underlying t,P.underlying t2 with
    |some (.slice el),some (.int .i64)=>Qa9n P el sz&&Qax9 P el zr
    |_,_=>false)
   |_,_=>false)
  |_=>false
 |.mks sz zero x=>match o.op with
  |.makeSlice t x' y'=>mO x x'&&mO x y'&&zero.length == sz&&decide (sz≠0)&&(match P.underlying t with
   |some (.slice el)=>Qa9n P el sz&&Qax9 P el zero
   |_=>false)
  |_=>false
 |.mkm=>match o.op with
  |.makeMap _ none=>true
  |_=>false
 |.upd tag x k y=>match o.op with
  |.mapUpdate t x' k' y'=>mO x x'&&mO k k'&&mO y y'&&mMap P t tag
  |.insert t x' k' y'=>mO x x'&&mO k k'&&mO y y'&&mMap P t tag
  |_=>false
 |.del tag x k=>match o.op with
  |.call { callee:=.builtin .delete,args:=⟨[x',k']⟩,argTypes:=ats }=>mO x x'&&mO k k'&&o.dst.isNone&&(match ats[0]? with
   |some t=>mMap P t tag
   |none=>false)
  |_=>false
 |.clrm x=>match o.op with
  |.call { callee:=.builtin .clear,args:=⟨[x']⟩,argTypes:=ats }=>mO x x'&&(match ats[0]? with
   |some t=>(match P.underlying t with
    |some (.map _ _)=>true
    |_=>false)
   |none=>false)
  |_=>false
 |.clrs sz zero x=>match o.op with
  |.call { callee:=.builtin .clear,args:=⟨[x']⟩,argTypes:=ats }=>mO x x'&&zero.length == sz&&(match ats[0]? with
   |some t=>(match P.underlying t with
    |some (.slice el)=>Qax9 P el zero
    |_=>false)
   |none=>false)
  |_=>false
 |.call f xs=>match o.op with
  |.call { callee:=.value (.func f'),args:=aS,argTypes:=_ }=>f == f'&&mOs xs aS.toList
  |_=>false
 |.callv x xs=>match o.op with
  |.call { callee:=.value y,args:=aS,argTypes:=_ }=>mO x y&&mOs xs aS.toList
  |_=>false
 |.rng x=>match o.op with
  |.range t x'=>mO x x'&&(match P.underlying t with
   |some (.map _ _)=>true
   |_=>false)
  |_=>false
 |.rngs x=>match o.op with
  |.range t x'=>mO x x'&&(match P.underlying t with
   |some .string=>true
   |_=>false)
  |_=>false
 |.nxts x=>match o.op with
  |.next x' true=>mO x x'
  |_=>false
 |.nxt x=>match o.op with
  |.next x' false=>mO x x'
  |_=>false
 |.ent x=>match o.op with
  |.entry x'=>mO x x'
  |_=>false
 |.nilq x=>match o.op with
  |.binOp .eql t x' (.const (.slice none 0 0)) _=>mO x x'&&(match P.underlying t with
   |some (.slice _)=>true
   |_=>false)
  |_=>false
 |.cpy sz x y=>match o.op with
  |.call { callee:=.builtin .copy,args:=⟨[x',y']⟩,argTypes:=ats }=>mO x x'&&mO y y'&&(match ats[0]? with
   |some t=>(match P.underlying t with
    |some (.slice el)=>Qajr P el sz
    |_=>false)
   |none=>false)
  |_=>false
 |.bslm sz parts=>match o.op with
  |.buildSlice t n parts'=>n == parts'.size&&decide (n * sz≤2 ^ 24)&&mRow 0 parts parts'.toList&&decide (sz≠0)&&(match P.underlying t with
   |some (.slice el)=>Qajr P el sz&&(match P.info? el with
    |some i=>i.zero.isSome
    |none=>false)
   |_=>false)
  |_=>false
theorem Qael {op:EOp}{K:V→Heap→Prop}(hm:mE P o op=true)(hs:Sat H g w)(he:EnvOk w g e a)(hp:p=true)(ho:op.eff P p e H K):EOk P H g w a o K:=by
 cases op with
 |alloc cells=>
  simp only[mE]at hm
  split at hm
  ·obtain⟨i,z,h1,h2,h3⟩:=Ql4 hm
   exact Qbg2 ‹_› h1 h2 h3 hs ho
  ·simp at hm
 |boxm x=>
  simp only[mE]at hm
  split at hm
  ·exact Qbjh ‹_› hm hs he hp ho
  ·simp at hm
 |sto n x y=>
  simp only[mE]at hm
  split at hm
  ·simp only[Bool.and_eq_true]at hm
   obtain⟨i,h1,h2⟩:=Qfu hm.1.1
   exact Qblf ‹_› h1 h2 hm.1.2 hm.2 hs he hp ho
  ·simp at hm
 |app sz x y=>
  simp only[mE]at hm
  split at hm
  ·rename_i x' y' ats hop
   simp only[Bool.and_eq_true]at hm
   obtain⟨⟨h1,h2⟩,h3⟩:=hm
   split at h3
   ·rename_i t t2 ht ht2
    split at h3
    ·rename_i el el2 hu hu2
     obtain⟨i,z,k1,k2,k3,k4,k5,k6⟩:=Q5n h3
     exact Qbk6 hop ht ht2 hu hu2 k1 k2 k3 k4 k5 k6 h1 h2 hs he hp ho
    ·simp at h3
   ·simp at h3
  ·simp at hm
 |apz sz zr x y=>
  simp only[mE]at hm
  split at hm
  ·rename_i x' y' ats hop
   simp only[Bool.and_eq_true]at hm
   obtain⟨⟨h1,h2⟩,h3⟩:=hm
   split at h3
   ·rename_i t t2 ht ht2
    split at h3
    ·rename_i el hu hu2
     rw[Bool.and_eq_true]at h3
     obtain⟨i,z,k1,k2,k3,k4,k5,k6⟩:=Q5n h3.1
     obtain⟨i',z',j1,j2,j3⟩:=Ql4 h3.2
     rw[k1]at j1
     obtain rfl:=Option.some.inj j1
     rw[k3]at j2
     obtain rfl:=Option.some.inj j2
     simp only[EOp.eff]at ho
     obtain⟨q1,q2,q3,q4,q5,q6,q7⟩:=ho
     have hrx:=Qaa he h1 hp q1
     have e1:=Qnj he h2 hp q2 q4
     rw[Qdd q3]at hrx
     exact Qbk7 hop ht ht2 hu hu2 k1 k2 k3 k4 k5 k6 j3 hrx.c_inv (m:=(Q0 (y.v e)).toNat) (by rw[Int.toNat_of_nonneg q5];exact e1) (by omega) hs q7
    ·simp at h3
   ·simp at h3
  ·simp at hm
 |bslm sz parts=>
  simp only[mE]at hm
  split at hm
  ·rename_i t n parts' hop
   simp only[Bool.and_eq_true,decide_eq_true_eq,beq_iff_eq]at hm
   obtain⟨⟨⟨⟨h1,h2⟩,h3⟩,h4⟩,h5⟩:=hm
   split at h5
   ·rename_i el hel
    rw[Bool.and_eq_true]at h5
    obtain⟨i,hi,hz⟩:=Qfu h5.1
    have h6:=h5.2
    rw[hi]at h6
    obtain⟨z,hz'⟩:=Option.isSome_iff_exists.1 h6
    obtain⟨k1,k2⟩:=Qae4 _ _ _ h3
    exact Qbji hop hel hi hz' hz h4 h1 h2 (by simpa using k1) (fun j x y e1 e2=>by
     have:=k2 j x y e1 (by simpa using e2)
     exact⟨by simpa using this.1,this.2⟩) hs he hp ho
   ·simp at h5
  ·simp at hm
 |mks sz zero x=>
  simp only[mE]at hm
  split at hm
  ·rename_i t x' y' hop
   simp only[Bool.and_eq_true,decide_eq_true_eq,beq_iff_eq]at hm
   obtain⟨⟨⟨⟨h1,h2⟩,h3⟩,h4⟩,h5⟩:=hm
   split at h5
   ·rename_i el hu
    rw[Bool.and_eq_true]at h5
    obtain⟨i,z,k1,k2,k3,k4,k5,k6⟩:=Q5n h5.1
    obtain⟨i',z',l1,l2,l3⟩:=Ql4 h5.2
    rw[k1]at l1;simp at l1;subst l1
    exact Qblc hop hu k1 k2 h4 l2 l3 h3 k5 h1 h2 hs he hp ho
   ·simp at h5
  ·simp at hm
 |mkm=>
  simp only[mE]at hm
  split at hm
  ·exact Qblb ‹_› hs ho
  ·simp at hm
 |upd tag x k y=>
  simp only[mE]at hm
  split at hm
  ·simp only[Bool.and_eq_true]at hm
   obtain⟨kt,et,h1,h2⟩:=Qae2 hm.2
   exact Qbjp (.inl ‹_›) h1 h2 hm.1.1.1 hm.1.1.2 hm.1.2 hs he hp ho
  ·simp only[Bool.and_eq_true]at hm
   obtain⟨kt,et,h1,h2⟩:=Qae2 hm.2
   exact Qbjp (.inr ‹_›) h1 h2 hm.1.1.1 hm.1.1.2 hm.1.2 hs he hp ho
  ·simp at hm
 |del tag x k=>
  simp only[mE]at hm
  split at hm
  ·rename_i x' k' ats hop
   simp only[Bool.and_eq_true]at hm
   obtain⟨⟨⟨h1,h2⟩,h3⟩,h4⟩:=hm
   split at h4
   ·rename_i t ht
    obtain⟨kt,et,k1,k2⟩:=Qae2 h4
    exact Qbk9 hop ht (by simpa using h3) k1 k2 h1 h2 hs he hp ho
   ·simp at h4
  ·simp at hm
 |clrm x=>
  simp only[mE]at hm
  split at hm
  ·rename_i x' ats hop
   rw[Bool.and_eq_true]at hm
   obtain⟨h1,h2⟩:=hm
   split at h2
   ·rename_i t ht
    split at h2
    ·exact Qbjk hop ht ‹_› h1 hs he hp ho
    ·simp at h2
   ·simp at h2
  ·simp at hm
 |clrs sz zero x=>
  simp only[mE]at hm
  split at hm
  ·rename_i x' ats hop
   rw[Bool.and_eq_true,Bool.and_eq_true,beq_iff_eq]at hm
   obtain⟨⟨h1,h3⟩,h2⟩:=hm
   split at h2
   ·rename_i t ht
    split at h2
    ·rename_i el hu
     obtain⟨i,z,l1,l2,l3⟩:=Ql4 h2
     exact Qbjl hop ht hu l1 l2 l3 h3 h1 hs he hp ho
    ·simp at h2
   ·simp at h2
  ·simp at hm
 |call f xs=>
  simp only[mE]at hm
  split at hm
  ·simp only[Bool.and_eq_true,beq_iff_eq]at hm
   obtain⟨rfl,h2⟩:=hm
   simp only[EOp.eff]at ho
   exact Qbjj ‹_› h2 hs he hp ho.1 ho.2
  ·simp at hm
 |callv x xs=>
  simp only[mE]at hm
  split at hm
  ·simp only[Bool.and_eq_true]at hm
   exact Qbg3 ‹_› hm.1 hm.2 hs he hp ho
  ·simp at hm
 |rng x=>
  simp only[mE]at hm
  split at hm
  ·rename_i t x' hop
   rw[Bool.and_eq_true]at hm
   obtain⟨h1,h2⟩:=hm
   split at h2
   ·exact Qble hop ‹_› h1 hs he hp ho
   ·simp at h2
  ·simp at hm
 |rngs x=>
  simp only[mE]at hm
  split at hm
  ·rename_i t x' hop
   rw[Bool.and_eq_true]at hm
   obtain⟨h1,h2⟩:=hm
   split at h2
   ·exact Qbjo hop ‹_› h1 hs he hp ho
   ·simp at h2
  ·simp at hm
 |nxts x=>
  simp only[mE]at hm
  split at hm
  ·exact Qbjn ‹_› hm hs he hp ho
  ·simp at hm
 |nxt x=>
  simp only[mE]at hm
  split at hm
  ·exact Qbld ‹_› hm hs he hp ho
  ·simp at hm
 |ent x=>
  simp only[mE]at hm
  split at hm
  ·exact Qbla ‹_› hm hs he hp ho
  ·simp at hm
 |cpy sz x y=>
  simp only[mE]at hm
  split at hm
  ·rename_i x' y' ats hop
   rw[Bool.and_eq_true,Bool.and_eq_true]at hm
   obtain⟨⟨h1,h3⟩,h2⟩:=hm
   split at h2
   ·rename_i t ht
    split at h2
    ·rename_i el hu
     obtain⟨i,l1,l2⟩:=Qfu h2
     exact Qbk8 hop ht hu l1 l2 h1 h3 hs he hp ho
    ·simp at h2
   ·simp at h2
  ·simp at hm
 |nilq x=>
  simp only[mE]at hm
  split at hm
  ·rename_i t x' t' hop
   rw[Bool.and_eq_true]at hm
   obtain⟨h1,h2⟩:=hm
   split at h2
   ·exact Qbjm hop ‹_› h1 rfl hs he hp ho
   ·simp at h2
  ·simp at hm
def mG (ops:Array Oper):Option (Nat×Bool)→Option (Nat×Bool)→Bool
 |none,none=>true
 |some (j,b),some (t,b')=>(match ops[j]? with
  |some o=>o.dst == some t
  |none=>false)&&b == b'
 |_,_=>false
def mDst (n:Nat)(d d':Option Nat):Bool:=
 d == d'&&(match d with
  |some t=>decide (t<n)
  |none=>true)
def Qn9 (P:Program)(n:Nat)(ops:Array Oper)(o:Oper):Item→Bool
 |.f d g op=>mDst n o.dst d&&mG ops o.guard g&&mF P o op
 |.p d g f xs=>mDst n o.dst d&&mG ops o.guard g&&mE P o (.call f xs)
 |.e d g op=>mDst n o.dst d&&mG ops o.guard g&&mE P o op
 |.chk _ _ _=>false
def mIts (P:Program)(n:Nat)(ops:Array Oper):Nat→List Item→Bool
 |i,[]=>i == ops.size
 |i,x::r=>(match ops[i]? with
  |some o=>Qn9 P n ops o x
  |none=>false)&&mIts P n ops (i+1) r
def Post (n:Nat)(H:Heap)(g:G)(w:World)(K:Env→Heap→Prop)(a:Act)(w':World):Prop:=
 ∃e' H' g',K e' H'∧Stp H g w H' g' w'∧EnvOk w' g' e' a∧a.defers=[]∧a.tmps.size=n
theorem EnvOk.mono {g':G}{w':World}(hle:Le g w g' w')(h:EnvOk w g e a):EnvOk w' g' e a:=fun t=>(h t).mono hle
theorem EnvOk.put {n:Nat}{d:Option Nat}{x:V}{v:Value}(h:EnvOk w g e a)(hv:RepV w g x v)(hn:a.tmps.size=n)(hd:∀t,d=some t→t<n):EnvOk w g (putE d x e) (a.put d v):=by
 intro t
 cases d with
 |none=>exact h t
 |some s=>
  have hs:=hd s rfl
  simp only[putE,lk,Act.put]
  by_cases ht:t=s
  ·subst ht
   rw[if_pos rfl]
   have:(a.tmps.setIfInBounds t v).getD t undef=v:=by
    rw[Array.getD_eq_getD_getElem?,Array.getElem?_setIfInBounds_self_of_lt (by omega)];rfl
   rw[this];exact hv
  ·rw[if_neg ht]
   have:(a.tmps.setIfInBounds s v).getD t undef=a.tmps.getD t undef:=by
    rw[Array.getD_eq_getD_getElem?,Array.getElem?_setIfInBounds_ne (Ne.symm ht),←Array.getD_eq_getD_getElem?]
   rw[this];exact h t
theorem Qbw (a:Act)(d:Option Nat)(v:Value):(a.put d v).tmps.size=a.tmps.size∧(a.put d v).defers=a.defers:=by
 cases d <;> simp[Act.put]
theorem Qqb {n:Nat}{ops:Array Oper}{gd:Option (Nat×Bool)}(hm:mG ops o.guard gd=true)(he:EnvOk w g e a)(ho:gdO e gd):Region.wanted o (yielded ops a.tmps)=gdB e gd:=by
 unfold Region.wanted
 cases hg:o.guard with
 |none=>
  cases gd with
  |none=>rfl
  |some x=>rw[hg]at hm;simp[mG]at hm
 |some jb=>
  obtain⟨j,b⟩:=jb
  cases gd with
  |none=>rw[hg]at hm;simp[mG]at hm
  |some tb=>
   obtain⟨t,b'⟩:=tb
   rw[hg]at hm
   simp only[mG,Bool.and_eq_true,beq_iff_eq]at hm
   obtain⟨h1,rfl⟩:=hm
   split at h1
   ·rename_i oj hoj
    simp at h1
    simp only[yielded,hoj,Option.bind_some,h1]
    have hv:=he t
    simp only[gdO]at ho
    simp only[gdB]
    have hget:∀c,a.tmps.getD t undef=.bool c→a.tmps[t]? = some (.bool c):=by
     intro c hc
     rw[Array.getD_eq_getD_getElem?]at hc
     cases hx:a.tmps[t]? with
     |none=>rw[hx]at hc;simp[undef]at hc
     |some y=>rw[hx]at hc;simp at hc;rw[hc]
    have hno:a.tmps.getD t undef=undef→∀c,a.tmps[t]?≠some (.bool c):=by
     intro hu c hc
     rw[Array.getD_eq_getD_getElem?,hc]at hu
     simp[undef]at hu
    split at ho
    ·rename_i c hlk
     rw[hlk]at hv
     have:=hget _ hv.c_inv.bool_inv
     simp only[hlk]
     simp[this]
    ·rename_i q c hlk
     rw[hlk]at hv
     simp only[hlk]
     cases hv with
     |gd _ _ _ k1 k2=>
      cases q with
      |true=>
       have:=hget _ (k1 rfl).c_inv.bool_inv
       simp[this]
      |false=>
       have:=hno (k2 rfl)
       simp only[Bool.false_and]
       cases hx:a.tmps[t]? with
       |none=>simp
       |some y=>cases y <;> simp_all
    ·rename_i q v hnb hlk
     rw[hlk]at hv
     subst ho
     have e0:gdB e (some (t,b))=false:=by
      simp only[gdB,hlk]
      cases v with
      |c x=>cases x <;> simp
      |_=>rfl
     refine Eq.trans ?_ e0.symm
     cases hv with
     |gd _ _ _ k1 k2=>
      have:=hno (k2 rfl)
      cases hx:a.tmps[t]? with
      |none=>simp
      |some y=>cases y <;> simp_all
    ·exact ho.elim
   ·simp at h1
theorem Qe4 {n:Nat}{d d':Option Nat}(h:mDst n d d'=true):d=d'∧∀t,d=some t→t<n:=by
 unfold mDst at h
 rw[Bool.and_eq_true]at h
 refine⟨by simpa using h.1,fun t ht=>?_⟩
 subst ht
 simpa using h.2
theorem Qa3r {f:Nat}{xs:List Opd}{r:V}(hm:mE P o (.call f xs)=true)(hs:Sat H g w)(he:EnvOk w g e a)(hp:p=true)(hf:∀x∈xs,x.fine p e)(hc:Qbcr P f (xs.map fun x=>x.v e) r) :
  EOk P H g w a o (fun v H'=>v=r∧H'=H):=
 Qael (op:=.call f xs) hm hs he hp ⟨hf,hc.2 H _ ⟨rfl,rfl⟩⟩
theorem Qaw5 {KP:Value→Heap→Prop}{K:V→Heap→Prop}{x:V}{v:Value}(h:Qaw4 KP K x H)(hr:RepV w g x v):K x H:=by
 cases hr <;> exact h
theorem Qa4y {n:Nat}{ops:Array Oper}{i:Nat}{x:Item}{rest:List Item}{KP:Value→Heap→Prop}{K:Env→Heap→Prop}{Q:Exit→Act→World→Prop}{next:Act→World→Prop}(hoi:ops[i]? = some o)(hm:Qn9 P n ops o x=true)
  (hs:Sat H g w) (he:EnvOk w g e a) (hn:a.tmps.size=n) (hd:a.defers=[]) (hr:regT P (x::rest) e H KP K)
  (hpan:∀v H' g' w',KP v H'→Stp H g w H' g' w'→Q (.panic [{ v:=v,recovered:=false }]) a w')
  (hnext:∀e' H' g' a' w',regT P rest e' H' KP K→Stp H g w H' g' w'→EnvOk w' g' e' a'→a'.tmps.size=n→a'.defers=[]→next a' w') :
  (if Region.wanted o (yielded ops a.tmps)then o.wp P a w next Q∨(o.asks P a w∧LetsOut Q)else next (a.put o.dst undef) w):=by
 cases x with
 |f d gd op=>
  simp only[Qn9,Bool.and_eq_true]at hm
  obtain⟨⟨h1,h2⟩,h3⟩:=hm
  obtain⟨hd1,hd2⟩:=Qe4 h1
  simp only[regT]at hr
  obtain⟨r1,r2,r3⟩:=hr
  rw[Qqb (n:=n) h2 he r1]
  by_cases hg:gdB e gd=true
  ·rw[if_pos hg]
   obtain⟨v,w',g',k1,k2,k3,k4⟩:=Qas7 h3 hs he hg (r2 hg)
   left
   unfold Oper.wp
   rw[k1,Oper.upon_value,hd1]
   refine hnext _ _ _ _ _ (r3 fun _=>k4) k2 (((he.mono k2.le).put (n:=n) ?_ hn (hd1▸hd2))) (by rw[(Qbw _ _ _).1,hn]) (by rw[(Qbw _ _ _).2,hd])
   cases gd with
   |none=>exact k3
   |some tb=>exact .gd _ _ _ (fun _=>k3) (fun h=>by rw[hg]at h;simp at h)
  ·rw[if_neg hg]
   have hg':gdB e gd=false:=by simpa using hg
   rw[hd1]
   refine hnext _ _ _ _ _ (r3 fun h=>absurd h hg) (.refl hs) (he.put (n:=n) ?_ hn (hd1▸hd2)) (by rw[(Qbw _ _ _).1,hn]) (by rw[(Qbw _ _ _).2,hd])
   cases gd with
   |none=>simp[gdB]at hg'
   |some tb=>exact .gd _ _ _ (fun h=>absurd h hg) (fun _=>rfl)
 |p d gd f xs=>
  simp only[Qn9,Bool.and_eq_true]at hm
  obtain⟨⟨h1,h2⟩,h3⟩:=hm
  obtain⟨hd1,hd2⟩:=Qe4 h1
  simp only[regT]at hr
  obtain⟨r1,v0,r2,r3⟩:=hr
  rw[Qqb (n:=n) h2 he r1]
  by_cases hg:gdB e gd=true
  ·rw[if_pos hg]
   obtain⟨s1,s2⟩:=r2 hg
   left
   refine Qa3r h3 hs he hg s1 s2 Q next (fun x v w' H' g' hk hst hrep=>?_) fun v w' H' g' hk _=>absurd hk.1.symm (s2.1 v)
   obtain⟨rfl,rfl⟩:=hk
   rw[hd1]
   refine hnext _ _ _ _ _ r3 hst (((he.mono hst.le).put (n:=n) ?_ hn (hd1▸hd2))) (by rw[(Qbw _ _ _).1,hn]) (by rw[(Qbw _ _ _).2,hd])
   cases gd with
   |none=>exact hrep
   |some tb=>exact .gd _ _ _ (fun _=>hrep) (fun h=>by rw[hg]at h;simp at h)
  ·rw[if_neg hg]
   have hg':gdB e gd=false:=by simpa using hg
   rw[hd1]
   refine hnext _ _ _ _ _ r3 (.refl hs) (he.put (n:=n) ?_ hn (hd1▸hd2)) (by rw[(Qbw _ _ _).1,hn]) (by rw[(Qbw _ _ _).2,hd])
   cases gd with
   |none=>simp[gdB]at hg'
   |some tb=>exact .gd _ _ _ (fun h=>absurd h hg) (fun _=>rfl)
 |e d gd op=>
  simp only[Qn9,Bool.and_eq_true]at hm
  obtain⟨⟨h1,h2⟩,h3⟩:=hm
  obtain⟨hd1,hd2⟩:=Qe4 h1
  simp only[regT]at hr
  obtain⟨r1,r2,r3⟩:=hr
  rw[Qqb (n:=n) h2 he r1]
  by_cases hg:gdB e gd=true
  ·rw[if_pos hg]
   left
   refine Qael h3 hs he hg (r2 hg) Q next (fun x v w' H' g' hk hst hrep=>?_) fun v w' H' g' hk hst=>hpan v H' g' w' hk hst
   rw[hd1]
   exact hnext _ _ _ _ _ (Qaw5 hk hrep) hst (((he.mono hst.le).put (n:=n) hrep hn (hd1▸hd2))) (by rw[(Qbw _ _ _).1,hn]) (by rw[(Qbw _ _ _).2,hd])
  ·rw[if_neg hg]
   have hg':gdB e gd=false:=by simpa using hg
   rw[hd1]
   exact hnext _ _ _ _ _ (r3 hg') (.refl hs) (he.put (n:=n) (.unk _) hn (hd1▸hd2)) (by rw[(Qbw _ _ _).1,hn]) (by rw[(Qbw _ _ _).2,hd])
 |chk d gd op=>simp[Qn9]at hm
theorem Q85 {n:Nat}{ops:Array Oper}{KP:Value→Heap→Prop}{K:Env→Heap→Prop}{Q:Exit→Act→World→Prop}{H0:Heap}{g0:G}{w0:World}(hQ:∀a' w',Post n H0 g0 w0 K a' w'→Q .normal a' w')
  (hP:∀v a' w',Post n H0 g0 w0 (fun _ H'=>KP v H') a' w'→Q (.panic [{ v:=v,recovered:=false }]) a' w') :
  ∀(its:List Item) (i:Nat) (e:Env) (H:Heap) (g:G) (w:World) (a:Act),mIts P n ops i its=true→Stp H0 g0 w0 H g w→EnvOk w g e a→a.tmps.size=n→a.defers=[]→regT P its e H KP K→
   wpOps P ops Q (List.range' i its.length) a w
 |[],i,e,H,g,w,a,_,hst,he,hn,hd,hr=>hQ a w ⟨e,H,g,hr,hst,he,hd,hn⟩
 |x::rest,i,e,H,g,w,a,hm,hst,he,hn,hd,hr=>by
  simp only[mIts,Bool.and_eq_true]at hm
  obtain⟨h1,h2⟩:=hm
  split at h1
  ·rename_i o ho
   simp only[List.length_cons,List.range'_succ,wpOps,ho]
   have:=Qa4y (Q:=Q) (next:=wpOps P ops Q (List.range' (i+1) rest.length)) ho h1 hst.sat he hn hd hr (fun v H' g' w' k1 k2=>hP v a w' ⟨e,H',g',k1,hst.trans k2,he.mono k2.le,hd,hn⟩) fun e' H' g' a' w' k1 k2 k3 k4 k5=>
    Q85 hQ hP rest (i+1) e' H' g' w' a' h2 (hst.trans k2) k3 k4 k5 k1
   simpa using this
  ·simp at h1
theorem Qa3l {n:Nat}{ops:Array Oper}:∀(its:List Item) (i:Nat),mIts P n ops i its=true→i+its.length=ops.size
 |[],i,h=>by simpa[mIts]using h
 |x::r,i,h=>by
  simp only[mIts,Bool.and_eq_true]at h
  have:=Qa3l r (i+1) h.2
  simp only[List.length_cons];omega
end Go.AE

namespace Go.AE
variable {P:Program}
def optL:Option Opd→List Opd
 |none=>[]
 |some x=>[x]
def FOp.opds:FOp→List Opd
 |.mv x=>[x]
 |.pick c a b=>[c,a,b]
 |.bin _ _ a b=>[a,b]
 |.not a=>[a]
 |.fad _ a=>[a]
 |.iad _ a i=>[a,i]
 |.ld _ _ a=>[a]
 |.nck a=>[a]
 |.len a=>[a]
 |.lenx a=>[a]
 |.lens a=>[a]
 |.lensx a=>[a]
 |.lenm a=>[a]
 |.sli _ a lo hi=>a::(optL lo++optL hi)
 |.slis a lo hi=>a::(optL lo++optL hi)
 |.ext a _=>[a]
 |.asl _ a=>[a]
 |.aslp _ a hi=>a::optL hi
 |.ldg _ _ _=>[]
 |.ldo _ _=>[]
 |.aslg _ _ _=>[]
 |.iax _ _ a i=>[a,i]
 |.slm _ a hi=>[a,hi]
 |.b2s a=>[a]
 |.iaa _ _ a i=>[a,i]
 |.fld _ _ _ a=>[a]
 |.idx a i=>[a,i]
 |.bld _ parts=>parts.map fun p=>p.2.2
 |.bsl _ parts=>parts
 |.box a=>[a]
 |.cvt _ a=>[a]
 |.mkf _ caps=>caps
 |.lup _ _ m k=>[m,k]
 |.lup2 _ _ m k=>[m,k]
 |.mx a b=>[a,b]
 |.mn a b=>[a,b]
def EOp.opds:EOp→List Opd
 |.alloc _=>[]
 |.boxm a=>[a]
 |.sto _ a v=>[a,v]
 |.app _ a b=>[a,b]
 |.apz _ _ a n=>[a,n]
 |.mks _ _ n=>[n]
 |.mkm=>[]
 |.upd _ m k v=>[m,k,v]
 |.del _ m k=>[m,k]
 |.clrm m=>[m]
 |.clrs _ _ m=>[m]
 |.call _ args=>args
 |.callv f args=>f::args
 |.rng m=>[m]
 |.nxt it=>[it]
 |.rngs m=>[m]
 |.nxts it=>[it]
 |.ent it=>[it]
 |.nilq a=>[a]
 |.bslm _ parts=>parts
 |.cpy _ a b=>[a,b]
def FOp.hfree:FOp→Bool
 |.iad _ _ _=>false
 |.ld _ _ _=>false
 |.len _=>false
 |.lenx _=>false
 |.lenm _=>false
 |.sli _ _ _ _=>false
 |.lup _ _ _ _=>false
 |.asl _ _=>false
 |.ldg _ _ _=>false
 |.ldo _ _=>false
 |.aslg _ _ _=>false
 |.lup2 _ _ _ _=>false
 |_=>true
theorem Opd.v_congr {e e':Env}{x:Opd}(h:x.raw e'=x.raw e):x.v e'=x.v e:=by
 simp only[Opd.v,h]
theorem Opd.fine_congr {e e':Env}{x:Opd}{p:Bool}(h:x.raw e'=x.raw e):x.fine p e'↔x.fine p e:=by
 simp only[Opd.fine,h]
theorem Qub {e e':Env}{x:Option Opd}{p:Bool}(h:∀y∈optL x,y.raw e'=y.raw e) :
  (x.map fun y=>Q0 (y.v e'))=(x.map fun y=>Q0 (y.v e))∧(optF p x e'↔optF p x e)∧(optI x e'↔optI x e):=by
 cases x with
 |none=>exact⟨rfl,Iff.rfl,Iff.rfl⟩
 |some y=>
  have:=h y (by simp[optL])
  simp only[Option.map_some,optF,optI,Opd.v_congr this,Opd.fine_congr this,and_self]
theorem FOp.congr {op:FOp}{e e':Env}{H:Heap}{p:Bool}(h:∀x∈op.opds,x.raw e'=x.raw e) :
  op.val e' H=op.val e H∧(op.obl p e' H↔op.obl p e H):=by
 cases op <;> simp only[FOp.opds,List.mem_cons,List.not_mem_nil,or_false,forall_eq_or_imp,forall_eq,List.mem_append,List.mem_map,forall_exists_index,and_imp]at h
 case sli sz a lo hi=>
  have h1:=Opd.v_congr h.1
  have h2:=Qub (x:=lo) (p:=p) fun y hy=>h.2 y (.inl hy)
  have h3:=Qub (x:=hi) (p:=p) fun y hy=>h.2 y (.inr hy)
  simp only[FOp.val,FOp.obl,h1,h2.1,h3.1,h2.2.1,h3.2.1,h2.2.2,h3.2.2,Opd.fine_congr h.1,and_self]
 case ldg n b l=>exact⟨rfl,Iff.rfl⟩
 case ldo b l=>exact⟨rfl,Iff.rfl⟩
 case aslg n b l=>exact⟨rfl,Iff.rfl⟩
 case aslp n a hi=>
  have h1:=Opd.v_congr h.1
  have h3:=Qub (x:=hi) (p:=p) fun y hy=>h.2 y hy
  simp only[FOp.val,FOp.obl,h1,h3.1,h3.2.1,h3.2.2,Opd.fine_congr h.1,and_self]
 case slis a lo hi=>
  have h1:=Opd.v_congr h.1
  have h2:=Qub (x:=lo) (p:=p) fun y hy=>h.2 y (.inl hy)
  have h3:=Qub (x:=hi) (p:=p) fun y hy=>h.2 y (.inr hy)
  simp only[FOp.val,FOp.obl,h1,h2.1,h3.1,h2.2.1,h3.2.1,h2.2.2,h3.2.2,Opd.fine_congr h.1,and_self]
 case bld zero parts=>
  have h1:∀x∈parts,x.2.2.raw e'=x.2.2.raw e:=fun x hx=>h _ x hx rfl
  refine⟨?_,?_⟩
  ·simp only[FOp.val]
   have:(parts.map fun p=>(p.1,(p.2.2.v e').cells))=parts.map fun p=>(p.1,(p.2.2.v e).cells):=
    List.map_congr_left fun x hx=>by rw[Opd.v_congr (h1 x hx)]
   rw[this]
  ·simp only[FOp.obl]
   exact forall_congr' fun x=>forall_congr' fun hx=>by rw[Opd.fine_congr (h1 x hx),Opd.v_congr (h1 x hx)]
 case bsl sz parts=>
  refine⟨?_,?_⟩
  ·simp only[FOp.val]
   have:(parts.map fun x=>(x.v e').cells)=parts.map fun x=>(x.v e).cells:=
    List.map_congr_left fun x hx=>by rw[Opd.v_congr (h x hx)]
   rw[this]
  ·simp only[FOp.obl]
   exact forall_congr' fun x=>forall_congr' fun hx=>by rw[Opd.fine_congr (h x hx),Opd.v_congr (h x hx)]
 case mkf f caps=>
  refine⟨?_,?_⟩
  ·simp only[FOp.val]
   have:(caps.map fun x=>(x.v e').c1)=caps.map fun x=>(x.v e).c1:=
    List.map_congr_left fun x hx=>by rw[Opd.v_congr (h x hx)]
   rw[this]
  ·simp only[FOp.obl]
   exact forall_congr' fun x=>forall_congr' fun hx=>by rw[Opd.fine_congr (h x hx),Opd.v_congr (h x hx)]
 case pick c a b=>
  simp only[FOp.val,FOp.obl,Opd.v_congr h.1,Opd.v_congr h.2.1,Opd.v_congr h.2.2,Opd.fine_congr h.1,true_and]
  constructor <;> rintro⟨k1,k2⟩ <;> refine⟨k1,?_⟩ <;> split at k2 <;> first|exact k2.elim|skip
  ·rw[Opd.fine_congr h.2.1,Opd.fine_congr h.2.2]at k2;exact k2
  ·rw[Opd.fine_congr h.2.1,Opd.fine_congr h.2.2];exact k2
 all_goals first
  |(have h1:=Opd.v_congr h;simp only[FOp.val,FOp.obl,h1,Opd.fine_congr h,and_self])
  |(have h1:=Opd.v_congr h.1;have h2:=Opd.v_congr h.2;simp only[FOp.val,FOp.obl,h1,h2,Opd.fine_congr h.1,Opd.fine_congr h.2,and_self])
theorem FOp.hcongr {op:FOp}{e:Env}{H H':Heap}{p:Bool}(h:op.hfree=true):op.val e H'=op.val e H∧(op.obl p e H'↔op.obl p e H):=by
 cases op <;> first|(simp[FOp.hfree]at h;done)|exact⟨rfl,Iff.rfl⟩
theorem Q5a {e e':Env}{xs:List Opd}(h:∀x∈xs,x.raw e'=x.raw e):(xs.map fun x=>x.v e')=(xs.map fun x=>x.v e):=
 List.map_congr_left fun x hx=>Opd.v_congr (h x hx)
theorem Qz4 {e e':Env}{xs:List Opd}{p:Bool}(h:∀x∈xs,x.raw e'=x.raw e):(∀x∈xs,x.fine p e')↔(∀x∈xs,x.fine p e):=
 forall_congr' fun x=>forall_congr' fun hx=>Opd.fine_congr (h x hx)
theorem EOp.congr {op:EOp}{e e':Env}{H:Heap}{p:Bool}{K:V→Heap→Prop}(h:∀x∈op.opds,x.raw e'=x.raw e)(he:op.eff P p e H K):op.eff P p e' H K:=by
 cases op
 case call f xs=>
  simp only[EOp.opds]at h
  simp only[EOp.eff]at he⊢
  rw[Q5a h,Qz4 h];exact he
 case callv f xs=>
  simp only[EOp.opds,List.mem_cons,forall_eq_or_imp]at h
  simp only[EOp.eff]at he⊢
  rw[Q5a h.2,Qz4 h.2,Opd.fine_congr h.1,Opd.v_congr h.1];exact he
 case bslm sz parts=>
  simp only[EOp.opds]at h
  simp only[EOp.eff]at he⊢
  have:(parts.map fun x=>(x.v e').cells)=parts.map fun x=>(x.v e).cells:=
   List.map_congr_left fun x hx=>by rw[Opd.v_congr (h x hx)]
  rw[this]
  exact⟨fun x hx=>by rw[Opd.fine_congr (h x hx),Opd.v_congr (h x hx)];exact he.1 x hx,he.2⟩
 all_goals simp only[EOp.opds,List.mem_cons,List.not_mem_nil,or_false,forall_eq_or_imp,forall_eq]at h
 all_goals first
  |exact he
  |(simp only[EOp.eff,Opd.v_congr h,Opd.fine_congr h]at he⊢;exact he)
  |(simp only[EOp.eff,Opd.v_congr h.1,Opd.fine_congr h.1,Opd.v_congr h.2,Opd.fine_congr h.2]at he⊢;exact he)
  |(simp only[EOp.eff,Opd.v_congr h.1,Opd.fine_congr h.1,Opd.v_congr h.2.1,Opd.fine_congr h.2.1,Opd.v_congr h.2.2,Opd.fine_congr h.2.2]at he⊢;exact he)
def Item.dst:Item→Option Nat
 |.f d _ _=>d
 |.p d _ _ _=>d
 |.e d _ _=>d
 |.chk _ _ _=>none
def Item.gd:Item→Option (Nat×Bool)
 |.f _ g _=>g
 |.p _ g _ _=>g
 |.e _ g _=>g
 |.chk _ g _=>g
def Item.opds:Item→List Opd
 |.f _ _ op=>op.opds
 |.p _ _ _ xs=>xs
 |.e _ _ op=>op.opds
 |.chk _ _ op=>op.opds
def Opd.tm:Opd→List Nat
 |.t n=>[n]
 |_=>[]
def Item.looks (x:Item):List Nat:=x.opds.flatMap Opd.tm++(match x.gd with
 |some (t,_)=>[t]
 |none=>[])
theorem Qbak {e e':Env}{x:Opd}(h:∀t∈x.tm,lk t e'=lk t e):x.raw e'=x.raw e:=by
 cases x with
 |t n=>simpa[Opd.raw,Opd.tm]using h
 |k v=>rfl
theorem Qatg {e e':Env}{x:Item}(h:∀t∈x.looks,lk t e'=lk t e):∀y∈x.opds,y.raw e'=y.raw e:=fun y hy=>
 Qbak fun t ht=>h t (List.mem_append_left _ (List.mem_flatMap.2 ⟨y,hy,ht⟩))
theorem Qbdp {e e':Env}{gd:Option (Nat×Bool)}(h:∀t b,gd=some (t,b)→lk t e'=lk t e):gdB e' gd=gdB e gd∧(gdO e' gd↔gdO e gd):=by
 cases gd with
 |none=>exact⟨rfl,Iff.rfl⟩
 |some x=>
  obtain⟨t,b⟩:=x
  have:=h t b rfl
  simp only[gdB,gdO,this,and_self]
theorem Qa3k {e e':Env}{x:Item}(h:∀t∈x.looks,lk t e'=lk t e):gdB e' x.gd=gdB e x.gd∧(gdO e' x.gd↔gdO e x.gd):=
 Qbdp fun t b hg=>h t (List.mem_append_right _ (by rw[hg];simp))
theorem Qapk (ks:List Nat)(e:Env)(t:Nat):lk t (trim ks e)=if t∈ks then lk t e else .unk:=by
 unfold trim
 induction ks with
 |nil=>simp[lk]
 |cons k ks ih=>
  simp only[List.map_cons,lk,ih,List.mem_cons]
  by_cases h:t=k
  ·subst h;simp
  ·simp[h]
end Go.AE

namespace Go.AE
variable {P:Program}{H:Heap}{g:G}{w:World}{e:Env}{a:Act}
def Item.isE:Item→Bool
 |.e _ _ _=>true
 |_=>false
def Item.isChk:Item→Bool
 |.chk _ _ _=>true
 |_=>false
def Item.isFl:Item→Bool
 |.f _ _ _=>true
 |.p _ _ _ _=>true
 |_=>false
def Item.hf:Item→Bool
 |.f _ _ op=>op.hfree
 |_=>true
def Item.isFa:Item→Bool
 |.e (some _) none (.alloc _)=>true
 |_=>false
abbrev Row:=Nat×Item
def Q49 (ms:List Nat)(o:Oper):Nat→List Edge→Nat
 |s,[]=>s
 |s,ed::r=>Q49 ms o (if Region.binds .any ed then s ||| (2 ^ ed.on ||| ms.getD ed.on 0)else s) r
def dIn (d:Option Nat)(l:List Nat):Bool:=
 match d with
 |some t=>l.contains t
 |none=>false
def flo (fa i:Nat):Bool:=i == fa || (decide (100000≤fa)&&(fa-100000).testBit i)
def Qa3p (ms:List Nat)(fa:Nat)(x y:Row):Bool:=
 x.1 != y.1&&!((ms.getD x.1 0).testBit y.1)&&(match x.2.dst with
  |some t=>y.2.dst != some t
  |none=>true)
 &&(!(dIn y.2.dst x.2.looks) || (ms.getD y.1 0).testBit x.1)
 &&(!(dIn x.2.dst y.2.looks) || (ms.getD y.1 0).testBit x.1)
 &&(!x.2.isE || flo fa y.1 || (ms.getD y.1 0).testBit x.1)
def Qapa (j:Nat):List Row→Bool
 |[]=>false
 |y::r=>y.2.isChk&&(y.1 == j || Qapa j r)
def Qa5a (P:Program)(n:Nat)(ops:Array Oper)(ms:List Nat)(fa:Nat)(pre:List Row)(y:Row)(rest:List Row):Bool:=
 match ops[y.1]? with
 |none=>false
 |some o=>match y.2 with
  |.chk d gd op=>Qn9 P n ops o (.f (some d) gd op)&&pre.any (fun z=>!z.2.isChk&&z.1 == y.1&&z.2.looks == y.2.looks&&z.2.dst == some d&&!z.2.hf)
    &&pre.all (fun z=>z.2.isChk || !(dIn z.2.dst y.2.looks) || (ms.getD y.1 0).testBit z.1)
  |_=>Qn9 P n ops o y.2&&o.after.toList.all (fun ed=>!Region.binds .any ed || pre.any fun z=>!z.2.isChk&&z.1 == ed.on)
    &&ms.getD y.1 0 == Q49 ms o 0 o.after.toList&&!(dIn y.2.dst y.2.looks)
    &&pre.all (fun z=>z.2.isChk || Qa3p ms fa z y)&&(!flo fa y.1 || y.2.isFa)
    &&(!y.2.isE || pre.all (fun z=>z.2.isChk || z.2.hf || (ms.getD y.1 0).testBit z.1 || Qapa z.1 rest))
def Qaue (P:Program)(n:Nat)(ops:Array Oper)(ms:List Nat)(fa:Nat):List Row→List Row→Bool
 |_,[]=>true
 |pre,y::r=>Qa5a P n ops ms fa pre y r&&Qaue P n ops ms fa (pre++[y]) r
def Qbig:List Oper→List Nat→List Nat
 |[],ms=>ms
 |o::r,ms=>Qbig r (ms++[Q49 ms o 0 o.after.toList])
def Qbh7 (P:Program)(n:Nat)(ops:Array Oper)(fa:Nat)(ord:List Nat)(its:List Item):Bool:=
 ord.length == its.length&&Region.noSelect ops&&Qaue P n ops (Qbig ops.toList []) fa [] (ord.zip its)
  &&(List.range ops.size).all fun i=>(ord.zip its).any fun y=>!y.2.isChk&&y.1 == i
theorem Q0j {n:Nat}{ops:Array Oper}{ms:List Nat}{fa:Nat}:∀(L pre:List Row),Qaue P n ops ms fa pre L=true→
  ∀A y B,L=A++y::B→Qa5a P n ops ms fa (pre++A) y B=true
 |[],_,_,A,y,B,h=>by simp at h
 |x::r,pre,hm,A,y,B,h=>by
  simp only[Qaue,Bool.and_eq_true]at hm
  cases A with
  |nil=>
   simp at h
   obtain⟨rfl,rfl⟩:=h
   simpa using hm.1
  |cons a A=>
   simp at h
   obtain⟨rfl,rfl⟩:=h
   have:=Q0j _ _ hm.2 A y B rfl
   simpa[List.append_assoc]using this
theorem Q8i {ms:List Nat}{o:Oper}{j:Nat}:∀(l:List Edge) (s:Nat),(Q49 ms o s l).testBit j=true→
  s.testBit j=true∨∃ed∈l,Region.binds .any ed=true∧(ed.on=j∨(ms.getD ed.on 0).testBit j=true)
 |[],s,h=>.inl h
 |ed::r,s,h=>by
  simp only[Q49]at h
  rcases Q8i r _ h with h1|⟨x,hx,h1⟩
  ·by_cases hb:Region.binds .any ed=true
   ·rw[if_pos hb]at h1
    simp only[Nat.testBit_or,Bool.or_eq_true]at h1
    rcases h1 with h1|h1|h1
    ·exact .inl h1
    ·rw[Nat.testBit_two_pow]at h1
     exact .inr ⟨ed,by simp,hb,.inl (by simpa using h1)⟩
    ·exact .inr ⟨ed,by simp,hb,.inr h1⟩
   ·rw[if_neg hb]at h1
    exact .inl h1
  ·exact .inr ⟨x,by simp[hx],h1⟩
theorem dIn_iff {d:Option Nat}{l:List Nat}:dIn d l=true↔∃t,d=some t∧t∈l:=by
 cases d <;> simp[dIn]
structure PairOk (ms:List Nat)(fa:Nat)(x y:Row):Prop where
 ne:x.1≠y.1
 top:(ms.getD x.1 0).testBit y.1=false
 dst:∀t,x.2.dst=some t→y.2.dst≠some t
 war:∀t,y.2.dst=some t→t∈x.2.looks→(ms.getD y.1 0).testBit x.1=true
 raw:∀t,x.2.dst=some t→t∈y.2.looks→(ms.getD y.1 0).testBit x.1=true
 ord:x.2.isE=true→¬flo fa y.1=true→(ms.getD y.1 0).testBit x.1=true
theorem Qayo {ms:List Nat}{fa:Nat}{x y:Row}(h:Qa3p ms fa x y=true):PairOk ms fa x y:=by
 simp only[Qa3p,Bool.and_eq_true,bne_iff_ne,Bool.or_eq_true,Bool.not_eq_true',beq_iff_eq]at h
 obtain⟨⟨⟨⟨⟨h1,h2⟩,h3⟩,h4⟩,h5⟩,h6⟩:=h
 refine⟨h1,h2,?_,?_,?_,?_⟩
 ·intro t ht
  rw[ht]at h3
  simpa using h3
 ·intro t ht hm
  rcases h4 with h4|h4
  ·have:=dIn_iff.2 ⟨t,ht,hm⟩
   rw[this]at h4;simp at h4
  ·exact h4
 ·intro t ht hm
  rcases h5 with h5|h5
  ·have:=dIn_iff.2 ⟨t,ht,hm⟩
   rw[this]at h5;simp at h5
  ·exact h5
 ·intro hx hy
  rcases h6 with (h6|h6)|h6
  ·rw[hx]at h6;simp at h6
  ·exact absurd h6 hy
  ·exact h6
structure RowOk (P:Program)(n:Nat)(ops:Array Oper)(ms:List Nat)(fa:Nat)(pre:List Row)(y:Row)(rest:List Row)(o:Oper):Prop where
 op:ops[y.1]? = some o
 item:Qn9 P n ops o y.2=true
 aft:∀ed∈o.after,Region.binds .any ed=true→∃z∈pre,z.2.isChk=false∧z.1=ed.on
 anc:∀j,(ms.getD y.1 0).testBit j=true→∃ed∈o.after,Region.binds .any ed=true∧(ed.on=j∨(ms.getD ed.on 0).testBit j=true)
 self:∀t,y.2.dst=some t→t∉y.2.looks
 pair:∀z∈pre,z.2.isChk=false→PairOk ms fa z y
 isFa:flo fa y.1=true→y.2.isFa=true
 cover:y.2.isE=true→∀z∈pre,z.2.isChk=false→z.2.hf=false→(ms.getD y.1 0).testBit z.1=false→Qapa z.1 rest=true
theorem Qa5b {n:Nat}{ops:Array Oper}{ms:List Nat}{fa:Nat}{pre:List Row}{y:Row}{rest:List Row}(h:Qa5a P n ops ms fa pre y rest=true)(hc:y.2.isChk=false) :
  ∃o,RowOk P n ops ms fa pre y rest o:=by
 obtain⟨i,x⟩:=y
 unfold Qa5a at h
 cases ho:ops[i]? with
 |none=>simp[ho]at h
 |some o=>
  simp only[ho]at h
  have key:(Qn9 P n ops o x&&o.after.toList.all (fun ed=>!Region.binds .any ed || pre.any fun z=>!z.2.isChk&&z.1 == ed.on)
    &&ms.getD i 0 == Q49 ms o 0 o.after.toList&&!(dIn x.dst x.looks)
    &&pre.all (fun z=>z.2.isChk || Qa3p ms fa z (i,x))&&(!flo fa i || x.isFa)
    &&(!x.isE || pre.all (fun z=>z.2.isChk || z.2.hf || (ms.getD i 0).testBit z.1 || Qapa z.1 rest)))=true:=by
   cases x with
   |chk=>simp[Item.isChk]at hc
   |f=>exact h
   |p=>exact h
   |e=>exact h
  simp only[Bool.and_eq_true,List.all_eq_true,Bool.or_eq_true,Bool.not_eq_true',beq_iff_eq,bne_iff_ne,List.any_eq_true]at key
  obtain⟨⟨⟨⟨⟨⟨h1,h2⟩,h3⟩,h4⟩,h5⟩,h6⟩,h7⟩:=key
  refine⟨o,ho,h1,?_,?_,?_,?_,?_,?_⟩
  ·intro ed hed hb
   rcases h2 ed (by simpa using hed)with h|⟨z,hz,h⟩
   ·rw[hb]at h;simp at h
   ·exact⟨z,hz,h.1,h.2⟩
  ·intro j hj
   simp only at hj
   rw[h3]at hj
   rcases Q8i _ _ hj with h|⟨ed,hed,h⟩
   ·simp at h
   ·exact⟨ed,by simpa using hed,h⟩
  ·intro t ht hm
   have:=dIn_iff.2 ⟨t,ht,hm⟩
   simp only at this
   rw[this]at h4;simp at h4
  ·intro z hz hzc
   rcases h5 z hz with h|h
   ·rw[hzc]at h;simp at h
   ·exact Qayo h
  ·intro hf
   rcases h6 with h|h
   ·exact absurd hf (by rw[h];decide)
   ·exact h
  ·intro hE z hz hzc hzh hzt
   rcases h7 with h|h
   ·simp only at hE;rw[hE]at h;simp at h
   ·rcases h z hz with ((h|h)|h)|h
    ·rw[hzc]at h;simp at h
    ·rw[hzh]at h;simp at h
    ·simp only at hzt;rw[hzt]at h;simp at h
    ·exact h
theorem Qa4f {n:Nat}{ops:Array Oper}{ms:List Nat}{fa:Nat}{pre:List Row}{i d:Nat}{gd:Option (Nat×Bool)}{op:FOp}{rest:List Row}(h:Qa5a P n ops ms fa pre (i,.chk d gd op) rest=true) :
  ∃o,ops[i]? = some o∧Qn9 P n ops o (.f (some d) gd op)=true∧(∃z∈pre,z.2.isChk=false∧z.1=i∧z.2.looks=(Item.f (some d) gd op).looks∧z.2.dst=some d∧z.2.hf=false)∧
   ∀z∈pre,z.2.isChk=false→∀t,z.2.dst=some t→t∈(Item.f (some d) gd op).looks→(ms.getD i 0).testBit z.1=true:=by
 unfold Qa5a at h
 cases ho:ops[i]? with
 |none=>simp[ho]at h
 |some o=>
  simp only[ho,Bool.and_eq_true,List.any_eq_true,List.all_eq_true,Bool.or_eq_true,Bool.not_eq_true',beq_iff_eq]at h
  obtain⟨⟨h1,z,hz,⟨⟨⟨h2,h3⟩,h4⟩,h5⟩,h6⟩,h7⟩:=h
  refine⟨o,rfl,h1,⟨z,hz,h2,h3,h4,h5,h6⟩,?_⟩
  intro z hz hzc t ht hm
  rcases h7 z hz with (h|h)|h
  ·rw[hzc]at h;simp at h
  ·have:=dIn_iff.2 ⟨t,ht,hm⟩
   change dIn z.2.dst (Item.chk d gd op).looks=true at this
   rw[this]at h;simp at h
  ·exact h
end Go.AE

namespace Go.AE
variable {P:Program}{H:Heap}{g:G}{w:World}{e:Env}{a:Act}
abbrev dn (listed:Array Bool)(i:Nat):Prop:=listed.getD i false=true
def Rdy (P:Program)(x:Item)(e:Env)(H:Heap)(v:V):Prop:=
 match x with
 |.f _ gd op=>gdO e gd∧(gdB e gd=true→op.obl (gdB e gd) e H)∧v=gdV gd (gdB e gd) (op.val e H)
 |.p _ gd f xs=>gdO e gd∧∃r,(gdB e gd=true→(∀y∈xs,y.fine (gdB e gd) e)∧Qbcr P f (xs.map fun y=>y.v e) r)∧v=gdV gd (gdB e gd) r
 |_=>False
theorem Rdy.congr {x:Item}{e e':Env}{v:V}(h:∀t∈x.looks,lk t e'=lk t e)(hr:Rdy P x e H v):Rdy P x e' H v:=by
 have h1:=Qatg h
 have h2:=Qa3k h
 cases x with
 |f d gd op=>
  simp only[Item.gd]at h2
  simp only[Item.opds]at h1
  have h3:=FOp.congr (H:=H) (p:=gdB e gd) h1
  simp only[Rdy]at hr⊢
  rw[h2.1,h2.2,h3.1,h3.2];exact hr
 |p d gd f xs=>
  simp only[Item.gd]at h2
  simp only[Item.opds]at h1
  simp only[Rdy]at hr⊢
  rw[h2.1,h2.2,Q5a h1,Qz4 h1];exact hr
 |e=>exact hr
 |chk=>exact hr
theorem Rdy.hcongr {x:Item}{e:Env}{H':Heap}{v:V}(h:x.hf=true)(hr:Rdy P x e H v):Rdy P x e H' v:=by
 cases x with
 |f d gd op=>
  have h3:=FOp.hcongr (e:=e) (H:=H) (H':=H') (p:=gdB e gd) (op:=op) h
  simp only[Rdy]at hr⊢
  rw[h3.1,h3.2];exact hr
 |p d gd f xs=>exact hr
 |e=>exact hr
 |chk=>exact hr
theorem Qbhl {n:Nat}{ops:Array Oper}{i:Nat}{o:Oper}{x:Item}{v:V}{Q:Exit→Act→World→Prop}{next:Act→World→Prop}(hoi:ops[i]? = some o)(hm:Qn9 P n ops o x=true)
  (hr:Rdy P x e H v) (hs:Sat H g w) (he:EnvOk w g (trim x.looks e) a)
  (hnext:∀u w' g',Stp H g w H g' w'→RepV w' g' v u→next (a.put x.dst u) w') :
  wpOp P ops Q i next a w:=by
 have hr':Rdy P x (trim x.looks e) H v:=hr.congr fun t ht=>by rw[Qapk,if_pos ht]
 unfold wpOp
 rw[hoi]
 simp only
 cases x with
 |f d gd op=>
  simp only[Qn9,Bool.and_eq_true]at hm
  obtain⟨⟨h1,h2⟩,h3⟩:=hm
  obtain⟨hd1,hd2⟩:=Qe4 h1
  simp only[Rdy]at hr'
  obtain⟨r1,r2,r3⟩:=hr'
  rw[Qqb (n:=n) h2 he r1]
  by_cases hg:gdB (trim (Item.f d gd op).looks e) gd=true
  ·rw[if_pos hg]
   obtain⟨u,w',g',k1,k2,k3,k4⟩:=Qas7 h3 hs he hg (r2 hg)
   left
   unfold Oper.wp
   rw[k1,Oper.upon_value,hd1]
   refine hnext u w' g' k2 ?_
   rw[r3]
   cases gd with
   |none=>exact k3
   |some tb=>exact .gd _ _ _ (fun _=>k3) (fun h=>by rw[hg]at h;simp at h)
  ·rw[if_neg hg]
   have hg':gdB (trim (Item.f d gd op).looks e) gd=false:=by simpa using hg
   rw[hd1]
   refine hnext _ _ g (.refl hs) ?_
   rw[r3]
   cases gd with
   |none=>simp[gdB]at hg'
   |some tb=>exact .gd _ _ _ (fun h=>absurd h hg) (fun _=>rfl)
 |p d gd f xs=>
  simp only[Qn9,Bool.and_eq_true]at hm
  obtain⟨⟨h1,h2⟩,h3⟩:=hm
  obtain⟨hd1,hd2⟩:=Qe4 h1
  simp only[Rdy]at hr'
  obtain⟨r1,v0,r2,r3⟩:=hr'
  rw[Qqb (n:=n) h2 he r1]
  by_cases hg:gdB (trim (Item.p d gd f xs).looks e) gd=true
  ·rw[if_pos hg]
   obtain⟨s1,s2⟩:=r2 hg
   left
   refine Qa3r h3 hs he hg s1 s2 Q next (fun y u w' H' g' hk hst hrep=>?_) fun v w' H' g' hk _=>absurd hk.1.symm (s2.1 v)
   obtain⟨rfl,rfl⟩:=hk
   rw[hd1]
   refine hnext _ _ g' hst ?_
   rw[r3]
   cases gd with
   |none=>exact hrep
   |some tb=>exact .gd _ _ _ (fun _=>hrep) (fun h=>by rw[hg]at h;simp at h)
  ·rw[if_neg hg]
   have hg':gdB (trim (Item.p d gd f xs).looks e) gd=false:=by simpa using hg
   rw[hd1]
   refine hnext _ _ g (.refl hs) ?_
   rw[r3]
   cases gd with
   |none=>simp[gdB]at hg'
   |some tb=>exact .gd _ _ _ (fun h=>absurd h hg) (fun _=>rfl)
 |e=>exact hr'.elim
 |chk=>exact hr'.elim
theorem Qbgs {n:Nat}{ops:Array Oper}{i:Nat}{o:Oper}{d:Option Nat}{gd:Option (Nat×Bool)}{op:EOp}{K:V→Heap→Prop}{Q:Exit→Act→World→Prop}{next:Act→World→Prop}(hoi:ops[i]? = some o)
  (hm:Qn9 P n ops o (.e d gd op)=true) (hs:Sat H g w) (he:EnvOk w g (trim (Item.e d gd op).looks e) a)
  (h1:gdO e gd) (h2:gdB e gd=true→op.eff P (gdB e gd) e H K) (h3:gdB e gd=false→K .unk H)
  (hnext:∀x u w' H' g',K x H'→Stp H g w H' g' w'→RepV w' g' x u→next (a.put d u) w') (hpan:∀v w' H' g',K (.pn v) H'→Stp H g w H' g' w'→Q (.panic [{ v:=v,recovered:=false }]) a w') :
  wpOp P ops Q i next a w:=by
 have hlk:∀t∈(Item.e d gd op).looks,lk t (trim (Item.e d gd op).looks e)=lk t e:=fun t ht=>by rw[Qapk,if_pos ht]
 have c1:=Qatg hlk
 have c2:=Qa3k hlk
 simp only[Item.gd]at c2
 simp only[Item.opds]at c1
 unfold wpOp
 rw[hoi]
 simp only
 simp only[Qn9,Bool.and_eq_true]at hm
 obtain⟨⟨m1,m2⟩,m3⟩:=hm
 obtain⟨hd1,hd2⟩:=Qe4 m1
 rw[Qqb (n:=n) m2 he (c2.2.2 h1),c2.1]
 by_cases hg:gdB e gd=true
 ·rw[if_pos hg]
  left
  refine Qael m3 hs he hg (EOp.congr c1 (h2 hg)) Q next (fun x u w' H' g' hk hst hrep=>?_) hpan
  rw[hd1]
  exact hnext x u w' H' g' hk hst hrep
 ·rw[if_neg hg]
  rw[hd1]
  exact hnext .unk undef w H g (h3 (by simpa using hg)) (.refl hs) (.unk _)
structure Early (g0:G)(H:Heap)(g:G)(w:World)(a:Act)(x:Item):Prop where
 ok:∃(d:Nat) (cells:List C) (l b sz:Nat) (T:TypeId) (cs:Array Value),x=.e (some d) none (.alloc cells)∧g.io l=some (b,sz,0)∧g.own b=some (l,[])∧w.heap[b]? = some (.cells cs T (0,0))∧
  cs.size=cells.length∧(∀(k:Nat) (c:C) (v:Value),cells[k]? = some c→cs[k]? = some v→RepC w g c v)∧H l=.none∧g0.io l=none∧RepV w g (.c (.ptr l 0)) (a.tmps.getD d undef)
theorem Early.mono {g0:G}{x:Item}{H':Heap}{g':G}{w':World}{a':Act}(h:Early g0 H g w a x)(hs:Stp H g w H' g' w')(ha:∀d,x.dst=some d→a'.tmps.getD d undef=a.tmps.getD d undef):Early g0 H' g' w' a' x:=by
 obtain⟨d,cells,l,b,sz,T,cs,h1,h2,h3,h4,h5,h6,h7,h8,h9⟩:=h.ok
 obtain⟨k1,k2⟩:=hs.fr l (by rw[h2];simp) h7
 obtain⟨k3,k4⟩:=k2 b [] h3
 refine⟨d,cells,l,b,sz,T,cs,h1,hs.le.io _ _ h2,k3,k4.trans h4,h5,fun k c v p q=>(h6 k c v p q).mono hs.le,k1,h8,?_⟩
 rw[ha d (by rw[h1];rfl)]
 exact h9.mono hs.le
theorem Early.ptr {g0:G}{x:Item}(h:Early g0 H g w a x):∃d l b sz,x.dst=some d∧g.io l=some (b,sz,0)∧b<w.heap.size∧H l=.none∧a.tmps.getD d undef=.pointer (some ⟨b,0,none⟩):=by
 obtain⟨d,cells,l,b,sz,T,cs,h1,h2,h3,h4,h5,h6,h7,h8,h9⟩:=h.ok
 refine⟨d,l,b,sz,by rw[h1];rfl,h2,(Array.getElem?_eq_some_iff.1 h4).1,h7,?_⟩
 have hr:=h9.c_inv
 generalize a.tmps.getD d undef=vv at hr⊢
 cases hr with
 |ptr _ _ b' sz' q h=>
  rw[h2]at h
  simp only[Option.some.injEq,Prod.mk.injEq]at h
  obtain⟨rfl,rfl,rfl⟩:=h
  rfl
theorem Early.other {g0:G}{x:Item}(h:Early g0 H g w a x){l:Nat}{o:Obj}{u:Value}(hr:RepV w g (.c (.ptr l 0)) u)(hne:∀d,x.dst=some d→u≠a.tmps.getD d undef):Early g0 (H.set l o) g w a x:=by
 obtain⟨d,cells,l',b,sz,T,cs,h1,h2,h3,h4,h5,h6,h7,h8,h9⟩:=h.ok
 have hll:l'≠l:=fun e=>by
  subst e
  have k:=h9.c_inv
  have k2:=hr.c_inv
  have hq:=hne d (by rw[h1];rfl)
  generalize a.tmps.getD d undef=vv at k hq
  cases k with
  |ptr _ _ b1 s1 q1 e1=>
   cases k2 with
   |ptr _ _ b2 s2 q2 e2=>
    rw[e1]at e2
    simp only[Option.some.injEq,Prod.mk.injEq]at e2
    obtain⟨rfl,rfl,rfl⟩:=e2
    exact hq rfl
 exact⟨d,cells,l',b,sz,T,cs,h1,h2,h3,h4,h5,h6,by rw[Heap.set_other _ _ hll];exact h7,h8,h9⟩
theorem Qa4k {n:Nat}{ops:Array Oper}{i:Nat}{o:Oper}{x:Item}{g0:G}{Q:Exit→Act→World→Prop}{next:Act→World→Prop}(hoi:ops[i]? = some o)(hm:Qn9 P n ops o x=true)(hf:x.isFa=true)
  (hs:Sat H g w) (h0:∀l y,g0.io l=some y→g.io l=some y) (hn:a.tmps.size=n)
  (hnext:∀u w' g',Stp H g w H g' w'→Early g0 H g' w' (a.put x.dst u) x→(∀x',Early g0 H g w a x'→∀d,x'.dst=some d→a.tmps.getD d undef≠u)→next (a.put x.dst u) w') :
  wpOp P ops Q i next a w:=by
 cases x with
 |e d gd op=>
  cases op with
  |alloc cells=>
   cases d with
   |none=>simp[Item.isFa]at hf
   |some d=>
    cases gd with
    |some=>simp[Item.isFa]at hf
    |none=>
     simp only[Qn9,Bool.and_eq_true]at hm
     obtain⟨⟨m1,m2⟩,m3⟩:=hm
     obtain⟨hd1,hd2⟩:=Qe4 m1
     have hdn:=hd2 d hd1
     simp only[mE]at m3
     split at m3
     ·rename_i t hop
      obtain⟨i1,z,z1,z2,z3⟩:=Ql4 m3
      obtain⟨l,hl,hH⟩:=hs.newName
      have hr:=Qm7 (w:=w) (g:=g) z3
      have hle:=Qi5 hs hl cells.length 0 (.cells z.cells t)
      have hst:=Qcl hs hl cells.length 0 (.cells z.cells t) .none (fun g' hg=>trivial)
      rw[Heap.set_self _ _ _ hH]at hst
      have hg0:g0.io l=none:=by
       cases hx:g0.io l with
       |none=>rfl
       |some y=>rw[h0 l y hx]at hl;simp at hl
      have hw:Region.wanted o (yielded ops a.tmps)=true:=by
       unfold Region.wanted
       cases hgd:o.guard with
       |none=>rfl
       |some jb=>rw[hgd]at m2;simp[mG]at m2
      unfold wpOp
      rw[hoi]
      simp only
      rw[if_pos hw]
      left
      unfold Oper.wp
      have hrun:(execOp a.eval o).run P w=.ok (.value (.pointer (some ⟨w.heap.size,0,none⟩))) (w.alloc (.cells z.cells t)):=by
       simp[execOp,hop,Instr.alloc,Qhc z1 z2,newVar,newRow]
      rw[hrun,Oper.upon_value,hd1]
      refine hnext _ _ _ hst ⟨d,cells,l,w.heap.size,cells.length,t,z.cells,rfl,by simp[G.newObj],by simp[G.newObj],Qa3 _ _,hr.1,fun k c v p q=>(hr.2 k c v p q).mono hle,hH,hg0,?_⟩ (fun x' hx' d' hd' hh=>?_)
      ·have:(a.put (Item.e (some d) none (.alloc cells)).dst (.pointer (some ⟨w.heap.size,0,none⟩))).tmps.getD d undef=.pointer (some ⟨w.heap.size,0,none⟩):=by
        simp only[Item.dst,Act.put]
        rw[Array.getD_eq_getD_getElem?,Array.getElem?_setIfInBounds_self_of_lt (by omega)];rfl
       rw[this]
       exact .c _ _ (.ptr l 0 w.heap.size cells.length 0 (by simp[G.newObj]))
      ·obtain⟨d1,l1,b1,sz1,p1,p2,p3,p4,p5⟩:=hx'.ptr
       rw[p1]at hd'
       obtain rfl:=Option.some.inj hd'
       rw[p5]at hh
       have:=congrArg (fun v=>match v with
        |Value.pointer (some a)=>a.block
        |_=>0) hh
       simp only at this
       omega
     ·simp at m3
  |_=>cases d <;> (try cases gd) <;> simp[Item.isFa]at hf
 |_=>simp[Item.isFa]at hf
theorem Qa8a {H0:Heap}{g0:G}{w0:World}{x:Item}(hst:Stp H0 g0 w0 H g w)(h:Early g0 H g w a x) :
  ∃d cells l,x=.e (some d) none (.alloc cells)∧H l=.none∧Stp H0 g0 w0 (H.set l (.st cells)) g w∧RepV w g (.c (.ptr l 0)) (a.tmps.getD d undef):=by
 obtain⟨d,cells,l,b,sz,T,cs,h1,h2,h3,h4,h5,h6,h7,h8,h9⟩:=h.ok
 refine⟨d,cells,l,h1,h7,⟨hst.le,fun m hm hn=>?_,⟨hst.sat.fresh,hst.sat.names,hst.sat.excl,hst.sat.named,fun m=>?_⟩⟩,h9⟩
 ·have hml:m≠l:=fun h=>by subst h;exact hm h8
  rw[Heap.set_other _ _ hml]
  exact hst.fr m hm hn
 ·by_cases hml:m=l
  ·subst hml
   rw[Heap.set_same]
   exact⟨b,sz,T,cs,h2,h3,h4,h5,fun k c v p q=>.plain _ _ _ _ (h6 k c v p q)⟩
  ·have hH':=Heap.set_other H (.st cells) hml
   rw[hH',←hH']
   refine SatObj.keep hst.sat (.refl _ _) (fun b q hb=>⟨hb,rfl⟩) hH' fun m' v left cur hc v' es hv=>?_
   by_cases hm':m'=l
   ·subst hm';rw[Heap.set_same]at hv;simp at hv
   ·rw[Heap.set_other _ _ hm']at hv
    exact .inl ⟨hv,fun b q hb=>⟨hb,rfl⟩⟩
end Go.AE

namespace Go.AE
variable {P:Program}{H:Heap}{g:G}{w:World}{e:Env}{a:Act}
structure Fix where
 P:Program
 n:Nat
 ops:Array Oper
 ms:List Nat
 fa:Nat
 L:List Row
 H0:Heap
 g0:G
 w0:World
 KP:Value→Heap→Prop
 K:Env→Heap→Prop
def Fix.anc (F:Fix)(i j:Nat):Prop:=(F.ms.getD i 0).testBit j=true
def Qkt (F:Fix)(listed:Array Bool)(pre:List Row)(y:Row)(t:Nat)(z:Row):Prop:=
 z∈pre∧z.2.isChk=false∧¬dn listed z.1∧z.2.dst=some t∧F.anc y.1 z.1
def Pend (F:Fix)(listed:Array Bool)(a:Act)(w:World)(pre:List Row)(e:Env)(H:Heap)(g:G)(y:Row):Prop:=
 ∃(o:Oper) (x:Item) (ei:Env) (v:V),F.ops[y.1]? = some o∧Qn9 F.P F.n F.ops o x=true∧x.dst=y.2.dst∧x.looks=y.2.looks∧(y.2.hf=true→x.hf=true)∧
  Rdy F.P x ei H v∧(∀d,y.2.dst=some d→lk d e=v)∧
  ∀t∈y.2.looks,(∀z,Qkt F listed pre y t z→lk t ei=lk t e)∧((¬∃z,Qkt F listed pre y t z)→RepV w g (lk t ei) (a.tmps.getD t undef))
structure DInv (F:Fix)(listed:Array Bool)(a:Act)(w:World)(pre post:List Row)(e:Env)(H:Heap)(g:G):Prop where
 split:F.L=pre++post
 rest:Qsu F.P (post.map Prod.snd) e H F.KP F.K
 stp:Stp F.H0 F.g0 F.w0 H g w
 size:a.tmps.size=F.n
 defers:a.defers=[]
 lsz:listed.size=F.ops.size
 closed:∀i,dn listed i→∀j,F.anc i j→dn listed j
 eDone:∀y∈pre,y.2.isE=true→dn listed y.1
 postDone:∀y∈post,y.2.isChk=false→dn listed y.1→flo F.fa y.1=true∧Early F.g0 H g w a y.2
 pend:∀y∈pre,y.2.isFl=true→¬dn listed y.1→Qapa y.1 post=true∨Pend F listed a w pre e H g y
 temps:∀t,(∃y∈pre,y.2.isChk=false∧¬dn listed y.1∧y.2.dst=some t)∨(∃y∈post,y.2.isChk=false∧flo F.fa y.1=true∧dn listed y.1∧y.2.dst=some t)∨RepV w g (lk t e) (a.tmps.getD t undef)
 ne:∀y∈post,∀z∈post,y.2.isChk=false→z.2.isChk=false→dn listed y.1→dn listed z.1→y.1≠z.1→∀d d',y.2.dst=some d→z.2.dst=some d'→a.tmps.getD d undef≠a.tmps.getD d' undef
structure FixOk (F:Fix):Prop where
 rows:Qaue F.P F.n F.ops F.ms F.fa [] F.L=true
 all:∀i,i<F.ops.size→∃y∈F.L,y.2.isChk=false∧y.1=i
theorem FixOk.row {F:Fix}(hF:FixOk F){A B:List Row}{y:Row}(h:F.L=A++y::B)(hc:y.2.isChk=false):∃o,RowOk F.P F.n F.ops F.ms F.fa A y B o:=by
 have:=Q0j _ _ hF.rows A y B h
 exact Qa5b this hc
def Qaec (F:Fix)(x y:Row):Prop:=∃A B,F.L=A++y::B∧x∈A
theorem FixOk.pair {F:Fix}(hF:FixOk F){x y:Row}(h:Qaec F x y)(hx:x.2.isChk=false)(hy:y.2.isChk=false):PairOk F.ms F.fa x y:=by
 obtain⟨A,B,h1,h2⟩:=h
 obtain⟨o,ho⟩:=hF.row h1 hy
 exact ho.pair x h2 hx
theorem Qbs {F:Fix}{pre post:List Row}(h:F.L=pre++post){x y:Row}(hx:x∈pre)(hy:y∈post):Qaec F x y:=by
 obtain⟨s,t,rfl⟩:=List.append_of_mem hy
 exact⟨pre++s,t,by rw[h];simp,by simp[hx]⟩
theorem Qcn {F:Fix}{pre post:List Row}{y x:Row}(h:F.L=pre++y::post)(hx:x∈post):Qaec F y x:=
 Qbs (pre:=pre++[y]) (by simpa using h) (by simp) hx
theorem Q5b {F:Fix}{x y:Row}(hx:x∈F.L)(hy:y∈F.L):x=y∨Qaec F x y∨Qaec F y x:=by
 obtain⟨s,t,h⟩:=List.append_of_mem hx
 have:y∈s++x::t:=h▸hy
 rcases List.mem_append.1 this with k|k
 ·exact .inr (.inr ⟨s,t,h,k⟩)
 ·rcases List.mem_cons.1 k with k|k
  ·exact .inl k.symm
  ·exact .inr (.inl (Qcn h k))
theorem FixOk.inj {F:Fix}(hF:FixOk F){x y:Row}(hx:x∈F.L)(hy:y∈F.L)(hxc:x.2.isChk=false)(hyc:y.2.isChk=false)(h:x.1=y.1):x=y:=by
 rcases Q5b hx hy with k|k|k
 ·exact k
 ·exact absurd h (hF.pair k hxc hyc).ne
 ·exact absurd h.symm (hF.pair k hyc hxc).ne
theorem FixOk.injDst {F:Fix}(hF:FixOk F){x y:Row}(hx:x∈F.L)(hy:y∈F.L)(hxc:x.2.isChk=false)(hyc:y.2.isChk=false){t:Nat}(h1:x.2.dst=some t)(h2:y.2.dst=some t):x=y:=by
 rcases Q5b hx hy with k|k|k
 ·exact k
 ·exact absurd h2 ((hF.pair k hxc hyc).dst t h1)
 ·exact absurd h1 ((hF.pair k hyc hxc).dst t h2)
theorem Qnh {x:Item}(h:x.isFl=true):x.isChk=false∧x.isE=false:=by
 cases x <;> simp_all[Item.isFl,Item.isChk,Item.isE]
theorem Qatb {x:Item}(h:x.isE=true):x.isChk=false∧x.isFl=false:=by
 cases x <;> simp_all[Item.isFl,Item.isChk,Item.isE]
theorem Qos {j:Nat}{y:Row}{r:List Row}(h:Qapa j (y::r)=true):y.2.isChk=true∧(y.1=j∨Qapa j r=true):=by
 simpa[Qapa]using h
theorem DInv.passFl {F:Fix}(hF:FixOk F){listed:Array Bool}{pre r:List Row}{y:Row}(hI:DInv F listed a w pre (y::r) e H g)(hy:y.2.isFl=true)(v:V)(hr:Rdy F.P y.2 e H v)
  (hrest:Qsu F.P (r.map Prod.snd) (putE y.2.dst v e) H F.KP F.K) (hnd:¬dn listed y.1):DInv F listed a w (pre++[y]) r (putE y.2.dst v e) H g:=by
 obtain⟨hyc,hye⟩:=Qnh hy
 obtain⟨o,ho⟩:=hF.row hI.split hyc
 have hL:y∈F.L:=by rw[hI.split];simp
 have hpre:∀z∈pre,z∈F.L:=fun z hz=>by rw[hI.split];simp[hz]
 have hpost:∀z∈r,z∈F.L:=fun z hz=>by rw[hI.split];simp[hz]
 have hlk:∀t,y.2.dst≠some t→lk t (putE y.2.dst v e)=lk t e:=by
  intro t ht
  cases hd:y.2.dst with
  |none=>rfl
  |some d=>
   simp only[putE,lk]
   rw[if_neg]
   intro h;subst h;exact ht hd
 have hlkd:∀t,y.2.dst=some t→lk t (putE y.2.dst v e)=v:=by
  intro t ht
  rw[ht];simp[putE,lk]
 refine⟨by rw[hI.split];simp,hrest,hI.stp,hI.size,hI.defers,hI.lsz,hI.closed,?_,?_,?_,?_,fun y' hy' z' hz'=>hI.ne y' (by simp[hy']) z' (by simp[hz'])⟩
 ·intro z hz hzE
  rcases List.mem_append.1 hz with k|k
  ·exact hI.eDone z k hzE
  ·simp at k;subst k;rw[hye]at hzE;simp at hzE
 ·exact fun z hz=>hI.postDone z (by simp[hz])
 ·intro z hz hzf hzn
  obtain⟨hzc,hze⟩:=Qnh hzf
  right
  rcases List.mem_append.1 hz with k|k
  ·rcases hI.pend z k hzf hzn with h|h
   ·have:=(Qos h).1
    rw[hyc]at this;simp at this
   ·obtain⟨o',x,ei,u,p1,p2,p3,p4,p5,p6,p7,p8⟩:=h
    refine⟨o',x,ei,u,p1,p2,p3,p4,p5,p6,?_,?_⟩
    ·intro d hd
     rw[hlk d fun h=>(hF.pair (Qbs hI.split k (by simp)) hzc hyc).dst d hd h]
     exact p7 d hd
    ·intro t ht
     obtain⟨q1,q2⟩:=p8 t ht
     have hb:∀z',Qkt F listed (pre++[y]) z t z'→Qkt F listed pre z t z':=by
      rintro z' ⟨b1,b2,b3,b4,b5⟩
      refine⟨?_,b2,b3,b4,b5⟩
      rcases List.mem_append.1 b1 with b|b
      ·exact b
      ·simp at b;subst b
       have:=(hF.pair (Qbs hI.split k (by simp)) hzc hyc).top
       rw[Fix.anc,this]at b5;simp at b5
     refine⟨?_,?_⟩
     ·intro z' hz'
      have hz'':=hb z' hz'
      rw[q1 z' hz'',hlk]
      intro h
      exact (hF.pair (Qbs hI.split hz''.1 (by simp)) hz''.2.1 hyc).dst t hz''.2.2.2.1 h
     ·intro hno
      refine q2 fun ⟨z',b1,b2⟩=>hno ⟨z',?_,b2⟩
      simp[b1]
  ·simp at k;subst k
   refine⟨o,z.2,e,v,ho.op,ho.item,rfl,rfl,id,hr,hlkd,?_⟩
   intro t ht
   have hself:z.2.dst≠some t:=fun h=>ho.self t h ht
   refine⟨?_,?_⟩
   ·intro z' hz'
    rw[hlk t hself]
   ·intro hno
    rcases hI.temps t with ⟨y',k1,k2,k3,k4⟩|⟨y',k1,k2,k3,k4,k5⟩|k
    ·exact absurd ⟨y',by simp[k1],k2,k3,k4,(hF.pair (Qbs hI.split k1 (by simp)) k2 hzc).raw t k4 ht⟩ hno
    ·exfalso
     rcases List.mem_cons.1 k1 with h|h
     ·subst h;exact hself k5
     ·have:=(hF.pair (Qcn hI.split h) hzc k2).war t k5 ht
      exact hnd (hI.closed _ k4 _ this)
    ·exact k
 ·intro t
  by_cases ht:y.2.dst=some t
  ·exact .inl ⟨y,by simp,hyc,hnd,ht⟩
  ·rw[hlk t ht]
   rcases hI.temps t with ⟨y',k1,k2,k3,k4⟩|⟨y',k1,k2,k3,k4,k5⟩|k
   ·exact .inl ⟨y',by simp[k1],k2,k3,k4⟩
   ·rcases List.mem_cons.1 k1 with h|h
    ·subst h;exact absurd k5 ht
    ·exact .inr (.inl ⟨y',h,k2,k3,k4,k5⟩)
   ·exact .inr (.inr k)
theorem DInv.passChk {F:Fix}(hF:FixOk F){listed:Array Bool}{pre r:List Row}{j d:Nat}{gd:Option (Nat×Bool)}{op:FOp}(hI:DInv F listed a w pre ((j,.chk d gd op)::r) e H g) :
  DInv F listed a w (pre++[(j,.chk d gd op)]) r e H g:=by
 have hrow:=Q0j _ _ hF.rows pre _ _ hI.split
 obtain⟨o,c1,c2,⟨y0,c3,c4,c5,c6,c7,c8⟩,c9⟩:=Qa4f hrow
 have hrest:=hI.rest
 simp only[List.map_cons,Qsu]at hrest
 obtain⟨⟨r1,r2,r3⟩,r4⟩:=hrest
 have hpre:∀z∈pre,z∈F.L:=fun z hz=>by rw[hI.split];simp[hz]
 have hbe:∀z t z',Qkt F listed (pre++[(j,.chk d gd op)]) z t z'↔Qkt F listed pre z t z':=by
  intro z t z'
  constructor
  ·rintro⟨b1,b2⟩
   refine⟨?_,b2⟩
   rcases List.mem_append.1 b1 with b|b
   ·exact b
   ·simp at b;subst b;simp[Item.isChk]at b2
  ·rintro⟨b1,b2⟩;exact⟨by simp[b1],b2⟩
 refine⟨by rw[hI.split];simp,r4,hI.stp,hI.size,hI.defers,hI.lsz,hI.closed,?_,?_,?_,?_,fun y' hy' z' hz'=>hI.ne y' (by simp[hy']) z' (by simp[hz'])⟩
 ·intro z hz hzE
  rcases List.mem_append.1 hz with k|k
  ·exact hI.eDone z k hzE
  ·simp at k;subst k;simp[Item.isE]at hzE
 ·exact fun z hz=>hI.postDone z (by simp[hz])
 ·intro z hz hzf hzn
  obtain⟨hzc,hze⟩:=Qnh hzf
  have k:z∈pre:=by
   rcases List.mem_append.1 hz with k|k
   ·exact k
   ·simp at k;subst k;simp[Item.isChk]at hzc
  have hold:Pend F listed a w pre e H g z→Pend F listed a w (pre++[(j,.chk d gd op)]) e H g z:=by
   rintro⟨o',x,ei,u,p1,p2,p3,p4,p5,p6,p7,p8⟩
   refine⟨o',x,ei,u,p1,p2,p3,p4,p5,p6,p7,fun t ht=>?_⟩
   simp only[hbe];exact p8 t ht
  rcases hI.pend z k hzf hzn with h|h
  ·rcases (Qos h).2 with h'|h'
   ·right
    simp only at h'
    have hz0:z=y0:=hF.inj (hpre _ k) (hpre _ c3) hzc c4 (by rw[c5,←h'])
    subst hz0
    refine⟨o,.f (some d) gd op,e,gdV gd (gdB e gd) (op.val e H),by rw[c5];exact c1,c2,by rw[c7];rfl,c6.symm,fun h=>by rw[c8]at h;simp at h,⟨r1,r2,rfl⟩,?_,?_⟩
    ·intro d' hd'
     rw[c7]at hd';simp at hd';subst hd';exact r3
    ·intro t ht
     simp only[hbe]
     refine⟨fun _ _=>trivial,fun hno=>?_⟩
     rcases hI.temps t with ⟨y',k1,k2,k3,k4⟩|⟨y',k1,k2,k3,k4,k5⟩|k'
     ·exfalso
      refine hno ⟨y',k1,k2,k3,k4,?_⟩
      have:=c9 y' k1 k2 t k4 (by rw[←c6];exact ht)
      rw[Fix.anc,c5];exact this
     ·exfalso
      rcases List.mem_cons.1 k1 with h|h
      ·subst h;simp[Item.isChk]at k2
      ·have:=(hF.pair (Qbs (pre:=pre++[(j,.chk d gd op)]) (by rw[hI.split];simp) (by simp[k]) h) hzc k2).war t k5 ht
       exact hzn (hI.closed _ k4 _ this)
     ·exact k'
   ·exact .inl h'
  ·exact .inr (hold h)
 ·intro t
  rcases hI.temps t with ⟨y',k1,k2,k3,k4⟩|⟨y',k1,k2,k3,k4,k5⟩|k
  ·exact .inl ⟨y',by simp[k1],k2,k3,k4⟩
  ·rcases List.mem_cons.1 k1 with h|h
   ·subst h;simp[Item.isChk]at k2
   ·exact .inr (.inl ⟨y',h,k2,k3,k4,k5⟩)
  ·exact .inr (.inr k)
end Go.AE

namespace Go.AE
variable {P:Program}{H:Heap}{g:G}{w:World}{e:Env}{a:Act}
theorem Ql2 {d:Option Nat}{v:V}{e:Env}{t:Nat}(h:d≠some t):lk t (putE d v e)=lk t e:=by
 cases d with
 |none=>rfl
 |some s=>
  simp only[putE,lk]
  rw[if_neg]
  intro k;subst k;exact h rfl
theorem Qan1 {d:Option Nat}{v:V}{e:Env}{t:Nat}(h:d=some t):lk t (putE d v e)=v:=by
 subst h;simp[putE,lk]
theorem Qkw {a:Act}{d:Option Nat}{u:Value}{t:Nat}(h:d≠some t):(a.put d u).tmps.getD t undef=a.tmps.getD t undef:=by
 cases d with
 |none=>rfl
 |some s=>
  have:s≠t:=fun k=>by subst k;exact h rfl
  simp only[Act.put]
  rw[Array.getD_eq_getD_getElem?,Array.getElem?_setIfInBounds_ne this,←Array.getD_eq_getD_getElem?]
theorem Qa3s {a:Act}{d:Option Nat}{u:Value}{t:Nat}(h:d=some t)(ht:t<a.tmps.size):(a.put d u).tmps.getD t undef=u:=by
 subst h
 simp only[Act.put]
 rw[Array.getD_eq_getD_getElem?,Array.getElem?_setIfInBounds_self_of_lt ht];rfl
theorem Qb9 {listed:Array Bool}{i j:Nat}(hi:i<listed.size):dn (listed.setIfInBounds i true) j↔j=i∨dn listed j:=by
 by_cases h:j=i
 ·subst h;simp[dn,hi]
 ·simp only[dn,getD_set_ne false (Ne.symm h),h,false_or]
theorem Q3b {n:Nat}{ops:Array Oper}{o:Oper}{x:Item}(h:Qn9 P n ops o x=true):∀t,x.dst=some t→t<n:=by
 intro t ht
 cases x <;> simp only[Qn9,Bool.and_eq_true]at h
 case f d gd op=>obtain⟨h1,h2⟩:=Qe4 h.1.1;simp only[Item.dst]at ht;exact h2 t (h1.trans ht)
 case p d gd f xs=>obtain⟨h1,h2⟩:=Qe4 h.1.1;simp only[Item.dst]at ht;exact h2 t (h1.trans ht)
 case e d gd op=>obtain⟨h1,h2⟩:=Qe4 h.1.1;simp only[Item.dst]at ht;exact h2 t (h1.trans ht)
 case chk=>simp at h
theorem DInv.passE {F:Fix}(hF:FixOk F){listed:Array Bool}{pre r:List Row}{y:Row}(hI:DInv F listed a w pre (y::r) e H g)(hy:y.2.isE=true)(hyn:¬dn listed y.1)(hyf:¬flo F.fa y.1=true)
  (hanc:∀j,F.anc y.1 j→dn listed j) {v:V} {u:Value} {w':World} {H':Heap} {g':G}
  (hrest:Qsu F.P (r.map Prod.snd) (putE y.2.dst v e) H' F.KP F.K) (hst:Stp H g w H' g' w') (hv:RepV w' g' v u) :
  DInv F (listed.setIfInBounds y.1 true) (a.put y.2.dst u) w' (pre++[y]) r (putE y.2.dst v e) H' g':=by
 obtain⟨hyc,hyl⟩:=Qatb hy
 obtain⟨o,ho⟩:=hF.row hI.split hyc
 have hlt:y.1<listed.size:=by rw[hI.lsz];exact (Array.getElem?_eq_some_iff.1 ho.op).1
 have hpre:∀z∈pre,z∈F.L:=fun z hz=>by rw[hI.split];simp[hz]
 have hbz:∀z∈pre,Qaec F z y:=fun z hz=>Qbs hI.split hz (by simp)
 refine⟨by rw[hI.split];simp,hrest,hI.stp.trans hst,by rw[(Qbw _ _ _).1];exact hI.size,by rw[(Qbw _ _ _).2];exact hI.defers,by simp[hI.lsz],?_,?_,?_,?_,?_,?_⟩
 ·intro i hi j hj
  rw[Qb9 hlt]at hi⊢
  rcases hi with rfl|hi
  ·exact .inr (hanc j hj)
  ·exact .inr (hI.closed i hi j hj)
 ·intro z hz hzE
  rw[Qb9 hlt]
  rcases List.mem_append.1 hz with k|k
  ·exact .inr (hI.eDone z k hzE)
  ·simp at k;subst k;exact .inl rfl
 ·intro z hz hzc hzd
  have hzy:=hF.pair (Qcn hI.split hz) hyc hzc
  rw[Qb9 hlt]at hzd
  obtain⟨k1,k2⟩:=hI.postDone z (by simp[hz]) hzc (hzd.resolve_left (Ne.symm hzy.ne))
  exact⟨k1,k2.mono hst fun d hd=>Qkw fun h=>hzy.dst d h hd⟩
 ·intro z hz hzf hzn
  obtain⟨hzc,hze⟩:=Qnh hzf
  rw[Qb9 hlt]at hzn
  have hzn':¬dn listed z.1:=fun h=>hzn (.inr h)
  have k:z∈pre:=by
   rcases List.mem_append.1 hz with k|k
   ·exact k
   ·simp at k;subst k;rw[hyl]at hzf;simp at hzf
  have hp:=hF.pair (hbz z k) hzc hyc
  by_cases hh:z.2.hf=true
  ·right
   rcases hI.pend z k hzf hzn' with h|h
   ·have:=(Qos h).1
    rw[hyc]at this;simp at this
   ·obtain⟨o',x,ei,u',p1,p2,p3,p4,p5,p6,p7,p8⟩:=h
    refine⟨o',x,ei,u',p1,p2,p3,p4,p5,p6.hcongr (p5 hh),?_,?_⟩
    ·intro d hd
     rw[Ql2 fun h=>hp.dst d hd h];exact p7 d hd
    ·intro t ht
     obtain⟨q1,q2⟩:=p8 t ht
     have hyt:y.2.dst≠some t:=fun h=>by
      have:=hp.war t h ht
      exact hzn' (hanc _ this)
     have hb:∀z',Qkt F (listed.setIfInBounds y.1 true) (pre++[y]) z t z'↔Qkt F listed pre z t z':=by
      intro z'
      constructor
      ·rintro⟨b1,b2,b3,b4,b5⟩
       rw[Qb9 hlt]at b3
       refine⟨?_,b2,fun h=>b3 (.inr h),b4,b5⟩
       rcases List.mem_append.1 b1 with b|b
       ·exact b
       ·simp at b;subst b;exact absurd b4 hyt
      ·rintro⟨b1,b2,b3,b4,b5⟩
       refine⟨by simp[b1],b2,?_,b4,b5⟩
       rw[Qb9 hlt]
       rintro (h|h)
       ·exact (hF.pair (hbz z' b1) b2 hyc).ne h
       ·exact b3 h
     simp only[hb,Ql2 hyt,Qkw hyt]
     exact⟨q1,fun h=>(q2 h).mono hst.le⟩
  ·left
   have:=ho.cover hy z k hzc (by simpa using hh)
   refine this ?_
   cases hx:(F.ms.getD y.1 0).testBit z.1 with
   |false=>rfl
   |true=>exact absurd (hanc _ hx) hzn'
 ·intro t
  by_cases ht:y.2.dst=some t
  ·right;right
   rw[Qan1 ht,Qa3s ht (by rw[hI.size];exact Q3b ho.item t ht)]
   exact hv
  ·rw[Ql2 ht,Qkw ht]
   rcases hI.temps t with ⟨y',k1,k2,k3,k4⟩|⟨y',k1,k2,k3,k4,k5⟩|k
   ·refine .inl ⟨y',by simp[k1],k2,?_,k4⟩
    rw[Qb9 hlt]
    rintro (h|h)
    ·exact (hF.pair (hbz y' k1) k2 hyc).ne h
    ·exact k3 h
   ·rcases List.mem_cons.1 k1 with h|h
    ·subst h;exact absurd k3 hyf
    ·exact .inr (.inl ⟨y',h,k2,k3,(Qb9 hlt).2 (.inr k4),k5⟩)
   ·exact .inr (.inr (k.mono hst.le))
 ·intro y' hy' z' hz' hyc' hzc' hyd hzd hne d d' hd hd'
  have p1:=hF.pair (Qcn hI.split hy') hyc hyc'
  have p2:=hF.pair (Qcn hI.split hz') hyc hzc'
  rw[Qb9 hlt]at hyd hzd
  rw[Qkw fun h=>p1.dst d h hd,Qkw fun h=>p2.dst d' h hd']
  exact hI.ne y' (by simp[hy']) z' (by simp[hz']) hyc' hzc' (hyd.resolve_left (Ne.symm p1.ne)) (hzd.resolve_left (Ne.symm p2.ne)) hne d d' hd hd'
theorem DInv.passFa {F:Fix}(hF:FixOk F){listed:Array Bool}{pre r:List Row}{y:Row}(hI:DInv F listed a w pre (y::r) e H g)(hyc:y.2.isChk=false)(hyn:dn listed y.1) :
  ∃e' H',DInv F listed a w (pre++[y]) r e' H' g:=by
 obtain⟨hyf,hea⟩:=hI.postDone y (by simp) hyc hyn
 obtain⟨d,cells,l,h1,h2,h3,h4⟩:=Qa8a hI.stp hea
 obtain⟨d0,cells0,l0,b0,sz0,T0,cs0,e1,e2,e3,e4,e5,e6,e7,e8,e9⟩:=hea.ok
 obtain⟨o,ho⟩:=hF.row hI.split hyc
 have hy:y.2.isE=true:=by rw[h1];rfl
 have hyl:=(Qatb hy).2
 have hyd:y.2.dst=some d:=by rw[h1];rfl
 have hbz:∀z∈pre,Qaec F z y:=fun z hz=>Qbs hI.split hz (by simp)
 have hrest:=hI.rest
 simp only[List.map_cons,h1,Qsu,gdO,gdB,true_and,EOp.eff]at hrest
 have hrest':=hrest.1 trivial l h2
 refine⟨putE (some d) (.c (.ptr l 0)) e,H.set l (.st cells),?_⟩
 refine⟨by rw[hI.split];simp,hrest',h3,hI.size,hI.defers,hI.lsz,hI.closed,?_,?_,?_,?_,fun y' hy' z' hz'=>hI.ne y' (by simp[hy']) z' (by simp[hz'])⟩
 ·intro z hz hzE
  rcases List.mem_append.1 hz with k|k
  ·exact hI.eDone z k hzE
  ·simp at k;subst k;exact hyn
 ·intro z hz hzc hzd
  obtain⟨k1,k2⟩:=hI.postDone z (by simp[hz]) hzc hzd
  refine⟨k1,k2.other h4 fun d' hd'=>?_⟩
  exact hI.ne y (by simp) z (by simp[hz]) hyc hzc hyn hzd (hF.pair (Qcn hI.split hz) hyc hzc).ne d d' hyd hd'
 ·intro z hz hzf hzn
  obtain⟨hzc,hze⟩:=Qnh hzf
  have k:z∈pre:=by
   rcases List.mem_append.1 hz with k|k
   ·exact k
   ·simp at k;subst k;rw[hyl]at hzf;simp at hzf
  have hp:=hF.pair (hbz z k) hzc hyc
  by_cases hh:z.2.hf=true
  ·right
   rcases hI.pend z k hzf hzn with h|h
   ·have:=(Qos h).1
    rw[hyc]at this;simp at this
   ·obtain⟨o',x,ei,u',p1,p2,p3,p4,p5,p6,p7,p8⟩:=h
    refine⟨o',x,ei,u',p1,p2,p3,p4,p5,p6.hcongr (p5 hh),?_,?_⟩
    ·intro d' hd'
     rw[Ql2 fun h=>hp.dst d' hd' (by rw[hyd];exact h)];exact p7 d' hd'
    ·intro t ht
     obtain⟨q1,q2⟩:=p8 t ht
     have hyt:some d≠some t:=fun h=>by
      have:=hp.war t (by rw[hyd];exact h) ht
      exact hzn (hI.closed _ hyn _ this)
     have hb:∀z',Qkt F listed (pre++[y]) z t z'↔Qkt F listed pre z t z':=by
      intro z'
      constructor
      ·rintro⟨b1,b2,b3,b4,b5⟩
       refine⟨?_,b2,b3,b4,b5⟩
       rcases List.mem_append.1 b1 with b|b
       ·exact b
       ·simp at b;subst b;rw[hyd]at b4;exact absurd b4 hyt
      ·rintro⟨b1,b2⟩
       exact⟨by simp[b1],b2⟩
     simp only[hb,Ql2 hyt]
     exact⟨q1,q2⟩
  ·left
   refine ho.cover hy z k hzc (by simpa using hh) ?_
   cases hx:(F.ms.getD y.1 0).testBit z.1 with
   |false=>rfl
   |true=>exact absurd (hI.closed _ hyn _ hx) hzn
 ·intro t
  by_cases ht:some d=some t
  ·right;right
   rw[Qan1 ht]
   simp at ht;subst ht
   exact h4
  ·rw[Ql2 ht]
   rcases hI.temps t with ⟨y',k1,k2,k3,k4⟩|⟨y',k1,k2,k3,k4,k5⟩|k
   ·exact .inl ⟨y',by simp[k1],k2,k3,k4⟩
   ·rcases List.mem_cons.1 k1 with h|h
    ·subst h;rw[hyd]at k5;exact absurd k5 ht
    ·exact .inr (.inl ⟨y',h,k2,k3,k4,k5⟩)
   ·exact .inr (.inr k)
theorem DInv.doneFl {F:Fix}(hF:FixOk F){listed:Array Bool}{pre post:List Row}{y:Row}(hI:DInv F listed a w pre post e H g)(hyp:y∈pre)(hy:y.2.isFl=true)(hyn:¬dn listed y.1)
  (hanc:∀j,F.anc y.1 j→dn listed j) {v:V} {u:Value} {w':World} {g':G} (hvd:∀d,y.2.dst=some d→lk d e=v)
  (hst:Stp H g w H g' w') (hv:RepV w' g' v u) :
  DInv F (listed.setIfInBounds y.1 true) (a.put y.2.dst u) w' pre post e H g':=by
 obtain⟨hyc,hye⟩:=Qnh hy
 have hyL:y∈F.L:=by rw[hI.split];simp[hyp]
 obtain⟨A,B,hAB⟩:=List.append_of_mem hyL
 obtain⟨o,ho⟩:=hF.row hAB hyc
 have hlt:y.1<listed.size:=by rw[hI.lsz];exact (Array.getElem?_eq_some_iff.1 ho.op).1
 have hpre:∀z∈pre,z∈F.L:=fun z hz=>by rw[hI.split];simp[hz]
 refine⟨hI.split,hI.rest,hI.stp.trans hst,by rw[(Qbw _ _ _).1];exact hI.size,by rw[(Qbw _ _ _).2];exact hI.defers,by simp[hI.lsz],?_,?_,?_,?_,?_,?_⟩
 ·intro i hi j hj
  rw[Qb9 hlt]at hi⊢
  rcases hi with rfl|hi
  ·exact .inr (hanc j hj)
  ·exact .inr (hI.closed i hi j hj)
 ·intro z hz hzE
  rw[Qb9 hlt]
  exact .inr (hI.eDone z hz hzE)
 ·intro z hz hzc hzd
  have hzy:=hF.pair (Qbs hI.split hyp hz) hyc hzc
  rw[Qb9 hlt]at hzd
  obtain⟨k1,k2⟩:=hI.postDone z hz hzc (hzd.resolve_left (Ne.symm hzy.ne))
  exact⟨k1,k2.mono hst fun d hd=>Qkw fun h=>hzy.dst d h hd⟩
 ·intro z hz hzf hzn
  obtain⟨hzc,hze⟩:=Qnh hzf
  rw[Qb9 hlt]at hzn
  have hzn':¬dn listed z.1:=fun h=>hzn (.inr h)
  have hzy:z≠y:=fun h=>hzn (.inl (by rw[h]))
  rcases hI.pend z hz hzf hzn' with h|h
  ·exact .inl h
  ·right
   obtain⟨o',x,ei,u',p1,p2,p3,p4,p5,p6,p7,p8⟩:=h
   refine⟨o',x,ei,u',p1,p2,p3,p4,p5,p6,p7,?_⟩
   intro t ht
   obtain⟨q1,q2⟩:=p8 t ht
   have hb:∀z',Qkt F (listed.setIfInBounds y.1 true) pre z t z'→Qkt F listed pre z t z':=by
    rintro z' ⟨b1,b2,b3,b4,b5⟩
    rw[Qb9 hlt]at b3
    exact⟨b1,b2,fun h=>b3 (.inr h),b4,b5⟩
   refine⟨fun z' hz'=>q1 z' (hb z' hz'),fun hno=>?_⟩
   by_cases hyt:y.2.dst=some t
   ·have hbe:Qkt F listed pre z t y:=by
     refine⟨hyp,hyc,hyn,hyt,?_⟩
     rcases Q5b hyL (hpre z hz)with k|k|k
     ·exact absurd k.symm hzy
     ·exact (hF.pair k hyc hzc).raw t hyt ht
     ·exact absurd (hanc _ ((hF.pair k hzc hyc).war t hyt ht)) hzn'
    rw[q1 y hbe,hvd t hyt,Qa3s hyt (by rw[hI.size];exact Q3b ho.item t hyt)]
    exact hv
   ·rw[Qkw hyt]
    refine (q2 fun ⟨z',b⟩=>hno ⟨z',?_⟩).mono hst.le
    obtain⟨b1,b2,b3,b4,b5⟩:=b
    refine⟨b1,b2,?_,b4,b5⟩
    rw[Qb9 hlt]
    rintro (h|h)
    ·have:=hF.inj (hpre _ b1) hyL b2 hyc h
     subst this;exact hyt b4
    ·exact b3 h
 ·intro t
  by_cases ht:y.2.dst=some t
  ·right;right
   rw[hvd t ht,Qa3s ht (by rw[hI.size];exact Q3b ho.item t ht)]
   exact hv
  ·rw[Qkw ht]
   rcases hI.temps t with ⟨y',k1,k2,k3,k4⟩|⟨y',k1,k2,k3,k4,k5⟩|k
   ·refine .inl ⟨y',k1,k2,?_,k4⟩
    rw[Qb9 hlt]
    rintro (h|h)
    ·have:=hF.inj (hpre _ k1) hyL k2 hyc h
     subst this;exact ht k4
    ·exact k3 h
   ·exact .inr (.inl ⟨y',k1,k2,k3,(Qb9 hlt).2 (.inr k4),k5⟩)
   ·exact .inr (.inr (k.mono hst.le))
 ·intro y' hy' z' hz' hyc' hzc' hyd hzd hne d d' hd hd'
  have p1:=hF.pair (Qbs hI.split hyp hy') hyc hyc'
  have p2:=hF.pair (Qbs hI.split hyp hz') hyc hzc'
  rw[Qb9 hlt]at hyd hzd
  rw[Qkw fun h=>p1.dst d h hd,Qkw fun h=>p2.dst d' h hd']
  exact hI.ne y' hy' z' hz' hyc' hzc' (hyd.resolve_left (Ne.symm p1.ne)) (hzd.resolve_left (Ne.symm p2.ne)) hne d d' hd hd'
theorem DInv.doneFa {F:Fix}(hF:FixOk F){listed:Array Bool}{pre post:List Row}{y:Row}(hI:DInv F listed a w pre post e H g)(hyp:y∈post)(hyc:y.2.isChk=false)(hyf:flo F.fa y.1=true)(hyn:¬dn listed y.1)
  (hanc:∀j,F.anc y.1 j→dn listed j) {u:Value} {w':World} {g':G}
  (hst:Stp H g w H g' w') (hv:Early F.g0 H g' w' (a.put y.2.dst u) y.2) (hnew:∀x',Early F.g0 H g w a x'→∀d,x'.dst=some d→a.tmps.getD d undef≠u) :
  DInv F (listed.setIfInBounds y.1 true) (a.put y.2.dst u) w' pre post e H g':=by
 have hyL:y∈F.L:=by rw[hI.split];simp[hyp]
 obtain⟨A,B,hAB⟩:=List.append_of_mem hyL
 obtain⟨o,ho⟩:=hF.row hAB hyc
 have hlt:y.1<listed.size:=by rw[hI.lsz];exact (Array.getElem?_eq_some_iff.1 ho.op).1
 have hpre:∀z∈pre,z∈F.L:=fun z hz=>by rw[hI.split];simp[hz]
 have hpost:∀z∈post,z∈F.L:=fun z hz=>by rw[hI.split];simp[hz]
 refine⟨hI.split,hI.rest,hI.stp.trans hst,by rw[(Qbw _ _ _).1];exact hI.size,by rw[(Qbw _ _ _).2];exact hI.defers,by simp[hI.lsz],?_,?_,?_,?_,?_,?_⟩
 ·intro i hi j hj
  rw[Qb9 hlt]at hi⊢
  rcases hi with rfl|hi
  ·exact .inr (hanc j hj)
  ·exact .inr (hI.closed i hi j hj)
 ·intro z hz hzE
  rw[Qb9 hlt]
  exact .inr (hI.eDone z hz hzE)
 ·intro z hz hzc hzd
  rw[Qb9 hlt]at hzd
  rcases hzd with h|h
  ·have:=hF.inj (hpost _ hz) hyL hzc hyc h
   subst this
   exact⟨hyf,hv⟩
  ·obtain⟨k1,k2⟩:=hI.postDone z hz hzc h
   refine⟨k1,k2.mono hst fun d hd=>Qkw fun hh=>?_⟩
   have:=hF.injDst (hpost _ hz) hyL hzc hyc hd hh
   subst this
   exact hyn h
 ·intro z hz hzf hzn
  obtain⟨hzc,hze⟩:=Qnh hzf
  rw[Qb9 hlt]at hzn
  have hzn':¬dn listed z.1:=fun h=>hzn (.inr h)
  rcases hI.pend z hz hzf hzn' with h|h
  ·exact .inl h
  ·right
   obtain⟨o',x,ei,u',p1,p2,p3,p4,p5,p6,p7,p8⟩:=h
   refine⟨o',x,ei,u',p1,p2,p3,p4,p5,p6,p7,?_⟩
   intro t ht
   obtain⟨q1,q2⟩:=p8 t ht
   have hyt:y.2.dst≠some t:=fun h=>by
    have:=(hF.pair (Qbs hI.split hz hyp) hzc hyc).war t h ht
    exact hzn' (hanc _ this)
   have hb:∀z',Qkt F (listed.setIfInBounds y.1 true) pre z t z'↔Qkt F listed pre z t z':=by
    intro z'
    constructor
    ·rintro⟨b1,b2,b3,b4,b5⟩
     rw[Qb9 hlt]at b3
     exact⟨b1,b2,fun h=>b3 (.inr h),b4,b5⟩
    ·rintro⟨b1,b2,b3,b4,b5⟩
     refine⟨b1,b2,?_,b4,b5⟩
     rw[Qb9 hlt]
     rintro (h|h)
     ·exact (hF.pair (Qbs hI.split b1 hyp) b2 hyc).ne h
     ·exact b3 h
   simp only[hb,Qkw hyt]
   exact⟨q1,fun h=>(q2 h).mono hst.le⟩
 ·intro t
  by_cases ht:y.2.dst=some t
  ·exact .inr (.inl ⟨y,hyp,hyc,hyf,(Qb9 hlt).2 (.inl rfl),ht⟩)
  ·rw[Qkw ht]
   rcases hI.temps t with ⟨y',k1,k2,k3,k4⟩|⟨y',k1,k2,k3,k4,k5⟩|k
   ·refine .inl ⟨y',k1,k2,?_,k4⟩
    rw[Qb9 hlt]
    rintro (h|h)
    ·exact (hF.pair (Qbs hI.split k1 hyp) k2 hyc).ne h
    ·exact k3 h
   ·exact .inr (.inl ⟨y',k1,k2,k3,(Qb9 hlt).2 (.inr k4),k5⟩)
   ·exact .inr (.inr (k.mono hst.le))
 ·have hlast:∀z'∈post,z'.2.isChk=false→dn listed z'.1→z'.1≠y.1→∀d d',y.2.dst=some d→z'.2.dst=some d'→(a.put y.2.dst u).tmps.getD d undef≠(a.put y.2.dst u).tmps.getD d' undef:=by
   intro z' hz' hzc' hzd hne d d' hd hd'
   obtain⟨_,k2⟩:=hI.postDone z' hz' hzc' hzd
   rw[Qa3s hd (by rw[hI.size];exact Q3b ho.item d hd),Qkw fun h=>hne (by rw[hF.injDst (hpost _ hz') hyL hzc' hyc hd' h])]
   exact fun h=>hnew _ k2 d' hd' h.symm
  intro y' hy' z' hz' hyc' hzc' hyd hzd hne d d' hd hd'
  rw[Qb9 hlt]at hyd hzd
  by_cases h1:y'.1=y.1
  ·have:=hF.inj (hpost _ hy') hyL hyc' hyc h1
   subst this
   exact hlast z' hz' hzc' (hzd.resolve_left fun h=>hne h.symm) (fun h=>hne h.symm) d d' hd hd'
  ·by_cases h2:z'.1=y.1
   ·have:=hF.inj (hpost _ hz') hyL hzc' hyc h2
    subst this
    exact (hlast y' hy' hyc' (hyd.resolve_left h1) h1 d' d hd' hd).symm
   ·rw[Qkw fun h=>h1 (by rw[hF.injDst (hpost _ hy') hyL hyc' hyc hd h]),Qkw fun h=>h2 (by rw[hF.injDst (hpost _ hz') hyL hzc' hyc hd' h])]
    exact hI.ne y' hy' z' hz' hyc' hzc' (hyd.resolve_left h1) (hzd.resolve_left h2) hne d d' hd hd'
end Go.AE

namespace Go.AE
variable {P:Program}{H:Heap}{g:G}{w:World}{e:Env}{a:Act}
def Qbgr (listed:Array Bool)(post:List Row):Prop:=post=[]∨∃y r,post=y::r∧y.2.isE=true∧¬dn listed y.1
theorem Q48 {F:Fix}(hF:FixOk F){listed:Array Bool}:∀(post pre:List Row) (e:Env) (H:Heap),DInv F listed a w pre post e H g→
  ∃pre' post' e' H',DInv F listed a w pre' post' e' H' g∧Qbgr listed post'
 |[],pre,e,H,hI=>⟨pre,[],e,H,hI,.inl rfl⟩
 |(i,x)::r,pre,e,H,hI=>by
  have hnE:x.isE=false→x.isChk=false→¬dn listed i:=by
   intro hx hc hd
   obtain⟨_,hea⟩:=hI.postDone (i,x) (by simp) hc hd
   obtain⟨d,cells,l,b,sz,T,cs,h1,_⟩:=hea.ok
   simp only at h1
   rw[h1]at hx;simp[Item.isE]at hx
  have hrest:=hI.rest
  cases x with
  |chk d gd op=>exact Q48 hF r _ e H (hI.passChk hF)
  |f d gd op=>
   simp only[List.map_cons,Qsu]at hrest
   exact Q48 hF r _ _ H (hI.passFl hF rfl _ ⟨hrest.1,hrest.2.1,rfl⟩ hrest.2.2 (hnE rfl rfl))
  |p d gd f xs=>
   simp only[List.map_cons,Qsu]at hrest
   obtain⟨r1,v,r2,r3⟩:=hrest
   exact Q48 hF r _ _ H (hI.passFl hF rfl _ ⟨r1,v,r2,rfl⟩ r3 (hnE rfl rfl))
  |e d gd op=>
   by_cases hd:dn listed i
   ·obtain⟨e',H',hI'⟩:=hI.passFa hF rfl hd
    exact Q48 hF r _ e' H' hI'
   ·exact⟨pre,_,e,H,hI,.inr ⟨_,r,rfl,rfl,hd⟩⟩
theorem Qas2 {α:Type}{p q:α→Bool}:∀(l:List α),(∀x∈l,q x=true→p x=true)→(∃x∈l,p x=true∧q x=false)→l.countP q<l.countP p
 |[],_,h=>by simp at h
 |x::r,h1,h2=>by
  have hle:r.countP q≤r.countP p:=List.countP_mono_left fun y hy=>h1 y (by simp[hy])
  obtain⟨y,hy,k1,k2⟩:=h2
  rcases List.mem_cons.1 hy with rfl|hy
  ·simp only[List.countP_cons,k1,k2];simp;omega
  ·have:=Qas2 r (fun y hy=>h1 y (by simp[hy])) ⟨y,hy,k1,k2⟩
   have hx:=h1 x (by simp)
   simp only[List.countP_cons]
   cases hq:q x with
   |true=>rw[hx hq];simp;omega
   |false=>simp;split <;> omega
def unl (F:Fix)(listed:Array Bool):Nat:=(List.range F.ops.size).countP fun i=>!listed.getD i false
theorem Qa2z {F:Fix}(hF:FixOk F){listed:Array Bool}(hsz:listed.size=F.ops.size)(hr:Region.ready .any F.ops listed=[]):∀(B A:List Row),F.L=A++B→
  (∀y∈A,y.2.isChk=false→dn listed y.1)→∀y∈B,y.2.isChk=false→dn listed y.1
 |[],A,h,hA,y,hy,hc=>by simp at hy
 |x::r,A,h,hA,y,hy,hc=>by
  have hx:x.2.isChk=false→dn listed x.1:=by
   intro hxc
   obtain⟨o,ho⟩:=hF.row h hxc
   have hlt:x.1<listed.size:=by rw[hsz];exact (Array.getElem?_eq_some_iff.1 ho.op).1
   by_cases hd:dn listed x.1
   ·exact hd
   ·exfalso
    have:x.1∈Region.ready .any F.ops listed:=by
     rw[mem_ready]
     refine⟨?_,o,ho.op,fun ed hed hb=>?_⟩
     ·simp only[dn]at hd
      rw[Array.getD_eq_getD_getElem?,Array.getElem?_eq_getElem hlt]at hd⊢
      simpa using hd
     ·obtain⟨z,hz,h1,h2⟩:=ho.aft ed hed hb
      rw[←h2];exact hA z hz h1
    rw[hr]at this;simp at this
  rcases List.mem_cons.1 hy with rfl|hy
  ·exact hx hc
  ·refine Qa2z hF hsz hr r (A++[x]) (by rw[h];simp) ?_ y hy hc
   intro z hz hzc
   rcases List.mem_append.1 hz with k|k
   ·exact hA z k hzc
   ·simp at k;subst k;exact hx hzc
theorem Qa25 {F:Fix}(hF:FixOk F){listed:Array Bool}{pre post:List Row}(hI:DInv F listed a w pre post e H g)(hst:Qbgr listed post)(hr:Region.ready .any F.ops listed=[]) :
  Post F.n F.H0 F.g0 F.w0 F.K a w:=by
 have hall:=Qa2z hF hI.lsz hr F.L [] rfl (by simp)
 rcases hst with rfl|⟨y,r,rfl,hy,hd⟩
 ·refine⟨e,H,g,hI.rest,hI.stp,fun t=>?_,hI.defers,hI.size⟩
  rcases hI.temps t with ⟨y',k1,k2,k3,k4⟩|⟨y',k1,_⟩|k
  ·exact absurd (hall y' (by rw[hI.split];simp[k1]) k2) k3
  ·simp at k1
  ·exact k
 ·exact absurd (hall y (by rw[hI.split];simp) (Qatb hy).1) hd
theorem Qa79 {F:Fix}(hF:FixOk F){Q:Exit→Act→World→Prop}(hQ:∀a' w',Post F.n F.H0 F.g0 F.w0 F.K a' w'→Q .normal a' w')(hP:∀v a' w' H' g',F.KP v H'→Stp F.H0 F.g0 F.w0 H' g' w'→a'.defers=[]→a'.tmps.size=F.n→Q (.panic [{ v:=v,recovered:=false }]) a' w') :
  ∀(fuel:Nat) (listed:Array Bool) (a:Act) (w:World) (pre post:List Row) (e:Env) (H:Heap) (g:G),DInv F listed a w pre post e H g→Qbgr listed post→unl F listed≤fuel→
   wpAny F.P .any F.ops Q fuel listed a w:=by
 intro fuel
 induction fuel with
 |zero=>
  intro listed a w pre post e H g hI hst hu
  have hr:Region.ready .any F.ops listed=[]:=by
   rw[List.eq_nil_iff_forall_not_mem]
   intro i hi
   rw[mem_ready]at hi
   obtain⟨h1,o,h2,h3⟩:=hi
   have hlt:i<F.ops.size:=(Array.getElem?_eq_some_iff.1 h2).1
   have:0<unl F listed:=by
    unfold unl
    rw[List.countP_pos_iff]
    refine⟨i,by simp[hlt],?_⟩
    have hlt':i<listed.size:=by rw[hI.lsz];exact hlt
    rw[Array.getD_eq_getD_getElem?,Array.getElem?_eq_getElem hlt']at h1⊢
    simpa using h1
   omega
  exact⟨hr,hQ _ _ (Qa25 hF hI hst hr)⟩
 |succ fuel ih=>
  intro listed a w pre post e H g hI hst hu
  refine⟨fun hr=>hQ _ _ (Qa25 hF hI hst hr),?_⟩
  intro i hi
  rw[mem_ready]at hi
  obtain⟨h1,o,h2,h3⟩:=hi
  have hlt:i<F.ops.size:=(Array.getElem?_eq_some_iff.1 h2).1
  have hlt':i<listed.size:=by rw[hI.lsz];exact hlt
  have hnd:¬dn listed i:=by
   simp only[dn]
   rw[Array.getD_eq_getD_getElem?,Array.getElem?_eq_getElem hlt']at h1⊢
   simpa using h1
  have hu':unl F (listed.setIfInBounds i true)≤fuel:=by
   have:unl F (listed.setIfInBounds i true)<unl F listed:=by
    refine Qas2 _ ?_ ⟨i,by simp[hlt],?_,?_⟩
    ·intro j hj hq
     by_cases hij:i=j
     ·subst hij;simp[hlt']at hq
     ·rw[getD_set_ne false hij]at hq;exact hq
    ·simpa[dn]using hnd
    ·simp[hlt']
   omega
  obtain⟨y,hyL,hyc,hyi⟩:=hF.all i hlt
  subst hyi
  obtain⟨A,B,hAB⟩:=List.append_of_mem hyL
  obtain⟨o',ho⟩:=hF.row hAB hyc
  have hoo:o'=o:=by have:=ho.op;rw[h2]at this;simpa using this.symm
  subst hoo
  have hanc:∀j,F.anc y.1 j→dn listed j:=by
   intro j hj
   obtain⟨ed,k1,k2,k3⟩:=ho.anc j hj
   rcases k3 with k3|k3
   ·rw[←k3];exact h3 ed k1 k2
   ·exact hI.closed _ (h3 ed k1 k2) j k3
  have hgo:∀a' w' pre' post' e' H' g',DInv F (listed.setIfInBounds y.1 true) a' w' pre' post' e' H' g'→wpAny F.P .any F.ops Q fuel (listed.setIfInBounds y.1 true) a' w':=by
   intro a' w' pre' post' e' H' g' hI'
   obtain⟨p2,q2,e2,H2,hI2,hs2⟩:=Q48 hF post' pre' e' H' hI'
   exact ih _ a' w' p2 q2 e2 H2 g' hI2 hs2 hu'
  have hmem:y∈pre∨y∈post:=by
   have:y∈pre++post:=hI.split▸hyL
   exact List.mem_append.1 this
  have hearly:flo F.fa y.1=true→y∈post→wpOp F.P F.ops Q y.1 (wpAny F.P .any F.ops Q fuel (listed.setIfInBounds y.1 true)) a w:=by
   intro hfa hyp
   refine Qa4k h2 ho.item (ho.isFa hfa) hI.stp.sat (fun l z hz=>hI.stp.le.io l z hz) hI.size (g0:=F.g0) fun u w' g' k1 k2 k3=>?_
   exact hgo _ _ _ _ _ _ _ (hI.doneFa hF hyp hyc hfa hnd hanc k1 k2 k3)
  rcases hmem with hyp|hyp
  ·
   have hfl:y.2.isFl=true:=by
    have hE:=hI.eDone y hyp
    revert hE hyc
    cases y.2 <;> simp_all[Item.isFl,Item.isChk,Item.isE]
   rcases hI.pend y hyp hfl hnd with h|h
   ·exfalso
    rcases hst with rfl|⟨z,r,rfl,hz,_⟩
    ·simp[Qapa]at h
    ·have:=(Qos h).1
     rw[(Qatb hz).1]at this;simp at this
   ·obtain⟨o2,x,ei,v,p1,p2,p3,p4,p5,p6,p7,p8⟩:=h
    rw[h2]at p1
    simp only[Option.some.injEq]at p1
    subst p1
    have hno:∀t,¬∃z,Qkt F listed pre y t z:=by
     rintro t ⟨z,b1,b2,b3,b4,b5⟩
     exact b3 (hanc _ b5)
    refine Qbhl (n:=F.n) h2 p2 p6 hI.stp.sat ?_ fun u w' g' k1 k2=>?_
    ·intro t
     rw[Qapk]
     split
     ·rename_i ht
      rw[p4]at ht
      exact (p8 t ht).2 (hno t)
     ·exact .unk _
    ·rw[p3]
     exact hgo _ _ _ _ _ _ _ (hI.doneFl hF hyp hfl hnd hanc p7 k1 k2)
  ·by_cases hfa:flo F.fa y.1=true
   ·exact hearly hfa hyp
   ·rcases hst with rfl|⟨z,r,rfl,hz,hzd⟩
    ·simp at hyp
    ·have hyz:y=z:=by
      rcases List.mem_cons.1 hyp with k|k
      ·exact k
      ·exfalso
       have:=(hF.pair (Qcn hI.split k) (Qatb hz).1 hyc).ord hz hfa
       exact hzd (hanc _ this)
     subst hyz
     have hrest:=hI.rest
     have him:=ho.item
     have hpass:=@DInv.passE
     obtain⟨yi,yx⟩:=y
     cases yx with
     |e d gd op=>
      simp only[List.map_cons,Qsu]at hrest
      obtain⟨r1,r2,r3⟩:=hrest
      refine Qbgs (n:=F.n) h2 him hI.stp.sat ?_ r1 r2 r3 (fun x u w' H' g' k1 k2 k3=>?_) fun v w' H' g' k1 k2=>hP v a w' H' g' k1 (hI.stp.trans k2) hI.defers hI.size
      ·intro t
       rw[Qapk]
       split
       ·rename_i ht
        rcases hI.temps t with ⟨y',b1,b2,b3,b4⟩|⟨y',b1,b2,b3,b4,b5⟩|k
        ·exfalso
         exact b3 (hanc _ ((hF.pair (Qbs hI.split b1 (by simp)) b2 hyc).raw t b4 ht))
        ·exfalso
         rcases List.mem_cons.1 b1 with h|h
         ·subst h;exact hnd b4
         ·have:=(hF.pair (Qcn hI.split h) hyc b2).war t b5 ht
          exact hnd (hI.closed _ b4 _ this)
        ·exact k
       ·exact .unk _
      ·exact hgo _ _ _ _ _ _ _ (hI.passE hF hz hnd hfa hanc (Qaw5 k1 k3) k2 k3)
     |f=>simp[Item.isE]at hz
     |p=>simp[Item.isE]at hz
     |chk=>simp[Item.isE]at hz
theorem Qbb5 (hs:Sat H g w)(k:Nat):Stp H g w H g { w with drawn:=k }:=by
 have hle:Le g w g { w with drawn:=k }:=⟨fun _ h=>⟨h,rfl⟩,fun _ _ h=>h,Nat.le_refl _,fun _ _ _ h=>h,rfl,rfl,rfl⟩
 have hk:∀l,Q2w g w g { w with drawn:=k } l:=fun l b q hb=>⟨hb,rfl⟩
 exact⟨hle,fun l _ hn=>⟨hn,fun b p hb=>⟨hb,rfl⟩⟩,hs.fresh,hs.names,hs.excl,hs.named,fun l=>SatObj.keep_all hs hle hk l⟩
theorem Qa4j {n id fa:Nat}{ord:List Nat}{ops:Array Oper}{its:List Item}{KP:Value→Heap→Prop}{K:Env→Heap→Prop}{Q:Exit→Act→World→Prop}(Qah:P.follows .mixedOrders=true)(hm:Qbh7 P n ops fa ord its=true)(hs:Sat H g w)(he:EnvOk w g e a)(hn:a.tmps.size=n)(hd:a.defers=[])
  (hr:Qsu P its e H KP K) (hQ:∀a' w',Post n H g w K a' w'→Q .normal a' w') (hP:∀v a' w',Post n H g w (fun _ H'=>KP v H') a' w'→Q (.panic [{ v:=v,recovered:=false }]) a' w'):(Code.region id ops true).wp P Q a w:=by
 simp only[Qbh7,Bool.and_eq_true,beq_iff_eq,List.all_eq_true,List.mem_range,List.any_eq_true,Bool.not_eq_true']at hm
 obtain⟨⟨⟨m1,m2⟩,m3⟩,m4⟩:=hm
 let F:Fix:={ P,n,ops,ms:=Qbig ops.toList [],fa,L:=ord.zip its,H0:=H,g0:=g,w0:=w,KP,K }
 have hF:FixOk F:=⟨m3,fun i hi=>m4 i hi⟩
 have hmap:(ord.zip its).map Prod.snd=its:=by
  rw[List.map_snd_zip];omega
 have hst:=Qbb5 hs (w.drawn+1)
 have hnl:∀i,¬dn (Array.replicate ops.size false) i:=by
  intro i h
  simp only[dn,Array.getD_eq_getD_getElem?,Array.getElem?_replicate]at h
  split at h <;> simp at h
 have hI:DInv F (Array.replicate ops.size false) a { w with drawn:=w.drawn+1 } [] (ord.zip its) e H g:=by
  refine⟨rfl,by rw[hmap];exact hr,hst,hn,hd,by simp[F],fun i hi=>absurd hi (hnl i),by simp,fun y _ _ h=>absurd h (hnl _),by simp,fun t=>?_,fun y _ z _ _ _ h=>absurd h (hnl _)⟩
  exact .inr (.inr ((he t).mono hst.le))
 obtain⟨p2,q2,e2,H2,hI2,hs2⟩:=Q48 hF _ _ _ _ hI
 refine wp_region_any Qah ?_
 refine Qa79 hF hQ (fun v a' w' H' g' k1 k2 k3 k4=>hP v a' w' ⟨[],H',g',k1,k2,fun t=>.unk _,k3,k4⟩) ops.size _ a _ p2 q2 e2 H2 g hI2 hs2 ?_
 exact Nat.le_trans List.countP_le_length (by simp[F])
end Go.AE

namespace Go.AE
variable {P:Program}{H:Heap}{g:G}{w:World}{e:Env}{a:Act}
theorem Qa7q {c:Code}{Q:Exit→Act→World→Prop}(I:Nat→Act→World→Prop)(h₀:∃n,I n a w)
  (round:∀n a w,I n a w→c.wp P (Exit.then (fun a' w'=>∃m,m<n∧I m a' w') Q) a w):(Code.loop c).wp P Q a w:=by
 intro b k cs
 have key:∀n a w,I n a w→∃e a' w',Q e a' w'∧Arrives P (lone (b.at a (.code c::.inLoop c::k)) cs w) b k cs e a' w':=by
  intro n
  induction n using Nat.strongRecOn with
  |_ n ih=>
   intro a w hI
   obtain⟨e,a₁,w₁,hq,harr⟩:=round n a w hI b (.inLoop c::k) cs
   cases e with
   |normal=>
    obtain⟨m,hlt,hI₁⟩:=hq
    obtain⟨e₂,a₂,w₂,hq₂,harr₂⟩:=ih m hlt a₁ w₁ hI₁
    exact⟨e₂,a₂,w₂,hq₂,.of_steps (Steps.trans harr (.one step_inLoop)) harr₂⟩
   |exit id=>exact⟨_,a₁,w₁,hq,.pass (x:=.inLoop c) rfl (fun _ _=>.inl (by simp)) harr⟩
   |goto l=>exact⟨_,a₁,w₁,hq,.pass (x:=.inLoop c) rfl (fun _ _=>.inl (by simp)) harr⟩
   |ret=>exact⟨_,a₁,w₁,hq,.pass (x:=.inLoop c) rfl (fun _ _=>.inl (by simp)) harr⟩
   |panic ch=>exact⟨_,a₁,w₁,hq,.pass (x:=.inLoop c) rfl (fun _ _=>.inl (by simp)) harr⟩
   |outgrown=>exact⟨_,a₁,w₁,hq,.pass (x:=.inLoop c) rfl (fun _ _=>.inl (by simp)) harr⟩
 obtain⟨n,hn⟩:=h₀
 obtain⟨e,a',w',hq,harr⟩:=key n a w hn
 exact⟨e,a',w',hq,.of_steps (.one step_loop) harr⟩
def xm:Exit→Option X
 |.normal=>some .nrm
 |.exit id=>some (.exit id)
 |.ret=>some .ret
 |.panic [{ v:=v,recovered:=false,goexit:=false }]=>some (.pan v)
 |_=>none
theorem Qa4b {ch:List PanicEntry}{x:X}(h:xm (.panic ch)=some x):∃v,x=.pan v∧ch=[{ v:=v,recovered:=false }]:=by
 unfold xm at h
 split at h <;> simp_all
def Qa7t (n:Nat)(H:Heap)(g:G)(w:World)(Q:X→Env→Heap→Prop)(x:Exit)(a:Act)(w':World):Prop:=
 ∃x',xm x=some x'∧Post n H g w (Q x') a w'
def mC (P:Program)(n:Nat):Code→SC→Bool
 |c,.seq .gh s=>mC P n c s
 |.skip,.skip=>true
 |.region _ ops false,.reg its _=>mIts P n ops 0 its
 |.region _ ops true,.dreg fa ord its _=>Qbh7 P n ops fa ord its
 |.seq c d,.seq s t=>mC P n c s&&mC P n d t
 |.cond x c d,.cond y s t=>mO y x&&mC P n c s&&mC P n d t
 |.block i c,.block j s=>i == j&&mC P n c s
 |.loop c,.loop s=>mC P n c s
 |.exit i,.exit j=>i == j
 |.ret,.ret=>true
 |.scope c,.scope s=>mC P n c s
 |.label _,.skip=>true
 |_,_=>false
theorem Qbcf {ks:List Nat}(h:EnvOk w g e a):EnvOk w g (trim ks e) a:=by
 intro t
 unfold trim
 induction ks with
 |nil=>exact .unk _
 |cons k ks ih=>
  simp only[List.map_cons,lk]
  split
  ·rename_i ht;subst ht;exact h t
  ·exact ih
theorem Post.trans {n:Nat}{H':Heap}{g':G}{w' w'':World}{K:Env→Heap→Prop}(h:Stp H g w H' g' w')(k:Post n H' g' w' K a w''):Post n H g w K a w'':=by
 obtain⟨e2,H2,g2,k1,k2,k3,k4,k5⟩:=k
 exact⟨e2,H2,g2,k1,h.trans k2,k3,k4,k5⟩
theorem Qa4h (Qah:P.follows .mixedOrders=true){n:Nat}:∀(s:SC) (c:Code) (Q:X→Env→Heap→Prop) (e:Env) (H:Heap),mC P n c s=true→Qae P s Q e H→
  ∀(g:G) (w:World) (a:Act),Sat H g w→EnvOk w g e a→a.defers=[]→a.tmps.size=n→c.wp P (Qa7t n H g w Q) a w:=by
 intro s
 induction s with
 |skip=>
  intro c Q e H hm hc g w a hs he hd hn
  cases c with
  |skip=>exact wp_skip ⟨.nrm,rfl,e,H,g,hc,.refl hs,he,hd,hn⟩
  |label l=>exact wp_label ⟨.nrm,rfl,e,H,g,hc,.refl hs,he,hd,hn⟩
  |_=>simp[mC]at hm
 |reg its keep=>
  intro c Q e H hm hc g w a hs he hd hn
  cases c with
  |region id ops dr'=>
   cases dr' with
   |true=>simp[mC]at hm
   |false=>
    simp only[mC]at hm
    simp only[Qae]at hc
    have hQ:∀a' w',Post n H g w (fun e' H'=>Q .nrm (trim keep e') H') a' w'→Qa7t n H g w Q .normal a' w':=by
     rintro a' w' ⟨e2,H2,g2,k1,k2,k3,k4,k5⟩
     exact⟨.nrm,rfl,_,H2,g2,k1,k2,Qbcf k3,k4,k5⟩
    have hP:∀v a' w',Post n H g w (fun _ H'=>X.panK Q v H') a' w'→Qa7t n H g w Q (.panic [{ v:=v,recovered:=false }]) a' w':=by
     rintro v a' w' ⟨e2,H2,g2,k1,k2,k3,k4,k5⟩
     exact⟨.pan v,rfl,[],H2,g2,k1,k2,fun t=>.unk _,k4,k5⟩
    have hl:=Qa3l its 0 hm
    refine wp_region ?_
    rw[List.range_eq_range',←hl,Nat.zero_add]
    exact Q85 hQ hP its 0 e H g w a hm (.refl hs) he hn hd hc
  |_=>simp[mC]at hm
 |dreg fa ord its keep=>
  intro c Q e H hm hc g w a hs he hd hn
  cases c with
  |region id ops dr'=>
   cases dr' with
   |false=>simp[mC]at hm
   |true=>
    simp only[mC]at hm
    simp only[Qae]at hc
    have hQ:∀a' w',Post n H g w (fun e' H'=>Q .nrm (trim keep e') H') a' w'→Qa7t n H g w Q .normal a' w':=by
     rintro a' w' ⟨e2,H2,g2,k1,k2,k3,k4,k5⟩
     exact⟨.nrm,rfl,_,H2,g2,k1,k2,Qbcf k3,k4,k5⟩
    have hP:∀v a' w',Post n H g w (fun _ H'=>X.panK Q v H') a' w'→Qa7t n H g w Q (.panic [{ v:=v,recovered:=false }]) a' w':=by
     rintro v a' w' ⟨e2,H2,g2,k1,k2,k3,k4,k5⟩
     exact⟨.pan v,rfl,[],H2,g2,k1,k2,fun t=>.unk _,k4,k5⟩
    exact Qa4j Qah hm hs he hn hd hc hQ hP
  |_=>simp[mC]at hm
 |seq s t ihs iht=>
  intro c Q e H hm hc g w a hs he hd hn
  by_cases hg:s=.gh
  ·subst hg
   have hm':mC P n c t=true:=by simpa[mC]using hm
   simp only[Qae]at hc
   obtain⟨e1,H1,h1,h2⟩:=hc
   obtain⟨g1,k1,k2⟩:=h1 g w (fun t=>a.tmps.getD t undef) hs he
   refine wp_mono (iht c Q e1 H1 hm' h2 g1 w a k1.sat k2 hd hn) ?_
   rintro x a' w' ⟨x',q1,q2⟩
   exact⟨x',q1,q2.trans k1⟩
  ·cases c with
   |seq c d=>
    have hm':mC P n c s=true∧mC P n d t=true:=by
     cases s <;> first|(exact absurd rfl hg)|simpa[mC]using hm
    simp only[Qae]at hc
    refine wp_seq (wp_mono (ihs c _ e H hm'.1 hc g w a hs he hd hn) ?_)
    rintro x a' w' ⟨x',q1,e2,H2,g2,k1,k2,k3,k4,k5⟩
    cases x with
    |normal=>
     simp only[xm,Option.some.injEq]at q1
     subst q1
     refine wp_mono (iht d Q e2 H2 hm'.2 k1 g2 w' a' k2.sat k3 k4 k5) ?_
     rintro x2 a2 w2 ⟨x2',r1,r2⟩
     exact⟨x2',r1,r2.trans k2⟩
    |exit id=>
     simp only[xm,Option.some.injEq]at q1
     subst q1
     exact⟨_,rfl,e2,H2,g2,k1,k2,k3,k4,k5⟩
    |ret=>
     simp only[xm,Option.some.injEq]at q1
     subst q1
     exact⟨_,rfl,e2,H2,g2,k1,k2,k3,k4,k5⟩
    |panic ch=>
     obtain⟨v,rfl,rfl⟩:=Qa4b q1
     exact⟨_,rfl,e2,H2,g2,k1,k2,k3,k4,k5⟩
    |_=>simp[xm]at q1
   |_=>cases s <;> first|(exact absurd rfl hg)|simp[mC]at hm
 |cond y s t ihs iht=>
  intro c Q e H hm hc g w a hs he hd hn
  cases c <;> simp[mC]at hm
  rename_i x c d
  obtain⟨⟨h1,h2⟩,h3⟩:=hm
  simp only[Qae]at hc
  obtain⟨b,k1,k2,k3⟩:=hc
  have hr:=Qbgk he h1
  rw[k1]at hr
  have hb:=hr.c_inv.bool_inv
  exact wp_cond_split hb (fun hbt=>ihs c Q e H h2 (k2 hbt) g w a hs he hd hn) (fun hbt=>iht d Q e H h3 (k3 hbt) g w a hs he hd hn)
 |block id s ih=>
  intro c Q e H hm hc g w a hs he hd hn
  cases c <;> simp[mC]at hm
  rename_i id' c
  obtain⟨rfl,h2⟩:=hm
  simp only[Qae]at hc
  refine wp_block (wp_mono (ih c _ e H h2 hc g w a hs he hd hn) ?_)
  rintro x a' w' ⟨x',q1,e2,H2,g2,k1,k2⟩
  cases x with
  |normal=>
   simp only[xm,Option.some.injEq]at q1
   subst q1
   exact⟨.nrm,rfl,e2,H2,g2,k1,k2⟩
  |exit id2=>
   simp only[xm,Option.some.injEq]at q1
   subst q1
   simp only[X.inBlock]at k1
   simp only[Exit.inBlock]
   split
   ·rename_i h;subst h;rw[if_pos rfl]at k1;exact⟨.nrm,rfl,e2,H2,g2,k1,k2⟩
   ·rename_i h;rw[if_neg h]at k1;exact⟨.exit id2,rfl,e2,H2,g2,k1,k2⟩
  |ret=>
   simp only[xm,Option.some.injEq]at q1
   subst q1
   exact⟨.ret,rfl,e2,H2,g2,k1,k2⟩
  |panic ch=>
   obtain⟨v,rfl,rfl⟩:=Qa4b q1
   exact⟨.pan v,rfl,e2,H2,g2,k1,k2⟩
  |_=>simp[xm]at q1
 |loop s ih=>
  intro c Q e H hm hc g w a hs he hd hn
  cases c <;> simp[mC]at hm
  rename_i c
  simp only[Qae]at hc
  obtain⟨I,⟨m0,h0⟩,hround⟩:=hc
  refine Qa7q (fun m a' w'=>Post n H g w (I m) a' w') ⟨m0,e,H,g,h0,.refl hs,he,hd,hn⟩ ?_
  rintro m a1 w1 ⟨e1,H1,g1,k1,k2,k3,k4,k5⟩
  refine wp_mono (ih c _ e1 H1 hm (hround m e1 H1 k1) g1 w1 a1 k2.sat k3 k4 k5) ?_
  rintro x a' w' ⟨x',q1,e2,H2,g2,r1,r2,r3,r4,r5⟩
  cases x with
  |normal=>
   simp only[xm,Option.some.injEq]at q1
   subst q1
   obtain⟨m',hlt,hI⟩:=r1
   exact⟨m',hlt,e2,H2,g2,hI,k2.trans r2,r3,r4,r5⟩
  |exit id=>
   simp only[xm,Option.some.injEq]at q1
   subst q1
   exact⟨_,rfl,e2,H2,g2,r1,k2.trans r2,r3,r4,r5⟩
  |ret=>
   simp only[xm,Option.some.injEq]at q1
   subst q1
   exact⟨_,rfl,e2,H2,g2,r1,k2.trans r2,r3,r4,r5⟩
  |panic ch=>
   obtain⟨v,rfl,rfl⟩:=Qa4b q1
   exact⟨_,rfl,e2,H2,g2,r1,k2.trans r2,r3,r4,r5⟩
  |_=>simp[xm]at q1
 |exit id=>
  intro c Q e H hm hc g w a hs he hd hn
  cases c <;> simp[mC]at hm
  subst hm
  exact wp_exit ⟨.exit _,rfl,e,H,g,hc,.refl hs,he,hd,hn⟩
 |ret=>
  intro c Q e H hm hc g w a hs he hd hn
  cases c <;> simp[mC]at hm
  exact wp_ret ⟨.ret,rfl,e,H,g,hc,.refl hs,he,hd,hn⟩
 |gh=>
  intro c Q e H hm hc g w a hs he hd hn
  cases c <;> simp[mC]at hm
 |scope s ih=>
  intro c Q e H hm hc g w a hs he hd hn
  cases c <;> simp[mC]at hm
  rename_i c
  simp only[Qae]at hc
  refine wp_scope_straight (wp_mono (ih c Q e H hm hc g w a hs he hd hn) ?_)
  rintro x a' w' ⟨x',q1,q2⟩
  cases x with
  |goto l=>simp[xm]at q1
  |_=>exact⟨x',q1,q2⟩
def mR (P:Program):ResultVar→RS→Bool
 |.tmp t,.tmp t'=>t == t'
 |.cell t ty,.cell t' n agg=>t == t'&&Qath P ty n agg
 |_,_=>false
def mRs (P:Program):List ResultVar→List RS→Bool
 |[],[]=>true
 |x::r,y::s=>mR P x y&&mRs P r s
 |_,_=>false
def mFn (P:Program)(f:FuncId)(nargs n:Nat)(s:SC)(rs:List RS):Bool:=
 fnOk P f&&(match P.funcs[f]? with
  |some fn=>(match fn.body with
   |some c=>fn.ntmps == n&&decide (nargs≤n)&&mC P n c s&&mRs P fn.results.toList rs
   |none=>false)
  |none=>false)
theorem Qbj2 {n:Nat}{x:ResultVar}{y:RS}(hm:mR P x y=true)(hs:Sat H g w)(he:EnvOk w g e a)(ho:y.op.obl true e H) :
  ∃v,(match x with
   |.tmp t=>(pure (a.tmps.getD t undef):Sem Value)
   |.cell t ty=>do loadVar ty (←asAddr (a.tmps.getD t undef))).run P w=.ok v w∧RepV w g (y.op.val e H) v:=by
 cases x with
 |tmp t=>
  cases y with
  |tmp t'=>
   simp[mR]at hm;subst hm
   have hr:=Qaa (x:=.t t) (y:=.tmp t) he (by simp[mO]) rfl ho
   exact⟨a.tmps.getD t undef,rfl,hr⟩
  |cell=>simp[mR]at hm
 |cell t ty=>
  cases y with
  |tmp=>simp[mR]at hm
  |cell t' n agg=>
   simp only[mR,Bool.and_eq_true,beq_iff_eq]at hm
   obtain⟨rfl,h2⟩:=hm
   obtain⟨d,i,k1,k2,k3,k4,k5⟩:=Ql3 h2
   obtain ⟨v, w', g', r1, r2, r3, _⟩ := s_ld (o := { dst := none, op := .load ty (.tmp t), type := 0, pos := "", after := #[], guard := none }) (x := .t t) (x' := .tmp t) rfl k1 k2 k3 k4 k5 (by simp [mO]) hs he rfl ho
   simp only[RS.op,FOp.obl]at ho
   obtain⟨o1,o2,o3,o4,o5⟩:=ho
   have hrr:=Qaa (x:=.t t) (y:=.tmp t) he (by simp[mO]) rfl o1
   rw[Qdd o2]at hrr
   obtain⟨b,q,hv,_⟩:=Qanm hs hrr.c_inv o3
   have hv':a.tmps.getD t undef=.pointer (some ⟨b,q,none⟩):=hv
   have hcell := Qaw0 (P := P) (o := { dst := none, op := .load ty (.tmp t), type := 0, pos := "", after := #[], guard := none }) (x := .t t) (x' := .tmp t) rfl k1 k2 k3 k4 k5 (by simp [mO]) hs he rfl ⟨o1, o2, o3, o4, o5⟩
   obtain⟨v2,q1,q2⟩:=hcell
   refine⟨v2,?_,q2⟩
   simp only[execOp,Instr.loadAt,Act.eval,hv',Instr.sureAddr,Sem.run_bind,Sem.run_pure,Result.andThen_ok]at q1
   simp only[hv',asAddr,Sem.run_bind,Sem.run_pure,Result.andThen_ok]
   cases hl:(loadVar ty ⟨b,q,none⟩).run P w with
   |ok u w2=>rw[hl]at q1;simp at q1;obtain⟨rfl,rfl⟩:=q1;rfl
   |halt h w2=>rw[hl]at q1;simp at q1
def rRun (tmps:Array Value):ResultVar→Sem Value
 |.tmp t=>pure (tmps.getD t undef)
 |.cell a t=>do loadVar t (←asAddr (tmps.getD a undef))
theorem Qays {P:Program}{w:World}{tmps:Array Value}:∀(l:List ResultVar) (vs:List Value),l.length=vs.length→
  (∀(j:Nat) (x:ResultVar) (v:Value),l[j]? = some x→vs[j]? = some v→(rRun tmps x).run P w=.ok v w)→(l.mapM (rRun tmps)).run P w=.ok vs w:=by
 intro l
 induction l with
 |nil=>intro vs hl _;cases vs with
  |nil=>simp
  |cons=>simp at hl
 |cons x r ih=>
  intro vs hl h
  cases vs with
  |nil=>simp at hl
  |cons v vs=>
   have h0:=h 0 x v rfl rfl
   have ih':=ih vs (by simpa using hl) fun j y u h1 h2=>h (j+1) y u (by simpa using h1) (by simpa using h2)
   simp only[List.mapM_cons,Sem.run_bind,h0,Result.andThen_ok,ih',Sem.run_pure]
theorem Qbh8 {n:Nat}:∀(l:List ResultVar) (rs:List RS),mRs P l rs=true→Sat H g w→EnvOk w g e a→(∀r∈rs,r.op.obl true e H)→
  ∃vs:List Value,l.length=vs.length∧vs.length=rs.length∧(∀(j:Nat) (x:ResultVar) (v:Value),l[j]? = some x→vs[j]? = some v→(rRun a.tmps x).run P w=.ok v w)∧
   (∀(j:Nat) (x:V) (u:Value),(rs.map fun r=>r.op.val e H)[j]? = some x→vs[j]? = some u→RepV w g x u):=by
 intro l
 induction l with
 |nil=>
  intro rs hm hs he ho
  cases rs with
  |nil=>exact⟨[],rfl,rfl,by simp,by simp⟩
  |cons=>simp[mRs]at hm
 |cons x r ih=>
  intro rs hm hs he ho
  cases rs with
  |nil=>simp[mRs]at hm
  |cons y rs=>
   simp only[mRs,Bool.and_eq_true]at hm
   obtain⟨v,h1,h2⟩:=Qbj2 (n:=n) hm.1 hs he (ho y (by simp))
   obtain⟨vs,k1,k2,k3,k4⟩:=ih rs hm.2 hs he fun z hz=>ho z (by simp[hz])
   refine⟨v::vs,by simp[k1],by simp[k2],?_,?_⟩
   ·intro j z u hz hu
    cases j with
    |zero=>
     simp at hz hu;subst hz;subst hu
     exact h1
    |succ j=>exact k3 j z u (by simpa using hz) (by simpa using hu)
   ·intro j z u hz hu
    cases j with
    |zero=>
     simp at hz hu;subst hz;subst hu
     exact h2
    |succ j=>exact k4 j z u (by simpa using hz) (by simpa using hu)
theorem Qa49 {fn:Func}{rs:List RS}(hm:mRs P fn.results.toList rs=true)(hs:Sat H g w)(he:EnvOk w g e a){K:V→Heap→Prop}(ho:Qz rs e H K) :
  ∃v x,(results fn a.tmps).run P w=.ok v w∧K x H∧RepV w g x v:=by
 obtain⟨h1,h2⟩:=ho
 obtain⟨vs,k1,k2,k3,k4⟩:=Qbh8 (n:=0) _ _ hm hs he h1
 have hr:=Qays (P:=P) (w:=w) (tmps:=a.tmps) _ _ k1 k3
 have hrun:(results fn a.tmps).run P w=.ok (if h:vs.toArray.size=1 then vs.toArray[0]else .tuple vs.toArray) w:=by
  have:results fn a.tmps=(do let vs ←fn.results.mapM (rRun a.tmps);pure (if h:vs.size=1 then vs[0]else .tuple vs)):=by
   unfold results
   rfl
  rw[this,Array.mapM_eq_mapM_toList]
  simp only[Sem.run_bind,Sem.run_map,hr,Result.andThen_ok,Sem.run_pure]
 by_cases hl:vs.length=1
 ·obtain⟨v,rfl⟩:∃v,vs=[v]:=List.length_eq_one_iff.mp hl
  obtain⟨r,rfl⟩:∃r,rs=[r]:=List.length_eq_one_iff.mp (by omega)
  exact⟨v,_,by simpa using hrun,h2,k4 0 _ v (by simp) rfl⟩
 ·have hsz:¬vs.toArray.size=1:=by simpa using hl
  rw[dif_neg hsz]at hrun
  refine⟨_,.tup (rs.map fun r=>r.op.val e H),hrun,?_,.tup _ _ (by simp[k2]) k4⟩
  split at h2
  ·rename_i r;simp at k2;omega
  ·exact h2
def Qq (rs:List RS)(K:V→Heap→Prop):X→Env→Heap→Prop
 |.nrm,e,H=>Qz rs e H K
 |.ret,e,H=>Qz rs e H K
 |.exit _,_,_=>False
 |.pan v,_,H=>K (.pn v) H
theorem Qbi7:∀(args:List V) (i t:Nat),lk t (zipE i args)=if i≤t then args.getD (t-i) .unk else .unk:=by
 intro args
 induction args with
 |nil=>intro i t;simp[zipE,lk]
 |cons v r ih=>
  intro i t
  simp only[zipE,lk,ih]
  split
  ·rename_i h;subst h;simp
  ·rename_i h
   split
   ·rw[if_pos (by omega)]
    have:t-i=(t-(i+1))+1:=by omega
    rw[this];simp
   ·rw[if_neg (by omega)]
theorem Qc (Qah:P.follows .mixedOrders=true){f n:Nat}{s:SC}{rs:List RS}{args:List V}{H:Heap}{K:V→Heap→Prop}
  (hm:mFn P f args.length n s rs=true) (hc:Qae P s (Qq rs K) (zipE 0 args) H):Ql P f args H K:=by
 simp only[mFn,Bool.and_eq_true]at hm
 obtain⟨hok,hm⟩:=hm
 refine⟨hok,?_⟩
 intro g w vs hs hl hv
 cases hf:P.funcs[f]? with
 |none=>rw[hf]at hm;simp at hm
 |some fn=>
  rw[hf]at hm
  simp only at hm
  cases hb:fn.body with
  |none=>rw[hb]at hm;simp at hm
  |some c=>
   rw[hb]at hm
   simp only[Bool.and_eq_true,beq_iff_eq,decide_eq_true_eq]at hm
   obtain⟨⟨⟨h1,h2⟩,h3⟩,h4⟩:=hm
   refine calls_of_wp hf hb ?_
   have he:EnvOk w g (zipE 0 args) { tmps:=vs.toArray++Array.replicate (fn.ntmps-vs.toArray.size) undef,defers:=[] }:=by
    intro t
    rw[Qbi7,if_pos (Nat.zero_le _),Nat.sub_zero]
    by_cases ht:t<args.length
    ·have ht':t<vs.length:=by omega
     have hg:(vs.toArray++Array.replicate (fn.ntmps-vs.toArray.size) undef).getD t undef=vs[t]:=by
      simp[Array.getD,ht',Array.getElem_append]
      intro h;omega
     rw[hg]
     exact hv t _ _ (by rw[List.getD_eq_getElem?_getD,List.getElem?_eq_getElem ht];rfl) (List.getElem?_eq_getElem ht')
    ·rw[List.getD_eq_getElem?_getD,List.getElem?_eq_none (by omega)]
     exact .unk _
   refine wp_mono (Qa4h Qah s c _ (zipE 0 args) H h3 hc g w _ hs he rfl (by simp;omega)) ?_
   rintro x a' w' ⟨x',q1,e2,H2,g2,k1,k2,k3,k4,k5⟩
   have key:Qz rs e2 H2 K→a'.defers=[]∧∃v,(results fn a'.tmps).run P w'=.ok v w'∧((∃v' x H' g',Ending.returned v=.returned v'∧K x H'∧Stp H g w H' g' w'∧RepV w' g' x v')∨(∃v' H' g',Ending.returned v=.panicked [{ v:=v',recovered:=false }]∧K (.pn v') H'∧Stp H g w H' g' w')):=by
    intro hret
    obtain⟨v,x,r1,r2,r3⟩:=Qa49 h4 k2.sat k3 hret
    exact⟨k4,v,r1,.inl ⟨v,x,H2,g2,rfl,r2,k2,r3⟩⟩
   cases x with
   |normal=>
    simp only[xm,Option.some.injEq]at q1;subst q1
    exact key k1
   |ret=>
    simp only[xm,Option.some.injEq]at q1;subst q1
    exact key k1
   |exit id=>
    simp only[xm,Option.some.injEq]at q1;subst q1
    exact k1.elim
   |panic ch=>
    obtain⟨v,rfl,rfl⟩:=Qa4b q1
    exact⟨k4,.inr ⟨v,H2,g2,rfl,k1,k2⟩⟩
   |_=>simp[xm]at q1
end Go.AE

namespace Go.AE
variable {P:Program}{H:Heap}{e:Env}
def X.sq (P:Program)(b:SC)(Q:X→Env→Heap→Prop):X→Env→Heap→Prop:=X.next (Qae P b Q) Q
theorem Qbis {KP:Value→Heap→Prop}{K:V→Heap→Prop}{x:C}:Qaw4 KP K (.c x) H=K (.c x) H:=rfl
theorem Qbfy {KP:Value→Heap→Prop}{K:V→Heap→Prop}{x:List C}:Qaw4 KP K (.ag x) H=K (.ag x) H:=rfl
theorem Qbb2 {KP:Value→Heap→Prop}{K:V→Heap→Prop}{x:List V}:Qaw4 KP K (.tup x) H=K (.tup x) H:=rfl
theorem Qbb3 {KP:Value→Heap→Prop}{K:V→Heap→Prop}:Qaw4 KP K .unk H=K .unk H:=rfl
theorem Qbfz {KP:Value→Heap→Prop}{K:V→Heap→Prop}{v:Value}:Qaw4 KP K (.pn v) H=KP v H:=rfl
theorem Qbkn {b:SC}{Q:X→Env→Heap→Prop}:X.sq P b Q .nrm e H=Qae P b Q e H:=rfl
theorem Qbko {b:SC}{Q:X→Env→Heap→Prop}:X.sq P b Q .ret e H=Q .ret e H:=rfl
theorem Qbiq {b:SC}{Q:X→Env→Heap→Prop}{i:Nat}:X.sq P b Q (.exit i) e H=Q (.exit i) e H:=rfl
theorem Qbjt {i:Nat}{Q:X→Env→Heap→Prop}:X.inBlock i Q .nrm e H=Q .nrm e H:=rfl
theorem Qbju {i:Nat}{Q:X→Env→Heap→Prop}:X.inBlock i Q .ret e H=Q .ret e H:=rfl
theorem Qbhv {i:Nat}{Q:X→Env→Heap→Prop}:X.inBlock i Q (.exit i) e H=Q .nrm e H:=by simp[X.inBlock]
theorem Qe {a b:SC}{Q:X→Env→Heap→Prop}(h:Qae P a (X.sq P b Q) e H):Qae P (.seq a b) Q e H:=h
theorem Qa96 {K K':Env→Heap→Prop}{Q:X→Env→Heap→Prop}:X.next K (X.next K' Q)=X.next K Q:=by
 funext x e H
 cases x <;> rfl
theorem Qu {a b c:SC}{Q:X→Env→Heap→Prop}(h:Qae P (.seq a (.seq b c)) Q e H):Qae P (.seq (.seq a b) c) Q e H:=by
 simp only[Qae]at h⊢
 rw[Qa96];exact h
theorem Qp {its:List Item}{keep:List Nat}{Q:X→Env→Heap→Prop}(h:regT P its e H (X.panK Q) fun e' H'=>Q .nrm (trim keep e') H'):Qae P (.reg its keep) Q e H:=h
theorem Qaeg {fa:Nat}{ord:List Nat}{its:List Item}{keep:List Nat}{Q:X→Env→Heap→Prop}(h:Qsu P its e H (X.panK Q) fun e' H'=>Q .nrm (trim keep e') H'):Qae P (.dreg fa ord its keep) Q e H:=h
theorem Qa {its:List Item}{keep:List Nat}{b:SC}{Q:X→Env→Heap→Prop}(h:regT P its e H (X.panK Q) fun e' H'=>Qae P b Q (trim keep e') H'):Qae P (.seq (.reg its keep) b) Q e H:=h
theorem Qbg {fa:Nat}{ord:List Nat}{its:List Item}{keep:List Nat}{b:SC}{Q:X→Env→Heap→Prop}(h:Qsu P its e H (X.panK Q) fun e' H'=>Qae P b Q (trim keep e') H'):Qae P (.seq (.dreg fa ord its keep) b) Q e H:=h
theorem Qb {t:Opd}{a b:SC}{Q:X→Env→Heap→Prop}{c:Bool}(hc:t.raw e=.c (.bool c))(h1:c=true→Qae P a Q e H)(h2:c=false→Qae P b Q e H):Qae P (.cond t a b) Q e H:=⟨c,hc,h1,h2⟩
theorem Qf {i:Nat}{a:SC}{Q:X→Env→Heap→Prop}(h:Qae P a (X.inBlock i Q) e H):Qae P (.block i a) Q e H:=h
theorem Qt {i:Nat}{Q:X→Env→Heap→Prop}(h:Q (.exit i) e H):Qae P (.exit i) Q e H:=h
theorem Qg {Q:X→Env→Heap→Prop}(h:Q .ret e H):Qae P .ret Q e H:=h
theorem Qd {Q:X→Env→Heap→Prop}(h:Q .nrm e H):Qae P .skip Q e H:=h
theorem Qy {a:SC}{Q:X→Env→Heap→Prop}(I:Nat→Env→Heap→Prop)(n:Nat)(h0:I n e H)
  (h:∀n e1 H1,I n e1 H1→Qae P a (X.next (fun e2 H2=>∃m,m<n∧I m e2 H2) Q) e1 H1):Qae P (.loop a) Q e H:=⟨I,⟨n,h0⟩,h⟩
theorem Qbdm {e:Env}:gdO e none=True:=rfl
theorem Qbdl {e:Env}:gdB e none=true:=rfl
theorem Qbdn {p:Bool}{v:V}:gdV none p v=v:=rfl
theorem Qbdo {p:Bool}{v:V}{x:Nat×Bool}:gdV (some x) p v=.gd p v:=rfl
theorem Qbga {e:Env}:trim [] e=[]:=rfl
theorem Qbce {k:Nat}{ks:List Nat}{e:Env}:trim (k::ks) e=(k,lk k e)::trim ks e:=rfl
theorem Qbgb {a:Prop}:(true=true→a)=a:=by simp
theorem Qa8g {a:Prop}:(false=true→a)=True:=by simp
theorem Qbcg {a:Prop}:(true=false→a)=True:=by simp
theorem Qa4o {a:Prop}:(false=false→a)=a:=by simp
theorem Qbk4 {a:Prop}:(a∧True)=a:=by simp
theorem Qbl8 {a:Prop}:(True∧a)=a:=by simp
theorem Qbl9 {a:Prop}:(True→a)=a:=by simp
theorem Qblh {a:Prop}:(a→True)=True:=by simp
theorem b_f {b:Bool}:(b == false) = !b:=by cases b <;> rfl
theorem b_t {b:Bool}:(b == true)=b:=by cases b <;> rfl
theorem Qbdu {a:Prop}:(a→a)=True:=by simp
theorem Qa84 {a b:Prop}:(a→b→a)=True:=propext ⟨fun _=>trivial,fun _ h _=>h⟩
theorem Qa85 {a b:Prop}:(a→a∧b)=(a→b):=propext ⟨fun h x=>(h x).2,fun h x=>⟨x,h x⟩⟩
theorem Qbhw {a b:Prop}:(a→a→b)=(a→b):=by simp
theorem Qayn {α:Type}{p:α→Prop}:(∀x∈([]:List α),p x)=True:=by simp
def Qaw6 (H:Heap)(p:C)(vs:List C)(K:V→Heap→Prop):Prop:=
 match p with
 |.ptr l k=>match H l with
  |.st cells=>k+vs.length≤cells.length∧∀H',H'=H.set l (.st (Qzx cells k vs))→K .unk H'
  |_=>False
 |.ep (.vsl l sz st n) z i k=>match H l with
  |.vec y rows=>y=sz∧z=sz∧i<n∧st+n≤rows.length∧k+vs.length≤sz∧
    ∀H',H'=H.set l (.vec sz (rows.set (st+i) (Qzx (rows.getD (st+i) []) k vs)))→K .unk H'
  |_=>False
 |_=>False
def appQ (H:Heap)(sz:Nat)(a b:C)(K:V→Heap→Prop):Prop:=
 Qy4 H b∧b.elemSz=sz∧match a with
 |.sl true z rows=>z=sz∧(rows=[]∨Q9 H b≠[])∧(∀r∈rows++Q9 H b,noOw r=true)∧rows.length+lenC b≤LIM∧
   ∀l,H l=.none→∀H',H'=H.set l (.vec sz (rows++Q9 H b))→K (.c (.vsl l sz 0 (rows.length+lenC b))) H'
 |.vsl l z st n=>match H l with
  |.vec y rows=>z=sz∧y=sz∧st+n≤rows.length∧(∀r∈Q9 H b,noOw r=true)∧n+lenC b≤LIM∧
    ∀l',(H.set l .none) l'=.none→∀H',H'=(H.set l .none).set l' (.vec sz ((rows.drop st).take n++Q9 H b))→
     K (.c (.vsl l' sz 0 (n+lenC b))) H'
  |_=>False
 |_=>False
def updQ (H:Heap)(tag:Nat)(m k:C)(v:V)(K:V→Heap→Prop):Prop:=
 match m with
 |.mp l=>match H l with
  |.map n es=>Qoa tag k es∧es.length+1≤LIM∧∀H',H'=H.set l (.map (n+1) (updE k v es))→K .unk H'
  |_=>False
 |_=>False
def delQ (H:Heap)(tag:Nat)(m k:C)(K:V→Heap→Prop):Prop:=
 match m with
 |.mp l=>match H l with
  |.map n es=>Qoa tag k es∧∀H',H'=H.set l (.map (n+1) (delE k es))→K .unk H'
  |_=>False
 |.mnil=>Qoa tag k []∧K .unk H
 |_=>False
theorem Qas {α:Type}{a:α}{p:α→Prop}:(∀x,x=a→p x)=p a:=propext ⟨fun h=>h a rfl,fun h x hx=>hx▸h⟩
section
variable {p:Bool}{K:V→Heap→Prop}
theorem Qbb4 {a:C}{vs:List C}:Qajg H a vs K=Qaw6 H a vs K:=by
 cases a with
 |ptr l k=>simp only[Qajg,Qaw6];cases hh:H l <;> simp only[hh,Qas]
 |ep s z i k=>
  cases s with
  |vsl l sz st n=>simp only[Qajg,Qaw6];cases hh:H l <;> simp only[hh,Qas]
  |_=>rfl
 |_=>rfl
theorem Qa7x {sz:Nat}{a b:C}:appT H sz a b K=appQ H sz a b K:=by
 unfold appT appQ
 refine congrArg (And _) (congrArg (And _) ?_)
 cases a with
 |sl fl z rows=>cases fl <;> simp only[Qas]
 |vsl l z st n=>simp only[];cases hh:H l <;> simp only[hh,Qas]
 |_=>rfl
theorem Qbi3 {tag:Nat}{m k:C}{v:V}:updT H tag m k v K=updQ H tag m k v K:=by
 cases m with
 |mp l=>simp only[updT,updQ];cases hh:H l <;> simp only[hh,Qas]
 |_=>rfl
theorem Qbg1 {tag:Nat}{m k:C}:delT H tag m k K=delQ H tag m k K:=by
 cases m with
 |mp l=>simp only[delT,delQ];cases hh:H l <;> simp only[hh,Qas]
 |_=>rfl
theorem Qa8b {cells:List C}:(EOp.alloc cells).eff P p e H K=∀l,H l=.none→∀H',H'=H.set l (.st cells)→K (.c (.ptr l 0)) H':=by simp only[EOp.eff,Qas]
theorem Qbc3 {a:Opd}:(EOp.boxm a).eff P p e H K=(a.fine p e∧(a.v e).cells≠[]∧∀l,H l=.none→∀H',H'=H.set l (.st (a.v e).cells)→K (.c (.ptr l 0)) H'):=by simp only[EOp.eff,Qas]
theorem Qbhd {n:Nat}{a v:Opd}:(EOp.sto n a v).eff P p e H K=(a.fine p e∧v.fine p e∧(a.v e).isC∧(v.v e).cells.length=n∧0<n∧Qaw6 H (a.v e).c1 (v.v e).cells K):=by simp only[EOp.eff,Qbb4]
theorem Qbg4 {sz:Nat}{a b:Opd}:(EOp.app sz a b).eff P p e H K=(a.fine p e∧b.fine p e∧(a.v e).isC∧(b.v e).isC∧appQ H sz (a.v e).c1 (b.v e).c1 K):=by simp only[EOp.eff,Qa7x]
theorem Qbg5 {sz:Nat}{zr:List C}{a n:Opd}:(EOp.apz sz zr a n).eff P p e H K=(a.fine p e∧n.fine p e∧(a.v e).isC∧Qsv (n.v e)∧0≤Q0 (n.v e)∧Q0 (n.v e)≤LIM∧appQ H sz (a.v e).c1 (.sl false sz (List.replicate (Q0 (n.v e)).toNat zr)) K):=by simp only[EOp.eff,Qa7x]
theorem Qbha {sz:Nat}{zero:List C}{n:Opd}:(EOp.mks sz zero n).eff P p e H K=(n.fine p e∧Qsv (n.v e)∧0≤Q0 (n.v e)∧Q0 (n.v e)≤LIM∧
   ∀l,H l=.none→∀H',H'=H.set l (.vec sz (List.replicate (Q0 (n.v e)).toNat zero))→K (.c (.vsl l sz 0 (Q0 (n.v e)).toNat)) H'):=by simp only[EOp.eff,Qas]
theorem Qbg9:EOp.mkm.eff P p e H K=∀l,H l=.none→∀H',H'=H.set l (.map 0 [])→K (.c (.mp l)) H':=by simp only[EOp.eff,Qas]
theorem Qbhe {tag:Nat}{m k v:Opd}:(EOp.upd tag m k v).eff P p e H K=(m.fine p e∧k.fine p e∧v.fine p e∧(m.v e).isC∧(k.v e).isC∧(v.v e).cells≠[]∧updQ H tag (m.v e).c1 (k.v e).c1 (v.v e) K):=by simp only[EOp.eff,Qbi3]
theorem Qbg7 {tag:Nat}{m k:Opd}:(EOp.del tag m k).eff P p e H K=(m.fine p e∧k.fine p e∧(m.v e).isC∧(k.v e).isC∧delQ H tag (m.v e).c1 (k.v e).c1 K):=by simp only[EOp.eff,Qbg1]
theorem Qbc6 {m:Opd}:(EOp.clrm m).eff P p e H K=(m.fine p e∧match m.v e with
  |.c (.mp l)=>match H l with
   |.map n _=>∀H',H'=H.set l (.map (n+1) [])→K .unk H'
   |_=>False
  |_=>False):=by
 simp only[EOp.eff]
 refine congrArg (And _) ?_
 cases m.v e with
 |c x=>cases x with
  |mp l=>simp only[];cases hh:H l <;> simp only[hh,Qas]
  |_=>rfl
 |_=>rfl
theorem Qbc7 {sz:Nat}{zero:List C}{m:Opd}:(EOp.clrs sz zero m).eff P p e H K=(m.fine p e∧match m.v e with
  |.c (.vsl l z st n)=>z=sz∧match H l with
   |.vec y rows=>y=sz∧st+n≤rows.length∧∀H',H'=H.set l (.vec sz (rows.take st++List.replicate n zero++rows.drop (st+n)))→K .unk H'
   |_=>False
  |_=>False):=by
 simp only[EOp.eff]
 refine congrArg (And _) ?_
 cases m.v e with
 |c x=>cases x with
  |vsl l z st n=>simp only[];refine congrArg (And _) ?_;cases hh:H l <;> simp only[hh,Qas]
  |_=>rfl
 |_=>rfl
theorem Qbc5 {f:Nat}{args:List Opd}:(EOp.call f args).eff P p e H K=((∀x∈args,x.fine p e)∧Ql P f (args.map fun x=>x.v e) H K):=rfl
theorem Qa8c {f:Opd}{args:List Opd}:(EOp.callv f args).eff P p e H K=(f.fine p e∧(∀x∈args,x.fine p e)∧match f.v e with
  |.c (.fn n caps)=>Ql P n ((args.map fun x=>x.v e)++caps.map .c) H K
  |_=>False):=rfl
theorem Qbhc {m:Opd}:(EOp.rng m).eff P p e H K=(m.fine p e∧match m.v e with
  |.c (.mp l)=>match H l with
   |.map n es=>es.Nodup∧∀i,H i=.none→∀H',H'=H.set i (.iter (some (l,n)) es none)→K (.c (.itr i)) H'
   |_=>False
  |.c .mnil=>∀i,H i=.none→∀H',H'=H.set i (.iter none [] none)→K (.c (.itr i)) H'
  |_=>False):=by
 simp only[EOp.eff]
 refine congrArg (And _) ?_
 cases m.v e with
 |c x=>cases x with
  |mp l=>simp only[];cases hh:H l <;> simp only[hh,Qas]
  |mnil=>simp only[Qas]
  |_=>rfl
 |_=>rfl
theorem Qbda {a:Opd}:(EOp.rngs a).eff P p e H K=(a.fine p e∧match a.v e with
  |.c (.str s)=>∀i,H i=.none→∀H',H'=H.set i (.sit s 0)→K (.c (.itr i)) H'
  |_=>False):=by
 simp only[EOp.eff]
 refine congrArg (And _) ?_
 cases a.v e with
 |c x=>cases x with
  |str s=>simp only[Qas]
  |_=>rfl
 |_=>rfl
theorem Qbc9 {it:Opd}:(EOp.nxts it).eff P p e H K=(it.fine p e∧match it.v e with
  |.c (.itr i)=>match H i with
   |.sit s q=>(s.length≤q→K (.tup [.c (.bool false)]) H)∧
     ∀(c:Int) (wd:Nat),q<s.length→1≤wd→((s.getD q 0).toNat<128→c=((s.getD q 0).toNat:Int)∧wd=1)→(128≤(s.getD q 0).toNat→128≤c)→
      ∀H',H'=H.set i (.sit s (q+wd))→K (.tup [.c (.bool true),.c (.int .i64 q),.c (.int .i32 c)]) H'
   |_=>False
  |_=>False):=by
 simp only[EOp.eff]
 refine congrArg (And _) ?_
 cases it.v e with
 |c x=>cases x with
  |itr i=>
   simp only[]
   cases hh:H i <;> simp only[Qas]
  |_=>rfl
 |_=>rfl
theorem Qbhb {it:Opd}:(EOp.nxt it).eff P p e H K=(it.fine p e∧match it.v e with
  |.c (.itr i)=>match H i with
   |.iter none left _=>K (.tup [.c (.bool false)]) H
   |.iter (some (l,n)) left cur=>(∃es,H l=.map n es)∧(left=[]→K (.tup [.c (.bool false)]) H)∧
     ∀x left',x∈left→(∀y,y∈left'↔y∈left∧y≠x)→left'.Nodup→left'.length+1=left.length→
      ∀H',H'=H.set i (.iter (some (l,n)) left' (some x))→K (.tup [.c (.bool true),.c x.1,x.2]) H'
   |_=>False
  |_=>False):=by
 simp only[EOp.eff]
 refine congrArg (And _) ?_
 cases it.v e with
 |c x=>cases x with
  |itr i=>
   simp only[]
   cases hh:H i with
   |iter m left cur=>cases m with
    |none=>rfl
    |some y=>simp only[Qas]
   |_=>rfl
  |_=>rfl
 |_=>rfl
theorem Qbg8 {it:Opd}:(EOp.ent it).eff P p e H K=(it.fine p e∧match it.v e with
  |.c (.itr i)=>match H i with
   |.iter (some (l,n)) left (some x)=>(∃es,H l=.map n es)∧K (.tup [.c x.1,x.2]) H
   |_=>False
  |_=>False):=rfl
def cpyQ (H:Heap)(sz:Nat)(a b:C)(K:V→Heap→Prop):Prop:=
 Qy4 H b∧b.elemSz=sz∧match a with
 |.vsl l z st n=>match H l with
  |.vec y rows=>z=sz∧y=sz∧st+n≤rows.length∧lenC b≤n∧(∀r∈Q9 H b,noOw r=true)∧
    ∀H',H'=H.set l (.vec sz (rows.take st++Q9 H b++rows.drop (st+lenC b)))→K (.c (.int .i64 (lenC b))) H'
  |_=>False
 |_=>False
theorem Qbg0 {sz:Nat}{a b:C}:cpyT H sz a b K=cpyQ H sz a b K:=by
 unfold cpyT cpyQ
 refine congrArg (And _) (congrArg (And _) ?_)
 cases a with
 |vsl l z st n=>simp only[];cases hh:H l <;> simp only[hh,Qas]
 |_=>rfl
theorem Qbg6 {sz:Nat}{a b:Opd}:(EOp.cpy sz a b).eff P p e H K=(a.fine p e∧b.fine p e∧(a.v e).isC∧(b.v e).isC∧cpyQ H sz (a.v e).c1 (b.v e).c1 K):=by simp only[EOp.eff,Qbg0]
theorem Qbc4 {sz:Nat}{parts:List Opd}:(EOp.bslm sz parts).eff P p e H K=((∀x∈parts,x.fine p e∧(x.v e).cells.length=sz)∧∀l,H l=.none→∀H',H'=H.set l (.vec sz (parts.map fun x=>(x.v e).cells))→K (.c (.vsl l sz 0 parts.length)) H'):=by simp only[EOp.eff,Qas]
theorem Qbc8 {a:Opd}:(EOp.nilq a).eff P p e H K=(a.fine p e∧match a.v e with
  |.c (.sl _ _ rows)=>∀b:Bool,(b=true→rows=[])→K (.c (.bool b)) H
  |_=>False):=rfl
end
theorem Qqv {k:IntKind}{n:Int}:(C.int k n).isOw=false:=rfl
theorem Qa86 {b:Bool}:(C.bool b).isOw=false:=rfl
theorem Qni {s:List UInt8}:(C.str s).isOw=false:=rfl
theorem Qz7 {f:Bool}{sz:Nat}{r:List (List C)}:(C.sl f sz r).isOw=false:=rfl
theorem Qbh3 {c:List C}:(C.pp c).isOw=false:=rfl
theorem Qbhz {c:C}{a i k:Nat}:(C.ep c a i k).isOw=false:=rfl
theorem Qa89:C.pnil.isOw=false:=rfl
theorem Qbd1 {l k:Nat}:(C.ptr l k).isOw=false:=rfl
theorem Qbd5 {l a b c:Nat}:(C.vsl l a b c).isOw=false:=rfl
theorem Qbh1 {l:Nat}:(C.mp l).isOw=false:=rfl
theorem Qa88:C.mnil.isOw=false:=rfl
theorem Qbd3 {n:Nat}:(C.stb n).isOw=false:=rfl
theorem Qbd2 {n:Nat}:(C.slb n).isOw=false:=rfl
theorem Qbhy {a:Bool}{k:List C}{r:List (List C)}:(C.cm a k r).isOw=false:=rfl
theorem Qbh0 {f:Nat}{c:List C}:(C.fn f c).isOw=false:=rfl
theorem Qa87:C.fnil.isOw=false:=rfl
theorem Qbd0 {l:Nat}:(C.itr l).isOw=false:=rfl
theorem Qbd4:C.unk.isOw=false:=rfl
theorem Qbh2 {sz:Nat}{r:List (List C)}:(C.ow sz r).isOw=true:=rfl
theorem Qbh6 {f:Bool}{sz:Nat}{r:List (List C)}:lenC (.sl f sz r)=r.length:=rfl
theorem Qbei {l a b c:Nat}:lenC (.vsl l a b c)=c:=rfl
theorem Qa8d {f:Bool}{sz:Nat}{r:List (List C)}:(C.sl f sz r).elemSz=sz:=rfl
theorem Qa4l {l a b c:Nat}:(C.vsl l a b c).elemSz=a:=rfl
theorem Qbal {f:Bool}{sz:Nat}{r:List (List C)}:Q9 H (.sl f sz r)=r:=rfl
theorem Qa5c {l a st n:Nat}:Q9 H (.vsl l a st n)=match H l with
  |.vec _ rows=>(rows.drop st).take n
  |_=>[]:=rfl
theorem Qbih {f:Bool}{sz:Nat}{r:List (List C)}:Qy4 H (.sl f sz r)=True:=rfl
theorem Qbex {l sz st n:Nat}:Qy4 H (.vsl l sz st n)=match H l with
  |.vec z rows=>z=sz∧st+n≤rows.length
  |_=>False:=rfl
section
variable {K:V→Heap→Prop}
theorem Qbgt {sz z:Nat}{rows:List (List C)}{b:C}:appQ H sz (.sl true z rows) b K=(Qy4 H b∧b.elemSz=sz∧z=sz∧(rows=[]∨Q9 H b≠[])∧(∀r∈rows++Q9 H b,noOw r=true)∧rows.length+lenC b≤LIM∧
   ∀l,H l=.none→∀H',H'=H.set l (.vec sz (rows++Q9 H b))→K (.c (.vsl l sz 0 (rows.length+lenC b))) H'):=rfl
theorem Qbct {sz l z st n:Nat}{b:C}:appQ H sz (.vsl l z st n) b K=(Qy4 H b∧b.elemSz=sz∧match H l with
  |.vec y rows=>z=sz∧y=sz∧st+n≤rows.length∧(∀r∈Q9 H b,noOw r=true)∧n+lenC b≤LIM∧
    ∀l',(H.set l .none) l'=.none→∀H',H'=(H.set l .none).set l' (.vec sz ((rows.drop st).take n++Q9 H b))→
     K (.c (.vsl l' sz 0 (n+lenC b))) H'
  |_=>False):=rfl
end
theorem Qbip {lo hi:Option Int}{fl:Bool}{sz:Nat}{rows:List (List C)}:sliC lo hi (.sl fl sz rows)=.sl (fl&&(hi.isNone || rows.isEmpty)) sz ((rows.take (hi.getD rows.length).toNat).drop (lo.getD 0).toNat):=rfl
theorem Qbfp {lo hi:Option Int}{l sz st n:Nat}:sliC lo hi (.vsl l sz st n)=.vsl l sz (st+(lo.getD 0).toNat) ((hi.getD n).toNat-(lo.getD 0).toNat):=rfl
attribute [go_sem] Qbg6 cpyQ Qbcw Qa7z Qbis Qbfy Qbb2 Qbb3 Qbfz b_f b_t Qbdu Qa84 Qa85 Qbhw regT Qsu putE lk Qbdm Qbdl Qbdn Qbdo gdO gdB Opd.v Opd.raw Opd.fine V.bare V.fine FOp.val FOp.obl FOp.fct Qa8b Qbc3 Qbhd Qbg4 Qbg5 Qbha Qbg9 Qbhe Qbg7 Qbc6 Qbc7 Qbc5 Qa8c Qbhc Qbhb Qbda Qbc9 Qbg8 Qbc8 Qbc4 Qbga Qbce
 V.c1 V.isC V.isAg V.cells Qnb Qa46 fadC binC binO Qax8 noOw Qaw6 Qbgt Qbct updQ delQ zipE Q3i Qbip Qbfp bnds Qbih Qbex Qbh6 Qbei Qbal Qa5c Qa8d Qa4l Qqv Qa86 Qni Qz7 Qbh3 Qbhz Qa89 Qbd1 Qbd5 Qbh1 Qa88 Qbd3 Qbd2 Qbhy Qbh0 Qa87 Qbd0 Qbd4 Qbh2 Qsv Qbdy Q0 Qbey Qbgb Qa8g Qbcg Qa4o Qbk4 Qbl8 Qbl9 Qblh
 Qbkn Qbko Qbiq Qbjt Qbju Qbhv List.map_cons List.map_nil Qzx List.take_succ_cons List.take_zero List.take_nil List.drop_succ_cons List.drop_zero List.drop_nil
 List.length_cons List.length_nil List.all_cons List.all_nil List.headD_cons Bool.not_false Bool.not_true Bool.and_true Bool.true_and Bool.and_false Bool.false_and and_self eq_self Bool.false_eq_true List.cons_append List.nil_append Nat.zero_le Nat.le_refl not_true_eq_false not_false_eq_true ite_true ite_false ne_eq Option.map_some Option.map_none Option.getD_some Option.getD_none Option.isNone_some Option.isNone_none List.isEmpty_nil List.isEmpty_cons Bool.or_true Bool.true_or Bool.or_false Bool.false_or optI optF Int.toNat_natCast Int.natCast_nonneg Int.add_sub_cancel List.forall_mem_cons Qayn
end Go.AE

namespace Go.AE
abbrev fI (d : Nat) (o : FOp) : Item := .f (some d) none o
abbrev eI (d : Nat) (o : EOp) : Item := .e (some d) none o
abbrev gT (d t : Nat) (o : FOp) : Item := .f (some d) (some (t, true)) o
abbrev gF (d t : Nat) (o : FOp) : Item := .f (some d) (some (t, false)) o
abbrev kI (n : Int) : Opd := .k (.c (.int .i64 n))
abbrev mJ (d a : Nat) : Item := .f (some d) none (.mv (.t a))
abbrev fJ (d n a : Nat) : Item := .f (some d) none (.fad n (.t a))
abbrev lJ (d a : Nat) : Item := .f (some d) none (.ld 1 false (.t a))
abbrev tJ (d n a : Nat) : Item := .f (some d) none (.ld n true (.t a))
abbrev nJ (d a : Nat) : Item := .f (some d) none (.len (.t a))
abbrev kJ (d a : Nat) : Item := .f (some d) none (.nck (.t a))
abbrev oJ (d a : Nat) : Item := .f (some d) none (.not (.t a))
abbrev iJ (d n a b : Nat) : Item := .f (some d) none (.iad n (.t a) (.t b))
abbrev bJ (d : Nat) (o : BinOp) (a b : Nat) : Item := .f (some d) none (.bin 0 o (.t a) (.t b))
abbrev cJ (d : Nat) (o : BinOp) (a : Nat) (n : Int) : Item := .f (some d) none (.bin 0 o (.t a) (.k (.c (.int .i64 n))))
abbrev gTm (d g a : Nat) : Item := .f (some d) (some (g, true)) (.mv (.t a))
abbrev gFm (d g a : Nat) : Item := .f (some d) (some (g, false)) (.mv (.t a))
abbrev gTf (d g n a : Nat) : Item := .f (some d) (some (g, true)) (.fad n (.t a))
abbrev gFf (d g n a : Nat) : Item := .f (some d) (some (g, false)) (.fad n (.t a))
abbrev gTl (d g a : Nat) : Item := .f (some d) (some (g, true)) (.ld 1 false (.t a))
abbrev gFl (d g a : Nat) : Item := .f (some d) (some (g, false)) (.ld 1 false (.t a))
abbrev aJ (d f : Nat) (l : List Opd) : Item := .e (some d) none (.call f l)
abbrev sJ (k a b : Nat) : Item := .e none none (.sto k (.t a) (.t b))
abbrev fB (d : Nat) (b : Bool) : Item := .f (some d) none (.mv (.k (.c (.bool b))))
abbrev zJ (d : Nat) (n : Int) : Item := .f (some d) none (.mv (.k (.c (.int .i64 n))))
abbrev hJ (d a : Nat) : Item := .chk d none (.ld 1 false (.t a))
abbrev pT (d a b : Nat) : Item := .f (some d) none (.pick (.t a) (.k (.c (.bool true))) (.t b))
abbrev pF (d a b : Nat) : Item := .f (some d) none (.pick (.t a) (.t b) (.k (.c (.bool false))))
abbrev xJ (d k a b : Nat) : Item := .e (some d) none (.app k (.t a) (.t b))
abbrev vJ (d a : Nat) : Item := .f (some d) none (.box (.t a))
abbrev sR (l : List Item) (k : List Nat) (n : SC) : SC := .seq (.reg l k) n
abbrev cX (t i : Nat) (n : SC) : SC := .seq (.cond (.t t) .skip (.exit i)) n
abbrev bL (i : Nat) (l : SC) : SC := .block i (.loop l)
abbrev cT (t : Nat) (a b : SC) : SC := .cond (.t t) a b
theorem Qbkv : Int.toNat 0 = 0 := rfl
theorem Qbkw : Int.toNat 1 = 1 := rfl
theorem Qbix : Int.toNat 2000 = 2000 := rfl
attribute [go_sem] sJ fB zJ hJ pT pF xJ vJ mJ fJ lJ tJ nJ kJ oJ iJ bJ cJ gTm gFm gTf gFf gTl gFl aJ fI eI gT gF kI false_implies Qbkv Qbkw Qbix
end Go.AE

namespace Go.AE
variable {P:Program}{H:Heap}{g:G}{w:World}{e:Env}
def Obj.used:Obj→Bool
 |.none=>false
 |_=>true
def Heap.frz (H:Heap)(S:Nat→Bool):Heap:=fun l=>if S l then .none else H l
def G.frz (g:G)(H:Heap)(S:Nat→Bool):G:=
 { g with
  per:=fun b=>g.per b || (match g.own b with
   |some (l,_)=>S l&&(H l).used
   |none=>false)
  own:=fun b=>match g.own b with
   |some (l,p)=>if S l&&(H l).used then none else some (l,p)
   |none=>none }
theorem Qa8v (H:Heap)(S:Nat→Bool)(g:G)(w:World):Le g w (g.frz H S) w:=
 ⟨fun b h=>⟨by simp[G.frz,h],rfl⟩,fun _ _ h=>h,Nat.le_refl _,fun _ _ _ h=>h,rfl,rfl,rfl⟩
theorem Qt4 {S:Nat→Bool}{m:Nat}(hm:¬(S m=true∧(H m).used=true)):Q2w g w (g.frz H S) w m:=by
 intro b q hb
 refine⟨?_,rfl⟩
 have:¬(S m&&(H m).used)=true:=by simpa using hm
 simp only[G.frz,hb]
 rw[if_neg this]
theorem Qajh (hs:Sat H g w)(S:Nat→Bool):Stp H g w (H.frz S) (g.frz H S) w:=by
 have hle:=Qa8v H S g w
 refine⟨hle,fun m hm hn=>?_,⟨fun b hb=>?_,hs.names,fun b x hb=>?_,fun b m p hb=>?_,fun m=>?_⟩⟩
 ·refine⟨by simp only[Heap.frz,hn];split <;> rfl,?_⟩
  exact Qt4 (by rw[hn];simp[Obj.used])
 ·obtain⟨h1,h2⟩:=hs.fresh b hb
  simp[G.frz,h1,h2]
 ·have hb':(match g.own b with
   |some (l,p)=>if S l&&(H l).used then none else some (l,p)
   |none=>none)=some x:=hb
  show (g.per b || (match g.own b with
   |some (l,_)=>S l&&(H l).used
   |none=>false))=false
  cases ho:g.own b with
  |none=>rw[ho]at hb';simp at hb'
  |some y=>
   obtain⟨l,p⟩:=y
   rw[ho]at hb'
   simp only at hb'⊢
   have:=hs.excl b _ ho
   by_cases hx:(S l&&(H l).used)=true
   ·rw[if_pos hx]at hb';simp at hb'
   ·simp[this,hx]
 ·have hb':(match g.own b with
   |some (l,p)=>if S l&&(H l).used then none else some (l,p)
   |none=>none)=some (m,p):=hb
  cases ho:g.own b with
  |none=>rw[ho]at hb';simp at hb'
  |some y=>
   obtain⟨l,q⟩:=y
   rw[ho]at hb'
   simp only at hb'
   by_cases hx:(S l&&(H l).used)=true
   ·rw[if_pos hx]at hb';simp at hb'
   ·rw[if_neg hx]at hb'
    simp at hb';obtain⟨rfl,rfl⟩:=hb'
    exact hs.named b _ _ ho
 ·by_cases hS:S m=true
  ·simp[Heap.frz,hS,SatObj]
  ·have hH':H.frz S m=H m:=by simp[Heap.frz,hS]
   have hk:Q2w g w (g.frz H S) w m:=Qt4 (by simp[hS])
   refine SatObj.keep (H':=H.frz S) hs hle hk hH' fun m' v left cur hc v' es hv=>?_
   by_cases hS':S m'=true
   ·simp[Heap.frz,hS']at hv
   ·have:H.frz S m'=H m':=by simp[Heap.frz,hS']
    rw[this]at hv
    exact .inl ⟨hv,Qt4 (by simp[hS'])⟩
inductive FrzC (H:Heap)(S:Nat→Bool):C→C→Prop
 |same (c:C) (h:c.isOw=false):FrzC H S c c
 |sl (fl:Bool) (sz:Nat) (rows rows':List (List C)) (hl:rows'.length=rows.length) (hr:∀(i:Nat) (r r':List C),rows[i]? = some r→rows'[i]? = some r'→r'.length=r.length)
   (hc:∀(i:Nat) (r r':List C) (j:Nat) (c c':C),rows[i]? = some r→rows'[i]? = some r'→r[j]? = some c→r'[j]? = some c'→FrzC H S c c'):FrzC H S (.sl fl sz rows) (.sl false sz rows')
 |pp (cells cells':List C) (hl:cells'.length=cells.length) (hc:∀(j:Nat) (c c':C),cells[j]? = some c→cells'[j]? = some c'→FrzC H S c c'):FrzC H S (.pp cells) (.pp cells')
 |vsl (l sz st n:Nat) (all rows rows':List (List C)) (hS:S l=true) (hH:H l=.vec sz all) (hb:st+n≤all.length) (hrows:rows=(all.drop st).take n)
   (hl:rows'.length=rows.length) (hr:∀(i:Nat) (r r':List C),rows[i]? = some r→rows'[i]? = some r'→r'.length=r.length)
   (hc:∀(i:Nat) (r r':List C) (j:Nat) (c c':C),rows[i]? = some r→rows'[i]? = some r'→r[j]? = some c→r'[j]? = some c'→FrzC H S c c'):FrzC H S (.vsl l sz st n) (.sl false sz rows')
 |ptr (l k:Nat) (all cells cells':List C) (hS:S l=true) (hH:H l=.st all) (hcells:cells=all.drop k) (hl:cells'.length=cells.length)
   (hc:∀(j:Nat) (c c':C),cells[j]? = some c→cells'[j]? = some c'→FrzC H S c c'):FrzC H S (.ptr l k) (.pp cells')
 |ow (sz:Nat) (rows rows':List (List C)) (hl:rows'.length=rows.length) (hr:∀(i:Nat) (r r':List C),rows[i]? = some r→rows'[i]? = some r'→r'.length=r.length)
   (hc:∀(i:Nat) (r r':List C) (j:Nat) (c c':C),rows[i]? = some r→rows'[i]? = some r'→r[j]? = some c→r'[j]? = some c'→FrzC H S c c'):FrzC H S (.ow sz rows) (.sl false sz rows')
theorem Q8 {α:Type}{l l':List α}(h:l'.length=l.length){i:Nat}{x:α}(hx:l'[i]? = some x):∃y,l[i]? = some y:=by
 have:i<l'.length:=(List.getElem?_eq_some_iff.1 hx).1
 exact⟨l[i]'(by omega),List.getElem?_eq_getElem (by omega)⟩
theorem Qaxy {S:Nat→Bool}{b l:Nat}{p:List Nat}(ho:g.own b=some (l,p))(hS:S l=true)(hu:(H l).used=true):(g.frz H S).per b=true:=by
 simp[G.frz,ho,hS,hu]
theorem Qaxz (hs:Sat H g w){S:Nat→Bool}{c c':C}(h:FrzC H S c c') :
  (∀v,RepC w g c v→RepC w (g.frz H S) c' v)∧∀l p v,S l=true→(H l).used=true→RepO w g l p c v→RepC w (g.frz H S) c' v:=by
 have hle:=Qa8v H S g w
 induction h with
 |same c h=>
  refine⟨fun v hv=>hv.mono hle,fun l p v _ _ hv=>?_⟩
  exact (hv.plain_of fun sz rows hc=>by subst hc;simp[C.isOw]at h).mono hle
 |sl fl sz rows rows' hl hr hc ih=>
  have key:∀v,RepC w g (.sl fl sz rows) v→RepC w (g.frz H S) (.sl false sz rows') v:=by
   intro v hv
   cases hv with
   |slnil _ _ ad=>
    have:rows'=[]:=List.length_eq_zero_iff.1 (by simpa using hl)
    subst this;exact .slnil _ _ _
   |sl _ _ _ b off cap val h1 h2 h3 h4 h5 h6 h7=>
    rw[←hl]at h1 h2 h3⊢
    refine .sl false sz rows' b off cap val h1 (by simp) h3 (hle.per b h4).1 (fun i r' hr'=>?_) (fun i r' j c' hr' hc'=>?_) (fun i r' j c' hr' hc'=>?_)
    ·obtain⟨r,hr0⟩:=Q8 hl hr'
     rw[hr i r r' hr0 hr'];exact h5 i r hr0
    ·obtain⟨r,hr0⟩:=Q8 hl hr'
     obtain⟨c,hc0⟩:=Q8 (hr i r r' hr0 hr') hc'
     exact h6 i r j c hr0 hc0
    ·obtain⟨r,hr0⟩:=Q8 hl hr'
     obtain⟨c,hc0⟩:=Q8 (hr i r r' hr0 hr') hc'
     exact (ih i r r' j c c' hr0 hr' hc0 hc').1 _ (h7 i r j c hr0 hc0)
  exact⟨key,fun l p v _ _ hv=>key v (hv.plain_of fun _ _ hc=>by simp at hc)⟩
 |pp cells cells' hl hc ih=>
  have key:∀v,RepC w g (.pp cells) v→RepC w (g.frz H S) (.pp cells') v:=by
   intro v hv
   cases hv with
   |pp _ b off val h1 h2 h3=>
    refine .pp cells' b off val (hle.per b h1).1 (fun j c' hc'=>?_) (fun j c' hc'=>?_)
    ·obtain⟨c,hc0⟩:=Q8 hl hc'
     exact h2 j c hc0
    ·obtain⟨c,hc0⟩:=Q8 hl hc'
     exact (ih j c c' hc0 hc').1 _ (h3 j c hc0)
  exact⟨key,fun l p v _ _ hv=>key v (hv.plain_of fun _ _ hc=>by simp at hc)⟩
 |vsl l sz st n all rows rows' hS hH hb hrows hl hr hc ih=>
  have key:∀v,RepC w g (.vsl l sz st n) v→RepC w (g.frz H S) (.sl false sz rows') v:=by
   intro v hv
   have hlen:rows.length=n:=by rw[hrows];simp;omega
   cases hv with
   |vslnil _ _ _ ad=>
    have:rows'=[]:=List.length_eq_zero_iff.1 (by omega)
    subst this;exact .slnil _ _ _
   |vsl _ _ _ _ cap b base T m h1 h2 h3 h4=>
    have hob:=hs.objs l
    rw[hH]at hob
    obtain⟨b',base',T',cs,val,r1,r2,r3,r4,r5,r6,r7,r8⟩:=SatVec.of hob h1
    rw[h1]at r1
    simp only[Option.some.injEq,Prod.mk.injEq,true_and]at r1
    obtain⟨rfl,rfl⟩:=r1
    have hper:=Qaxy (g:=g) (H:=H) r2 hS (by rw[hH];rfl)
    have hget:∀(i:Nat) (r:List C),rows[i]? = some r→all[st+i]? = some r:=by
     intro i r hi
     rw[hrows,List.getElem?_take]at hi
     split at hi
     ·rw[List.getElem?_drop]at hi;exact hi
     ·simp at hi
    have hn:n=rows'.length:=by omega
    rw[hn]at h2⊢
    refine .sl false sz rows' b (base+st * sz) cap (fun i j=>val (st+i) j) (by omega) (by simp) h2 hper (fun i r' hr'=>?_) (fun i r' j c' hr' hc'=>?_) (fun i r' j c' hr' hc'=>?_)
    ·obtain⟨r,hr0⟩:=Q8 hl hr'
     rw[hr i r r' hr0 hr'];exact r6 _ r (hget i r hr0)
    ·obtain⟨r,hr0⟩:=Q8 hl hr'
     obtain⟨c,hc0⟩:=Q8 (hr i r r' hr0 hr') hc'
     rw[Qdy r3,show base+st * sz+i * sz+j=base+(st+i) * sz+j by rw[Nat.add_mul];omega]
     exact r7 _ r j c (hget i r hr0) hc0
    ·obtain⟨r,hr0⟩:=Q8 hl hr'
     obtain⟨c,hc0⟩:=Q8 (hr i r r' hr0 hr') hc'
     exact (ih i r r' j c c' hr0 hr' hc0 hc').2 l _ _ hS (by rw[hH];rfl) (r8 _ r j c (hget i r hr0) hc0)
  exact⟨key,fun l p v _ _ hv=>key v (hv.plain_of fun _ _ hc=>by simp at hc)⟩
 |ptr l k all cells cells' hS hH hcells hl hc ih=>
  have key:∀v,RepC w g (.ptr l k) v→RepC w (g.frz H S) (.pp cells') v:=by
   intro v hv
   cases hv with
   |ptr _ _ b sz base h1=>
    have hob:=hs.objs l
    rw[hH]at hob
    obtain⟨b',sz',T,cs,r1,r2,r3,r4,r5⟩:=hob
    rw[h1]at r1
    simp only[Option.some.injEq,Prod.mk.injEq]at r1
    obtain⟨rfl,rfl,rfl⟩:=r1
    have hper:=Qaxy (g:=g) (H:=H) r2 hS (by rw[hH];rfl)
    have hget:∀(j:Nat) (c:C),cells[j]? = some c→all[k+j]? = some c:=by
     intro j c hj
     rw[hcells,List.getElem?_drop]at hj;exact hj
    have hcs:∀(j:Nat) (c:C),all[j]? = some c→cs[j]? = some (cs.getD j undef):=by
     intro j c hj
     have hlt:j<cs.size:=by rw[r4];exact (List.getElem?_eq_some_iff.1 hj).1
     rw[Array.getElem?_eq_getElem hlt,Array.getD_eq_getD_getElem?,Array.getElem?_eq_getElem hlt];rfl
    refine .pp cells' b (0+k) (fun j=>cs.getD (k+j) undef) hper (fun j c' hc'=>?_) (fun j c' hc'=>?_)
    ·obtain⟨c,hc0⟩:=Q8 hl hc'
     rw[Qdy r3,show 0+k+j=k+j by omega]
     exact hcs _ c (hget j c hc0)
    ·obtain⟨c,hc0⟩:=Q8 hl hc'
     exact (ih j c c' hc0 hc').2 l _ _ hS (by rw[hH];rfl) (r5 _ c _ (hget j c hc0) (hcs _ c (hget j c hc0)))
  exact⟨key,fun l p v _ _ hv=>key v (hv.plain_of fun _ _ hc=>by simp at hc)⟩
 |ow sz rows rows' hl hr hc ih=>
  refine⟨fun v hv=>(by cases hv),fun l p v hS hu hv=>?_⟩
  cases hv with
  |plain _ _ _ h=>cases h
  |ownil _ _ ad=>
   have:rows'=[]:=List.length_eq_zero_iff.1 (by simpa using hl)
   subst this;exact .slnil _ _ _
  |ow _ _ _ b off cap T cs val h1 h2 h3 h4 h5 h6 h7 h8=>
   have hper:=Qaxy (g:=g) (H:=H) h3 hS hu
   rw[←hl]at h1 h2⊢
   refine .sl false sz rows' b off cap val h1 (by simp) h2 hper (fun i r' hr'=>?_) (fun i r' j c' hr' hc'=>?_) (fun i r' j c' hr' hc'=>?_)
   ·obtain⟨r,hr0⟩:=Q8 hl hr'
    rw[hr i r r' hr0 hr'];exact h6 i r hr0
   ·obtain⟨r,hr0⟩:=Q8 hl hr'
    obtain⟨c,hc0⟩:=Q8 (hr i r r' hr0 hr') hc'
    rw[Qdy h4];exact h7 i r j c hr0 hc0
   ·obtain⟨r,hr0⟩:=Q8 hl hr'
    obtain⟨c,hc0⟩:=Q8 (hr i r r' hr0 hr') hc'
    exact (ih i r r' j c c' hr0 hr' hc0 hc').2 l _ _ hS hu (h8 i r j c hr0 hc0)
inductive FrzV (H:Heap)(S:Nat→Bool):V→V→Prop
 |c (a b:C) (h:FrzC H S a b):FrzV H S (.c a) (.c b)
 |ag (cs cs':List C) (hl:cs'.length=cs.length) (h:∀(j:Nat) (c c':C),cs[j]? = some c→cs'[j]? = some c'→FrzC H S c c'):FrzV H S (.ag cs) (.ag cs')
 |tup (xs xs':List V) (hl:xs'.length=xs.length) (h:∀(j:Nat) (x x':V),xs[j]? = some x→xs'[j]? = some x'→FrzV H S x x'):FrzV H S (.tup xs) (.tup xs')
 |unk (x:V):FrzV H S x .unk
theorem Qxk (hs:Sat H g w){S:Nat→Bool}{x x':V}(h:FrzV H S x x'):∀v,RepV w g x v→RepV w (g.frz H S) x' v:=by
 induction h with
 |c a b h=>
  intro v hv
  exact .c _ _ ((Qaxz hs h).1 v hv.c_inv)
 |ag cs cs' hl h=>
  intro v hv
  cases hv with
  |ag _ vs h1 h2=>
   refine .ag cs' vs (by omega) fun j c' u hc' hu=>?_
   obtain⟨c,hc⟩:=Q8 hl hc'
   exact (Qaxz hs (h j c c' hc hc')).1 u (h2 j c u hc hu)
 |tup xs xs' hl h ih=>
  intro v hv
  cases hv with
  |tup _ vs h1 h2=>
   refine .tup xs' vs (by omega) fun j x' u hx' hu=>?_
   obtain⟨x,hx⟩:=Q8 hl hx'
   exact ih j x x' hx hx' u (h2 j x u hx hu)
 |unk x=>exact fun v _=>.unk v
abbrev frzK (K:V→Heap→Prop):V→Heap→Prop
 |.pn v,H'=>∃S,K (.pn v) (H'.frz S)
 |x,H'=>∃S x',FrzV H' S x x'∧K x' (H'.frz S)
theorem Qbdk {K:V→Heap→Prop}{x:V}{v:Value}(h:frzK K x H)(hr:RepV w g x v):∃S x',FrzV H S x x'∧K x' (H.frz S):=by
 cases hr <;> exact h
theorem Qaef {f:Nat}{args:List V}{K:V→Heap→Prop}(h:Ql P f args H (frzK K)):Ql P f args H K:=by
 refine⟨h.1,fun g w vs hs hl hv=>?_⟩
 refine Calls.mono (h.2 g w vs hs hl hv) ?_
 rintro e w' (⟨v,x,H',g',he,hx,hst,hr⟩|⟨v,H',g',he,hx,hst⟩)
 ·obtain⟨S,x',hf,hk⟩:=Qbdk hx hr
  exact .inl ⟨v,x',H'.frz S,g'.frz H' S,he,hk,hst.trans (Qajh hst.sat S),Qxk hst.sat hf v hr⟩
 ·obtain⟨S,hk⟩:∃S,K (.pn v) (H'.frz S):=hx
  exact .inr ⟨v,H'.frz S,g'.frz H' S,he,hk,hst.trans (Qajh hst.sat S)⟩
theorem Q47 {f:Nat}{args:List V}{K K':V→Heap→Prop}(h:Ql P f args H K)(hk:∀x H',K x H'→K' x H'):Ql P f args H K':=by
 refine⟨h.1,fun g w vs hs hl hv=>?_⟩
 refine Calls.mono (h.2 g w vs hs hl hv) ?_
 rintro e w' (⟨v,x,H',g',he,hx,hst,hr⟩|⟨v,H',g',he,hx,hst⟩)
 ·exact .inl ⟨v,x,H',g',he,hk x H' hx,hst,hr⟩
 ·exact .inr ⟨v,H',g',he,hk _ H' hx,hst⟩
end Go.AE

namespace Go.AE
variable {P:Program}{H:Heap}{g:G}{w:World}{e:Env}
def FrzK (H:Heap)(S:Nat→Bool)(c c':C):Prop:=c'=c∨(c.isOw=false∧FrzC H S c c')
inductive FrzO (H:Heap)(S:Nat→Bool):Obj→Obj→Prop
 |same (o:Obj):FrzO H S o o
 |st (cells cells':List C) (hl:cells'.length=cells.length) (h:∀(j:Nat) (c c':C),cells[j]? = some c→cells'[j]? = some c'→FrzK H S c c'):FrzO H S (.st cells) (.st cells')
 |vec (sz:Nat) (rows rows':List (List C)) (hl:rows'.length=rows.length) (hr:∀(i:Nat) (r r':List C),rows[i]? = some r→rows'[i]? = some r'→r'.length=r.length)
   (h:∀(i:Nat) (r r':List C) (j:Nat) (c c':C),rows[i]? = some r→rows'[i]? = some r'→r[j]? = some c→r'[j]? = some c'→FrzK H S c c'):FrzO H S (.vec sz rows) (.vec sz rows')
def FrzH (H:Heap)(S:Nat→Bool)(H':Heap):Prop:=∀m,(S m=true∧H' m=.none)∨(S m=false∧FrzO H S (H m) (H' m))
theorem Qapb (H:Heap)(S:Nat→Bool):FrzH H S (H.frz S):=fun m=>by
 cases h:S m with
 |true=>exact .inl ⟨rfl,by simp[Heap.frz,h]⟩
 |false=>exact .inr ⟨rfl,by simp[Heap.frz,h];exact .same _⟩
theorem FrzH.set {S:Nat→Bool}{H':Heap}(h:FrzH H S H'){l:Nat}{o:Obj}(hl:S l=false)(ho:FrzO H S (H l) o):FrzH H S (H'.set l o):=fun m=>by
 by_cases hm:m=l
 ·subst hm;rw[Heap.set_same];exact .inr ⟨hl,ho⟩
 ·rw[Heap.set_other _ _ hm];exact h m
theorem Qaso (hs:Sat H g w){S:Nat→Bool}{H':Heap}(h:FrzH H S H'):Stp H g w H' (g.frz H S) w:=by
 have h0:=Qajh hs S
 have hle:=h0.le
 have hkk:∀m,S m=false→Q2w g w (g.frz H S) w m:=fun m hm=>Qt4 (by simp[hm])
 have hmv:∀(l:Nat) (p:List Nat) (c c':C) (v:Value),S l=false→FrzK H S c c'→RepO w g l p c v→RepO w (g.frz H S) l p c' v:=by
  intro l p c c' v hl hk hr
  rcases hk with rfl|⟨h1,h2⟩
  ·exact hr.move hle fun q b hb=>⟨(hkk l hl b _ hb).1,rfl⟩
  ·exact .plain _ _ _ _ ((Qaxz hs h2).1 v (hr.plain_of fun sz rows hc=>by subst hc;simp[C.isOw]at h1))
 refine⟨hle,fun m hm hn=>?_,⟨h0.sat.fresh,h0.sat.names,h0.sat.excl,h0.sat.named,fun m=>?_⟩⟩
 ·refine⟨?_,Qt4 (by rw[hn];simp[Obj.used])⟩
  rcases h m with ⟨_,h1⟩|⟨_,h1⟩
  ·exact h1
  ·rw[hn]at h1
   generalize H' m=o at h1
   cases h1;rfl
 ·rcases h m with ⟨_,h1⟩|⟨hS,h1⟩
  ·rw[h1];exact trivial
  ·have ho:=hs.objs m
   generalize hA:H m=A at h1 ho
   generalize hB:H' m=B at h1
   cases h1 with
   |same=>
    have:=SatObj.keep (H':=H') hs hle (hkk m hS) (hB.trans hA.symm) fun m' v left cur hc v' es hv=>?_
    ·rw[hB]at this;exact this
    ·rcases h m' with ⟨_,h2⟩|⟨hS',h2⟩
     ·rw[h2]at hv;simp at hv
     ·rw[hv]at h2
      generalize hA':H m'=A' at h2
      cases h2
      exact .inl ⟨rfl,hkk m' hS'⟩
   |st cells cells' hl hc=>
    obtain⟨b,sz,T,cs,r1,r2,r3,r4,r5⟩:=ho
    refine⟨b,sz,T,cs,r1,(hkk m hS b _ r2).1,r3,by rw[hl];exact r4,fun k c' v hc' hv=>?_⟩
    obtain⟨c,hc0⟩:=Q8 hl hc'
    exact hmv _ _ c c' v hS (hc k c c' hc0 hc') (r5 k c v hc0 hv)
   |vec sz rows rows' hl hr hc=>
    rcases ho with ⟨r1,r2⟩|⟨b,base,T,cs,val,r1,r2,r3,r4,r5,r6,r7,r8⟩
    ·refine .inl ⟨?_,r2⟩
     subst r1;exact List.length_eq_zero_iff.1 hl
    ·refine .inr ⟨b,base,T,cs,val,r1,(hkk m hS b _ r2).1,r3,by rw[hl];exact r4,by rw[hl];exact r5,fun i r' hr'=>?_,fun i r' j c' hr' hc'=>?_,fun i r' j c' hr' hc'=>?_⟩
     ·obtain⟨r,hr0⟩:=Q8 hl hr'
      rw[hr i r r' hr0 hr'];exact r6 i r hr0
     ·obtain⟨r,hr0⟩:=Q8 hl hr'
      obtain⟨c,hc0⟩:=Q8 (hr i r r' hr0 hr') hc'
      exact r7 i r j c hr0 hc0
     ·obtain⟨r,hr0⟩:=Q8 hl hr'
      obtain⟨c,hc0⟩:=Q8 (hr i r r' hr0 hr') hc'
      exact hmv _ _ c c' _ hS (hc i r r' j c c' hr0 hr' hc0 hc') (r8 i r j c hr0 hc0)
abbrev finK (K:V→Heap→Prop):V→Heap→Prop
 |.pn v,H'=>K (.pn v) H'
 |x,H'=>∃S x' H2,FrzV H' S x x'∧FrzH H' S H2∧K x' H2
theorem Qbjr {K:V→Heap→Prop}{x:C}:finK K (.c x) H=∃S x' H2,FrzV H S (.c x) x'∧FrzH H S H2∧K x' H2:=rfl
theorem Qbhh {K:V→Heap→Prop}{x:List C}:finK K (.ag x) H=∃S x' H2,FrzV H S (.ag x) x'∧FrzH H S H2∧K x' H2:=rfl
theorem Qbde {K:V→Heap→Prop}{x:List V}:finK K (.tup x) H=∃S x' H2,FrzV H S (.tup x) x'∧FrzH H S H2∧K x' H2:=rfl
theorem Qbhi {K:V→Heap→Prop}{v:Value}:finK K (.pn v) H=K (.pn v) H:=rfl
attribute [go_sem] Qbjr Qbhh Qbde Qbhi
theorem Qbdf {K:V→Heap→Prop}{x:V}{v:Value}(h:finK K x H)(hr:RepV w g x v):∃S x' H2,FrzV H S x x'∧FrzH H S H2∧K x' H2:=by
 cases hr <;> exact h
theorem Qa7v {f:Nat}{args:List V}{K:V→Heap→Prop}(h:Ql P f args H (finK K)):Ql P f args H K:=by
 refine⟨h.1,fun g w vs hs hl hv=>?_⟩
 refine Calls.mono (h.2 g w vs hs hl hv) ?_
 rintro e w' (⟨v,x,H',g',he,hx,hst,hr⟩|⟨v,H',g',he,hx,hst⟩)
 ·obtain⟨S,x',H2,hf,hh,hk⟩:=Qbdf hx hr
  exact .inl ⟨v,x',H2,g'.frz H' S,he,hk,hst.trans (Qaso hst.sat hh),Qxk hst.sat hf v hr⟩
 ·exact .inr ⟨v,H',g',he,hx,hst⟩
theorem Qa4u {e e':Env}(S:Nat→Bool){H2:Heap}(h:∀t,FrzV H S (lk t e) (lk t e'))(hh:FrzH H S H2):Qbgq e H e' H2:=by
 intro g w tmps hs hr
 exact⟨g.frz H S,Qaso hs hh,fun t=>Qxk hs (h t) _ (hr t)⟩
def un (H:Heap)(m:Nat):Bool:=!(H m).used
theorem Qbcj {m:Nat}(h:H m≠.none):un H m=false:=by
 unfold un;cases hm:H m <;> first|rfl|exact absurd hm h
theorem Qw6 {m:Nat}(h:H m=.none):un H m=true:=by simp[un,h,Obj.used]
theorem Qa8w {H':Heap}{m:Nat}(h:H m≠.none):H'.frz (un H) m=H' m:=by simp[Heap.frz,Qbcj h]
def C.plain:C→Bool
 |.int _ _|.bool _|.str _|.sl _ _ _|.pp _|.pnil|.mnil|.slb _|.stb _|.cm _ _ _|.fnil|.unk=>true
 |_=>false
theorem Qi {S:Nat→Bool}{c:C}(h:c.plain=true):FrzC H S c c:=.same c (by cases c <;> simp_all[C.plain,C.isOw])
theorem Qbhs {S:Nat→Bool}{fl:Bool}{sz:Nat}{rows:List (List C)}(hr:∀r∈rows,∀c∈r,c.isOw=false):FrzC H S (.sl fl sz rows) (.sl false sz rows):=by
 refine .sl fl sz rows rows rfl (fun i r r' h1 h2=>by rw[h1]at h2;simp at h2;rw[h2]) (fun i r r' j c c' h1 h2 h3 h4=>?_)
 rw[h1]at h2;simp at h2;subst h2
 rw[h3]at h4;simp at h4;subst h4
 exact .same _ (hr r (List.mem_of_getElem? h1) c (List.mem_of_getElem? h3))
inductive FrzL (H:Heap)(S:Nat→Bool):List C→List C→Prop
 |nil:FrzL H S [] []
 |cons {c c':C} {l l':List C} (h:FrzC H S c c') (t:FrzL H S l l'):FrzL H S (c::l) (c'::l')
theorem FrzL.spec {S:Nat→Bool}{l l':List C}(h:FrzL H S l l'):l'.length=l.length∧∀(j:Nat) (c c':C),l[j]? = some c→l'[j]? = some c'→FrzC H S c c':=by
 induction h with
 |nil=>exact⟨rfl,fun j c c' h=>by simp at h⟩
 |cons h t ih=>
  refine⟨by simp[ih.1],fun j c c' h1 h2=>?_⟩
  cases j with
  |zero=>simp at h1 h2;subst h1;subst h2;exact h
  |succ j=>simp at h1 h2;exact ih.2 j c c' h1 h2
theorem FrzL.ag {S:Nat→Bool}{l l':List C}(h:FrzL H S l l'):FrzV H S (.ag l) (.ag l'):=.ag _ _ h.spec.1 h.spec.2
end Go.AE

namespace Go.AE
variable {P:Program}{H0 H H':Heap}{E L:List (Nat×Obj)}
structure Kn (H0 H:Heap)(E L:List (Nat×Obj)):Prop where
 get:∀p∈E++L,H p.1=p.2∧p.2≠.none
 ext:∀p∈E,H0 p.1≠.none
 loc:∀p∈L,H0 p.1=.none
 dE:(E.map Prod.fst).Nodup
 dL:(L.map Prod.fst).Nodup
 chg:∀m,H0 m≠.none→m∉E.map Prod.fst→H m=H0 m
def Upd (H H':Heap)(U:List (Nat×Obj)):Prop:=(∀p∈U,H' p.1=p.2)∧∀m,H m≠.none→m∉U.map Prod.fst→H' m=H m
theorem Kn.start0 (H:Heap):Kn H H [] []:=⟨by simp,by simp,by simp,by simp,by simp,fun _ _ _=>rfl⟩
theorem Kn.start1 {l:Nat}{o:Obj}(h:H l=o)(ho:o≠.none):Kn H H [(l,o)] []:=
 ⟨by simp[h,ho],by simp[h,ho],by simp,by simp,by simp,fun _ _ _=>rfl⟩
theorem Kn.start2 {l m:Nat}{o q:Obj}(h:H l=o)(ho:o≠.none)(h2:H m=q)(hq:q≠.none)(hn:l≠m):Kn H H [(l,o),(m,q)] []:=
 ⟨by simp[h,ho,h2,hq],by simp[h,ho,h2,hq],by simp,by simp[hn],by simp,fun _ _ _=>rfl⟩
theorem Kn.e (hk:Kn H0 H E L)(i:Nat){l:Nat}{o:Obj}(h:E[i]? = some (l,o)):H l=o:=
 (hk.get (l,o) (List.mem_append_left _ (List.mem_of_getElem? h))).1
theorem Kn.l (hk:Kn H0 H E L)(i:Nat){l:Nat}{o:Obj}(h:L[i]? = some (l,o)):H l=o:=
 (hk.get (l,o) (List.mem_append_right _ (List.mem_of_getElem? h))).1
theorem Kn.free (hk:Kn H0 H E L)(i:Nat){l:Nat}{o:Obj}(h:L[i]? = some (l,o)):H0 l=.none:=hk.loc (l,o) (List.mem_of_getElem? h)
theorem Kn.usedE (hk:Kn H0 H E L)(i:Nat){l:Nat}{o:Obj}(h:E[i]? = some (l,o)):H0 l≠.none:=hk.ext (l,o) (List.mem_of_getElem? h)
theorem Kn.ne (hk:Kn H0 H E L)(i j:Nat){l m:Nat}{o q:Obj}(h:E[i]? = some (l,o))(h2:L[j]? = some (m,q)):l≠m:=fun hh=>by
 subst hh;exact hk.usedE i h (hk.free j h2)
theorem Qci {L:List (Nat×Obj)}{p:Nat×Obj}(h:p∈L):p.1∈L.map Prod.fst:=List.mem_map_of_mem h
theorem Qqy {L:List (Nat×Obj)}(hd:(L.map Prod.fst).Nodup){i j:Nat}{p q:Nat×Obj}(hi:L[i]? = some p)(hj:L[j]? = some q)(h:p.1=q.1):i=j:=by
 have h1:(L.map Prod.fst)[i]? = some p.1:=by simp[hi]
 have h2:(L.map Prod.fst)[j]? = some q.1:=by simp[hj]
 have hlt:i<(L.map Prod.fst).length:=(List.getElem?_eq_some_iff.1 h1).1
 exact (List.getElem?_inj hlt hd).1 (by rw[h1,h2,h])
theorem Kn.neL (hk:Kn H0 H E L)(i j:Nat){l m:Nat}{o q:Obj}(h:L[i]? = some (l,o))(h2:L[j]? = some (m,q))(hij:i≠j):l≠m:=fun hh=>
 hij (Qqy hk.dL h h2 hh)
theorem Kn.newFree (hk:Kn H0 H E L){x:Nat}(hx:H x=.none):H0 x=.none∧x∉E.map Prod.fst∧x∉L.map Prod.fst:=by
 have hno:∀p∈E++L,p.1≠x:=fun p hp hh=>by
  obtain⟨h1,h2⟩:=hk.get p hp
  rw[hh,hx]at h1;exact h2 h1.symm
 have hE:x∉E.map Prod.fst:=fun h=>by
  obtain⟨p,hp,hh⟩:=List.mem_map.1 h
  exact hno p (List.mem_append_left _ hp) hh
 refine⟨?_,hE,fun h=>?_⟩
 ·cases h0:H0 x with
  |none=>rfl
  |_=>have:=hk.chg x (by rw[h0];simp) hE;rw[hx,h0]at this;simp at this
 ·obtain⟨p,hp,hh⟩:=List.mem_map.1 h
  exact hno p (List.mem_append_right _ hp) hh
theorem Kn.alloc (hk:Kn H0 H E L){x:Nat}{o:Obj}(hx:H x=.none)(ho:o≠.none):Kn H0 (H.set x o) E (L++[(x,o)]):=by
 obtain⟨h1,h2,h3⟩:=hk.newFree hx
 refine⟨fun p hp=>?_,hk.ext,fun p hp=>?_,hk.dE,?_,fun m hm hn=>?_⟩
 ·rw[←List.append_assoc]at hp
  rcases List.mem_append.1 hp with hp|hp
  ·have:p.1≠x:=fun hh=>by
    rcases List.mem_append.1 hp with hp|hp
    ·exact h2 (hh▸Qci hp)
    ·exact h3 (hh▸Qci hp)
   rw[Heap.set_other _ _ this];exact hk.get p hp
  ·simp at hp;subst hp;exact⟨Heap.set_same _ _ _,ho⟩
 ·rcases List.mem_append.1 hp with hp|hp
  ·exact hk.loc p hp
  ·simp at hp;subst hp;exact h1
 ·rw[List.map_append]
  refine List.nodup_append.2 ⟨hk.dL,by simp,fun a ha b hb=>?_⟩
  simp at hb;subst hb;exact fun hh=>h3 (hh▸ha)
 ·have:m≠x:=fun hh=>by subst hh;exact hm h1
  rw[Heap.set_other _ _ this];exact hk.chg m hm hn
theorem Qmm {L:List (Nat×Obj)}{i:Nat}{x:Nat}{o o':Obj}(h:L[i]? = some (x,o)):(L.set i (x,o')).map Prod.fst=L.map Prod.fst:=by
 rw[List.map_set]
 refine List.ext_getElem? fun j=>?_
 rw[List.getElem?_set]
 split
 ·rename_i hij
  subst hij
  have hlt:=(List.getElem?_eq_some_iff.1 h).1
  rw[if_pos (by simpa using hlt)]
  simp[h]
 ·rfl
theorem Qfw {α:Type}{L:List α}{i:Nat}{x p:α}(h:p∈L.set i x):p=x∨∃j,j≠i∧L[j]? = some p:=by
 obtain⟨j,hj⟩:=List.getElem?_of_mem h
 rw[List.getElem?_set]at hj
 split at hj
 ·split at hj
  ·simp at hj;exact .inl hj.symm
  ·simp at hj
 ·rename_i hn;exact .inr ⟨j,fun h=>hn h.symm,hj⟩
theorem Kn.setL (hk:Kn H0 H E L)(i:Nat){x:Nat}{o o':Obj}(h:L[i]? = some (x,o))(ho:o'≠.none):Kn H0 (H.set x o') E (L.set i (x,o')):=by
 have hf:=hk.free i h
 refine⟨fun p hp=>?_,hk.ext,fun p hp=>?_,hk.dE,by rw[Qmm h];exact hk.dL,fun m hm hn=>?_⟩
 ·rcases List.mem_append.1 hp with hp|hp
  ·have:p.1≠x:=fun hh=>hk.ext p hp (hh▸hf)
   rw[Heap.set_other _ _ this];exact hk.get p (List.mem_append_left _ hp)
  ·rcases Qfw hp with rfl|⟨j,hj,hp⟩
   ·exact⟨Heap.set_same _ _ _,ho⟩
   ·have:p.1≠x:=fun hh=>hj (Qqy hk.dL hp h hh)
    rw[Heap.set_other _ _ this];exact hk.get p (List.mem_append_right _ (List.mem_of_getElem? hp))
 ·rcases Qfw hp with rfl|⟨j,hj,hp⟩
  ·exact hf
  ·exact hk.loc p (List.mem_of_getElem? hp)
 ·have:m≠x:=fun hh=>by subst hh;exact hm hf
  rw[Heap.set_other _ _ this];exact hk.chg m hm hn
theorem Kn.setE (hk:Kn H0 H E L)(i:Nat){x:Nat}{o o':Obj}(h:E[i]? = some (x,o))(ho:o'≠.none):Kn H0 (H.set x o') (E.set i (x,o')) L:=by
 have hf:=hk.usedE i h
 refine⟨fun p hp=>?_,fun p hp=>?_,hk.loc,by rw[Qmm h];exact hk.dE,hk.dL,fun m hm hn=>?_⟩
 ·rcases List.mem_append.1 hp with hp|hp
  ·rcases Qfw hp with rfl|⟨j,hj,hp⟩
   ·exact⟨Heap.set_same _ _ _,ho⟩
   ·have:p.1≠x:=fun hh=>hj (Qqy hk.dE hp h hh)
    rw[Heap.set_other _ _ this];exact hk.get p (List.mem_append_left _ (List.mem_of_getElem? hp))
  ·have:p.1≠x:=fun hh=>hf (hh▸hk.loc p hp)
   rw[Heap.set_other _ _ this];exact hk.get p (List.mem_append_right _ hp)
 ·rcases Qfw hp with rfl|⟨j,hj,hp⟩
  ·exact hf
  ·exact hk.ext p (List.mem_of_getElem? hp)
 ·rw[Qmm h]at hn
  have:m≠x:=fun hh=>by subst hh;exact hn (Qci (p:=(m,o)) (List.mem_of_getElem? h))
  rw[Heap.set_other _ _ this];exact hk.chg m hm hn
theorem Kn.app (hk:Kn H0 H E L)(i:Nat){y y':Nat}{o o':Obj}(h:L[i]? = some (y,o))(hy:(H.set y .none) y'=.none)(ho:o'≠.none) :
  Kn H0 ((H.set y .none).set y' o') E (L.set i (y',o')):=by
 have hf:=hk.free i h
 have hyf:H0 y'=.none∧y'∉E.map Prod.fst∧∀(j:Nat) (p:Nat×Obj),j≠i→L[j]? = some p→p.1≠y':=by
  by_cases hyy:y'=y
  ·subst hyy
   refine⟨hf,fun hh=>?_,fun j p hj hp hh=>hj (Qqy hk.dL hp h hh)⟩
   obtain⟨p,hp,hh⟩:=List.mem_map.1 hh
   exact hk.ext p hp (hh▸hf)
  ·rw[Heap.set_other _ _ hyy]at hy
   obtain⟨h1,h2,h3⟩:=hk.newFree hy
   exact⟨h1,h2,fun j p hj hp hh=>h3 (hh▸Qci (List.mem_of_getElem? hp))⟩
 obtain⟨h1,h2,h3⟩:=hyf
 refine⟨fun p hp=>?_,hk.ext,fun p hp=>?_,hk.dE,?_,fun m hm hn=>?_⟩
 ·rcases List.mem_append.1 hp with hp|hp
  ·have a1:p.1≠y:=fun hh=>hk.ext p hp (hh▸hf)
   have a2:p.1≠y':=fun hh=>hk.ext p hp (hh▸h1)
   rw[Heap.set_other _ _ a2,Heap.set_other _ _ a1];exact hk.get p (List.mem_append_left _ hp)
  ·rcases Qfw hp with rfl|⟨j,hj,hp⟩
   ·exact⟨Heap.set_same _ _ _,ho⟩
   ·have a1:p.1≠y:=fun hh=>hj (Qqy hk.dL hp h hh)
    rw[Heap.set_other _ _ (h3 j p hj hp),Heap.set_other _ _ a1];exact hk.get p (List.mem_append_right _ (List.mem_of_getElem? hp))
 ·rcases Qfw hp with rfl|⟨j,hj,hp⟩
  ·exact h1
  ·exact hk.loc p (List.mem_of_getElem? hp)
 ·rw[List.map_set]
  refine List.pairwise_iff_getElem.2 fun a b ha hb hab=>?_
  rw[List.length_set,List.length_map]at ha hb
  have gl:∀(j:Nat) (hj:j<L.length),j≠i→L[j].1≠y':=fun j hj hji=>h3 j L[j] hji (List.getElem?_eq_getElem hj)
  have hd:=List.pairwise_iff_getElem.1 hk.dL a b (by simpa using ha) (by simpa using hb) hab
  simp only[List.getElem_set,List.getElem_map]at hd⊢
  by_cases e1:i=a
  ·subst e1
   rw[if_pos rfl,if_neg (by omega)]
   exact fun hh=>gl b hb (by omega) hh.symm
  ·rw[if_neg e1]
   by_cases e2:i=b
   ·subst e2;rw[if_pos rfl];exact gl a ha (by omega)
   ·rw[if_neg e2];exact hd
 ·have a1:m≠y:=fun hh=>by subst hh;exact hm hf
  have a2:m≠y':=fun hh=>by subst hh;exact hm h1
  rw[Heap.set_other _ _ a2,Heap.set_other _ _ a1];exact hk.chg m hm hn
theorem Kn.callg (hk:Kn H0 H E L){U E2 L2:List (Nat×Obj)}(hu:Upd H H' U)(hE:E2.map Prod.fst=E.map Prod.fst)(hL:L2.map Prod.fst=L.map Prod.fst)
  (h:∀p∈E2++L2,p.2≠.none∧(p∈U∨(p∈E++L∧p.1∉U.map Prod.fst))) (hU:∀u∈U,u.1∈E.map Prod.fst∨u.1∈L.map Prod.fst):Kn H0 H' E2 L2:=by
 have hin:∀{A B:List (Nat×Obj)} {p:Nat×Obj},B.map Prod.fst=A.map Prod.fst→p∈B→∃q∈A,q.1=p.1:=fun hAB hp=>by
  have:=Qci hp;rw[hAB]at this;obtain⟨q,h1,h2⟩:=List.mem_map.1 this;exact⟨q,h1,h2⟩
 refine⟨fun p hp=>?_,fun p hp=>?_,fun p hp=>?_,by rw[hE];exact hk.dE,by rw[hL];exact hk.dL,fun m hm hn=>?_⟩
 ·obtain⟨h1,h2⟩:=h p hp
  refine⟨?_,h1⟩
  rcases h2 with h2|⟨h2,h3⟩
  ·exact hu.1 p h2
  ·obtain⟨a1,a2⟩:=hk.get p h2
   rw[hu.2 p.1 (by rw[a1];exact a2) h3,a1]
 ·obtain⟨q,hq,hh⟩:=hin hE hp;rw[←hh];exact hk.ext q hq
 ·obtain⟨q,hq,hh⟩:=hin hL hp;rw[←hh];exact hk.loc q hq
 ·rw[hE]at hn
  have h0:=hk.chg m hm hn
  rw[hu.2 m (by rw[h0];exact hm) (fun hh=>?_),h0]
  obtain⟨u,hu1,hu2⟩:=List.mem_map.1 hh
  rcases hU u hu1 with a|a
  ·exact hn (hu2▸a)
  ·obtain⟨q,hq,hh⟩:=List.mem_map.1 a
   exact hm (by rw[←hu2,←hh];exact hk.loc q hq)
theorem Kn.call0 (hk:Kn H0 H E L)(hu:Upd H H' []):Kn H0 H' E L:=hk.callg hu rfl rfl (fun p hp=>⟨(hk.get p hp).2,.inr ⟨hp,by simp⟩⟩) (by simp)
theorem Kn.callE (hk:Kn H0 H E L)(i:Nat){l:Nat}{o o':Obj}(h:E[i]? = some (l,o))(hu:Upd H H' [(l,o')])(ho:o'≠.none):Kn H0 H' (E.set i (l,o')) L:=by
 refine hk.callg hu (Qmm h) rfl (fun p hp=>?_) (fun u hu=>by simp at hu;subst hu;exact .inl (Qci (p:=(l,o)) (List.mem_of_getElem? h)))
 rcases List.mem_append.1 hp with hp|hp
 ·rcases Qfw hp with rfl|⟨j,hj,hp⟩
  ·exact⟨ho,.inl (by simp)⟩
  ·have hm:=List.mem_append_left L (List.mem_of_getElem? hp)
   exact⟨(hk.get p hm).2,.inr ⟨hm,by simp;exact fun hh=>hj (Qqy hk.dE hp h hh)⟩⟩
 ·have hm:=List.mem_append_right E hp
  exact⟨(hk.get p hm).2,.inr ⟨hm,by simp;exact fun hh=>hk.usedE i h (hh▸hk.loc p hp)⟩⟩
theorem Kn.callL (hk:Kn H0 H E L)(i:Nat){l:Nat}{o o':Obj}(h:L[i]? = some (l,o))(hu:Upd H H' [(l,o')])(ho:o'≠.none):Kn H0 H' E (L.set i (l,o')):=by
 refine hk.callg hu rfl (Qmm h) (fun p hp=>?_) (fun u hu=>by simp at hu;subst hu;exact .inr (Qci (p:=(l,o)) (List.mem_of_getElem? h)))
 rcases List.mem_append.1 hp with hp|hp
 ·have hm:=List.mem_append_left L hp
  exact⟨(hk.get p hm).2,.inr ⟨hm,by simp;exact fun hh=>hk.ext p hp (hh▸hk.free i h)⟩⟩
 ·rcases Qfw hp with rfl|⟨j,hj,hp⟩
  ·exact⟨ho,.inl (by simp)⟩
  ·have hm:=List.mem_append_right E (List.mem_of_getElem? hp)
   exact⟨(hk.get p hm).2,.inr ⟨hm,by simp;exact fun hh=>hj (Qqy hk.dL hp h hh)⟩⟩
theorem Kn.fin (hk:Kn H0 H E L):Upd H0 (H.frz (Go.AE.un H0)) E:=by
 refine⟨fun p hp=>?_,fun m hm hn=>?_⟩
 ·rw[Qa8w (hk.ext p hp)];exact (hk.get p (List.mem_append_left _ hp)).1
 ·rw[Qa8w hm];exact hk.chg m hm hn
abbrev unK (H:Heap)(K:V→Heap→Prop):V→Heap→Prop
 |.pn v,H'=>K (.pn v) (H'.frz (un H))
 |x,H'=>∃x',FrzV H' (un H) x x'∧K x' (H'.frz (un H))
theorem Qbmd {K:V→Heap→Prop}{H0:Heap}{x:C}:unK H0 K (.c x) H=∃x',FrzV H (un H0) (.c x) x'∧K x' (H.frz (un H0)):=rfl
theorem Qbkz {K:V→Heap→Prop}{H0:Heap}{x:List C}:unK H0 K (.ag x) H=∃x',FrzV H (un H0) (.ag x) x'∧K x' (H.frz (un H0)):=rfl
theorem Qbi0 {K:V→Heap→Prop}{H0:Heap}{x:List V}:unK H0 K (.tup x) H=∃x',FrzV H (un H0) (.tup x) x'∧K x' (H.frz (un H0)):=rfl
theorem Qbi1 {K:V→Heap→Prop}{H0:Heap}:unK H0 K .unk H=∃x',FrzV H (un H0) .unk x'∧K x' (H.frz (un H0)):=rfl
theorem Qbk0 {K:V→Heap→Prop}{H0:Heap}{v:Value}:unK H0 K (.pn v) H=K (.pn v) (H.frz (un H0)):=rfl
attribute [go_sem] Qbmd Qbkz Qbi0 Qbi1 Qbk0
theorem Qab {f:Nat}{args:List V}{K:V→Heap→Prop}(h:Ql P f args H (unK H K)):Ql P f args H K:=
 Qaef (Q47 h fun x H' hx=>by
  cases x with
  |pn v=>exact⟨un H,hx⟩
  |_=>
   obtain⟨x',h1,h2⟩:=hx
   exact⟨un H,x',h1,h2⟩)
theorem Kn.al (hk:Kn H0 H E L){x:Nat}{o:Obj}(hx:H x=.none)(h1:H'=H.set x o)(ho:o≠.none:=by nofun):Kn H0 H' E (L++[(x,o)]):=h1▸hk.alloc hx ho
theorem Kn.stL (hk:Kn H0 H E L)(i:Nat){x:Nat}{o o':Obj}(h:L[i]? = some (x,o))(h1:H'=H.set x o')(ho:o'≠.none:=by nofun):Kn H0 H' E (L.set i (x,o')):=h1▸hk.setL i h ho
theorem Kn.stE (hk:Kn H0 H E L)(i:Nat){x:Nat}{o o':Obj}(h:E[i]? = some (x,o))(h1:H'=H.set x o')(ho:o'≠.none:=by nofun):Kn H0 H' (E.set i (x,o')) L:=h1▸hk.setE i h ho
theorem Kn.ap (hk:Kn H0 H E L)(i:Nat){y y':Nat}{o o':Obj}(h:L[i]? = some (y,o))(hy:(H.set y .none) y'=.none)(h1:H'=(H.set y .none).set y' o')(ho:o'≠.none:=by nofun):Kn H0 H' E (L.set i (y',o')):=h1▸hk.app i h hy ho
end Go.AE

namespace Go.AE.Y
theorem Qr {x:Int}(h1:-(2^63)≤x)(h2:x<2^63):inR .i64 x:=by
 unfold inR
 have a1:IntKind.min .i64=-(2^63):=by decide
 have a2:IntKind.max .i64=2^63-1:=by decide
 rw[a1,a2];omega
def Qbgy (bs:List UInt8):List (List C):=bs.map fun b=>[.int .u8 b.toNat]
structure Rdr where
 l:Nat
 fl:Bool
 bs:List UInt8
def Rdr.o (R:Rdr)(k:Nat):Obj:=.st [.sl R.fl 1 (Qbgy R.bs),.int .i64 k]
def Qha (ns:List Int):List (List C):=ns.map fun n=>[.int .i64 n]
theorem Qmj (ns:List Int):∀r∈Qha ns,noOw r=true:=by
 intro r hr;simp[Qha]at hr;obtain⟨n,_,rfl⟩:=hr;rfl
def Q1 (ss:List (List UInt8)):List (List C):=ss.map fun s=>[.str s]
theorem Qv (ss:List (List UInt8)):(Q1 ss).length=ss.length:=by simp[Q1]
theorem Qbc (ss:List (List UInt8))(i:Nat)(h:i<ss.length):(Q1 ss).getD i []=[.str (ss.getD i [])]:=by
 simp[Q1,List.getD_eq_getElem?_getD,h]
theorem Qa7h:Q1 []=[]:=rfl
theorem Qa2s (n:List UInt8)(r:List (List UInt8)):Q1 (n::r)=[.str n]::Q1 r:=rfl
theorem Q2s (a:List (List UInt8))(n:List UInt8):Q1 a++[[.str n]]=Q1 (a++[n]):=by simp[Q1]
theorem Qry (ns:List (List UInt8)):∀r∈Q1 ns,noOw r=true:=by
 intro r hr;simp[Q1]at hr;obtain⟨n,_,rfl⟩:=hr;rfl
theorem Qbew {rows:List (List C)}(h:∀r∈rows,noOw r=true):∀r∈rows,∀c∈r,c.isOw=false:=fun r hr c hc=>by
 have:=h r hr
 simp only[noOw,List.all_eq_true]at this
 simpa using this c hc
inductive Ex where
 |mk (op n:Int) (name:List UInt8) (kids:List Ex)
def Ex.op:Ex→Int|.mk op _ _ _=>op
def Ex.n:Ex→Int|.mk _ n _ _=>n
def Ex.name:Ex→List UInt8|.mk _ _ s _=>s
def Ex.kids:Ex→List Ex|.mk _ _ _ k=>k
mutual
def Ex.cells:Ex→List C
 |.mk op n name kids=>[.int .i64 op,.int .i64 n,.str name,.sl false 4 (Qm kids)]
def Qm:List Ex→List (List C)
 |[]=>[]
 |x::r=>x.cells::Qm r
end
theorem Ex.cells_eq (x:Ex):x.cells=[.int .i64 x.op,.int .i64 x.n,.str x.name,.sl false 4 (Qm x.kids)]:=by
 cases x;simp[Ex.cells,Ex.op,Ex.n,Ex.name,Ex.kids]
theorem Qma (l:List Ex):Qm l=l.map Ex.cells:=by
 induction l with
 |nil=>simp[Qm]
 |cons x r ih=>simp[Qm,ih]
theorem Qh (l:List Ex):(Qm l).length=l.length:=by simp[Qma]
theorem Q6 (l:List Ex)(i:Nat)(h:i<l.length):(Qm l).getD i []=(l[i]'h).cells:=by
 simp[Qma,List.getD_eq_getElem?_getD,h]
theorem Qei (a:List Ex)(x:Ex):Qm a++[x.cells]=Qm (a++[x]):=by simp[Qma]
theorem Ex.noOw (x:Ex):Go.AE.noOw x.cells=true:=by rw[x.cells_eq];rfl
theorem Qbp (l:List Ex):∀r∈Qm l,Go.AE.noOw r=true:=by
 intro r hr;rw[Qma]at hr;obtain⟨x,_,rfl⟩:=List.mem_map.1 hr;exact x.noOw
theorem Ex.cells_len (x:Ex):x.cells.length=4:=by rw[x.cells_eq];rfl
mutual
def Ex.size:Ex→Nat
 |.mk _ _ _ kids=>1+Qai kids
def Qai:List Ex→Nat
 |[]=>0
 |x::r=>x.size+Qai r
end
mutual
def Ex.ok:Ex→Prop
 |.mk op _ _ kids=>(op=10→kids.length=2)∧Qbhg kids
def Qbhg:List Ex→Prop
 |[]=>True
 |x::r=>x.ok∧Qbhg r
end
theorem Qz2 (a b:List Ex):Qai (a++b)=Qai a+Qai b:=by
 induction a with
 |nil=>simp[Qai]
 |cons x r ih=>simp[Qai,ih];omega
theorem Ex.size_pos (x:Ex):1≤x.size:=by cases x;simp[Ex.size]
theorem Qac {l:List Ex}{x:Ex}(h:x∈l):x.size≤Qai l:=by
 induction l with
 |nil=>simp at h
 |cons y r ih=>
  simp only[Qai]
  rcases List.mem_cons.1 h with rfl|h
  ·omega
  ·have:=ih h;omega
theorem Ex.size_kids (x:Ex):x.size=1+Qai x.kids:=by cases x;simp[Ex.size,Ex.kids]
theorem Ex.frz {H:Heap}{S:Nat→Bool}{fl:Bool}(x:Ex):FrzV H S (.ag [.int .i64 x.op,.int .i64 x.n,.str x.name,.sl fl 4 (Qm x.kids)]) (.ag x.cells):=by
 rw[x.cells_eq]
 exact (FrzL.cons (Qi rfl) (FrzL.cons (Qi rfl) (FrzL.cons (Qi rfl) (FrzL.cons (Qbhs (Qbew (Qbp _))) FrzL.nil)))).ag
end Go.AE.Y

namespace Go.AE.Y
variable {H:Heap}{S:Nat→Bool}
inductive FrzR (H:Heap)(S:Nat→Bool):List (List C)→List (List C)→Prop
 |nil:FrzR H S [] []
 |cons {r r':List C} {l l':List (List C)} (h:FrzL H S r r') (t:FrzR H S l l'):FrzR H S (r::l) (r'::l')
theorem FrzR.spec {l l':List (List C)}(h:FrzR H S l l'):l'.length=l.length∧∀(i:Nat) (r r':List C),l[i]? = some r→l'[i]? = some r'→FrzL H S r r':=by
 induction h with
 |nil=>exact⟨rfl,fun j c c' h=>by simp at h⟩
 |cons h t ih=>
  refine⟨by simp[ih.1],fun j c c' h1 h2=>?_⟩
  cases j with
  |zero=>simp at h1 h2;subst h1;subst h2;exact h
  |succ j=>simp at h1 h2;exact ih.2 j c c' h1 h2
theorem FrzR.sl {fl:Bool}{sz:Nat}{l l':List (List C)}(h:FrzR H S l l'):FrzC H S (.sl fl sz l) (.sl false sz l'):=
 .sl fl sz l l' h.spec.1 (fun i r r' h1 h2=>(h.spec.2 i r r' h1 h2).spec.1) fun i r r' j c c' h1 h2 h3 h4=>(h.spec.2 i r r' h1 h2).spec.2 j c c' h3 h4
theorem FrzR.vsl {l sz n:Nat}{rows rows':List (List C)}(hS:S l=true)(hH:H l=.vec sz rows)(hn:n=rows.length)(h:FrzR H S rows rows'):FrzC H S (.vsl l sz 0 n) (.sl false sz rows'):=by
 subst hn
 exact .vsl l sz 0 rows.length rows rows rows' hS hH (by omega) (by simp) h.spec.1 (fun i r r' h1 h2=>(h.spec.2 i r r' h1 h2).spec.1) fun i r r' j c c' h1 h2 h3 h4=>(h.spec.2 i r r' h1 h2).spec.2 j c c' h3 h4
end Go.AE.Y
namespace Go.AE
open Go.AE.Y
variable {H:Heap}{S:Nat→Bool}
theorem FrzL.same {l:List C}(h:noOw l=true):FrzL H S l l:=by
 induction l with
 |nil=>exact .nil
 |cons c r ih=>
  simp only[noOw,List.all_cons,Bool.and_eq_true,Bool.not_eq_true']at h ih
  exact .cons (.same _ h.1) (ih (by simpa using h.2))
end Go.AE
namespace Go.AE.Y
variable {H:Heap}{S:Nat→Bool}
theorem FrzR.same {l:List (List C)}(h:∀r∈l,noOw r=true):FrzR H S l l:=by
 induction l with
 |nil=>exact .nil
 |cons c r ih=>exact .cons (.same (h _ List.mem_cons_self)) (ih fun x hx=>h x (List.mem_cons_of_mem _ hx))
theorem FrzR.app {a a' b b':List (List C)}(h:FrzR H S a a')(k:FrzR H S b b'):FrzR H S (a++b) (a'++b'):=by
 induction h with
 |nil=>exact k
 |cons h t ih=>exact .cons h ih
inductive St where
 |mk (op:Int) (name:List UInt8) (args:List Ex) (body els:List St)
def St.op:St→Int|.mk op _ _ _ _=>op
def St.name:St→List UInt8|.mk _ s _ _ _=>s
def St.args:St→List Ex|.mk _ _ a _ _=>a
def St.body:St→List St|.mk _ _ _ b _=>b
def St.els:St→List St|.mk _ _ _ _ e=>e
mutual
def St.cells:St→List C
 |.mk op name args body els=>[.int .i64 op,.str name,.sl false 4 (Qm args),.sl false 5 (Qk body),.sl false 5 (Qk els)]
def Qk:List St→List (List C)
 |[]=>[]
 |x::r=>x.cells::Qk r
end
theorem St.cells_eq (x:St):x.cells=[.int .i64 x.op,.str x.name,.sl false 4 (Qm x.args),.sl false 5 (Qk x.body),.sl false 5 (Qk x.els)]:=by
 cases x;simp[St.cells,St.op,St.name,St.args,St.body,St.els]
theorem Qe8 (l:List St):Qk l=l.map St.cells:=by
 induction l with
 |nil=>simp[Qk]
 |cons x r ih=>simp[Qk,ih]
theorem Qo (l:List St):(Qk l).length=l.length:=by simp[Qe8]
theorem Q4 (l:List St)(i:Nat)(h:i<l.length):(Qk l).getD i []=(l[i]'h).cells:=by
 simp[Qe8,List.getD_eq_getElem?_getD,h]
theorem Qm6 (a b:List St):Qk a++Qk b=Qk (a++b):=by simp[Qe8]
theorem Qdr (a:List St)(x:St):Qk a++[x.cells]=Qk (a++[x]):=by simp[Qe8]
theorem St.noOw (x:St):Go.AE.noOw x.cells=true:=by rw[x.cells_eq];rfl
theorem Qa8 (l:List St):∀r∈Qk l,Go.AE.noOw r=true:=by
 intro r hr;rw[Qe8]at hr;obtain⟨x,_,rfl⟩:=List.mem_map.1 hr;exact x.noOw
theorem St.cells_len (x:St):x.cells.length=5:=by rw[x.cells_eq];rfl
mutual
def St.size:St→Nat
 |.mk _ _ args body els=>1+Qai args+Qj body+Qj els
def Qj:List St→Nat
 |[]=>0
 |x::r=>x.size+Qj r
end
mutual
def St.ok:St→Prop
 |.mk _ _ args body els=>0<args.length∧Qbhg args∧Qbit body∧Qbit els
def Qbit:List St→Prop
 |[]=>True
 |x::r=>x.ok∧Qbit r
end
theorem Q2u (a b:List St):Qj (a++b)=Qj a+Qj b:=by
 induction a with
 |nil=>simp[Qj]
 |cons x r ih=>simp[Qj,ih];omega
theorem St.size_eq (x:St):x.size=1+Qai x.args+Qj x.body+Qj x.els:=by cases x;simp[St.size,St.args,St.body,St.els]
theorem Qak {l:List St}{x:St}(h:x∈l):x.size≤Qj l:=by
 induction l with
 |nil=>simp at h
 |cons y r ih=>
  simp only[Qj]
  rcases List.mem_cons.1 h with rfl|h
  ·omega
  ·have:=ih h;omega
structure Fn where
 name:List UInt8
 params:List (List UInt8)
 body:List St
def Fn.cells (f:Fn):List C:=[.str f.name,.sl false 1 (Q1 f.params),.sl false 5 (Qk f.body)]
def Qn (l:List Fn):List (List C):=l.map Fn.cells
theorem Qw (l:List Fn):(Qn l).length=l.length:=by simp[Qn]
theorem Qal (l:List Fn)(i:Nat)(h:i<l.length):(Qn l).getD i []=(l[i]'h).cells:=by
 simp[Qn,List.getD_eq_getElem?_getD,h]
theorem Q5h (a:List Fn)(x:Fn):Qn a++[x.cells]=Qn (a++[x]):=by simp[Qn]
theorem Fn.noOw (x:Fn):Go.AE.noOw x.cells=true:=rfl
theorem Fn.cells_len (x:Fn):x.cells.length=3:=rfl
theorem Qor (l:List Fn):∀r∈Qn l,Go.AE.noOw r=true:=by
 intro r hr;obtain⟨x,_,rfl⟩:=List.mem_map.1 hr;exact x.noOw
structure GS where
 fns:List Fn
 ffl:C×List (Nat×Obj)
 vars:List (List UInt8)
 vfl:Bool
 next:Int
 left:Int
def GS.o (s:GS)(R:Rdr):Obj:=.st [.ptr R.l 0,s.ffl.1,.sl s.vfl 1 (Q1 s.vars),.int .i64 s.next,.int .i64 s.left]
structure GS.ok (s:GS)(k:Nat):Prop where
 n0:-1≤s.next
 n1:s.next≤k+10
 l0:-(4 * (k:Int)+10)≤s.left
 l1:s.left≤100
 v:s.vars.length≤k+10
 f:∀f∈s.fns,f.params.length≤3
 fn:s.fns.length≤3
theorem GS.ok.mono {s:GS}{k k':Nat}(h:s.ok k)(hk:k≤k'):s.ok k':=
 ⟨h.n0,by have:=h.n1;omega,by have:=h.l0;omega,h.l1,by have:=h.v;omega,h.f,h.fn⟩
end Go.AE.Y

namespace Go.AE
variable {H0 H H':Heap}{E L B:List (Nat×Obj)}
theorem Kn.perm {L':List (Nat×Obj)}(h:Kn H0 H E L)(hp:L.Perm L'):Kn H0 H E L':=
 ⟨fun p hp'=>h.get p (by
   rcases List.mem_append.1 hp' with a|a
   ·exact List.mem_append_left _ a
   ·exact List.mem_append_right _ (hp.mem_iff.2 a)),h.ext,fun p hp'=>h.loc p (hp.mem_iff.2 hp'),h.dE,(hp.map Prod.fst).nodup_iff.1 h.dL,h.chg⟩
def Gr (Lg:List (Nat×Obj))(sz:Nat)(rows:List (List C))(c:C):Prop:=
 (c=.sl true sz []∧rows=[]∧Lg=[])∨∃y,c=.vsl y sz 0 rows.length∧Lg=[(y,.vec sz rows)]
theorem Gr.nil (sz:Nat):Gr [] sz [] (.sl true sz []):=.inl ⟨rfl,rfl,rfl⟩
theorem Gr.mk (y sz:Nat)(rows:List (List C)){n:Nat}(hn:n=rows.length):Gr [(y,.vec sz rows)] sz rows (.vsl y sz 0 n):=.inr ⟨y,by rw[hn],rfl⟩
variable {sz:Nat}{rows:List (List C)}{c:C}{Lg:List (Nat×Obj)}
theorem Gr.isOw (h:Gr Lg sz rows c):c.isOw=false:=by rcases h with ⟨rfl,_⟩|⟨y,rfl,_⟩ <;> rfl
theorem Gr.elemSz (h:Gr Lg sz rows c):c.elemSz=sz:=by rcases h with ⟨rfl,_⟩|⟨y,rfl,_⟩ <;> rfl
theorem Gr.lenC (h:Gr Lg sz rows c):lenC c=rows.length:=by
 rcases h with ⟨rfl,rfl,_⟩|⟨y,rfl,_⟩ <;> rfl
theorem Gr.get (h:Gr Lg sz rows c)(kn:Kn H0 H E (B++Lg)):Qy4 H c∧Q9 H c=rows:=by
 rcases h with ⟨rfl,rfl,_⟩|⟨y,rfl,rfl⟩
 ·exact⟨trivial,rfl⟩
 ·have hy:H y=.vec sz rows:=(kn.get (y,.vec sz rows) (by simp)).1
  refine⟨?_,?_⟩
  ·simp[Qy4,hy]
  ·simp[Q9,hy]
theorem Gr.frz (h:Gr Lg sz rows c)(kn:Kn H0 H E (B++Lg))(hr:∀r∈rows,noOw r=true):FrzC H (un H0) c (.sl false sz rows):=by
 rcases h with ⟨rfl,rfl,_⟩|⟨y,rfl,rfl⟩
 ·exact Y.FrzR.nil.sl
 ·exact (Y.FrzR.same hr).vsl (Qw6 (kn.loc (y,.vec sz rows) (by simp))) (kn.get (y,.vec sz rows) (by simp)).1 rfl
structure Slc (H:Heap)(sz:Nat)(rws:List (List C))(b:C):Prop where
 ok:Qy4 H b
 sz:b.elemSz=sz
 rows:Q9 H b=rws
 len:Go.AE.lenC b=rws.length
theorem Slc.mk' (H:Heap)(fl:Bool)(sz:Nat)(rows:List (List C)):Slc H sz rows (.sl fl sz rows):=⟨trivial,rfl,rfl,rfl⟩
theorem Kn.grow {K:V→Heap→Prop}{new:List (List C)}{b:C}(kn:Kn H0 H E (B++Lg))(hc:Gr Lg sz rows c)(hb:Slc H sz new b)
  (h1:∀r∈new,noOw r=true) (h2:rows.length+new.length≤LIM)
  (h:∀y' H',Kn H0 H' E (B++[(y',.vec sz (rows++new))])→K (.c (.vsl y' sz 0 (rows.length+new.length))) H'):appQ H sz c b K:=by
 refine⟨hb.ok,hb.sz,?_⟩
 rcases hc with ⟨rfl,rfl,rfl⟩|⟨y,rfl,rfl⟩
 ·simp only[hb.rows,hb.len,List.nil_append,List.length_nil,Nat.zero_add]
  refine⟨trivial,.inl trivial,h1,by simpa using h2,fun l hl H' hH'=>?_⟩
  rw[List.append_nil]at kn
  have:=h l H' (by simpa using kn.al hl hH')
  simpa using this
 ·have hy:H y=.vec sz rows:=(kn.get (y,.vec sz rows) (by simp)).1
  simp only[hy,hb.rows,hb.len,List.drop_zero,List.take_length]
  refine⟨trivial,trivial,by omega,h1,h2,fun l' hl' H' hH'=>?_⟩
  refine h l' H' ?_
  have:=kn.ap B.length (y:=y) (o:=.vec sz rows) (by simp) hl' hH'
  simpa using this
end Go.AE
namespace Go.AE.Y
variable {H H':Heap}{R:Rdr}{gl:Nat}{s s':GS}{L:List (Nat×Obj)}{o q:Obj}
end Go.AE.Y

namespace Go.AE
variable {H0 H H':Heap}{E L B E0 L0 Lg:List (Nat×Obj)}
def New (H H':Heap)(N:List (Nat×Obj)):Prop:=∀p∈N,H p.1=.none∧H' p.1=p.2
def unx (H:Heap)(Lg:List (Nat×Obj))(m:Nat):Bool:=un H m&&!(Lg.map Prod.fst).contains m
theorem Qa38 {m:Nat}(h:H m≠.none):unx H Lg m=false:=by simp[unx,Qbcj h]
theorem Qbi2 {p:Nat×Obj}(h:p∈Lg):unx H Lg p.1=false:=by
 have:p.1∈Lg.map Prod.fst:=Qci h
 simp only[unx,Bool.and_eq_false_iff,Bool.not_eq_false']
 exact .inr (List.contains_iff_mem.2 this)
theorem Kn.finx (hk:Kn H0 H E (B++Lg)):Upd H0 (H.frz (Go.AE.unx H0 Lg)) E∧New H0 (H.frz (Go.AE.unx H0 Lg)) Lg:=by
 refine⟨⟨fun p hp=>?_,fun m hm hn=>?_⟩,fun p hp=>⟨hk.loc p (List.mem_append_right _ hp),?_⟩⟩
 ·have:H.frz (Go.AE.unx H0 Lg) p.1=H p.1:=by simp[Heap.frz,Qa38 (hk.ext p hp)]
  rw[this];exact (hk.get p (List.mem_append_left _ hp)).1
 ·have:H.frz (Go.AE.unx H0 Lg) m=H m:=by simp[Heap.frz,Qa38 hm]
  rw[this];exact hk.chg m hm hn
 ·have:H.frz (Go.AE.unx H0 Lg) p.1=H p.1:=by simp only[Heap.frz];rw[Qbi2 hp];rfl
  rw[this];exact (hk.get p (List.mem_append_right _ (List.mem_append_right _ hp))).1
end Go.AE
namespace Go.AE.Y
theorem Qua {b:Bool}(h:(!b)=false):b=true:=by simpa using h
theorem Q3h {b:Bool}(h:(!b)=true):b=false:=by simpa using h
theorem Ex.ne_nil (x:Ex):(x.cells=[])=False:=by rw[x.cells_eq];simp
theorem Ex.take4 (x:Ex):x.cells.take 4=x.cells:=List.take_of_length_le (by rw[x.cells_len];omega)
theorem Ex.allOw (x:Ex):(x.cells.all fun c=>!c.isOw)=true:=x.noOw
theorem St.take5 (x:St):x.cells.take 5=x.cells:=List.take_of_length_le (by rw[x.cells_len];omega)
theorem St.allOw (x:St):(x.cells.all fun c=>!c.isOw)=true:=x.noOw
theorem Fn.take3 (x:Fn):x.cells.take 3=x.cells:=List.take_of_length_le (by rw[x.cells_len];omega)
theorem Fn.allOw (x:Fn):(x.cells.all fun c=>!c.isOw)=true:=x.noOw
end Go.AE.Y

namespace Go.AE
variable {H0 H H':Heap}{E L B A:List (Nat×Obj)}{P:Program}
theorem c_gh {b:SC}{Q:X→Env→Heap→Prop}{e e':Env}(h:Qbgq e H e' H')(hb:Qae P b Q e' H'):Qae P (.seq .gh b) Q e H:=⟨e',H',h,hb⟩
theorem Kn.drop (kn:Kn H0 H E (A++B)):Kn H0 H E A:=
 ⟨fun p hp=>kn.get p (by
   rcases List.mem_append.1 hp with h|h
   ·exact List.mem_append_left _ h
   ·exact List.mem_append_right _ (List.mem_append_left _ h)),kn.ext,fun p hp=>kn.loc p (List.mem_append_left _ hp),kn.dE,by
   have:=kn.dL;rw[List.map_append]at this;exact (List.nodup_append.1 this).1,kn.chg⟩
theorem Kn.freeze {z gl:Nat}{o og og':Obj}(kn:Kn H0 H E (B++[(z,o)]))(i:Nat)(hB:B[i]? = some (gl,og))(hO:FrzO H (fun m=>m == z) og og')(hn:og'≠.none) :
  FrzH H (fun m=>m == z) ((H.frz fun m=>m == z).set gl og')∧Kn H0 ((H.frz fun m=>m == z).set gl og') E (B.set i (gl,og')):=by
 have hzf:H0 z=.none:=kn.loc (z,o) (by simp)
 have hnd:=kn.dL
 rw[List.map_append]at hnd
 have hne:∀p∈B,p.1≠z:=fun p hp hh=>(List.nodup_append.1 hnd).2.2 _ (Qci hp) z (by simp) hh
 have hneE:∀p∈E,p.1≠z:=fun p hp hh=>kn.ext p hp (hh▸hzf)
 have hgl:=hne _ (List.mem_of_getElem? hB)
 have hH:H gl=og:=(kn.get (gl,og) (List.mem_append_right _ (List.mem_append_left _ (List.mem_of_getElem? hB)))).1
 refine⟨(Qapb _ _).set (by simpa using hgl) (by rw[hH];exact hO),?_⟩
 have kn1:Kn H0 (H.frz fun m=>m == z) E B:=by
  refine⟨fun p hp=>?_,kn.ext,fun p hp=>kn.loc p (List.mem_append_left _ hp),kn.dE,(List.nodup_append.1 hnd).1,fun m hm hx=>?_⟩
  ·have:p.1≠z:=by
    rcases List.mem_append.1 hp with h|h
    ·exact hneE p h
    ·exact hne p h
   have h2:(H.frz fun m=>m == z) p.1=H p.1:=by simp[Heap.frz,this]
   rw[h2]
   refine kn.get p ?_
   rcases List.mem_append.1 hp with h|h
   ·exact List.mem_append_left _ h
   ·exact List.mem_append_right _ (List.mem_append_left _ h)
  ·have:m≠z:=fun h=>hm (h▸hzf)
   have h2:(H.frz fun m=>m == z) m=H m:=by simp[Heap.frz,this]
   rw[h2];exact kn.chg m hm hx
 exact kn1.setL i hB hn
end Go.AE

namespace Go.AE
variable {H0 F H:Heap}{E E0 E' L L1 L2 M:List (Nat×Obj)}
theorem Kn.startE (h:∀p∈E,H p.1=p.2∧p.2≠.none)(hd:(E.map Prod.fst).Nodup):Kn H H E []:=
 ⟨by simpa using h,fun p hp=>by rw[(h p hp).1];exact (h p hp).2,by simp,hd,by simp,fun _ _ _=>rfl⟩
theorem Kn.comp (k1:Kn H0 F E0 (L1++L2))(k2:Kn F H E' M)(hE:E'.map Prod.fst=L1.map Prod.fst):Kn H0 H E0 ((E'++L2)++M):=by
 have hd:=k1.dL
 rw[List.map_append]at hd
 obtain⟨d1,d2,d3⟩:=List.nodup_append.1 hd
 have hE0:∀p∈E0,F p.1=p.2∧p.2≠.none:=fun p hp=>k1.get p (List.mem_append_left _ hp)
 have hL2:∀p∈L2,F p.1=p.2∧p.2≠.none:=fun p hp=>k1.get p (List.mem_append_right _ (List.mem_append_right _ hp))
 have inL1:∀p∈E',∃q∈L1,q.1=p.1:=fun p hp=>by
  have:=Qci hp;rw[hE]at this
  obtain⟨q,h1,h2⟩:=List.mem_map.1 this;exact⟨q,h1,h2⟩
 have keep:∀m,F m≠.none→m∉L1.map Prod.fst→H m=F m:=fun m h1 h2=>k2.chg m h1 (by rw[hE];exact h2)
 have hE0L:∀p∈E0,∀q∈L1,p.1≠q.1:=fun p hp q hq hh=>k1.ext p hp (hh▸k1.loc q (List.mem_append_left _ hq))
 refine⟨fun p hp=>?_,k1.ext,fun p hp=>?_,k1.dE,?_,fun m hm hn=>?_⟩
 ·rcases List.mem_append.1 hp with hp|hp
  ·obtain⟨h1,h2⟩:=hE0 p hp
   refine⟨?_,h2⟩
   rw[keep p.1 (by rw[h1];exact h2) (fun hh=>?_),h1]
   obtain⟨q,hq,hqq⟩:=List.mem_map.1 hh
   exact hE0L p hp q hq hqq.symm
  ·rcases List.mem_append.1 hp with hp|hp
   ·rcases List.mem_append.1 hp with hp|hp
    ·exact k2.get p (List.mem_append_left _ hp)
    ·obtain⟨h1,h2⟩:=hL2 p hp
     refine⟨?_,h2⟩
     rw[keep p.1 (by rw[h1];exact h2) (fun hh=>?_),h1]
     exact d3 _ hh _ (Qci hp) rfl
   ·exact k2.get p (List.mem_append_right _ hp)
 ·rcases List.mem_append.1 hp with hp|hp
  ·rcases List.mem_append.1 hp with hp|hp
   ·obtain⟨q,hq,hh⟩:=inL1 p hp
    rw[←hh];exact k1.loc q (List.mem_append_left _ hq)
   ·exact k1.loc p (List.mem_append_right _ hp)
  ·have h1:=k2.loc p hp
   cases h0:H0 p.1 with
   |none=>rfl
   |_=>
    by_cases hx:p.1∈E0.map Prod.fst
    ·obtain⟨q,hq,hh⟩:=List.mem_map.1 hx
     obtain⟨a1,a2⟩:=hE0 q hq
     rw[hh,h1]at a1;exact absurd a1.symm a2
    ·have:=k1.chg p.1 (by rw[h0];simp) hx
     rw[h1,h0]at this;simp at this
 ·rw[List.map_append,List.map_append]
  refine List.nodup_append.2 ⟨List.nodup_append.2 ⟨k2.dE,d2,fun a ha b hb=>?_⟩,k2.dL,fun a ha b hb hab=>?_⟩
  ·rw[hE]at ha;exact d3 a ha b hb
  ·obtain⟨q,hq,rfl⟩:=List.mem_map.1 hb
   have hf:=k2.loc q hq
   rcases List.mem_append.1 ha with ha|ha
   ·obtain⟨r,hr,rfl⟩:=List.mem_map.1 ha
    exact k2.ext r hr (hab▸hf)
   ·obtain⟨r,hr,rfl⟩:=List.mem_map.1 ha
    obtain⟨a1,a2⟩:=hL2 r hr
    rw[hab,hf]at a1;exact a2 a1.symm
 ·rw[keep m (by rw[k1.chg m hm hn];exact hm) (fun hh=>?_),k1.chg m hm hn]
  obtain⟨q,hq,rfl⟩:=List.mem_map.1 hh
  exact hm (k1.loc q (List.mem_append_left _ hq))
theorem Kn.upd (k:Kn H0 H E L):Upd H0 H E:=⟨fun p hp=>(k.get p (List.mem_append_left _ hp)).1,fun m hm hn=>k.chg m hm hn⟩
theorem Y.FrzL.ptr {S:Nat→Bool}{l:Nat}{cells cells':List C}(hS:S l=true)(hH:H l=.st cells)(h:FrzL H S cells cells'):FrzC H S (.ptr l 0) (.pp cells'):=by
 obtain⟨h1,h2⟩:=h.spec
 exact .ptr l 0 cells cells cells' hS hH rfl h1 h2
theorem Kn.growR {B Lg:List (Nat×Obj)}{K:V→Heap→Prop}{sz:Nat}{rows new:List (List C)}{b c:C}(kn:Kn H0 H E (B++Lg))(hc:Gr Lg sz rows c)(hb:Slc H sz new b)
  (h1:∀r∈new,noOw r=true) (h2:rows.length+new.length≤LIM)
  (h:∀t Lg' H',Gr Lg' sz (rows++new) t→t.isOw=false→Kn H0 H' E (B++Lg')→K (.c t) H'):appQ H sz c b K:=
 kn.grow hc hb h1 h2 fun y' H' k=>h _ _ H' (.mk y' sz _ (by simp)) rfl k
theorem Kn.comp0 {H':Heap}{N:List (Nat×Obj)}(kn:Kn H0 H E L)(k2:Kn H H' [] N):Kn H0 H' E (L++N):=by
 have hne:∀p∈E++L,H p.1≠.none:=fun p hp=>by obtain⟨a,b⟩:=kn.get p hp;rw[a];exact b
 refine⟨fun p hp=>?_,kn.ext,fun p hp=>?_,kn.dE,?_,fun m hm hx=>?_⟩
 ·rw[←List.append_assoc]at hp
  rcases List.mem_append.1 hp with hp|hp
  ·obtain⟨a,b⟩:=kn.get p hp
   exact⟨by rw[k2.chg p.1 (hne p hp) (by simp),a],b⟩
  ·exact k2.get p (by simpa using hp)
 ·rcases List.mem_append.1 hp with hp|hp
  ·exact kn.loc p hp
  ·exact (kn.newFree (k2.loc p hp)).1
 ·rw[List.map_append]
  refine List.nodup_append.2 ⟨kn.dL,k2.dL,fun a ha b hb hab=>?_⟩
  obtain⟨p,hp,rfl⟩:=List.mem_map.1 ha
  obtain⟨q,hq,rfl⟩:=List.mem_map.1 hb
  exact hne p (List.mem_append_right _ hp) (by rw[hab];exact k2.loc q hq)
 ·have:=kn.chg m hm hx
  rw[k2.chg m (by rw[this];exact hm) (by simp),this]
theorem Kn.sub {L':List (Nat×Obj)}(kn:Kn H0 H E L)(hs:L'.Sublist L):Kn H0 H E L':=
 ⟨fun p hp=>kn.get p (by
   rcases List.mem_append.1 hp with h|h
   ·exact List.mem_append_left _ h
   ·exact List.mem_append_right _ (hs.subset h)),kn.ext,fun p hp=>kn.loc p (hs.subset hp),kn.dE,kn.dL.sublist (hs.map _),kn.chg⟩
end Go.AE

namespace Go.AE
variable {P:Program}{H:Heap}{g:G}{w:World}
def C.free:C→Bool
 |.int _ _|.bool _|.str _|.pnil|.vsl _ _ _ _=>true
 |.sl true _ []=>true
 |_=>false
def V.free1:V→Bool
 |.c x=>x.free
 |.ag cs=>cs.all C.free
 |_=>false
def V.free:V→Bool
 |.c x=>x.free
 |.ag cs=>cs.all C.free
 |.tup vs=>vs.all V.free1
 |_=>false
theorem Q25 {w:World}{g g':G}(hio:∀l x,g.io l=some x→g'.io l=some x){c:C}{v:Value}(hc:c.free=true)(h:RepC w g c v):RepC w g' c v:=by
 cases h with
 |int k n=>exact .int _ _
 |bool b=>exact .bool _
 |str _ h=>exact .str _ h
 |pnil=>exact .pnil
 |vslnil l sz st a=>exact .vslnil _ _ _ _
 |vsl l sz st n cap b base T m h hn hs hm=>exact .vsl l sz st n cap b base T m (hio _ _ h) hn hs hm
 |slnil fl sz a=>exact .slnil _ _ _
 |sl fl sz rows b off cap val hl hf hcap hp hr hc' hv=>
  cases fl with
  |false=>cases rows <;> simp[C.free]at hc
  |true=>
   cases rows with
   |cons r rs=>simp[C.free]at hc
   |nil=>
    have:=hf rfl
    subst this
    exact .slnil _ _ _
 |_=>simp[C.free]at hc
theorem Qa8r {w:World}{g g':G}(hio:∀l x,g.io l=some x→g'.io l=some x){c:V}{v:Value}(hc:c.free1=true)(h:RepV w g c v):RepV w g' c v:=by
 cases h with
 |c x v h=>exact .c _ _ (Q25 hio hc h)
 |ag cs vs hl h=>exact .ag _ _ hl fun j c u h1 h2=>Q25 hio (List.all_eq_true.1 hc c (List.mem_of_getElem? h1)) (h j c u h1 h2)
 |_=>simp[V.free1]at hc
theorem Qa8s {w:World}{g g':G}(hio:∀l x,g.io l=some x→g'.io l=some x){c:V}{v:Value}(hc:c.free=true)(h:RepV w g c v):RepV w g' c v:=by
 cases h with
 |c x v h=>exact .c _ _ (Q25 hio hc h)
 |ag cs vs hl h=>exact .ag _ _ hl fun j c u h1 h2=>Q25 hio (List.all_eq_true.1 hc c (List.mem_of_getElem? h1)) (h j c u h1 h2)
 |tup xs vs hl h=>exact .tup _ _ hl fun j x u h1 h2=>Qa8r hio (List.all_eq_true.1 hc x (List.mem_of_getElem? h1)) (h j x u h1 h2)
 |_=>simp[V.free]at hc
def Qbl (H:Heap):Heap:=fun l=>match H l with
 |.gl b c=>.gl b c
 |_=>.none
def Q2x (H H':Heap):Heap:=fun l=>match H l with
 |.none=>H' l
 |o=>o
def NewL (H H':Heap):Prop:=∀m,H' m=H m∨(H m=.none∧∃sz rows,H' m=.vec sz rows∧∀r∈rows,∀c∈r,c.free=true)
def Qt6 (g:G)(H:Heap)(S:Nat→Bool)(b:Nat):Bool:=match g.own b with
 |some (l,_)=>S l&&(H l).used
 |none=>false
theorem Qank {f:Nat}{args args':List V}{K:V→Heap→Prop}(S:Nat→Bool)(hla:args'.length=args.length)
  (ha:∀(j:Nat) (x y:V),args[j]? = some x→args'[j]? = some y→FrzV H S x y)
  (h:Ql P f args' (Qbl H) fun x H'=>x.free=true∧NewL (Qbl H) H'∧((∀l,H l≠.none→H' l=Qbl H l)→K x (Q2x H H'))):Ql P f args H K:=by
 refine⟨h.1,fun g w vs hs hl hv=>?_⟩
 have hle0:=Qa8v H S g w
 have hst0:=Qajh hs S
 have hio0:(g.frz H S).io=g.io:=rfl
 have hlp:∀b,Qt6 g H S b=true→(g.frz H S).per b=true:=fun b hb=>by
  simp only[G.frz,Bool.or_eq_true];exact .inr hb
 have hno:∀b,Qt6 g H S b=false→(g.frz H S).own b=g.own b:=fun b hb=>by
  simp only[Qt6]at hb
  simp only[G.frz]
  cases ho:g.own b with
  |none=>rfl
  |some x=>
   obtain⟨l,p⟩:=x
   rw[ho]at hb
   simp only at hb⊢
   rw[if_neg (by simpa using hb)]
 have hgl:∀(w2:World) (g2:G) (H2:Heap),Le g w g2 w2→∀l b c,H l=.gl b c→SatObj H2 g2 w2 l (.gl b c):=by
  intro w2 g2 H2 hle l b c hh
  have:=hs.objs l
  rw[hh]at this
  obtain⟨sz,val,k1,k2,k3,k4⟩:=this
  exact⟨sz,val,hle.io _ _ k1,(hle.per b k2).1,fun j c hj=>by rw[Qir (w:=w) (hle.per b k2).2];exact k3 j c hj,fun j c hj=>(k4 j c hj).mono hle⟩
 have hsF:Sat (Qbl H) (g.frz H S) w:=by
  refine⟨hst0.sat.fresh,hst0.sat.names,hst0.sat.excl,hst0.sat.named,fun l=>?_⟩
  cases hh:H l with
  |gl b c=>
   have:Qbl H l=.gl b c:=by simp only[Qbl,hh]
   rw[this]
   exact hgl w _ _ hle0 l b c hh
  |_=>
   have:Qbl H l=.none:=by simp only[Qbl,hh]
   rw[this];exact trivial
 have hv':∀(j:Nat) (x:V) (u:Value),args'[j]? = some x→vs[j]? = some u→RepV w (g.frz H S) x u:=fun j y u h1 h2=>by
  obtain⟨x,hx⟩:=Q8 hla h1
  exact Qxk hs (ha j x y hx h1) u (hv j x u hx h2)
 refine Calls.mono (h.2 (g.frz H S) w vs hsF (by rw[hla];exact hl) hv') ?_
 rintro e w' (⟨v,x,H',g',he,⟨hfree,hnew,hk⟩,hst,hr⟩|⟨v,H',g',he,⟨hfree,_⟩,_⟩)
 rotate_left
 ·simp[V.free]at hfree
 let gB:G:=⟨fun b=>g'.per b&&!Qt6 g H S b,fun b=>if Qt6 g H S b=true then g.own b else g'.own b,g'.io⟩
 have hlh:∀b,Qt6 g H S b=true→g'.per b=true∧w'.heap[b]? = w.heap[b]?:=fun b hb=>hst.le.per b (hlp b hb)
 have hnl:∀b,g.per b=true→Qt6 g H S b=false:=fun b hb=>by
  cases hx:Qt6 g H S b with
  |false=>rfl
  |true=>
   simp only[Qt6]at hx
   cases ho:g.own b with
   |none=>rw[ho]at hx;simp at hx
   |some y=>rw[hs.excl b y ho]at hb;simp at hb
 have hnl':∀b y,g'.own b=some y→Qt6 g H S b=false:=fun b y hb=>by
  cases hx:Qt6 g H S b with
  |false=>rfl
  |true=>
   have:=(hlh b hx).1
   rw[hst.sat.excl b y hb]at this;simp at this
 have hle:Le g w gB w':=⟨fun b hb=>by
   obtain⟨k1,k2⟩:=hst.le.per b (hle0.per b hb).1
   exact⟨by simp only[gB,k1,hnl b hb];rfl,k2⟩,fun l y hy=>hst.le.io l y hy,hst.le.size,hst.le.shp,hst.le.tape,hst.le.os,hst.le.output⟩
 have hkeep:∀l,H l≠.none→(∀b c,H l≠.gl b c)→Q2w g w gB w' l:=by
  intro l h1 h2 b q hb
  cases hx:Qt6 g H S b with
  |true=>exact⟨by simp only[gB,hx,if_true];exact hb,(hlh b hx).2⟩
  |false=>
   have e1:Qbl H l=.none:=by simp only[Qbl]
   obtain⟨_,k2⟩:=hst.fr l (hs.io_some h1) e1
   obtain⟨k3,k4⟩:=k2 b q (by rw[hno b hx];exact hb)
   exact⟨by simp only[gB,hx];exact k3,k4⟩
 have hback:∀l,H l=.none→Q2x H H' l=H' l:=fun l hl=>by simp only[Q2x,hl]
 have hback2:∀l,H l≠.none→Q2x H H' l=H l:=fun l hl=>by
  simp only[Q2x]
 have hkh:∀l,H l≠.none→H' l=Qbl H l:=fun l hl=>by
  cases hh:H l with
  |gl b c=>
   have e1:Qbl H l=.gl b c:=by simp only[Qbl,hh]
   rcases hnew l with h1|⟨h1,_⟩
   ·exact h1
   ·rw[e1]at h1;simp at h1
  |none=>exact absurd hh hl
  |_=>
   have e1:Qbl H l=.none:=by simp only[Qbl,hh]
   rw[e1]
   exact (hst.fr l (hs.io_some hl) e1).1
 refine .inl ⟨v,x,Q2x H H',gB,he,hk hkh,⟨hle,?_,⟨?_,?_,?_,?_,?_⟩⟩,Qa8s (g:=g') (g':=gB) (fun _ _ h=>h) hfree hr⟩
 ·intro l hl hn
  have e1:Qbl H l=.none:=by simp only[Qbl,hn]
  obtain⟨k1,k2⟩:=hst.fr l hl e1
  refine⟨by rw[hback l hn];exact k1,fun b p hb=>?_⟩
  have hx:Qt6 g H S b=false:=by simp only[Qt6,hb,hn,Obj.used,Bool.and_false]
  obtain⟨k3,k4⟩:=k2 b p (by rw[hno b hx];exact hb)
  exact⟨by simp only[gB,hx];exact k3,k4⟩
 ·intro b hb
  obtain⟨k1,k2⟩:=hst.sat.fresh b hb
  have hx:Qt6 g H S b=false:=by
   have:=(hs.fresh b (Nat.le_trans hst.le.size hb)).2
   simp only[Qt6,this]
  exact⟨by simp only[gB,k1,Bool.false_and],by simp only[gB,hx];exact k2⟩
 ·exact hst.sat.names
 ·intro b y hb
  cases hx:Qt6 g H S b with
  |true=>simp only[gB,hx,Bool.not_true,Bool.and_false]
  |false=>
   simp only[gB,hx,Bool.false_eq_true,if_false]at hb
   simp only[gB,hst.sat.excl b y hb,Bool.false_and]
 ·intro b l p hb
  cases hx:Qt6 g H S b with
  |true=>
   simp only[gB,hx,if_true]at hb
   have h1:=hs.named b l p hb
   cases h2:g.io l with
   |none=>exact absurd h2 h1
   |some y=>
    have:=hst.le.io l y h2
    show g'.io l≠none
    rw[this];simp
  |false=>
   simp only[gB,hx,Bool.false_eq_true,if_false]at hb
   exact hst.sat.named b l p hb
 ·intro l
  cases hh:H l with
  |none=>
   rw[hback l hh]
   have e1:Qbl H l=.none:=by simp only[Qbl,hh]
   rcases hnew l with h1|⟨_,sz,rows,h1,h2⟩
   ·rw[h1,e1];exact trivial
   ·have ho:=hst.sat.objs l
    rw[h1]at ho⊢
    rcases ho with ho|⟨b,base,T,cs,val,r1,r2,r3,r4,r5,r6,r7,r8⟩
    ·exact .inl ho
    ·refine .inr ⟨b,base,T,cs,val,r1,by simp only[gB,hnl' b _ r2];exact r2,r3,r4,r5,r6,r7,fun i row j c hi hj=>?_⟩
     have hf:=h2 row (List.mem_of_getElem? hi) c (List.mem_of_getElem? hj)
     exact .plain _ _ _ _ (Q25 (g:=g') (g':=gB) (fun _ _ h=>h) hf ((r8 i row j c hi hj).plain_of fun sz rows hc=>by subst hc;simp[C.free]at hf))
  |gl b c=>
   rw[hback2 l (by rw[hh];simp),hh]
   exact hgl w' gB _ hle l b c hh
  |_=>
   refine SatObj.keep (H':=Q2x H H') hs hle (hkeep l (by rw[hh];simp) (by rw[hh];simp)) (hback2 l (by rw[hh];simp)) fun m' v left cur hc v' es hv=>?_
   have hmio:g.io m'≠none:=by
    have:=hs.objs l
    rw[hc]at this
    obtain⟨b,mb,s,se,_,_,_,h4,_⟩:=this
    rw[h4];simp
   cases hm:H m' with
   |none=>
    rw[hback m' hm]at hv
    have e1:Qbl H m'=.none:=by simp only[Qbl,hm]
    rw[(hst.fr m' hmio e1).1]at hv;simp at hv
   |map v0 es0=>
    rw[hback2 m' (by rw[hm];simp),hm]at hv
    exact .inl ⟨hv,hkeep m' (by rw[hm];simp) (by rw[hm];simp)⟩
   |_=>rw[hback2 m' (by rw[hm];simp),hm]at hv;simp at hv
end Go.AE

namespace Go.AE
variable {P:Program}{H0 H H':Heap}{E L M N A B Lg:List (Nat×Obj)}{S:Nat→Bool}{K:V→Heap→Prop}
def C.atom:C→Bool
 |.int _ _|.bool _|.str _=>true
 |_=>false
inductive OwL:List (Nat×Obj)→List C→List C→Prop
 |nil:OwL [] [] []
 |atom {L c cs cs'} (h:C.atom c=true) (t:OwL L cs cs'):OwL L (c::cs) (c::cs')
 |sln {L sz cs cs'} (t:OwL L cs cs'):OwL L (.sl true sz []::cs) (.sl false sz []::cs')
 |vec {L M y sz rows rows' n cs cs'} (hn:n=rows.length) (hl:rows'.length=rows.length) (hr:∀r∈rows,r.length=sz) (hr':∀r∈rows',r.length=sz)
   (h:OwL M rows.flatten rows'.flatten) (t:OwL L cs cs'):OwL (((y,.vec sz rows)::M)++L) (.vsl y sz 0 n::cs) (.sl false sz rows'::cs')
theorem OwL.len {cs cs':List C}(h:OwL L cs cs'):cs'.length=cs.length:=by
 induction h with
 |nil=>rfl
 |atom _ _ ih=>simp[ih]
 |sln _ ih=>simp[ih]
 |vec _ _ _ _ _ _ _ ih=>simp[ih]
theorem OwL.app {a a' b b':List C}(h:OwL L a a')(k:OwL M b b'):OwL (L++M) (a++b) (a'++b'):=by
 induction h with
 |nil=>exact k
 |atom h _ ih=>exact .atom h ih
 |sln _ ih=>exact .sln ih
 |vec hn hl hr hr' h _ _ ih=>rw[List.append_assoc];exact .vec hn hl hr hr' h ih
theorem OwL.split {b:List C}:∀{a:List C} {L:List (Nat×Obj)} {cs':List C},OwL L (a++b) cs'→∃L1 L2 a' b',L=L1++L2∧cs'=a'++b'∧OwL L1 a a'∧OwL L2 b b'
 |[],L,cs',h=>⟨[],L,[],cs',rfl,rfl,.nil,h⟩
 |c::a,L,cs',h=>by
  rw[List.cons_append]at h
  cases h with
  |atom h t=>
   obtain⟨L1,L2,a',b',rfl,rfl,h1,h2⟩:=OwL.split t
   exact⟨L1,L2,_::a',b',rfl,rfl,.atom h h1,h2⟩
  |sln t=>
   obtain⟨L1,L2,a',b',rfl,rfl,h1,h2⟩:=OwL.split t
   exact⟨L1,L2,_::a',b',rfl,rfl,.sln h1,h2⟩
  |vec hn hl hr hr' h t=>
   obtain⟨L1,L2,a',b',rfl,rfl,h1,h2⟩:=OwL.split t
   exact⟨_++L1,L2,_::a',b',(List.append_assoc _ _ _).symm,rfl,.vec hn hl hr hr' h h1,h2⟩
theorem OwL.noOw {cs cs':List C}(h:OwL L cs cs'):noOw cs=true:=by
 induction h with
 |nil=>rfl
 |@atom _ c _ _ h _ ih=>
  simp only[Go.AE.noOw,List.all_cons,Bool.and_eq_true]at ih⊢
  exact⟨by cases c <;> first|rfl|simp[C.atom]at h,ih⟩
 |sln _ ih=>simp only[Go.AE.noOw,List.all_cons,Bool.and_eq_true]at ih⊢;exact⟨rfl,ih⟩
 |vec _ _ _ _ _ _ _ ih=>simp only[Go.AE.noOw,List.all_cons,Bool.and_eq_true]at ih⊢;exact⟨rfl,ih⟩
theorem OwL.free {cs cs':List C}(h:OwL L cs cs'):cs.all C.free=true:=by
 induction h with
 |nil=>rfl
 |@atom _ c _ _ h _ ih=>
  simp only[List.all_cons,Bool.and_eq_true]at ih⊢
  exact⟨by cases c <;> first|rfl|simp[C.atom]at h,ih⟩
 |sln _ ih=>simp only[List.all_cons,Bool.and_eq_true]at ih⊢;exact⟨rfl,ih⟩
 |vec _ _ _ _ _ _ _ ih=>simp only[List.all_cons,Bool.and_eq_true]at ih⊢;exact⟨rfl,ih⟩
theorem OwL.vecs {cs cs':List C}(h:OwL L cs cs'):∀p∈L,∃sz rows,p.2=.vec sz rows∧∀r∈rows,∀c∈r,c.free=true:=by
 induction h with
 |nil=>simp
 |atom _ _ ih=>exact ih
 |sln _ ih=>exact ih
 |vec _ _ _ _ h _ ih1 ih2=>
  intro p hp
  rcases List.mem_append.1 hp with hp|hp
  ·rcases List.mem_cons.1 hp with rfl|hp
   ·exact⟨_,_,rfl,fun r hr c hc=>List.all_eq_true.1 h.free c (List.mem_flatten.2 ⟨r,hr,hc⟩)⟩
   ·exact ih1 p hp
  ·exact ih2 p hp
theorem Qanz {b:List C}:∀{a:List C} {cs':List C},FrzL H S (a++b) cs'→∃a' b',cs'=a'++b'∧FrzL H S a a'∧FrzL H S b b'
 |[],cs',h=>⟨[],cs',rfl,.nil,h⟩
 |c::a,cs',h=>by
  rw[List.cons_append]at h
  cases h with
  |cons h t=>
   obtain⟨a',b',rfl,h1,h2⟩:=Qanz t
   exact⟨_::a',b',rfl,.cons h h1,h2⟩
theorem Qa8t {sz:Nat}:∀{rows rows':List (List C)},rows'.length=rows.length→(∀r∈rows,r.length=sz)→(∀r∈rows',r.length=sz)→FrzL H S rows.flatten rows'.flatten→Y.FrzR H S rows rows'
 |[],[],_,_,_,_=>.nil
 |r::rows,r'::rows',hl,h1,h2,h=>by
  rw[List.flatten_cons,List.flatten_cons]at h
  obtain⟨a',b',h3,h4,h5⟩:=Qanz h
  have hla:a'.length=r'.length:=by rw[h4.spec.1,h1 r (by simp),h2 r' (by simp)]
  obtain⟨rfl,rfl⟩:=List.append_inj h3.symm hla
  exact .cons h4 (Qa8t (by simpa using hl) (fun x hx=>h1 x (by simp[hx])) (fun x hx=>h2 x (by simp[hx])) h5)
 |[],_::_,hl,_,_,_=>by simp at hl
 |_::_,[],hl,_,_,_=>by simp at hl
theorem OwL.frz {cs cs':List C}(h:OwL L cs cs')(hm:∀p∈L,H p.1=p.2∧S p.1=true):FrzL H S cs cs':=by
 induction h with
 |nil=>exact .nil
 |@atom _ c _ _ h _ ih=>exact .cons (.same _ (by cases c <;> first|rfl|simp[C.atom]at h)) (ih hm)
 |sln _ ih=>exact .cons Y.FrzR.nil.sl (ih hm)
 |vec hn hl hr hr' h _ ih1 ih2=>
  refine .cons ?_ (ih2 fun p hp=>hm p (List.mem_append_right _ hp))
  obtain⟨h1,h2⟩:=hm _ (List.mem_append_left _ List.mem_cons_self)
  exact (Qa8t hl hr hr' (ih1 fun p hp=>hm p (List.mem_append_left _ (List.mem_cons_of_mem _ hp)))).vsl h2 h1 hn
def OwS (L:List (Nat×Obj))(sz:Nat)(rows':List (List C))(t:C):Prop:=
 (t=.sl true sz []∧rows'=[]∧L=[])∨∃y M rows,t=.vsl y sz 0 rows.length∧L=(y,.vec sz rows)::M∧rows'.length=rows.length∧(∀r∈rows,r.length=sz)∧(∀r∈rows',r.length=sz)∧OwL M rows.flatten rows'.flatten
theorem OwS.cons {sz:Nat}{rows':List (List C)}{t:C}{cs cs':List C}(h:OwS L sz rows' t)(k:OwL M cs cs'):OwL (L++M) (t::cs) (.sl false sz rows'::cs'):=by
 rcases h with ⟨rfl,rfl,rfl⟩|⟨y,N,rows,rfl,rfl,h1,h2,h3,h4⟩
 ·exact .sln k
 ·exact .vec rfl h1 h2 h3 h4 k
theorem OwS.one {sz:Nat}{rows':List (List C)}{t:C}(h:OwS L sz rows' t):OwL L [t] [.sl false sz rows']:=by
 have:=h.cons .nil
 rwa [List.append_nil]at this
theorem OwS.isOw {sz:Nat}{rows':List (List C)}{t:C}(h:OwS L sz rows' t):t.isOw=false:=by rcases h with ⟨rfl,_⟩|⟨y,N,rows,rfl,_⟩ <;> rfl
theorem OwS.elemSz {sz:Nat}{rows':List (List C)}{t:C}(h:OwS L sz rows' t):t.elemSz=sz:=by rcases h with ⟨rfl,_⟩|⟨y,N,rows,rfl,_⟩ <;> rfl
theorem OwS.lenC {sz:Nat}{rows':List (List C)}{t:C}(h:OwS L sz rows' t):lenC t=rows'.length:=by
 rcases h with ⟨rfl,rfl,_⟩|⟨y,N,rows,rfl,_,h,_⟩
 ·rfl
 ·exact h.symm
theorem OwL.inv_atom {cs cs':List C}{c':C}(hc:c'.atom=true)(h:OwL L cs (c'::cs')):∃cs0,cs=c'::cs0∧OwL L cs0 cs':=by
 cases h with
 |atom h t=>exact⟨_,rfl,t⟩
 |sln t=>simp[C.atom]at hc
 |vec=>simp[C.atom]at hc
theorem OwL.inv_sl {cs cs':List C}{sz:Nat}{rows':List (List C)}{fl:Bool}(h:OwL L cs (.sl fl sz rows'::cs')):∃t cs0 L1 L2,cs=t::cs0∧L=L1++L2∧OwS L1 sz rows' t∧OwL L2 cs0 cs':=by
 cases h with
 |atom h t=>simp[C.atom]at h
 |sln t=>exact⟨_,_,[],L,rfl,rfl,.inl ⟨rfl,rfl,rfl⟩,t⟩
 |vec hn hl hr hr' h t=>exact⟨_,_,_,_,rfl,rfl,.inr ⟨_,_,_,by rw[hn],rfl,hl,hr,hr',h⟩,t⟩
theorem OwL.inv_nil {cs:List C}(h:OwL L cs []):cs=[]∧L=[]:=by cases h;exact⟨rfl,rfl⟩
theorem OwL.inv_one {cs:List C}{sz:Nat}{rows':List (List C)}{fl:Bool}(h:OwL L cs [.sl fl sz rows']):∃t,cs=[t]∧OwS L sz rows' t:=by
 obtain⟨t,cs0,L1,L2,rfl,rfl,h1,h2⟩:=h.inv_sl
 obtain⟨rfl,rfl⟩:=h2.inv_nil
 exact⟨t,rfl,by rwa [List.append_nil]⟩
theorem Gr.ows {sz:Nat}{rows rows':List (List C)}{t:C}(h:Gr Lg sz rows t)(hl:rows'.length=rows.length)(hr:∀r∈rows,r.length=sz)(hr':∀r∈rows',r.length=sz)(k:OwL M rows.flatten rows'.flatten):OwS (Lg++M) sz rows' t:=by
 rcases h with ⟨rfl,rfl,rfl⟩|⟨y,rfl,rfl⟩
 ·have:rows'=[]:=List.length_eq_zero_iff.1 (by simpa using hl)
  subst this
  cases k
  exact .inl ⟨rfl,rfl,rfl⟩
 ·exact .inr ⟨y,M,rows,rfl,rfl,hl,hr,hr',k⟩
theorem OwS.gr {sz:Nat}{rows':List (List C)}{t:C}(h:OwS L sz rows' t):∃Lg M rows,L=Lg++M∧Gr Lg sz rows t∧rows'.length=rows.length∧(∀r∈rows,r.length=sz)∧(∀r∈rows',r.length=sz)∧OwL M rows.flatten rows'.flatten:=by
 rcases h with ⟨rfl,rfl,rfl⟩|⟨y,N,rows,rfl,rfl,h1,h2,h3,h4⟩
 ·exact⟨[],[],[],rfl,.nil sz,rfl,by simp,by simp,.nil⟩
 ·exact⟨[_],N,rows,rfl,.mk y sz rows rfl,h1,h2,h3,h4⟩
def lntL (L:List (Nat×Obj))(m:Nat):Bool:=(L.map Prod.fst).contains m
theorem Qapl {p:Nat×Obj}(h:p∈L):lntL L p.1=true:=List.contains_iff_mem.2 (Qci h)
theorem C.free_ow {c:C}(h:c.free=true):c.isOw=false:=by cases c <;> first|rfl|simp[C.free]at h
theorem Q5i {x:V}(h:x.free1=true):FrzV H S x x:=by
 cases x with
 |c x=>exact .c _ _ (.same _ (C.free_ow h))
 |ag cs=>
  refine .ag _ _ rfl fun j c c' h1 h2=>?_
  rw[h1,Option.some.injEq]at h2;subst h2
  exact .same _ (C.free_ow (List.all_eq_true.1 h c (List.mem_of_getElem? h1)))
 |_=>simp[V.free1]at h
theorem Qas8 {x:V}(h:x.free=true):FrzV H S x x:=by
 cases x with
 |c x=>exact Q5i (x:=.c x) h
 |ag cs=>exact Q5i (x:=.ag cs) h
 |tup vs=>
  refine .tup _ _ rfl fun j c c' h1 h2=>?_
  rw[h1,Option.some.injEq]at h2;subst h2
  exact Q5i (List.all_eq_true.1 h c (List.mem_of_getElem? h1))
 |_=>simp[V.free]at h
theorem Qa8y (H:Heap):Q2x H (Qbl H)=H:=by
 funext l
 simp only[Q2x,Qbl]
 cases H l <;> rfl
theorem Qeh {f:Nat}{args args':List V}{v:V}(S:Nat→Bool)(hla:args'.length=args.length)
  (ha:∀(j:Nat) (x y:V),args[j]? = some x→args'[j]? = some y→FrzV H S x y) (hv:v.free=true)
  (h:∀K':V→Heap→Prop,(∀H',Upd (Qbl H) H' []→K' v H')→Ql P f args' (Qbl H) K') (hK:K v H):Ql P f args H K:=by
 refine Qank S hla ha (Qaef (Q47 (h (fun x H'=>x=v∧Upd (Qbl H) H' []) fun H' hu=>⟨rfl,hu⟩) ?_))
 rintro x H' ⟨rfl,hu⟩
 have e:H'.frz (un (Qbl H))=Qbl H:=by
  funext m
  cases hm:Qbl H m with
  |none=>simp only[Heap.frz,Qw6 hm];rfl
  |_=>
   have hn:Qbl H m≠.none:=by rw[hm];simp
   rw[Qa8w hn,hu.2 m hn (by simp),hm]
 have key:∃S x',FrzV H' S x x'∧x'.free=true∧NewL (Qbl H) (H'.frz S)∧((∀l,H l≠.none→(H'.frz S) l=Qbl H l)→K x' (Q2x H (H'.frz S))):=
  ⟨un (Qbl H),x,Qas8 hv,hv,by rw[e];exact fun m=>.inl rfl,fun _=>by rw[e,Qa8y];exact hK⟩
 cases x <;> first|exact key|simp[V.free]at hv
def OwV (L:List (Nat×Obj)):V→V→Prop
 |.c c,.c c'=>OwL L [c] [c']
 |.ag cs,.ag cs'=>OwL L cs cs'
 |.tup [.ag cs,.c d],.tup [.ag cs',.c d']=>OwL L (d::cs) (d'::cs')
 |_,_=>False
theorem OwV.free {x x':V}(h:OwV L x x'):x.free=true:=by
 unfold OwV at h
 split at h
 ·simpa[V.free]using h.free
 ·exact h.free
 ·have:=h.free
  simp only[List.all_cons,Bool.and_eq_true]at this
  simp only[V.free,List.all_cons,List.all_nil,V.free1,this.1,this.2];rfl
 ·exact h.elim
theorem OwV.vecs {x x':V}(h:OwV L x x'):∀p∈L,∃sz rows,p.2=.vec sz rows∧∀r∈rows,∀c∈r,c.free=true:=by
 unfold OwV at h
 split at h
 ·exact h.vecs
 ·exact h.vecs
 ·exact h.vecs
 ·exact h.elim
theorem Kn.back (kn:Kn (Qbl H) H' [] L)(hk:∀l,H l≠.none→H' l=Qbl H l):Kn H (Q2x H H') [] L:=by
 have hf:∀p∈L,H p.1=.none:=fun p hp=>by
  have h1:=kn.loc p hp
  obtain⟨h2,h3⟩:=kn.get p (by simpa using hp)
  cases hh:H p.1 with
  |none=>rfl
  |_=>
   have:=hk p.1 (by rw[hh];simp)
   rw[h1,h2]at this
   exact absurd this h3
 refine⟨fun p hp=>?_,by simp,hf,by simp,kn.dL,fun m hm _=>?_⟩
 ·obtain⟨h2,h3⟩:=kn.get p hp
  have h0:=hf p (by simpa using hp)
  exact⟨by simp only[Q2x,h0];exact h2,h3⟩
 ·simp only[Q2x]
theorem Qqe {f:Nat}{args args':List V}{x':V}(S:Nat→Bool)(hla:args'.length=args.length)
  (ha:∀(j:Nat) (x y:V),args[j]? = some x→args'[j]? = some y→FrzV H S x y)
  (h:∀K':V→Heap→Prop,(∀H' L x,Kn (Qbl H) H' [] L→OwV L x x'→K' x H')→Ql P f args' (Qbl H) K') (hK:∀H' L x,Kn H H' [] L→OwV L x x'→K x H'):Ql P f args H K:=by
 refine Qank S hla ha (Qaef (Q47 (h (fun x H'=>∃L,Kn (Qbl H) H' [] L∧OwV L x x') fun H' L x hk hx=>⟨L,hk,hx⟩) ?_))
 rintro x H' ⟨L,kn,hx⟩
 have hv:=hx.free
 have k2:Kn (Qbl H) (H'.frz (unx (Qbl H) L)) [] L:=by
  have h1:Kn (Qbl H) H' [] ([]++L):=kn
  obtain⟨h2,h3⟩:=h1.finx
  exact⟨fun p hp=>⟨(h3 p (by simpa using hp)).2,(kn.get p hp).2⟩,by simp,kn.loc,by simp,kn.dL,fun m hm hx=>h2.2 m hm hx⟩
 have key:∃S x2,FrzV H' S x x2∧x2.free=true∧NewL (Qbl H) (H'.frz S)∧((∀l,H l≠.none→(H'.frz S) l=Qbl H l)→K x2 (Q2x H (H'.frz S))):=by
  refine⟨unx (Qbl H) L,x,Qas8 hv,hv,fun m=>?_,fun hk=>hK _ L x (k2.back hk) hx⟩
  by_cases hm:Qbl H m=.none
  ·by_cases hmL:m∈L.map Prod.fst
   ·obtain⟨p,hp,rfl⟩:=List.mem_map.1 hmL
    obtain⟨sz,rows,h1,h2⟩:=hx.vecs p hp
    exact .inr ⟨hm,sz,rows,by rw[(k2.get p (by simpa using hp)).1,h1],h2⟩
   ·left
    have:unx (Qbl H) L m=true:=by
     simp only[unx,Qw6 hm,Bool.true_and,Bool.not_eq_true',Bool.eq_false_iff]
     exact fun hh=>hmL (List.contains_iff_mem.1 hh)
    rw[hm]
    simp only[Heap.frz,this];rfl
  ·exact .inl (k2.chg m hm (by simp))
 cases x <;> first|exact key|simp[V.free]at hv
theorem OwL.frzA {cs cs':List C}(h:OwL L cs cs')(hm:∀p∈L,H p.1=p.2):FrzV H (lntL L) (.ag cs) (.ag cs'):=(h.frz fun p hp=>⟨hm p hp,Qapl hp⟩).ag
end Go.AE

namespace Go.AE
variable {P:Program}{H0 H H':Heap}{E L L' M:List (Nat×Obj)}
theorem OwV.tup1 {x:V}{sz:Nat}{rows:List (List C)}{b fl:Bool}(h:OwV L x (.tup [.ag [.sl fl sz rows],.c (.bool b)])):∃t,x=.tup [.ag [t],.c (.bool b)]∧OwS L sz rows t:=by
 unfold OwV at h
 split at h
 ·simp at *
 ·simp at *
 ·rename_i cs d cs' d' he
  simp only[V.tup.injEq,List.cons.injEq,V.ag.injEq,V.c.injEq,and_true]at he
  obtain⟨rfl,rfl⟩:=he
  obtain⟨c0,e0,h0⟩:=h.inv_atom rfl
  obtain⟨t,e1,h1⟩:=h0.inv_one
  simp only[List.cons.injEq]at e0
  obtain⟨rfl,rfl⟩:=e0
  exact⟨t,by rw[e1],h1⟩
 ·exact h.elim
theorem Kn.swap {A B:List (Nat×Obj)}(kn:Kn H0 H E ((A++M)++B)):Kn H0 H E ((A++B)++M):=kn.perm (by
 simp only[List.append_assoc];exact List.Perm.append_left A List.perm_append_comm)
theorem Kn.swap2 {A B N:List (Nat×Obj)}(kn:Kn H0 H E (((A++M)++N)++B)):Kn H0 H E (((A++B)++M)++N):=kn.perm (by
 simp only[List.append_assoc]
 refine List.Perm.append_left A ?_
 rw[←List.append_assoc]
 exact List.perm_append_comm)
theorem OwS.lend {sz:Nat}{rows:List (List C)}{t:C}(h:OwS L sz rows t)(hm:∀p∈L,H p.1=p.2):FrzV H (lntL L) (.ag [t]) (.ag [.sl false sz rows]):=h.one.frzA hm
theorem Q42 (H:Heap):Upd H H []:=⟨by simp,fun _ _ _=>rfl⟩
theorem Qbht {S:Nat→Bool}{fl:Bool}{sz:Nat}{rows:List (List C)}(h:∀r∈rows,noOw r=true):FrzV H S (.ag [.sl fl sz rows]) (.ag [.sl false sz rows]):=(FrzL.cons (Y.FrzR.same h).sl .nil).ag
theorem Qax5 {S:Nat→Bool}{x x':V}(h:FrzV H S x x'):∀(j:Nat) (a b:V),[x][j]? = some a→[x'][j]? = some b→FrzV H S a b:=fun j a b h1 h2=>by
 match j with
 |0=>cases h1;cases h2;exact h
 |j+1=>simp at h1
theorem Qax6 {S:Nat→Bool}{x x' y y':V}(h:FrzV H S x x')(k:FrzV H S y y'):∀(j:Nat) (a b:V),[x,y][j]? = some a→[x',y'][j]? = some b→FrzV H S a b:=fun j a b h1 h2=>by
 match j with
 |0=>cases h1;cases h2;exact h
 |1=>cases h1;cases h2;exact k
 |j+2=>simp at h1
theorem OwS.lendC {sz:Nat}{rows:List (List C)}{t:C}(h:OwS L sz rows t)(hm:∀p∈L,H p.1=p.2):FrzV H (lntL L) (.c t) (.c (.sl false sz rows)):=by
 have:=h.one.frz (H:=H) (S:=lntL L) fun p hp=>⟨hm p hp,Qapl hp⟩
 cases this with
 |cons h _=>exact .c _ _ h
theorem OwV.c1 {x:V}{sz:Nat}{rows:List (List C)}{fl:Bool}(h:OwV L x (.c (.sl fl sz rows))):∃t,x=.c t∧OwS L sz rows t:=by
 unfold OwV at h
 split at h
 ·rename_i c c' he
  cases he
  obtain⟨t,e1,h1⟩:=h.inv_one
  simp only[List.cons.injEq,and_true]at e1
  exact⟨t,by rw[e1],h1⟩
 ·rename_i he;cases he
 ·rename_i he;cases he
 ·exact h.elim
end Go.AE

namespace Go.AE.Y
abbrev Qbu:Nat:=5
abbrev Qbe:Nat:=9
abbrev Qez:Nat:=10
abbrev Qgq:Nat:=11
abbrev Qga:Nat:=15
abbrev Qd7:Nat:=17
abbrev Qbv:Nat:=19
abbrev Qcg:Nat:=21
abbrev Qem:Nat:=22
abbrev Qel:Nat:=23
abbrev Qfr:Nat:=29
abbrev Qch:Nat:=30
abbrev Qnf:Nat:=32
abbrev Qmh:Nat:=33
abbrev Qnd:Nat:=36
abbrev Qmg:Nat:=37
abbrev Qia:Nat:=39
abbrev Qoj:Nat:=44
abbrev Qgd:Nat:=45
abbrev Qej:Nat:=46
abbrev Qe9:Nat:=47
abbrev Qaev:Nat:=48
abbrev Qi2:Nat:=49
abbrev Q5f:Nat:=50
abbrev Qgf:Nat:=51
abbrev Qfq:Nat:=54
abbrev Qgk:Nat:=57
abbrev Qd1:Nat:=58
abbrev Qgl:Nat:=59
abbrev Qbf:Nat:=60
abbrev Qe3:Nat:=61
abbrev Qib:Nat:=62
abbrev Q22:Nat:=64
abbrev Qz6:Nat:=65
abbrev Qql:Nat:=69
abbrev Qz5:Nat:=70
abbrev Qqp:Nat:=71
abbrev Qqo:Nat:=72
abbrev Qbj:Nat:=82
abbrev Qlw:Nat:=83
abbrev Qdv:Nat:=84
abbrev Qlv:Nat:=86
abbrev Qgi:Nat:=87
abbrev Qax:Nat:=88
abbrev Qxf:Nat:=95
abbrev Qf6:Nat:=96
abbrev Qdu:Nat:=97
abbrev Qls:Nat:=98
abbrev Qex:Nat:=99
abbrev Qap:Nat:=100
abbrev Qok:Nat:=101
abbrev Qn7:Nat:=102
abbrev Qgo:Nat:=103
abbrev Qt3:Nat:=104
abbrev Qon:Nat:=105
abbrev Qiy:Nat:=106
abbrev Qca:Nat:=112
abbrev Qit:Nat:=113
abbrev Qoq:Nat:=114
abbrev Ql0:Nat:=116
abbrev Qxh:Nat:=117
abbrev Qau:Nat:=121
abbrev Qd3:Nat:=122
abbrev Qxg:Nat:=123
abbrev Qd6:Nat:=124
abbrev Qh9:Nat:=125
abbrev Qd5:Nat:=126
abbrev Qt2:Nat:=128
abbrev Qdc:Nat:=131
abbrev Qgp:Nat:=148
abbrev Qf9:Nat:=149
abbrev Qxd:Nat:=150
abbrev Qaq:Nat:=151
abbrev Qbt:Nat:=152
abbrev Qa0:Nat:=153
abbrev Qff:Nat:=154
abbrev Qd2:Nat:=155
abbrev Qjm:Nat:=156
abbrev Qdo:Nat:=157
abbrev Qa7:Nat:=158
abbrev Qaxq:Nat:=159
abbrev Qmf:Nat:=160
abbrev Q24:Nat:=161
abbrev Qt0:Nat:=164
abbrev Qaz:Nat:=167
abbrev Q20:Nat:=170
abbrev Qgj:Nat:=171
abbrev Qmd:Nat:=174
abbrev Qh7:Nat:=176
abbrev Qgg:Nat:=180
abbrev Qgh:Nat:=181
abbrev Qfa:Nat:=196
abbrev Qaxp:Nat:=214
abbrev Qao6:Nat:=215
abbrev Qdz:Nat:=216
abbrev Qb8:Nat:=217
abbrev Qd0:Nat:=218
abbrev Qgb:Nat:=219
abbrev Qqn:Nat:=220
abbrev Qgm:Nat:=221
abbrev Qf8:Nat:=222
abbrev Qgc:Nat:=223
abbrev Qh6:Nat:=224
abbrev Qge:Nat:=225
abbrev Qis:Nat:=226
abbrev Qxi:Nat:=227
abbrev Qb7:Nat:=228
abbrev Qlt:Nat:=229
abbrev Qd4:Nat:=230
abbrev Qoo:Nat:=231
abbrev Qfs:Nat:=235
abbrev Qng:Nat:=237
abbrev Qne:Nat:=240
abbrev Qh8:Nat:=241
abbrev Qft:Nat:=258
abbrev Qom:Nat:=259
abbrev Qol:Nat:=260
abbrev Qe0:Nat:=261
abbrev Qcf:Nat:=262
abbrev Qd8:Nat:=263
abbrev Qds:Nat:=264
abbrev Qc5:Nat:=265
abbrev Qr7:Nat:=266
abbrev Qt1:Nat:=267
abbrev Qjn:Nat:=268
abbrev Qb3:Nat:=269
abbrev Qiu:Nat:=270
abbrev Qf7:Nat:=271
abbrev Qek:Nat:=272
abbrev Qix:Nat:=273
abbrev Q23:Nat:=274
abbrev Qiw:Nat:=275
abbrev Qlu:Nat:=276
abbrev Qme:Nat:=277
abbrev Qop:Nat:=278
abbrev Qao4:Nat:=302
abbrev Qao5:Nat:=303
abbrev Qaeu:Nat:=304
abbrev Qe1:Nat:=305
abbrev Qgn:Nat:=306
abbrev Qey:Nat:=307
abbrev Qn6:Nat:=308
abbrev Qiv:Nat:=309
abbrev Qao7:Nat:=310
abbrev Q5d:Nat:=319
abbrev Qn8:Nat:=320
abbrev Qaet:Nat:=321
abbrev Qmi:Nat:=322
abbrev Qqm:Nat:=323
abbrev Q5e:Nat:=325
abbrev Q21:Nat:=326
abbrev Qxe:Nat:=327
abbrev Qaes:Nat:=328
abbrev Qgr:Nat:=1
abbrev Qa5:Nat:=2
end Go.AE.Y

namespace Go.AE.Y
open Go.Proofs.Tryz
def Qk3:List Item:=[oJ 13 12]
def Q0k:SC:=cT 13 (sR [zJ 2 1] [2] .ret) .skip
def Qk4:List Item:=[mJ 3 16]
def Qk5:List Item:=[mJ 4 22,sJ 3 5 24]
def Qk6:List Item:=[mJ 33 4,bJ 34 .lss 32 33]
def Q0l:SC:=cT 34 (.reg [mJ 35 3,aJ 36 Qaq [.t 35,kI 2]] [1,3,5,18,19,20]) .skip
def Qk7:List Item:=[mJ 6 37]
def Q0m:SC:=cT 54 (.reg [mJ 55 3,aJ 56 Qaq [.t 55,kI 2]] [1,3,5,6,8,18,19,20,39,40,41]) .skip
def Q0n:SC:=sR [mJ 54 10] [1,3,5,6,8,18,19,20,39,40,41,54] Q0m
def Qmr:SC:=.reg [mJ 57 6,kJ 58 57,fJ 59 0 58,lJ 60 59,mJ 61 8,.e none none (.upd 1 (.t 60) (.t 61) (kI 0))] [1,3,5,6,18,19,20,39,40,41]
def Qxw:SC:=.seq (sR [mJ 46 6,kJ 47 46,fJ 48 0 47,lJ 49 48,mJ 50 8,fI 51 (.lup2 1 (.c (.int .i64 0)) (.t 49) (.t 50)),mJ 45 51,fI 52 (.ext (.t 45) 0),fI 53 (.ext (.t 45) 1),mJ 9 52,mJ 10 53] [1,3,5,6,8,10,18,19,20,39,40,41] Q0n) Qmr
def Qkz:SC:=.reg [cJ 62 .add 41 1,mJ 41 62] [1,3,5,6,18,19,20,39,40,41]
def Qxx:SC:=.seq (.block 3 (sR [iJ 43 1 39 41,lJ 44 43,mJ 8 44] [1,3,5,6,8,18,19,20,39,40,41] Qxw)) Qkz
def Qum:SC:=sR [bJ 42 .lss 41 40] [1,3,5,6,18,19,20,39,40,41,42] (cX 42 2 Qxx)
def Qk0:SC:=.reg [mJ 63 3,fJ 64 2 5,lJ 65 64,mJ 66 6,aJ 67 Qbt [.t 63,.t 65,.t 66]] [1,3,18,19,20]
def Qxy:SC:=.seq (sR [fJ 38 1 5,lJ 39 38,nJ 40 39,zJ 41 0] [1,3,5,6,18,19,20,39,40,41] (bL 2 Qum)) Qk0
def Qk1:SC:=sR (aJ 37 Qdc [.k (.c .pnil)]::Qk7) [1,3,5,6,18,19,20] Qxy
def Qk2:SC:=.seq (sR (tJ 29 1 1::fJ 30 0 5::lJ 31 30::aJ 32 Qxd [.t 29,.t 31]::Qk6) [1,3,5,18,19,20,34] Q0l) Qk1
def Qxz:SC:=sR [mJ 25 3,mJ 26 4,kJ 27 25,fJ 28 1 27,sJ 1 28 26] [1,3,4,5,18,19,20] Qk2
def Qx0:SC:=.reg [cJ 68 .add 20 1,mJ 20 68] [1,3,18,19,20]
def Qx1:SC:=.seq (.block 1 (sR (mJ 22 20::iJ 23 3 18 20::tJ 24 3 23::eI 5 (.alloc [.str [],.sl true 1 [],.sl true 5 []])::Qk5) [1,3,4,5,18,19,20] Qxz)) Qx0
def Qun:SC:=sR [bJ 21 .lss 20 19] [1,3,18,19,20,21] (cX 21 0 Qx1)
def Qx2:SC:=sR [mJ 69 3,kJ 70 69,fJ 71 2 70,lJ 72 71,mJ 2 72] [2] .ret
def Qx3:SC:=.seq (sR [fJ 17 0 1,lJ 18 17,nJ 19 18,zJ 20 0] [1,3,18,19,20] (bL 0 Qun)) Qx2
def Qx4:SC:=sR (tJ 14 1 1::fI 15 (.bld [.sl true 3 [],.int .i64 0,.int .i64 0] [(0,1,.t 14)])::eI 16 (.boxm (.t 15))::Qk4) [1,3] Qx3
def Qx5:SC:=.seq (sR (tJ 11 1 1::aJ 12 Qf9 [.t 11]::Qk3) [1,13] Q0k) Qx4
def Q6a:SC:=sR [vJ 1 0,zJ 2 0] [1] Qx5
def Qic:List RS:=[.tmp 2]
theorem Q5o:mFn prog Qf6 1 73 Q6a Qic=true:=by kernel_rfl
def Qo3:List Item:=[mJ 6 8,fI 9 (.ext (.t 6) 0),fI 10 (.ext (.t 6) 1),fI 11 (.ext (.t 6) 2),mJ 3 9,mJ 4 10,mJ 5 11]
def Qaaj:SC:=sR [mJ 12 5,mJ 2 12] [2] .ret
def Qaak:SC:=sR (tJ 7 4 1::aJ 8 Qiv [.t 7,kI 6]::Qo3) [5] Qaaj
def Qaj5:SC:=sR [vJ 1 0,fB 2 false] [1] Qaak
theorem Qajs:mFn prog Qf7 1 13 Qaj5 Qic=true:=by kernel_rfl
def Q86:List Item:=[mJ 4 8]
def Qayt:SC:=sR (fJ 5 0 2::lJ 6 5::fI 7 (.mkf Qf8 [.t 3])::aJ 8 Qgm [.t 6,.t 7]::Q86) [4] .ret
def Qbam:SC:=sR [vJ 2 0,vJ 3 1,zJ 4 0] [2,3] Qayt
def Qat4:List RS:=[.tmp 4]
theorem Qa9o:mFn prog Qxd 2 9 Qbam Qat4=true:=by kernel_rfl
def Qaj6:SC:=sR [fJ 4 0 2,lJ 5 4,lJ 6 1,bJ 7 .eql 5 6,mJ 3 7] [3] .ret
def Qauf:SC:=sR [vJ 2 0,fB 3 false] [1,2] Qaj6
def Q8u:List RS:=[.tmp 3]
theorem Qati:mFn prog Qf8 2 8 Qauf Q8u=true:=by kernel_rfl
def Qiz:List Item:=[gT 15 11 (.not (.t 14)),pF 16 11 15,mJ 2 16]
def Qi0:List Item:=gT 9 6 (.bin 0 .lss (.t 8) (kI 0))::pF 10 6 9::mJ 11 10::gT 12 11 (.aslg 9 Qgr Qgr)::gTm 13 11 0::.e (some 14) (some (11,true)) (.call Qd8 [.t 12,.t 13])::Qiz
def Qog:List Item:=mJ 6 5::gTm 7 6 0::.e (some 8) (some (6,true)) (.call Qe0 [.t 7,.k (.c (.fn Qcf []))])::Qi0
def Qap9:SC:=sR (mJ 3 0::fI 4 (.lens (.t 3))::aJ 5 Qfq [.t 4,kI 1,kI 4]::Qog) [2] .ret
def Qayu:SC:=sR [fB 2 false] [0] Qap9
theorem Qaya:mFn prog Qdz 1 17 Qayu Qic=true:=by kernel_rfl
def Qaam:SC:=sR [mJ 3 0,fI 4 (.bin 0 .lss (.t 3) (.k (.c (.int .i32 97)))),mJ 5 4,gFm 6 5 0,gF 7 5 (.bin 0 .gtr (.t 6) (.k (.c (.int .i32 122)))),pT 8 5 7,mJ 2 8] [2] .ret
def Qaj7:SC:=sR [fB 2 false] [0] Qaam
theorem Qajt:mFn prog Qcf 1 9 Qaj7 Qic=true:=by kernel_rfl
def Qk9:List Item:=[oJ 11 10]
def Q0q:SC:=cT 11 (sR [fB 2 false] [2] .ret) .skip
def Qla:List Item:=[sJ 3 4 18]
def Qbh:List Item:=[gF 38 34 (.not (.t 37)),pT 39 34 38]
def Qbi:List Item:=pT 33 29 32::mJ 34 33::gFf 35 34 2 4::gFl 36 34 35::.e (some 37) (some (34,false)) (.call Qgb [.t 36,kI 1])::Qbh
def Qcc:List Item:=oJ 22 21::mJ 23 22::gFf 24 23 1 4::gFl 25 23 24::gF 26 23 (.len (.t 25))::gF 27 23 (.bin 0 .gtr (.t 26) (kI 3))::pT 28 23 27::mJ 29 28::gFf 30 29 1 4::gFl 31 29 30::.e (some 32) (some (29,false)) (.call Qb8 [.t 31,.k (.c (.fn Qd0 []))])::Qbi
def Qmv:SC:=cT 39 (sR [fB 2 false] [2] .ret) .skip
def Q0r:SC:=sR (fJ 19 0 4::lJ 20 19::aJ 21 Qdz [.t 20]::Qcc) [1,13,14,15,39] Qmv
def Qmw:SC:=.reg [cJ 40 .add 15 1,mJ 15 40] [1,13,14,15]
def Q0s:SC:=.seq (.block 1 (sR (iJ 17 3 13 15::tJ 18 3 17::eI 4 (.alloc [.str [],.sl true 1 [],.sl true 5 []])::Qla) [1,4,13,14,15] Q0r)) Qmw
def Qut:SC:=sR [bJ 16 .lss 15 14] [1,13,14,15,16] (cX 16 0 Q0s)
def Qja:List Item:=[mJ 41 43,fI 44 (.ext (.t 41) 0),fI 45 (.ext (.t 41) 1),mJ 5 44,mJ 6 45]
def Qx6:SC:=sR [mJ 46 5,cJ 47 .leq 46 40,mJ 2 47] [2] .ret
def Qk8:SC:=sR (tJ 42 1 1::aJ 43 Qqn [.t 42]::Qja) [5] Qx6
def Qx7:SC:=.seq (sR [fJ 12 0 1,lJ 13 12,nJ 14 13,zJ 15 0] [1,13,14,15] (bL 0 Qut)) Qk8
def Qx8:SC:=.seq (sR (fJ 7 0 1::lJ 8 7::nJ 9 8::aJ 10 Qfq [.t 9,kI 1,kI 4]::Qk9) [1,11] Q0q) Qx7
def Q6e:SC:=sR [vJ 1 0,fB 2 false] [1] Qx8
theorem Q5p:mFn prog Qf9 1 48 Q6e Qic=true:=by kernel_rfl
def Qgz:List Item:=[oJ 5 4,mJ 2 5]
def Qsy:SC:=sR (mJ 3 0::aJ 4 Qdz [.t 3]::Qgz) [2] .ret
def Qx9:SC:=sR [fB 2 false] [0] Qsy
theorem Qxr:mFn prog Qd0 1 6 Qx9 Qic=true:=by kernel_rfl
def Qde:List Item:=[pF 30 24 29,mJ 4 30]
def Qaf0:SC:=sR (fJ 5 0 2::lJ 6 5::fJ 7 0 3::lJ 8 7::bJ 9 .eql 6 8::mJ 10 9::gTf 11 10 1 2::gTl 12 10 11::gTf 13 10 1 3::gTl 14 10 13::gT 15 10 (.bin 0 .eql (.t 12) (.t 14))::pF 16 10 15::mJ 17 16::gTf 18 17 2 2::gTl 19 17 18::gTf 20 17 2 3::gTl 21 17 20::gT 22 17 (.bin 0 .eql (.t 19) (.t 21))::pF 23 17 22::mJ 24 23::gTf 25 24 3 2::gTl 26 24 25::gTf 27 24 3 3::gTl 28 24 27::.e (some 29) (some (24,true)) (.call Qca [.t 26,.t 28,.k (.c (.fn Qit []))])::Qde) [4] .ret
def Qaqb:SC:=sR [vJ 2 0,vJ 3 1,fB 4 false] [2,3] Qaf0
theorem Qapo:mFn prog Qit 2 31 Qaqb Qat4=true:=by kernel_rfl
def Qlb:List Item:=[mJ 4 9]
def Q0t:SC:=sR (fJ 5 0 2::lJ 6 5::fJ 7 0 3::lJ 8 7::eI 9 (.call Qgk [.t 6,.t 8,.k (.c (.fn Qd1 []))])::Qlb) [4] .ret
def Q6f:SC:=sR [vJ 2 0,vJ 3 1,fB 4 false] [2,3] Q0t
theorem Q5q:mFn prog Qga 2 10 Q6f Qat4=true:=by kernel_rfl
def Qbn:List Item:=[pF 23 17 22,mJ 4 23]
def Qbo:List Item:=pF 16 10 15::mJ 17 16::gTf 18 17 2 2::gTl 19 17 18::gTf 20 17 2 3::gTl 21 17 20::.e (some 22) (some (17,true)) (.call Qbf [.t 19,.t 21,.k (.c (.fn Qe3 []))])::Qbn
def Qsz:SC:=sR (fJ 5 0 2::lJ 6 5::fJ 7 0 3::lJ 8 7::bJ 9 .eql 6 8::mJ 10 9::gTf 11 10 1 2::gTl 12 10 11::gTf 13 10 1 3::gTl 14 10 13::.e (some 15) (some (10,true)) (.call Qgl [.t 12,.t 14])::Qbo) [4] .ret
def Qya:SC:=sR [vJ 2 0,vJ 3 1,fB 4 false] [2,3] Qsz
theorem Qxs:mFn prog Qd1 2 24 Qya Qat4=true:=by kernel_rfl
def Qaf1:SC:=cT 7 .skip (.reg [cJ 9 .eql 6 2,mJ 7 9] [6,7])
def Qaf2:SC:=cT 10 .skip (.reg [cJ 13 .eql 6 8,mJ 10 13] [6,10])
def Qaf3:SC:=cT 10 .skip (sR [cJ 12 .eql 6 7,mJ 10 12] [6,10] Qaf2)
def Qaf4:SC:=cT 18 (sR [zJ 2 1,fB 3 false,fB 4 true,fB 5 false] [2,3,4,5] .ret) .skip
def Qaf5:SC:=cT 16 (sR [zJ 2 1,fB 3 false,fB 4 true,fB 5 true] [2,3,4,5] .ret) (sR [cJ 19 .eql 6 6,mJ 18 19] [18] Qaf4)
def Qaf6:SC:=cT 14 (sR [zJ 2 2,fB 3 false,fB 4 false,fB 5 false] [2,3,4,5] .ret) (sR [cJ 17 .eql 6 5,mJ 16 17] [6,16] Qaf5)
def Quv:SC:=cT 10 (sR [zJ 2 1,fB 3 false,fB 4 false,fB 5 false] [2,3,4,5] .ret) (sR [cJ 15 .eql 6 4,mJ 14 15] [6,14] Qaf6)
def Quw:SC:=cT 7 (sR [zJ 2 1,fB 3 true,fB 4 false,fB 5 false] [2,3,4,5] .ret) (.seq (sR [cJ 11 .eql 6 3,mJ 10 11] [6,10] Qaf3) Quv)
def Qaf7:SC:=.block 0 (.seq (sR [cJ 8 .eql 6 1,mJ 7 8] [6,7] Qaf1) Quw)
def Qmx:SC:=sR [zJ 2 (-1),fB 3 false,fB 4 false,fB 5 false] [2,3,4,5] .ret
def Qaao:SC:=.seq (sR [mJ 6 0] [6] Qaf7) Qmx
def Qaqc:SC:=sR [zJ 2 0,fB 3 false,fB 4 false,fB 5 false] [0] Qaao
def Qgu:List RS:=[.tmp 2,.tmp 3,.tmp 4,.tmp 5]
theorem Qapp:mFn prog Qn6 1 20 Qaqc Qgu=true:=by kernel_rfl
def Qux:List Item:=[oJ 8 7,mJ 4 8]
def Qaj8:SC:=sR (mJ 5 0::fI 6 (.mkf Qr7 [.t 3])::aJ 7 Qc5 [.t 5,.t 6]::Qux) [4] .ret
def Qaun:SC:=sR [vJ 3 1,fB 4 false] [0,3] Qaj8
theorem Qatj:mFn prog Qgb 2 9 Qaun Qat4=true:=by kernel_rfl
def Qnq:List Item:=[oJ 7 6,mJ 3 7]
def Q6g:SC:=sR (tJ 4 5 2::lJ 5 1::aJ 6 Qt1 [.t 4,.t 5]::Qnq) [3] .ret
def Qagb:SC:=sR [vJ 2 0,fB 3 false] [1,2] Q6g
theorem Qae6:mFn prog Qr7 2 8 Qagb Q8u=true:=by kernel_rfl
def Qjh:List Item:=[sJ 5 7 19]
def Qji:List Item:=[sJ 4 9 26]
def Qyf:SC:=.reg [mJ 27 0,tJ 28 4 9,mJ 29 2,aJ 30 Qgc [.t 27,.t 28,.t 29]] [0,2,7,14,15,16,21,22,23]
def Qyg:SC:=.reg [cJ 31 .add 23 1,mJ 23 31] [0,2,7,14,15,16,21,22,23]
def Qyh:SC:=.seq (.block 3 (sR (iJ 25 4 21 23::tJ 26 4 25::eI 9 (.alloc [.int .i64 0,.int .i64 0,.str [],.sl true 4 []])::Qji) [0,2,7,9,14,15,16,21,22,23] Qyf)) Qyg
def Qu7:SC:=sR [bJ 24 .lss 23 22] [0,2,7,14,15,16,21,22,23,24] (cX 24 2 Qyh)
def Qyi:SC:=cT 46 (.reg [mJ 47 0,aJ 48 Qaq [.t 47,kI 2]] [0,2,7,14,15,16]) .skip
def Qyj:SC:=sR [mJ 46 11] [0,2,7,14,15,16,46] Qyi
def Qlc:SC:=.dreg 7 [0,1,2,3,4,5,6] ( mJ 49 2::kJ 50 49::fJ 51 0 50::lJ 52 51::fJ 53 1 7::lJ 54 53::.e none none (.upd 1 (.t 52) (.t 54) (kI 0))::[]) [0,2,7,14,15,16]
def Qjj:List Item:=[mJ 57 61,fI 62 (.ext (.t 57) 0),fI 63 (.ext (.t 57) 1),mJ 12 62,mJ 13 63]
def Quz:SC:=cT 65 (.reg [mJ 66 0,aJ 67 Qaq [.t 66,kI 3]] [0,2,7,14,15,16]) .skip
def Qu0:SC:=sR [mJ 64 13,oJ 65 64] [0,2,7,14,15,16,65] Quz
def Qu1:SC:=cT 55 (sR (mJ 58 2::fJ 59 1 7::lJ 60 59::aJ 61 Qfa [.t 58,.t 60]::Qjj) [0,2,7,13,14,15,16] Qu0) .skip
def Qu2:SC:=cT 34 (.seq (.seq (.dreg 12 [0,1,2,3,4,5,6,7,8,9,10,11] ( mJ 37 2::kJ 38 37::fJ 39 0 38::lJ 40 39::fJ 41 1 7::lJ 42 41::fI 43 (.lup2 1 (.c (.int .i64 0)) (.t 40) (.t 42))::mJ 36 43::fI 44 (.ext (.t 36) 0)::fI 45 (.ext (.t 36) 1)::mJ 10 44::mJ 11 45::[]) [0,2,7,11,14,15,16]) Qyj) Qlc) (sR [cJ 56 .eql 33 2,mJ 55 56] [0,2,7,14,15,16,55] Qu1)
def Qu3:SC:=.block 4 (sR [cJ 35 .eql 33 1,mJ 34 35] [0,2,7,14,15,16,33,34] Qu2)
def Qhn:List Item:=[hJ 78 77,aJ 81 Qbt [.t 76,.t 78,.t 80]]
def Qho:List Item:=[hJ 84 83,aJ 87 Qbt [.t 82,.t 84,.t 86]]
def Qu4:SC:=.dreg 6 [0,1,2,3,4,2,5] ( mJ 82 0::fJ 83 4 7::lJ 84 83::mJ 85 2::aJ 86 Qdc [.t 85]::Qho) [0,2,14,15,16]
def Qu5:SC:=cT 75 (.seq (.dreg 6 [0,1,2,3,4,2,5] ( mJ 76 0::fJ 77 3 7::lJ 78 77::mJ 79 2::aJ 80 Qdc [.t 79]::Qhn) [0,2,7,14,15,16]) Qu4) .skip
def Qeb:SC:=sR [fJ 68 0 7,lJ 69 68,cJ 70 .eql 69 5,mJ 71 70,gFf 72 71 0 7,gFl 73 71 72,gF 74 71 (.bin 0 .eql (.t 73) (kI 6)),pT 75 71 74] [0,2,7,14,15,16,75] Qu5
def Qec:SC:=.seq (sR [fJ 32 0 7,lJ 33 32] [0,2,7,14,15,16,33] Qu3) Qeb
def Qjf:SC:=.seq (sR [fJ 20 2 7,lJ 21 20,nJ 22 21,zJ 23 0] [0,2,7,14,15,16,21,22,23] (bL 2 Qu7)) Qec
def Qjg:SC:=.reg [cJ 88 .add 16 1,mJ 16 88] [0,2,14,15,16]
def Qu6:SC:=.seq (.block 1 (sR (iJ 18 5 14 16::tJ 19 5 18::eI 7 (.alloc [.int .i64 0,.str [],.sl true 4 [],.sl true 5 [],.sl true 5 []])::Qjh) [0,2,7,14,15,16] Qjf)) Qjg
def Qs9:SC:=sR [bJ 17 .lss 16 15] [0,2,14,15,16,17] (cX 17 0 Qu6)
def Q3z:SC:=sR [mJ 14 1,nJ 15 14,zJ 16 0] [0,2,14,15,16] (bL 0 Qs9)
def Qgv:List RS:=[]
theorem Q3d:mFn prog Qbt 3 89 Q3z Qgv=true:=by kernel_rfl
def Q0v:SC:=.reg [tJ 6 4 4,fI 7 (.mkf Qb3 [.t 5,.t 3]),aJ 8 Qh7 [.t 6,.t 7]] []
def Q6l:SC:=sR [vJ 3 0,vJ 4 1,vJ 5 2] [3,4,5] Q0v
theorem Q5s:mFn prog Qgc 3 9 Q6l Qgv=true:=by kernel_rfl
def Qg4:List Item:=[mJ 11 15,fI 16 (.ext (.t 11) 0),fI 17 (.ext (.t 11) 1),mJ 4 16,mJ 5 17]
def Qta:SC:=cT 19 (.reg [lJ 20 2,aJ 21 Qaq [.t 20,kI 3]] []) .skip
def Qtb:SC:=sR [mJ 18 5,oJ 19 18] [2,19] Qta
def Qg5:List Item:=[mJ 6 37]
def Qtc:SC:=cT 55 (.reg [lJ 56 2,aJ 57 Qaq [.t 56,kI 5]] []) .skip
def Qtd:SC:=cT 39 (.reg [lJ 40 2,aJ 41 Qaq [.t 40,kI 4]] []) (.seq (.dreg 14 [0,1,2,3,4,5,6,7,8,9,10,11,12,13] ( lJ 42 2::kJ 43 42::fJ 44 0 43::fJ 45 0 44::lJ 46 45::mJ 47 6::iJ 48 3 46 47::fJ 49 1 48::lJ 50 49::nJ 51 50::fJ 52 3 3::lJ 53 52::nJ 54 53::bJ 55 .neq 51 54::[]) [2,55]) Qtc)
def Qte:SC:=sR [mJ 38 6,cJ 39 .lss 38 0] [2,3,6,39] Qtd
def Qtf:SC:=cT 22 (.seq (.dreg 15 [0,1,2,3,4,5,6,7,8,9,10,11,12,13,14] ( lJ 24 2::kJ 25 24::fJ 26 0 25::fJ 27 0 26::lJ 28 27::lJ 29 2::kJ 30 29::fJ 31 1 30::lJ 32 31::fI 33 (.sli 3 (.t 28) none (some (.t 32)))::fI 34 (.bld [.sl true 3 []] [(0,1,.t 33)])::fJ 35 2 3::lJ 36 35::aJ 37 Qxd [.t 34,.t 36]::Qg5) [2,3,6]) Qte) .skip
def Qtg:SC:=cT 9 (sR (lJ 12 1::fJ 13 2 3::lJ 14 13::aJ 15 Qfa [.t 12,.t 14]::Qg4) [2,5] Qtb) (sR [cJ 23 .eql 8 13,mJ 22 23] [2,3,22] Qtf)
def Qth:SC:=.block 0 (sR [cJ 10 .eql 8 2,mJ 9 10] [1,2,3,8,9] Qtg)
def Qq7:SC:=sR [fJ 7 0 3,lJ 8 7] [1,2,3,8] Qth
def Qyk:SC:=sR [vJ 3 0] [1,2,3] Qq7
theorem Qxt:mFn prog Qb3 3 58 Qyk Qgv=true:=by kernel_rfl
def Q0w:SC:=cT 8 (.reg [mJ 9 0,mJ 10 1,kJ 11 9,fJ 12 2 11,sJ 1 12 10] []) .skip
def Q6m:SC:=sR [mJ 4 0,kJ 5 4,fJ 6 2 5,lJ 7 6,cJ 8 .eql 7 0] [0,1,8] Q0w
theorem Q5t:mFn prog Qaq 2 13 Q6m Qgv=true:=by kernel_rfl
def Qo4:List Item:=[eI 2 (.alloc [.int .i64 0,.int .i64 0,.str [],.sl true 4 []])]
def Qo5:List Item:=[fJ 6 3 1,sJ 1 6 5]
def Qaap:SC:=sR [tJ 7 4 1,sJ 4 2 7] [2] .ret
def Qaaq:SC:=sR (fJ 3 3 1::lJ 4 3::eI 5 (.call Qap [.t 4,.k (.c (.fn Qd2 []))])::Qo5) [1,2] Qaap
def Qakc:SC:=sR (eI 1 (.boxm (.t 0))::Qo4) [1,2] Qaaq
def Qy7:List RS:=[.cell 2 4 true]
theorem Qaju:mFn prog Qd2 1 8 Qakc Qy7=true:=by kernel_rfl
def Qu8:List Item:=[eI 2 (.alloc [.str [],.sl true 1 [],.sl true 5 []])]
def Qu9:List Item:=[fJ 6 1 1,sJ 1 6 5]
def Qva:List Item:=[fJ 10 2 1,sJ 1 10 9]
def Qakd:SC:=sR [tJ 11 3 1,sJ 3 2 11] [2] .ret
def Qake:SC:=sR (fJ 7 2 1::lJ 8 7::eI 9 (.call Qau [.t 8,.k (.c (.fn Qd3 []))])::Qva) [1,2] Qakd
def Qakf:SC:=sR (fJ 3 1 1::lJ 4 3::aJ 5 Qdv [.t 4]::Qu9) [1,2] Qake
def Qaup:SC:=sR (eI 1 (.boxm (.t 0))::Qu8) [1,2] Qakf
def Q8x:List RS:=[.cell 2 3 true]
theorem Qatl:mFn prog Qql 1 12 Qaup Q8x=true:=by kernel_rfl
def Qo6:List Item:=[eI 2 (.alloc [.int .i64 0,.str [],.sl true 4 [],.sl true 5 [],.sl true 5 []])]
def Qo7:List Item:=[fJ 6 2 1,sJ 1 6 5]
def Qo8:List Item:=[fJ 10 3 1,sJ 1 10 9]
def Qo9:List Item:=[fJ 14 4 1,sJ 1 14 13]
def Qaar:SC:=sR [tJ 15 5 1,sJ 5 2 15] [2] .ret
def Qaas:SC:=sR (fJ 11 4 1::lJ 12 11::eI 13 (.call Qau [.t 12,.k (.c (.fn Qd3 []))])::Qo9) [1,2] Qaar
def Qaat:SC:=sR (fJ 7 3 1::lJ 8 7::eI 9 (.call Qau [.t 8,.k (.c (.fn Qd3 []))])::Qo8) [1,2] Qaas
def Qaau:SC:=sR (fJ 3 2 1::lJ 4 3::eI 5 (.call Qap [.t 4,.k (.c (.fn Qd2 []))])::Qo7) [1,2] Qaat
def Qakg:SC:=sR (eI 1 (.boxm (.t 0))::Qo6) [1,2] Qaau
def Qy8:List RS:=[.cell 2 5 true]
theorem Qajv:mFn prog Qd3 1 16 Qakg Qy8=true:=by kernel_rfl
def Qsj:List Item:=[oJ 23 22,mJ 24 23,gFf 25 24 2 2,gFl 26 24 25,gF 27 24 (.bin 0 .neq (.t 26) (.k (.c (.str [])))),pT 28 24 27]
def Qagk:SC:=cT 28 (sR [zJ 4 0,zJ 5 0,fB 6 false] [4,5,6] .ret) .skip
def Qsk:List Item:=[oJ 36 35,mJ 37 36,gFf 38 37 1 2,gFl 39 37 38,gF 40 37 (.bin 0 .neq (.t 39) (kI 0)),pT 41 37 40]
def Qagl:SC:=cT 41 (sR [zJ 4 0,zJ 5 0,fB 6 false] [4,5,6] .ret) .skip
def Qsl:List Item:=[oJ 49 48,mJ 50 49,gFf 51 50 1 2,gFl 52 50 51,gF 53 50 (.bin 0 .neq (.t 52) (kI 0)),pT 54 50 53]
def Qagm:SC:=cT 54 (sR [zJ 4 0,zJ 5 0,fB 6 false] [4,5,6] .ret) .skip
def Qagn:SC:=sR (fJ 46 2 2::lJ 47 46::aJ 48 Qdz [.t 47]::Qsl) [1,2,7,8,54] Qagm
def Qago:SC:=cT 62 (.reg [zJ 7 1,zJ 8 1] [1,2,7,8]) (sR [zJ 4 0,zJ 5 0,fB 6 false] [4,5,6] .ret)
def Qagp:SC:=cT 55 (.reg [zJ 7 2,zJ 8 2] [1,2,7,8]) (sR [fJ 63 0 2,lJ 64 63,cJ 65 .eql 64 11,mJ 66 65,gFf 67 66 0 2,gFl 68 66 67,gF 69 66 (.bin 0 .eql (.t 68) (kI 12)),pT 70 66 69,mJ 62 70] [1,2,62] Qago)
def Qagq:SC:=cT 42 (sR [zJ 8 3] [1,2,7,8] Qagn) (sR [fI 56 (.ldo Qa5 Qa5),fJ 57 0 2,lJ 58 57,fI 59 (.lup 0 (.ag [.str [],.int .i64 0]) (.t 56) (.t 58)),fI 60 (.fld 1 1 false (.t 59)),cJ 61 .gtr 60 0,mJ 55 61] [1,2,55] Qagp)
def Qaa0:SC:=cT 29 (sR (fJ 33 2 2::lJ 34 33::aJ 35 Qdz [.t 34]::Qsk) [1,2,7,8,41] Qagl) (sR [fJ 43 0 2,lJ 44 43,cJ 45 .eql 44 13,mJ 42 45] [1,2,7,42] Qagq)
def Qsh:SC:=cT 16 (sR (fJ 20 1 2::lJ 21 20::aJ 22 Qt0 [.t 21]::Qsj) [1,2,7,8,28] Qagk) (sR [fJ 30 0 2,lJ 31 30,cJ 32 .eql 31 2,mJ 29 32] [1,2,7,8,29] Qaa0)
def Qik:List Item:=[gF 92 85 (.not (.t 91)),pT 93 85 92,mJ 94 93,gFm 95 94 1,gF 96 94 (.bin 0 .lss (.t 95) (kI 1)),pT 97 94 96]
def Qpa:List Item:=cJ 74 .lss 73 6::mJ 75 74::gTf 76 75 1 2::gTl 77 75 76::gT 78 75 (.bin 0 .neq (.t 77) (kI 0))::gTm 79 75 78::gFf 80 79 2 2::gFl 81 79 80::gF 82 79 (.bin 0 .neq (.t 81) (.k (.c (.str []))))::gT 83 75 (.pick (.t 79) (.k (.c (.bool true))) (.t 82))::pF 84 75 83::mJ 85 84::gFf 86 85 3 2::gFl 87 85 86::gF 88 85 (.len (.t 87))::gFm 89 85 7::gFm 90 85 8::.e (some 91) (some (85,false)) (.call Qfq [.t 88,.t 89,.t 90])::Qik
def s_im_exprSize_14:SC:=cT 97 (sR [zJ 4 0,zJ 5 0,fB 6 false] [4,5,6] .ret) .skip
def Qpb:List Item:=[sJ 4 12 104]
def Qpc:List Item:=[mJ 105 109,fI 110 (.ext (.t 105) 0),fI 111 (.ext (.t 105) 1),fI 112 (.ext (.t 105) 2),mJ 13 110,mJ 14 111,mJ 15 112]
def Qaa1:SC:=cT 114 (sR [zJ 4 0,zJ 5 0,fB 6 false] [4,5,6] .ret) .skip
def Qaa2:SC:=.reg [mJ 118 10,mJ 119 14,cJ 120 .add 119 1,fI 121 (.mx (.t 118) (.t 120)),mJ 10 121] [1,9,10,99,100,101]
def Qaa3:SC:=sR [mJ 115 9,mJ 116 13,bJ 117 .add 115 116,mJ 9 117] [1,9,10,14,99,100,101] Qaa2
def Qaa4:SC:=.seq (sR [mJ 113 15,oJ 114 113] [1,9,10,13,14,99,100,101,114] Qaa1) Qaa3
def Qaa5:SC:=sR (tJ 106 4 12::mJ 107 1::cJ 108 .sub 107 1::aJ 109 Qiv [.t 106,.t 108]::Qpc) [1,9,10,13,14,15,99,100,101] Qaa4
def Qaa6:SC:=.reg [cJ 122 .add 101 1,mJ 101 122] [1,9,10,99,100,101]
def Qaa7:SC:=.seq (.block 2 (sR (iJ 103 4 99 101::tJ 104 4 103::eI 12 (.alloc [.int .i64 0,.int .i64 0,.str [],.sl true 4 []])::Qpb) [1,9,10,12,99,100,101] Qaa5)) Qaa6
def Q6p:SC:=sR [bJ 102 .lss 101 100] [1,9,10,99,100,101,102] (cX 102 1 Qaa7)
def Qaa8:SC:=sR [mJ 123 9,mJ 124 10,mJ 125 9,cJ 126 .leq 125 30,mJ 4 123,mJ 5 124,mJ 6 126] [4,5,6] .ret
def Qaa9:SC:=.seq (sR [fJ 98 3 2,lJ 99 98,nJ 100 99,zJ 101 0] [1,9,10,99,100,101] (bL 1 Q6p)) Qaa8
def Qsi:SC:=sR [zJ 9 1,zJ 10 1] [1,2,9,10] Qaa9
def Qaba:SC:=.seq (sR (fJ 71 0 2::lJ 72 71::aJ 73 Qqm [.t 72]::Qpa) [1,2,97] s_im_exprSize_14) Qsi
def Qabb:SC:=.seq (.block 0 (sR [fJ 17 0 2,lJ 18 17,cJ 19 .eql 18 1,mJ 16 19] [1,2,7,8,16] Qsh)) Qaba
def Qabc:SC:=sR [zJ 7 0,zJ 8 0] [1,2,7,8] Qabb
def Qaqm:SC:=sR [vJ 2 0,zJ 4 0,zJ 5 0,fB 6 false] [1,2] Qabc
def Qgw:List RS:=[.tmp 4,.tmp 5,.tmp 6]
theorem Qaps:mFn prog Qiv 2 127 Qaqm Qgw=true:=by kernel_rfl
def Q87:List Item:=[cJ 5 .eql 4 0,mJ 2 5]
def Qayv:SC:=sR (tJ 3 1 1::aJ 4 Qf6 [.t 3]::Q87) [2] .ret
def Qban:SC:=sR [vJ 1 0,fB 2 false] [1] Qayv
theorem Qa9p:mFn prog Qoj 1 6 Qban Qic=true:=by kernel_rfl
def Qakh:SC:=cT 13 (sR [zJ 2 5] [2] .ret) .skip
def Qaki:SC:=cT 3 (sR [fI 9 (.ldo Qa5 Qa5),mJ 10 0,fI 11 (.lup 0 (.ag [.str [],.int .i64 0]) (.t 9) (.t 10)),fI 12 (.fld 1 1 false (.t 11)),mJ 2 12] [2] .ret) (sR [mJ 14 0,cJ 15 .eql 14 11,mJ 16 15,gFm 17 16 0,gF 18 16 (.bin 0 .eql (.t 17) (kI 12)),pT 19 16 18,mJ 13 19] [13] Qakh)
def Qakj:SC:=sR [zJ 2 6] [2] .ret
def Qakk:SC:=.seq (.block 0 (sR [fI 4 (.ldo Qa5 Qa5),mJ 5 0,fI 6 (.lup 0 (.ag [.str [],.int .i64 0]) (.t 4) (.t 5)),fI 7 (.fld 1 1 false (.t 6)),cJ 8 .gtr 7 0,mJ 3 8] [0,3] Qaki)) Qakj
def Qaur:SC:=sR [zJ 2 0] [0] Qakk
theorem Qatm:mFn prog Qqm 1 20 Qaur Qic=true:=by kernel_rfl
def Qfz:List Item:=[sJ 4 7 13]
def Qf0:List Item:=[mJ 5 19]
def Qf1:List Item:=fI 18 (.bsl 4 [.t 17])::xJ 19 4 14 18::Qf0
def Qq8:SC:=.reg (mJ 14 5::mJ 15 1::tJ 16 4 7::eI 17 (.callv (.t 15) [.t 16])::Qf1) [1,5,8,9,10]
def Qq9:SC:=.reg [cJ 20 .add 10 1,mJ 10 20] [1,5,8,9,10]
def Qra:SC:=.seq (.block 1 (sR (iJ 12 4 8 10::tJ 13 4 12::eI 7 (.alloc [.int .i64 0,.int .i64 0,.str [],.sl true 4 []])::Qfz) [1,5,7,8,9,10] Qq8)) Qq9
def Qpg:SC:=sR [bJ 11 .lss 10 9] [1,5,8,9,10,11] (cX 11 0 Qra)
def Qrb:SC:=sR [mJ 21 5,mJ 4 21] [4] .ret
def Qrc:SC:=.seq (sR [mJ 8 0,nJ 9 8,zJ 10 0] [1,5,8,9,10] (bL 0 Qpg)) Qrb
def Qrd:SC:=sR [fI 5 (.mv (.k (.c (.sl true 4 []))))] [0,1,5] Qrc
def Qvc:SC:=sR [fI 4 (.mv (.k (.c (.sl true 4 []))))] [0,1] Qrd
theorem Qt7:mFn prog Qap 2 22 Qvc Qat4=true:=by kernel_rfl
def Qf2:List Item:=[sJ 5 7 13]
def Qf3:List Item:=[mJ 5 19]
def Qf4:List Item:=fI 18 (.bsl 5 [.t 17])::xJ 19 5 14 18::Qf3
def Qre:SC:=.reg (mJ 14 5::mJ 15 1::tJ 16 5 7::eI 17 (.callv (.t 15) [.t 16])::Qf4) [1,5,8,9,10]
def Qrf:SC:=.reg [cJ 20 .add 10 1,mJ 10 20] [1,5,8,9,10]
def Qrg:SC:=.seq (.block 1 (sR (iJ 12 5 8 10::tJ 13 5 12::eI 7 (.alloc [.int .i64 0,.str [],.sl true 4 [],.sl true 5 [],.sl true 5 []])::Qf2) [1,5,7,8,9,10] Qre)) Qrf
def Qph:SC:=sR [bJ 11 .lss 10 9] [1,5,8,9,10,11] (cX 11 0 Qrg)
def Qrh:SC:=sR [mJ 21 5,mJ 4 21] [4] .ret
def Qri:SC:=.seq (sR [mJ 8 0,nJ 9 8,zJ 10 0] [1,5,8,9,10] (bL 0 Qph)) Qrh
def Qrj:SC:=sR [fI 5 (.mv (.k (.c (.sl true 5 []))))] [0,1,5] Qri
def Qvd:SC:=sR [fI 4 (.mv (.k (.c (.sl true 5 []))))] [0,1] Qrj
theorem Qt8:mFn prog Qau 2 22 Qvd Qat4=true:=by kernel_rfl
def Qve:List Item:=[eI 3 (.alloc [.int .i64 0])]
def Qvf:List Item:=[sJ 3 5 12]
def Qakl:SC:=.reg [fJ 13 2 5,lJ 14 13,fI 15 (.mkf Qjn [.t 2,.t 3]),aJ 16 Qmd [.t 14,kI 1,.t 15]] [2,3,7,8,9]
def Qakm:SC:=.reg [cJ 17 .add 9 1,mJ 9 17] [2,3,7,8,9]
def Qakn:SC:=.seq (.block 1 (sR (iJ 11 3 7 9::tJ 12 3 11::eI 5 (.alloc [.str [],.sl true 1 [],.sl true 5 []])::Qvf) [2,3,5,7,8,9] Qakl)) Qakm
def Qagw:SC:=sR [bJ 10 .lss 9 8] [2,3,7,8,9,10] (cX 10 0 Qakn)
def Qvg:List Item:=[hJ 19 3,sJ 1 3 19]
def Qako:SC:=.seq (.dreg 4 [0,1,2,1,3] ( lJ 18 2::lJ 19 3::sJ 1 2 18::Qvg) [2,3]) .ret
def Qakp:SC:=.seq (sR [fJ 6 0 1,lJ 7 6,nJ 8 7,zJ 9 0] [2,3,7,8,9] (bL 0 Qagw)) Qako
def Qaus:SC:=sR (vJ 1 0::eI 2 (.alloc [.int .i64 0])::Qve) [1,2,3] Qakp
def Q8y:List RS:=[.cell 2 1 false,.cell 3 1 false]
theorem Qatn:mFn prog Qqn 1 20 Qaus Q8y=true:=by kernel_rfl
def Q6r:SC:=.reg [lJ 8 3,mJ 9 1,fI 10 (.mx (.t 8) (.t 9)),sJ 1 3 10] []
def Q6s:SC:=sR [lJ 6 2,cJ 7 .add 6 1,sJ 1 2 7] [1,3] Q6r
def Qagv:SC:=sR [vJ 4 0] [1,2,3] Q6s
theorem Qae9:mFn prog Qjn 4 11 Qagv Qgv=true:=by kernel_rfl
def Qrk:List Item:=[sJ 4 5 15]
def Qauu:SC:=.reg [tJ 16 4 5,mJ 17 1,aJ 18 Qh7 [.t 16,.t 17]] [1,10,11,12]
def Qauv:SC:=.reg [cJ 19 .add 12 1,mJ 12 19] [1,10,11,12]
def Qauw:SC:=.seq (.block 1 (sR (iJ 14 4 10 12::tJ 15 4 14::eI 5 (.alloc [.int .i64 0,.int .i64 0,.str [],.sl true 4 []])::Qrk) [1,5,10,11,12] Qauu)) Qauv
def Qaqp:SC:=sR [bJ 13 .lss 12 11] [1,10,11,12,13] (cX 13 0 Qauw)
def Qaux:SC:=sR [fJ 9 3 2,lJ 10 9,nJ 11 10,zJ 12 0] [1,10,11,12] (bL 0 Qaqp)
def Qauy:SC:=sR [mJ 6 1,tJ 7 4 2,eI 8 (.callv (.t 6) [.t 7])] [1,2] Qaux
def Qa5f:SC:=sR [vJ 2 0] [1,2] Qauy
theorem Qan3:mFn prog Qh7 2 20 Qa5f Qgv=true:=by kernel_rfl
def Qb0:List Item:=[pF 37 31 36,mJ 4 37]
def Qb1:List Item:=pF 30 24 29::mJ 31 30::gTf 32 31 4 2::gTl 33 31 32::gTf 34 31 4 3::gTl 35 31 34::.e (some 36) (some (31,true)) (.call Qbf [.t 33,.t 35,.k (.c (.fn Qe3 []))])::Qb0
def Qb2:List Item:=pF 23 17 22::mJ 24 23::gTf 25 24 3 2::gTl 26 24 25::gTf 27 24 3 3::gTl 28 24 27::.e (some 29) (some (24,true)) (.call Qbf [.t 26,.t 28,.k (.c (.fn Qe3 []))])::Qb1
def Qagx:SC:=sR (fJ 5 0 2::lJ 6 5::fJ 7 0 3::lJ 8 7::bJ 9 .eql 6 8::mJ 10 9::gTf 11 10 1 2::gTl 12 10 11::gTf 13 10 1 3::gTl 14 10 13::gT 15 10 (.bin 0 .eql (.t 12) (.t 14))::pF 16 10 15::mJ 17 16::gTf 18 17 2 2::gTl 19 17 18::gTf 20 17 2 3::gTl 21 17 20::.e (some 22) (some (17,true)) (.call Qca [.t 19,.t 21,.k (.c (.fn Qit []))])::Qb2) [4] .ret
def Qaqq:SC:=sR [vJ 2 0,vJ 3 1,fB 4 false] [2,3] Qagx
theorem Qapt:mFn prog Qe3 2 38 Qaqq Qat4=true:=by kernel_rfl
def Q6t:SC:=cT 23 (sR [mJ 24 6,mJ 4 24,fB 5 true] [4,5] .ret) .skip
def Q6u:SC:=sR [mJ 23 7] [0,1,6,23] Q6t
def Q6v:SC:=.reg [mJ 10 0,kJ 11 10,fJ 12 1 11,lJ 13 12,mJ 0 13] [0,1]
def Q6w:SC:=.seq (.block 1 (sR [mJ 15 0,kJ 16 15,fJ 17 0 16,lJ 18 17,mJ 19 1,fI 20 (.lup2 1 (.c (.int .i64 0)) (.t 18) (.t 19)),mJ 14 20,fI 21 (.ext (.t 14) 0),fI 22 (.ext (.t 14) 1),mJ 6 21,mJ 7 22] [0,1,6,7] Q6u)) Q6v
def Q30:SC:=.seq (sR [mJ 8 0,fI 9 (.bin 2 .neq (.t 8) (.k (.c .pnil)))] [0,1,9] (cT 9 .skip (.exit 0))) Q6w
def Q6x:SC:=sR [zJ 4 0,fB 5 false] [4,5] .ret
def Qagy:SC:=sR [zJ 4 0,fB 5 false] [0,1] (.seq (bL 0 Q30) Q6x)
def Qmo:List RS:=[.tmp 4,.tmp 5]
theorem Qafa:mFn prog Qfa 2 25 Qagy Qmo=true:=by kernel_rfl
def Qnw:List Item:=[mJ 4 0,fI 5 (.bld [.mnil,.pnil] [(0,1,.t 3),(1,1,.t 4)]),vJ 6 5,mJ 2 6]
def Q6y:SC:=sR (eI 3 (.mkm)::Qnw) [2] .ret
def Qagz:SC:=sR [fI 2 (.mv (.k (.c .pnil)))] [0] Q6y
theorem Qafb:mFn prog Qdc 1 7 Qagz Qic=true:=by kernel_rfl
def Qzh:List Item:=[mJ 11 14,fI 15 (.ext (.t 11) 0),fI 16 (.ext (.t 11) 1),fI 17 (.ext (.t 11) 2),fI 18 (.ext (.t 11) 3),mJ 5 15,mJ 6 16,mJ 7 17,mJ 8 18]
def Qoh:List Item:=[gT 32 28 (.not (.t 31)),pF 33 28 32,mJ 19 33]
def Qaqr:SC:=cT 19 .skip (.reg [fJ 57 0 2,lJ 58 57,cJ 59 .eql 58 8,mJ 60 59,gTf 61 60 2 2,gTl 62 60 61,gT 63 60 (.iad 4 (.t 62) (kI 0)),gTf 64 60 0 63,gTl 65 60 64,gT 66 60 (.bin 0 .neq (.t 65) (kI 13)),pF 67 60 66,mJ 19 67] [1,2,19])
def Qaqs:SC:=cT 19 .skip (sR [mJ 49 8,oJ 50 49,mJ 51 50,gTf 52 51 4 2,gTl 53 51 52,gT 54 51 (.len (.t 53)),gT 55 51 (.bin 0 .gtr (.t 54) (kI 0)),pF 56 51 55,mJ 19 56] [1,2,19] Qaqr)
def Qaqt:SC:=cT 19 .skip (sR [mJ 41 7,oJ 42 41,mJ 43 42,gTf 44 43 3 2,gTl 45 43 44,gT 46 43 (.len (.t 45)),gT 47 43 (.bin 0 .gtr (.t 46) (kI 0)),pF 48 43 47,mJ 19 48] [1,2,8,19] Qaqs)
def Q31:SC:=cT 19 .skip (sR [mJ 34 6,oJ 35 34,mJ 36 35,gTf 37 36 1 2,gTl 38 36 37,gT 39 36 (.bin 0 .neq (.t 38) (.k (.c (.str [])))),pF 40 36 39,mJ 19 40] [1,2,7,8,19] Qaqt)
def Qaqu:SC:=cT 19 .skip (sR (mJ 27 6::mJ 28 27::gTf 29 28 1 2::gTl 30 28 29::.e (some 31) (some (28,true)) (.call Qdz [.t 30])::Qoh) [1,2,6,7,8,19] Q31)
def Q32:SC:=cT 19 .skip (sR [fJ 22 2 2,lJ 23 22,nJ 24 23,mJ 25 5,bJ 26 .neq 24 25,mJ 19 26] [1,2,6,7,8,19] Qaqu)
def Qaqv:SC:=cT 19 (sR [fB 4 false] [4] .ret) .skip
def Qzi:List Item:=[sJ 4 10 74]
def Qvh:List Item:=[oJ 77 76]
def Qakr:SC:=cT 77 (sR [fB 4 false] [4] .ret) .skip
def Qaks:SC:=sR (tJ 75 4 10::aJ 76 Qf7 [.t 75]::Qvh) [1,2,69,70,71,77] Qakr
def Qakt:SC:=.reg [cJ 78 .add 71 1,mJ 71 78] [1,2,69,70,71]
def Qaku:SC:=.seq (.block 2 (sR (iJ 73 4 69 71::tJ 74 4 73::eI 10 (.alloc [.int .i64 0,.int .i64 0,.str [],.sl true 4 []])::Qzi) [1,2,10,69,70,71] Qaks)) Qakt
def Qag0:SC:=sR [bJ 72 .lss 71 70] [1,2,69,70,71,72] (cX 72 1 Qaku)
def Qmy:List Item:=[pF 90 84 89,mJ 4 90]
def Qmz:List Item:=mJ 84 83::gTf 85 84 4 2::gTl 86 84 85::gTm 87 84 1::gT 88 84 (.bin 0 .add (.t 87) (kI 1))::.e (some 89) (some (84,true)) (.call Qgb [.t 86,.t 88])::Qmy
def Qakv:SC:=sR (fJ 79 3 2::lJ 80 79::mJ 81 1::cJ 82 .add 81 1::aJ 83 Qgb [.t 80,.t 82]::Qmz) [4] .ret
def Qakw:SC:=.seq (sR [fJ 68 2 2,lJ 69 68,nJ 70 69,zJ 71 0] [1,2,69,70,71] (bL 1 Qag0)) Qakv
def Qakx:SC:=.seq (.block 0 (.seq (sR [mJ 20 1,cJ 21 .gtr 20 4,mJ 19 21] [1,2,5,6,7,8,19] Q32) Qaqv)) Qakw
def Qaky:SC:=sR (fJ 12 0 2::lJ 13 12::aJ 14 Qn6 [.t 13]::Qzh) [1,2,5,6,7,8] Qakx
def Qayz:SC:=sR [vJ 2 0,fB 4 false] [1,2] Qaky
theorem Qayc:mFn prog Qt1 2 91 Qayz Qat4=true:=by kernel_rfl
def Q33:List Item:=[sJ 5 7 13]
def Qauz:SC:=.reg [fJ 24 4 7,lJ 25 24,mJ 26 1,cJ 27 .add 26 1,mJ 28 2,aJ 29 Qmd [.t 25,.t 27,.t 28]] [1,2,8,9,10]
def Qau0:SC:=sR [fJ 18 3 7,lJ 19 18,mJ 20 1,cJ 21 .add 20 1,mJ 22 2,aJ 23 Qmd [.t 19,.t 21,.t 22]] [1,2,7,8,9,10] Qauz
def Qau1:SC:=sR [mJ 14 2,tJ 15 5 7,mJ 16 1,eI 17 (.callv (.t 14) [.t 15,.t 16])] [1,2,7,8,9,10] Qau0
def Qau2:SC:=.reg [cJ 30 .add 10 1,mJ 10 30] [1,2,8,9,10]
def Qau3:SC:=.seq (.block 1 (sR (iJ 12 5 8 10::tJ 13 5 12::eI 7 (.alloc [.int .i64 0,.str [],.sl true 4 [],.sl true 5 [],.sl true 5 []])::Q33) [1,2,7,8,9,10] Qau1)) Qau2
def Qaqw:SC:=sR [bJ 11 .lss 10 9] [1,2,8,9,10,11] (cX 11 0 Qau3)
def Qa5g:SC:=sR [mJ 8 0,nJ 9 8,zJ 10 0] [1,2,8,9,10] (bL 0 Qaqw)
theorem Qa43:mFn prog Qmd 3 31 Qa5g Qgv=true:=by kernel_rfl
def Qag1:List Item:=[eI 2 (.alloc [.int .i64 0,.int .i64 0,.str [],.sl true 4 []])]
def Qag2:List Item:=[mJ 3 21]
def Qag3:List Item:=fI 20 (.bsl 4 [.t 19])::xJ 21 4 13 20::Qag2
def Qa5j:SC:=.reg [mJ 11 4,cJ 12 .add 11 1,mJ 4 12] [1,2,3,4]
def Qa5k:SC:=.seq (.block 1 (.reg (mJ 13 3::fJ 14 3 1::lJ 15 14::mJ 16 4::iJ 17 4 15 16::tJ 18 4 17::aJ 19 Q20 [.t 18]::Qag3) [1,2,3,4])) Qa5j
def Qay7:SC:=.seq (sR [mJ 6 4,fJ 7 3 1,lJ 8 7,nJ 9 8,bJ 10 .lss 6 9] [1,2,3,4,10] (cT 10 .skip (.exit 0))) Qa5k
def Qa5l:SC:=sR [tJ 24 4 1,sJ 4 2 24] [2] .ret
def Qa5m:SC:=sR [mJ 22 3,fJ 23 3 1,sJ 1 23 22] [1,2] Qa5l
def Qa5n:SC:=.seq (sR [zJ 4 0] [1,2,3,4] (bL 0 Qay7)) Qa5m
def Qa5o:SC:=sR [fI 5 (.bsl 4 []),mJ 3 5] [1,2,3] Qa5n
def Qbe0:SC:=sR (eI 1 (.boxm (.t 0))::Qag1) [1,2] Qa5o
theorem Qbej:mFn prog Q20 1 25 Qbe0 Qy7=true:=by kernel_rfl
def Qakz:SC:=cT 11 (sR [fB 4 false] [4] .ret) .skip
def Qak0:SC:=cT 56 (sR [fB 4 false] [4] .ret) .skip
def Qvi:List Item:=[oJ 84 83]
def Qak1:SC:=cT 84 (sR [fB 4 false] [4] .ret) .skip
def Qak2:SC:=.reg [mJ 65 6,cJ 66 .add 65 1,mJ 6 66] [0,1,5,6]
def Qak3:SC:=.seq (.block 3 (.seq (.dreg 18 [0,1,2,3,4,5,6,7,8,9,10,11,12,13,14,15,16,17] ( mJ 67 0::mJ 68 5::iJ 69 5 67 68::fJ 70 2 69::lJ 71 70::mJ 72 6::iJ 73 4 71 72::tJ 74 4 73::mJ 75 1::mJ 76 5::iJ 77 5 75 76::fJ 78 2 77::lJ 79 78::mJ 80 6::iJ 81 4 79 80::tJ 82 4 81::aJ 83 Qiy [.t 74,.t 82]::Qvi) [0,1,5,6,84]) Qak1)) Qak2
def Qahh:SC:=.seq (sR [mJ 57 6,mJ 58 0,mJ 59 5,iJ 60 5 58 59,fJ 61 2 60,lJ 62 61,nJ 63 62,bJ 64 .lss 57 63] [0,1,5,6,64] (cT 64 .skip (.exit 2))) Qak3
def Qm0:List Item:=[gF 109 97 (.not (.t 108)),pT 110 97 109]
def Qm1:List Item:=oJ 96 95::mJ 97 96::gFm 98 97 0::gFm 99 97 5::gF 100 97 (.iad 5 (.t 98) (.t 99))::gFf 101 97 4 100::gFl 102 97 101::gFm 103 97 1::gFm 104 97 5::gF 105 97 (.iad 5 (.t 103) (.t 104))::gFf 106 97 4 105::gFl 107 97 106::.e (some 108) (some (97,false)) (.call Qgf [.t 102,.t 107])::Qm0
def Qak4:SC:=cT 110 (sR [fB 4 false] [4] .ret) .skip
def Qaha:SC:=.seq (.dreg 26 [0,1,2,3,4,5,6,7,8,9,10,11,12,13,14,15,16,17,18,19,20,21,22,23,24,25] ( mJ 85 0::mJ 86 5::iJ 87 5 85 86::fJ 88 3 87::lJ 89 88::mJ 90 1::mJ 91 5::iJ 92 5 90 91::fJ 93 3 92::lJ 94 93::aJ 95 Qgf [.t 89,.t 94]::Qm1) [0,1,5,110]) Qak4
def Qahb:SC:=.seq (sR [zJ 6 0] [0,1,5,6] (bL 2 Qahh)) Qaha
def Qahc:SC:=.reg [mJ 16 5,cJ 17 .add 16 1,mJ 5 17] [0,1,5]
def Qahd:SC:=.seq (.block 1 (.seq (.seq (.dreg 39 [0,1,2,3,4,5,6,7,8,9,10,11,12,13,14,15,16,17,18,19,20,21,22,23,24,25,26,27,28,29,30,31,32,33,34,35,36,37,38] ( mJ 18 0::mJ 19 5::iJ 20 5 18 19::fJ 21 0 20::lJ 22 21::mJ 23 1::mJ 24 5::iJ 25 5 23 24::fJ 26 0 25::lJ 27 26::bJ 28 .neq 22 27::mJ 29 28::gFm 30 29 0::gFm 31 29 5::gF 32 29 (.iad 5 (.t 30) (.t 31))::gFf 33 29 1 32::gFl 34 29 33::gFm 35 29 1::gFm 36 29 5::gF 37 29 (.iad 5 (.t 35) (.t 36))::gFf 38 29 1 37::gFl 39 29 38::gF 40 29 (.bin 0 .neq (.t 34) (.t 39))::pT 41 29 40::mJ 42 41::gFm 43 42 0::gFm 44 42 5::gF 45 42 (.iad 5 (.t 43) (.t 44))::gFf 46 42 2 45::gFl 47 42 46::gF 48 42 (.len (.t 47))::gFm 49 42 1::gFm 50 42 5::gF 51 42 (.iad 5 (.t 49) (.t 50))::gFf 52 42 2 51::gFl 53 42 52::gF 54 42 (.len (.t 53))::gF 55 42 (.bin 0 .neq (.t 48) (.t 54))::pT 56 42 55::[]) [0,1,5,56]) Qak0) Qahb)) Qahc
def Qabx:SC:=.seq (sR [mJ 12 5,mJ 13 0,nJ 14 13,bJ 15 .lss 12 14] [0,1,5,15] (cT 15 .skip (.exit 0))) Qahd
def Qahe:SC:=sR [fB 4 true] [4] .ret
def Qahf:SC:=.seq (sR [zJ 5 0] [0,1,5] (bL 0 Qabx)) Qahe
def Qahg:SC:=.seq (sR [mJ 7 0,nJ 8 7,mJ 9 1,nJ 10 9,bJ 11 .neq 8 10] [0,1,11] Qakz) Qahf
def Qava:SC:=sR [fB 4 false] [0,1] Qahg
theorem Qatp:mFn prog Qgf 2 111 Qava Qat4=true:=by kernel_rfl
def Qaz6:SC:=cT 10 (sR [fB 4 false] [4] .ret) .skip
def Qaz7:SC:=cT 25 (sR [fB 4 false] [4] .ret) .skip
def Qaz8:SC:=.reg [mJ 15 5,cJ 16 .add 15 1,mJ 5 16] [0,1,5]
def Qaz9:SC:=.seq (.block 1 (.seq (.dreg 9 [0,1,2,3,4,5,6,7,8] ( mJ 17 0::mJ 18 5::iJ 19 1 17 18::lJ 20 19::mJ 21 1::mJ 22 5::iJ 23 1 21 22::lJ 24 23::bJ 25 .neq 20 24::[]) [0,1,5,25]) Qaz7)) Qaz8
def Qavc:SC:=.seq (sR [mJ 11 5,mJ 12 0,nJ 13 12,bJ 14 .lss 11 13] [0,1,5,14] (cT 14 .skip (.exit 0))) Qaz9
def Qa0a:SC:=sR [fB 4 true] [4] .ret
def Qa0b:SC:=.seq (sR [zJ 5 0] [0,1,5] (bL 0 Qavc)) Qa0a
def Qa0c:SC:=.seq (sR [mJ 6 0,nJ 7 6,mJ 8 1,nJ 9 8,bJ 10 .neq 7 9] [0,1,10] Qaz6) Qa0b
def Qbbb:SC:=sR [fB 4 false] [0,1] Qa0c
theorem Qa9w:mFn prog Q5f 2 26 Qbbb Qat4=true:=by kernel_rfl
def Qahl:List Item:=[sJ 1 3 6]
def Qahm:List Item:=[sJ 3 5 18]
def Qahn:List Item:=[fJ 33 0 3,sJ 1 33 32]
def Qaho:List Item:=hJ 20 19::hJ 22 21::fI 30 (.bld [.str [],.sl true 1 [],.sl true 5 []] [(0,1,.t 22),(1,1,.t 26),(2,1,.t 29)])::fI 31 (.bsl 3 [.t 30])::xJ 32 3 20 31::Qahn
def Qahp:List Item:=hJ 20 19::hJ 22 21::hJ 28 27::aJ 29 Ql0 [.t 28]::Qaho
def Qa54:SC:=.dreg 16 [0,1,2,3,4,5,6,8,9,7,1,3,9,10,1,3,11,12,13,14,15] ( fJ 19 0 3::lJ 20 19::fJ 21 0 5::lJ 22 21::fI 23 (.bsl 1 [])::fJ 24 1 5::lJ 25 24::fJ 27 2 5::lJ 28 27::xJ 26 1 23 25::Qahp) [1,2,3,4]
def Qa55:SC:=.reg [mJ 12 4,cJ 13 .add 12 1,mJ 4 13] [1,2,3,4]
def Qa56:SC:=.seq (.block 1 (sR (fJ 14 0 1::lJ 15 14::mJ 16 4::iJ 17 3 15 16::tJ 18 3 17::eI 5 (.alloc [.str [],.sl true 1 [],.sl true 5 []])::Qahm) [1,2,3,4,5] Qa54)) Qa55
def Qa0f:SC:=.seq (sR [mJ 7 4,fJ 8 0 1,lJ 9 8,nJ 10 9,bJ 11 .lss 7 10] [1,2,3,4,11] (cT 11 .skip (.exit 0))) Qa56
def Qa57:SC:=sR [tJ 34 1 3,sJ 1 2 34] [2] .ret
def Qa0d:SC:=.seq (sR [zJ 4 0] [1,2,3,4] (bL 0 Qa0f)) Qa57
def Qa0e:SC:=sR (fI 6 (.bld [.sl true 3 []] [])::eI 3 (.alloc [.sl true 3 []])::Qahl) [1,2,3] Qa0d
def Qbfa:SC:=sR [vJ 1 0,eI 2 (.alloc [.sl true 3 []])] [1,2] Qa0e
def Qa3u:List RS:=[.cell 2 1 true]
theorem Qbeo:mFn prog Q22 1 35 Qbfa Qa3u=true:=by kernel_rfl
def Qahq:List Item:=[cJ 5 .eql 4 0,mJ 2 5]
def Qa58:SC:=sR (tJ 3 1 1::aJ 4 Qgo [.t 3]::Qahq) [2] .ret
def Qbfb:SC:=sR [vJ 1 0,fB 2 false] [1] Qa58
theorem Qbep:mFn prog Qaev 1 6 Qbfb Qic=true:=by kernel_rfl
def Qave:List Item:=[zJ 5 0,zJ 6 0]
def Qavf:List Item:=[mJ 7 14]
def Qavg:List Item:=[sJ 3 8 19]
def Qavh:List Item:=[mJ 24 1,bJ 25 .neq 23 24]
def Qbfc:SC:=cT 25 (.reg [mJ 26 7,aJ 27 Qb7 [.t 26,kI 2]] [4,7,8]) .skip
def Qavi:List Item:=[mJ 9 45]
def Qavj:List Item:=fI 44 (.bsl 1 [.t 43])::xJ 45 1 36 44::Qavi
def Qbfd:SC:=.reg [mJ 34 10,cJ 35 .add 34 1,mJ 10 35] [4,7,8,9,10]
def Qbfe:SC:=.seq (.block 1 (.reg (mJ 36 9::mJ 37 7::fJ 38 1 8::lJ 39 38::mJ 40 10::iJ 41 1 39 40::lJ 42 41::aJ 43 Qlt [.t 37,.t 42,kI 0]::Qavj) [4,7,8,9,10])) Qbfd
def Qbbj:SC:=.seq (sR [mJ 29 10,fJ 30 1 8,lJ 31 30,nJ 32 31,bJ 33 .lss 29 32] [4,7,8,9,10,33] (cT 33 .skip (.exit 0))) Qbfe
def Qaoi:List Item:=[fJ 52 2 8,sJ 1 52 51]
def Qaoj:List Item:=[hJ 57 56,hJ 61 60,mJ 5 57,mJ 6 61]
def Qbbc:SC:=.seq (.dreg 12 [0,1,2,3,4,5,6,7,8,9,4,8,10,11] ( tJ 53 3 8::mJ 54 7::kJ 55 54::fJ 56 4 55::lJ 57 56::mJ 58 7::kJ 59 58::fJ 60 3 59::lJ 61 60::sJ 3 4 53::Qaoj) [4,5,6]) .ret
def Qbbd:SC:=sR (mJ 48 7::fJ 49 2 8::lJ 50 49::aJ 51 Qd4 [.t 48,.t 50,kI 0]::Qaoi) [4,7,8] Qbbc
def Qbbe:SC:=sR [mJ 46 9,fJ 47 1 8,sJ 1 47 46] [4,7,8] Qbbd
def Qbbf:SC:=.seq (sR [zJ 10 0] [4,7,8,9,10] (bL 0 Qbbj)) Qbbe
def Qavd:SC:=sR [fI 28 (.bsl 1 []),mJ 9 28] [4,7,8,9] Qbbf
def Qbbg:SC:=.seq (sR (tJ 20 1 2::fJ 21 0 8::lJ 22 21::aJ 23 Qxi [.t 20,.t 22]::Qavh) [4,7,8,25] Qbfc) Qavd
def Qbbh:SC:=sR (fJ 15 0 2::lJ 16 15::mJ 17 1::iJ 18 3 16 17::tJ 19 3 18::eI 8 (.alloc [.str [],.sl true 1 [],.sl true 5 []])::Qavg) [1,2,4,7,8] Qbbg
def Qbbi:SC:=sR (tJ 11 1 2::mJ 12 1::fI 13 (.bld [.sl true 3 [],.int .i64 0,.sl true 3 [],.int .i64 0,.int .i64 0] [(0,1,.t 11),(1,1,.t 12)])::eI 14 (.boxm (.t 13))::Qavf) [1,2,4,7] Qbbh
def Qbke:SC:=sR (vJ 2 0::eI 4 (.alloc [.str [],.sl true 1 [],.sl true 5 []])::Qave) [1,2,4] Qbbi
def Qbai:List RS:=[.cell 4 3 true,.tmp 5,.tmp 6]
theorem Qbj5:mFn prog Qaxq 2 62 Qbke Qbai=true:=by kernel_rfl
def Qa59:SC:=sR [mJ 6 3,mJ 7 3,cJ 8 .add 7 1,fI 9 (.slis (.k (.c (.str [97,98,99,100,101,102,103,104,105,106,107,108,109,110,111,112,113,114,115,116,117,118,119,120,121,122]))) (some (.t 6)) (some (.t 8))),fI 10 (.bin 0 .add (.k (.c (.str [118]))) (.t 9)),mJ 2 10] [2] .ret
def Qa6a:SC:=sR [mJ 4 0,cJ 5 .rem 4 26,mJ 3 5] [3] Qa59
def Qbff:SC:=sR [fI 2 (.mv (.k (.c (.str []))))] [0] Qa6a
theorem Qbeq:mFn prog Q23 1 11 Qbff Qic=true:=by kernel_rfl
def Q9h:List Item:=[sJ 5 5 18]
def Q9i:List Item:=[mJ 6 35]
def Q9j:List Item:=fI 34 (.bsl 4 [.t 33])::xJ 35 4 27 34::Q9i
def Qa0g:SC:=.reg [mJ 25 7,cJ 26 .add 25 1,mJ 7 26] [0,3,4,5,6,7]
def Qa0h:SC:=.seq (.block 3 (.reg (mJ 27 6::fJ 28 2 5::lJ 29 28::mJ 30 7::iJ 31 4 29 30::tJ 32 4 31::aJ 33 Q20 [.t 32]::Q9j) [0,3,4,5,6,7])) Qa0g
def Qavr:SC:=.seq (sR [mJ 20 7,fJ 21 2 5,lJ 22 21,nJ 23 22,bJ 24 .lss 20 23] [0,3,4,5,6,7,24] (cT 24 .skip (.exit 2))) Qa0h
def Q9k:List Item:=[mJ 3 50]
def Q9l:List Item:=hJ 38 37::hJ 40 39::fI 48 (.bld [.int .i64 0,.str [],.sl true 4 [],.sl true 5 [],.sl true 5 []] [(0,1,.t 38),(1,1,.t 40),(2,1,.t 41),(3,1,.t 44),(4,1,.t 47)])::fI 49 (.bsl 5 [.t 48])::xJ 50 5 36 49::Q9k
def Q9m:List Item:=hJ 38 37::hJ 40 39::hJ 46 45::aJ 47 Ql0 [.t 46]::Q9l
def Qa0i:SC:=.dreg 16 [0,1,2,3,4,5,6,7,9,10,8,2,4,10,11,2,4,12,13,14,15] ( mJ 36 3::fJ 37 0 5::lJ 38 37::fJ 39 1 5::lJ 40 39::mJ 41 6::fJ 42 3 5::lJ 43 42::fJ 45 4 5::lJ 46 45::aJ 44 Ql0 [.t 43]::Q9m) [0,3,4]
def Qavk:SC:=.seq (sR [zJ 7 0] [0,3,4,5,6,7] (bL 2 Qavr)) Qa0i
def Qavl:SC:=sR [fI 19 (.bsl 4 []),mJ 6 19] [0,3,4,5,6] Qavk
def Qavm:SC:=.reg [mJ 13 4,cJ 14 .add 13 1,mJ 4 14] [0,3,4]
def Qavn:SC:=.seq (.block 1 (sR (mJ 15 0::mJ 16 4::iJ 17 5 15 16::tJ 18 5 17::eI 5 (.alloc [.int .i64 0,.str [],.sl true 4 [],.sl true 5 [],.sl true 5 []])::Q9h) [0,3,4,5] Qavl)) Qavm
def Qaqy:SC:=.seq (sR [mJ 9 4,mJ 10 0,nJ 11 10,bJ 12 .lss 9 11] [0,3,4,12] (cT 12 .skip (.exit 0))) Qavn
def Qavo:SC:=sR [mJ 51 3,mJ 2 51] [2] .ret
def Qavp:SC:=.seq (sR [zJ 4 0] [0,3,4] (bL 0 Qaqy)) Qavo
def Qavq:SC:=sR [fI 8 (.bsl 5 []),mJ 3 8] [0,3] Qavp
def Qbbk:SC:=sR [fI 2 (.mv (.k (.c (.sl true 5 []))))] [0] Qavq
theorem Qa9x:mFn prog Ql0 1 52 Qbbk Qic=true:=by kernel_rfl
def Qso:List Item:=[eI 4 (.alloc [.int .i64 0,.int .i64 0,.str [],.sl true 4 []])]
def Qsp:List Item:=[fJ 15 2 3,sJ 1 15 14]
def Qahr:SC:=cT 10 (.reg (mJ 11 0::fJ 12 2 3::lJ 13 12::aJ 14 Qlu [.t 11,.t 13]::Qsp) [0,3,4]) .skip
def Qsq:List Item:=[mJ 5 25]
def Qahs:SC:=cT 51 (.reg [mJ 52 0,aJ 53 Qb7 [.t 52,kI 5]] [0,3,4]) .skip
def Qvk:SC:=cT 35 (.reg [mJ 36 0,aJ 37 Qb7 [.t 36,kI 4]] [0,3,4]) (.seq (.dreg 14 [0,1,2,3,4,5,6,7,8,9,10,11,12,13] ( mJ 38 0::kJ 39 38::fJ 40 0 39::fJ 41 0 40::lJ 42 41::mJ 43 5::iJ 44 3 42 43::fJ 45 1 44::lJ 46 45::nJ 47 46::fJ 48 3 3::lJ 49 48::nJ 50 49::bJ 51 .neq 47 50::[]) [0,3,4,51]) Qahs)
def Qaht:SC:=sR [mJ 26 5,cJ 27 .lss 26 0,mJ 28 27,gFm 29 28 5,gFm 30 28 0,gF 31 28 (.nck (.t 30)),gFf 32 28 1 31,gFl 33 28 32,gF 34 28 (.bin 0 .geq (.t 29) (.t 33)),pT 35 28 34] [0,3,4,5,35] Qvk
def Qahu:SC:=cT 18 (.seq (.dreg 8 [0,1,2,3,4,5,6,7] ( mJ 19 0::kJ 20 19::fJ 21 0 20::tJ 22 1 21::fJ 23 2 3::lJ 24 23::aJ 25 Qxi [.t 22,.t 24]::Qsq) [0,3,4,5]) Qaht) .skip
def Qsr:List Item:=[mJ 6 71]
def Qss:List Item:=fI 70 (.bsl 4 [.t 69])::xJ 71 4 62 70::Qsr
def Qaby:SC:=.reg [mJ 60 7,cJ 61 .add 60 1,mJ 7 61] [0,3,4,6,7]
def Qabz:SC:=.seq (.block 1 (.reg (mJ 62 6::mJ 63 0::fJ 64 3 3::lJ 65 64::mJ 66 7::iJ 67 4 65 66::tJ 68 4 67::aJ 69 Qiw [.t 63,.t 68]::Qss) [0,3,4,6,7])) Qaby
def Q60:SC:=.seq (sR [mJ 55 7,fJ 56 3 3,lJ 57 56,nJ 58 57,bJ 59 .lss 55 58] [0,3,4,6,7,59] (cT 59 .skip (.exit 0))) Qabz
def Qab0:SC:=sR [tJ 74 4 3,sJ 4 4 74] [4] .ret
def Qab1:SC:=sR [mJ 72 6,fJ 73 3 3,sJ 1 73 72] [3,4] Qab0
def Qab2:SC:=.seq (sR [zJ 7 0] [0,3,4,6,7] (bL 0 Q60)) Qab1
def Qjw:SC:=sR [fI 54 (.bsl 4 []),mJ 6 54] [0,3,4,6] Qab2
def Qsn:SC:=.seq (sR [fJ 16 0 3,lJ 17 16,cJ 18 .eql 17 13] [0,3,4,18] Qahu) Qjw
def Qab3:SC:=.seq (sR [fJ 8 0 3,lJ 9 8,cJ 10 .eql 9 2] [0,3,4,10] Qahr) Qsn
def Qaqz:SC:=sR (eI 3 (.boxm (.t 1))::Qso) [0,3,4] Qab3
def Qgx:List RS:=[.cell 4 4 true]
theorem Qapu:mFn prog Qiw 2 75 Qaqz Qgx=true:=by kernel_rfl
def Qahv:SC:=cT 8 (.reg [mJ 9 0,mJ 10 1,kJ 11 9,fJ 12 4 11,sJ 1 12 10] []) .skip
def Qaq0:SC:=sR [mJ 4 0,kJ 5 4,fJ 6 4 5,lJ 7 6,cJ 8 .eql 7 0] [0,1,8] Qahv
theorem Qapv:mFn prog Qb7 2 13 Qaq0 Qgv=true:=by kernel_rfl
def Qahw:SC:=cT 25 (sR [mJ 26 5,mJ 4 26] [4] .ret) .skip
def Qahx:SC:=.reg [mJ 14 5,cJ 15 .sub 14 1,mJ 5 15] [0,1,5]
def Qahy:SC:=.seq (.block 1 (sR [mJ 16 0,kJ 17 16,fJ 18 2 17,lJ 19 18,mJ 20 5,iJ 21 3 19 20,fJ 22 0 21,lJ 23 22,mJ 24 1,bJ 25 .eql 23 24] [0,1,5,25] Qahw)) Qahx
def Qab4:SC:=.seq (sR [mJ 12 5,cJ 13 .geq 12 0] [0,1,5,13] (cT 13 .skip (.exit 0))) Qahy
def Qahz:SC:=sR [zJ 4 (-1)] [4] .ret
def Qah0:SC:=.seq (sR [mJ 6 0,kJ 7 6,fJ 8 2 7,lJ 9 8,nJ 10 9,cJ 11 .sub 10 1,mJ 5 11] [0,1,5] (bL 0 Qab4)) Qahz
def Qaq1:SC:=sR [zJ 4 0] [0,1] Qah0
theorem Qapw:mFn prog Qix 2 27 Qaq1 Qat4=true:=by kernel_rfl
def Qvl:List Item:=[mJ 7 10]
def Qak5:SC:=cT 24 (.reg [mJ 25 0,aJ 26 Qb7 [.t 25,kI 2]] [0,1,2]) .skip
def Qvm:List Item:=[kJ 41 27,fJ 42 2 41,sJ 1 42 40]
def Qvn:List Item:=[mJ 6 56]
def Qak6:SC:=sR (mJ 51 0::kJ 52 51::fJ 53 3 52::lJ 54 53::cJ 55 .sub 54 1::aJ 56 Q23 [.t 55]::Qvn) [6] .ret
def Qak7:SC:=sR [mJ 43 0,mJ 44 0,kJ 45 44,fJ 46 3 45,lJ 47 46,cJ 48 .add 47 1,kJ 49 43,fJ 50 3 49,sJ 1 50 48] [0] Qak6
def Qzj:SC:=.seq (.dreg 17 [0,1,2,3,4,5,6,7,8,9,10,11,12,13,14,15,16] ( mJ 27 0::mJ 28 0::kJ 29 28::fJ 30 2 29::lJ 31 30::mJ 32 1::mJ 33 0::kJ 34 33::fJ 35 3 34::lJ 36 35::mJ 37 2::fI 38 (.bld [.str [],.int .i64 0,.int .i64 0] [(0,1,.t 32),(1,1,.t 36),(2,1,.t 37)])::fI 39 (.bsl 3 [.t 38])::xJ 40 3 31 39::Qvm) [0]) Qak7
def Qak8:SC:=.seq (sR [mJ 11 7,cJ 12 .geq 11 0,mJ 13 12,gTm 14 13 0,gT 15 13 (.nck (.t 14)),gTf 16 13 2 15,gTl 17 13 16,gTm 18 13 7,gT 19 13 (.iad 3 (.t 17) (.t 18)),gTf 20 13 2 19,gTl 21 13 20,gTm 22 13 2,gT 23 13 (.bin 0 .eql (.t 21) (.t 22)),pF 24 13 23] [0,1,2,24] Qak5) Qzj
def Qak9:SC:=sR (mJ 8 0::mJ 9 1::aJ 10 Qix [.t 8,.t 9]::Qvl) [0,1,2,7] Qak8
def Qavs:SC:=sR [fI 6 (.mv (.k (.c (.str []))))] [0,1,2] Qak9
def Quj:List RS:=[.tmp 6]
theorem Qatq:mFn prog Qlt 3 57 Qavs Quj=true:=by kernel_rfl
def Qpk:List Item:=[sJ 5 10 28]
def Qpl:List Item:=[mJ 11 46]
def Qpm:List Item:=fI 45 (.bsl 4 [.t 44])::xJ 46 4 37 45::Qpl
def Qab5:SC:=.reg [mJ 35 12,cJ 36 .add 35 1,mJ 12 36] [0,1,2,7,8,9,10,11,12]
def Qab6:SC:=.seq (.block 3 (.reg (mJ 37 11::mJ 38 0::fJ 39 2 10::lJ 40 39::mJ 41 12::iJ 42 4 40 41::tJ 43 4 42::aJ 44 Qiw [.t 38,.t 43]::Qpm) [0,1,2,7,8,9,10,11,12])) Qab5
def Q7e:SC:=.seq (sR [mJ 30 12,fJ 31 2 10,lJ 32 31,nJ 33 32,bJ 34 .lss 30 33] [0,1,2,7,8,9,10,11,12,34] (cT 34 .skip (.exit 2))) Qab6
def Qpn:List Item:=[fJ 57 1 10,sJ 1 57 56]
def Qab7:SC:=cT 51 (.reg (mJ 52 0::fJ 53 1 10::lJ 54 53::mJ 55 2::aJ 56 Qlt [.t 52,.t 54,.t 55]::Qpn) [0,1,2,7,8,9,10]) .skip
def Qpo:List Item:=[fJ 65 1 10,sJ 1 65 64]
def Qab8:SC:=cT 60 (.reg (mJ 61 0::fJ 62 1 10::lJ 63 62::aJ 64 Qlu [.t 61,.t 63]::Qpo) [0,1,2,7,8,9,10]) .skip
def Qnx:List Item:=[fJ 72 3 10,sJ 1 72 71]
def Qny:List Item:=[fJ 79 4 10,sJ 1 79 78]
def Qnz:List Item:=[mJ 7 83]
def Q61:SC:=.reg (mJ 80 7::tJ 81 5 10::fI 82 (.bsl 5 [.t 81])::xJ 83 5 80 82::Qnz) [0,1,2,7,8,9]
def Q62:SC:=sR (mJ 73 0::fJ 74 4 10::lJ 75 74::mJ 76 2::cJ 77 .add 76 1::aJ 78 Qd4 [.t 73,.t 75,.t 77]::Qny) [0,1,2,7,8,9,10] Q61
def Qin:SC:=sR (mJ 66 0::fJ 67 3 10::lJ 68 67::mJ 69 2::cJ 70 .add 69 1::aJ 71 Qd4 [.t 66,.t 68,.t 70]::Qnx) [0,1,2,7,8,9,10] Q62
def Q63:SC:=.seq (sR [fJ 58 0 10,lJ 59 58,cJ 60 .eql 59 2] [0,1,2,7,8,9,10,60] Qab8) Qin
def Qpi:SC:=.seq (sR [fJ 49 0 10,lJ 50 49,cJ 51 .eql 50 1] [0,1,2,7,8,9,10,51] Qab7) Q63
def Q64:SC:=.seq (.seq .gh (.reg [mJ 47 11,fJ 48 2 10,sJ 1 48 47] [0,1,2,7,8,9,10])) Qpi
def Q65:SC:=.seq (sR [zJ 12 0] [0,1,2,7,8,9,10,11,12] (bL 2 Q7e)) Q64
def Q66:SC:=sR [fI 29 (.bsl 4 []),mJ 11 29] [0,1,2,7,8,9,10,11] Q65
def Q67:SC:=.reg [mJ 23 9,cJ 24 .add 23 1,mJ 9 24] [0,1,2,7,8,9]
def Q68:SC:=.seq (.block 1 (sR (mJ 25 1::mJ 26 9::iJ 27 5 25 26::tJ 28 5 27::eI 10 (.alloc [.int .i64 0,.str [],.sl true 4 [],.sl true 5 [],.sl true 5 []])::Qpk) [0,1,2,7,8,9,10] Q66)) Q67
def Q34:SC:=.seq (sR [mJ 19 9,mJ 20 1,nJ 21 20,bJ 22 .lss 19 21] [0,1,2,7,8,9,22] (cT 22 .skip (.exit 0))) Q68
def Q69:SC:=cT 85 (.reg [mJ 86 0,mJ 87 0,kJ 88 87,fJ 89 2 88,lJ 90 89,mJ 91 8,fI 92 (.sli 3 (.t 90) none (some (.t 91))),kJ 93 86,fJ 94 2 93,sJ 1 94 92] [7]) .skip
def Qpj:SC:=sR [mJ 95 7,mJ 6 95] [6] .ret
def Q7a:SC:=.seq (sR [mJ 84 2,cJ 85 .gtr 84 0] [0,7,8,85] Q69) Qpj
def Q7b:SC:=.seq (sR [zJ 9 0] [0,1,2,7,8,9] (bL 0 Q34)) Q7a
def Q7c:SC:=sR [mJ 14 0,kJ 15 14,fJ 16 2 15,lJ 17 16,nJ 18 17,mJ 8 18] [0,1,2,7,8] Q7b
def Q7d:SC:=sR [fI 13 (.bsl 5 []),mJ 7 13] [0,1,2,7] Q7c
def Qala:SC:=sR [fI 6 (.mv (.k (.c (.sl true 5 []))))] [0,1,2] Q7d
theorem Qajw:mFn prog Qd4 3 96 Qala Quj=true:=by kernel_rfl
def Qvo:List Item:=[mJ 5 8]
def Qalb:SC:=sR [mJ 13 1,mJ 4 13] [4] .ret
def Qalc:SC:=cT 10 (sR [mJ 11 0,aJ 12 Qb7 [.t 11,kI 3]] [1] Qalb) .skip
def Qvp:List Item:=[mJ 4 22]
def Qald:SC:=sR (mJ 14 0::kJ 15 14::fJ 16 2 15::lJ 17 16::mJ 18 5::iJ 19 3 17 18::fJ 20 1 19::lJ 21 20::aJ 22 Q23 [.t 21]::Qvp) [4] .ret
def Qale:SC:=.seq (sR [mJ 9 5,cJ 10 .lss 9 0] [0,1,5,10] Qalc) Qald
def Qalf:SC:=sR (mJ 6 0::mJ 7 1::aJ 8 Qix [.t 6,.t 7]::Qvo) [0,1,5] Qale
def Qavt:SC:=sR [fI 4 (.mv (.k (.c (.str []))))] [0,1] Qalf
theorem Qatr:mFn prog Qlu 2 23 Qavt Qat4=true:=by kernel_rfl
def Q1b:SC:=cT 4 (sR [fI 2 (.mv (.k (.c (.sl true 1 []))))] [2] .ret) .skip
def Qlh:List Item:=[mJ 2 7]
def Q1c:SC:=sR (fI 5 (.bsl 1 [])::mJ 6 0::xJ 7 1 5 6::Qlh) [2] .ret
def Q1d:SC:=.seq (sR [mJ 3 0,eI 4 (.nilq (.t 3))] [0,4] Q1b) Q1c
def Q77:SC:=sR [fI 2 (.mv (.k (.c (.sl true 1 []))))] [0] Q1d
theorem Q5w:mFn prog Qdv 1 8 Q77 Qic=true:=by kernel_rfl
def Qe7:List Item:=[cJ 8 .geq 7 0,mJ 4 8]
def Qp5:SC:=sR (mJ 5 0::mJ 6 1::aJ 7 Qey [.t 5,.t 6]::Qe7) [4] .ret
def Qti:SC:=sR [fB 4 false] [0,1] Qp5
theorem Qsw:mFn prog Qc5 2 9 Qti Qat4=true:=by kernel_rfl
def Qee:List Item:=[cJ 8 .geq 7 0,mJ 4 8]
def Qna:SC:=sR (mJ 5 0::mJ 6 1::aJ 7 Qds [.t 5,.t 6]::Qee) [4] .ret
def Qp6:SC:=sR [fB 4 false] [0,1] Qna
theorem Qou:mFn prog Qb8 2 9 Qp6 Qat4=true:=by kernel_rfl
def Qg6:List Item:=[cJ 8 .geq 7 0,mJ 4 8]
def Qtj:SC:=sR (mJ 5 0::mJ 6 1::aJ 7 Qgn [.t 5,.t 6]::Qg6) [4] .ret
def Qym:SC:=sR [fB 4 false] [0,1] Qtj
theorem Qxu:mFn prog Qd8 2 9 Qym Qat4=true:=by kernel_rfl
def Qv7:SC:=cT 14 (sR [fB 6 false] [6] .ret) .skip
def Qhp:List Item:=[mJ 7 19,sJ 4 8 21]
def Qhq:List Item:=[sJ 4 9 25]
def Qhr:List Item:=[oJ 30 29]
def Qv8:SC:=cT 30 (sR [fB 6 false] [6] .ret) .skip
def Qv9:SC:=sR (mJ 26 2::tJ 27 4 8::tJ 28 4 9::eI 29 (.callv (.t 26) [.t 27,.t 28])::Qhr) [1,2,15,16,17,30] Qv8
def Qwa:SC:=sR (mJ 22 1::mJ 23 7::iJ 24 4 22 23::tJ 25 4 24::eI 9 (.alloc [.int .i64 0,.int .i64 0,.str [],.sl true 4 []])::Qhq) [1,2,8,9,15,16,17] Qv9
def Qwb:SC:=.reg [cJ 31 .add 17 1,mJ 17 31] [1,2,15,16,17]
def Qwc:SC:=.seq (.block 1 (sR (mJ 19 17::iJ 20 4 15 17::tJ 21 4 20::eI 8 (.alloc [.int .i64 0,.int .i64 0,.str [],.sl true 4 []])::Qhp) [1,2,7,8,15,16,17] Qwa)) Qwb
def Qtn:SC:=sR [bJ 18 .lss 17 16] [1,2,15,16,17,18] (cX 18 0 Qwc)
def Qtk:SC:=sR [fB 6 true] [6] .ret
def Qtl:SC:=.seq (sR [mJ 15 0,nJ 16 15,zJ 17 0] [1,2,15,16,17] (bL 0 Qtn)) Qtk
def Qtm:SC:=.seq (sR [mJ 10 0,nJ 11 10,mJ 12 1,nJ 13 12,bJ 14 .neq 11 13] [0,1,2,14] Qv7) Qtl
def Q1e:SC:=sR [fB 6 false] [0,1,2] Qtm
theorem Qz9:mFn prog Qca 3 32 Q1e Quj=true:=by kernel_rfl
def Q1f:SC:=cT 14 (sR [fB 6 false] [6] .ret) .skip
def Qli:List Item:=[mJ 7 19,sJ 3 8 21]
def Qlj:List Item:=[sJ 3 9 25]
def Qlk:List Item:=[oJ 30 29]
def Q1g:SC:=cT 30 (sR [fB 6 false] [6] .ret) .skip
def Q1h:SC:=sR (mJ 26 2::tJ 27 3 8::tJ 28 3 9::eI 29 (.callv (.t 26) [.t 27,.t 28])::Qlk) [1,2,15,16,17,30] Q1g
def Q1i:SC:=sR (mJ 22 1::mJ 23 7::iJ 24 3 22 23::tJ 25 3 24::eI 9 (.alloc [.str [],.sl true 1 [],.sl true 5 []])::Qlj) [1,2,8,9,15,16,17] Q1h
def Q1j:SC:=.reg [cJ 31 .add 17 1,mJ 17 31] [1,2,15,16,17]
def Q1k:SC:=.seq (.block 1 (sR (mJ 19 17::iJ 20 3 15 17::tJ 21 3 20::eI 8 (.alloc [.str [],.sl true 1 [],.sl true 5 []])::Qli) [1,2,7,8,15,16,17] Q1i)) Q1j
def Qyq:SC:=sR [bJ 18 .lss 17 16] [1,2,15,16,17,18] (cX 18 0 Q1k)
def Qyn:SC:=sR [fB 6 true] [6] .ret
def Qyo:SC:=.seq (sR [mJ 15 0,nJ 16 15,zJ 17 0] [1,2,15,16,17] (bL 0 Qyq)) Qyn
def Qyp:SC:=.seq (sR [mJ 10 0,nJ 11 10,mJ 12 1,nJ 13 12,bJ 14 .neq 11 13] [0,1,2,14] Q1f) Qyo
def Q78:SC:=sR [fB 6 false] [0,1,2] Qyp
theorem Q5x:mFn prog Qgk 3 32 Q78 Quj=true:=by kernel_rfl
def Qwd:SC:=cT 14 (sR [fB 6 false] [6] .ret) .skip
def Qhs:List Item:=[mJ 7 19,sJ 5 8 21]
def Qht:List Item:=[sJ 5 9 25]
def Qhu:List Item:=[oJ 30 29]
def Qwe:SC:=cT 30 (sR [fB 6 false] [6] .ret) .skip
def Qwf:SC:=sR (mJ 26 2::tJ 27 5 8::tJ 28 5 9::eI 29 (.callv (.t 26) [.t 27,.t 28])::Qhu) [1,2,15,16,17,30] Qwe
def Qwg:SC:=sR (mJ 22 1::mJ 23 7::iJ 24 5 22 23::tJ 25 5 24::eI 9 (.alloc [.int .i64 0,.str [],.sl true 4 [],.sl true 5 [],.sl true 5 []])::Qht) [1,2,8,9,15,16,17] Qwf
def Qwh:SC:=.reg [cJ 31 .add 17 1,mJ 17 31] [1,2,15,16,17]
def Qwi:SC:=.seq (.block 1 (sR (mJ 19 17::iJ 20 5 15 17::tJ 21 5 20::eI 8 (.alloc [.int .i64 0,.str [],.sl true 4 [],.sl true 5 [],.sl true 5 []])::Qhs) [1,2,7,8,15,16,17] Qwg)) Qwh
def Qtr:SC:=sR [bJ 18 .lss 17 16] [1,2,15,16,17,18] (cX 18 0 Qwi)
def Qto:SC:=sR [fB 6 true] [6] .ret
def Qtp:SC:=.seq (sR [mJ 15 0,nJ 16 15,zJ 17 0] [1,2,15,16,17] (bL 0 Qtr)) Qto
def Qtq:SC:=.seq (sR [mJ 10 0,nJ 11 10,mJ 12 1,nJ 13 12,bJ 14 .neq 11 13] [0,1,2,14] Qwd) Qtp
def Q1l:SC:=sR [fB 6 false] [0,1,2] Qtq
theorem Q0a:mFn prog Qbf 3 32 Q1l Quj=true:=by kernel_rfl
def Q1m:SC:=cT 10 (sR [fB 4 false] [4] .ret) .skip
def Q1n:SC:=cT 24 (sR [fB 4 false] [4] .ret) .skip
def Q1o:SC:=.seq (.dreg 9 [0,1,2,3,4,5,6,7,8] ( mJ 16 0::mJ 17 5::iJ 18 1 16 17::lJ 19 18::mJ 20 1::mJ 21 5::iJ 22 1 20 21::lJ 23 22::bJ 24 .neq 19 23::[]) [0,1,12,13,24]) Q1n
def Q1p:SC:=.reg [cJ 25 .add 13 1,mJ 13 25] [0,1,12,13]
def Q1q:SC:=.seq (.block 1 (sR [mJ 15 13,mJ 5 15] [0,1,5,12,13] Q1o)) Q1p
def Qyr:SC:=sR [bJ 14 .lss 13 12] [0,1,12,13,14] (cX 14 0 Q1q)
def Q1r:SC:=sR [fB 4 true] [4] .ret
def Q1s:SC:=.seq (sR [mJ 11 0,nJ 12 11,zJ 13 0] [0,1,12,13] (bL 0 Qyr)) Q1r
def Q1t:SC:=.seq (sR [mJ 6 0,nJ 7 6,mJ 8 1,nJ 9 8,bJ 10 .neq 7 9] [0,1,10] Q1m) Q1s
def Q79:SC:=sR [fB 4 false] [0,1] Q1t
theorem Q5y:mFn prog Qgl 2 26 Q79 Qat4=true:=by kernel_rfl
def Q1u:SC:=cT 16 (sR [mJ 17 5,mJ 4 17] [4] .ret) .skip
def Q1v:SC:=sR [mJ 11 1,mJ 12 0,mJ 13 5,iJ 14 3 12 13,tJ 15 3 14,eI 16 (.callv (.t 11) [.t 15])] [0,1,5,7,8,16] Q1u
def Q1w:SC:=.reg [cJ 18 .add 8 1,mJ 8 18] [0,1,7,8]
def Q1x:SC:=.seq (.block 1 (sR [mJ 10 8,mJ 5 10] [0,1,5,7,8] Q1v)) Q1w
def Qys:SC:=sR [bJ 9 .lss 8 7] [0,1,7,8,9] (cX 9 0 Q1x)
def Q1y:SC:=sR [zJ 4 (-1)] [4] .ret
def Q1z:SC:=.seq (sR [mJ 6 0,nJ 7 6,zJ 8 0] [0,1,7,8] (bL 0 Qys)) Q1y
def Q8a:SC:=sR [zJ 4 0] [0,1] Q1z
theorem Q5z:mFn prog Qgm 2 19 Q8a Qat4=true:=by kernel_rfl
def Qwj:SC:=cT 16 (sR [mJ 17 5,mJ 4 17] [4] .ret) .skip
def Qwk:SC:=sR [mJ 11 1,mJ 12 0,mJ 13 5,iJ 14 5 12 13,tJ 15 5 14,eI 16 (.callv (.t 11) [.t 15])] [0,1,5,7,8,16] Qwj
def Qwl:SC:=.reg [cJ 18 .add 8 1,mJ 8 18] [0,1,7,8]
def Qwm:SC:=.seq (.block 1 (sR [mJ 10 8,mJ 5 10] [0,1,5,7,8] Qwk)) Qwl
def Qts:SC:=sR [bJ 9 .lss 8 7] [0,1,7,8,9] (cX 9 0 Qwm)
def Qwn:SC:=sR [zJ 4 (-1)] [4] .ret
def Qwo:SC:=.seq (sR [mJ 6 0,nJ 7 6,zJ 8 0] [0,1,7,8] (bL 0 Qts)) Qwn
def Q10:SC:=sR [zJ 4 0] [0,1] Qwo
theorem Q0b:mFn prog Qey 2 19 Q10 Qat4=true:=by kernel_rfl
def Qro:SC:=cT 16 (sR [mJ 17 5,mJ 4 17] [4] .ret) .skip
def Qrp:SC:=sR [mJ 11 1,mJ 12 0,mJ 13 5,iJ 14 1 12 13,lJ 15 14,eI 16 (.callv (.t 11) [.t 15])] [0,1,5,7,8,16] Qro
def Qrq:SC:=.reg [cJ 18 .add 8 1,mJ 8 18] [0,1,7,8]
def Qrr:SC:=.seq (.block 1 (sR [mJ 10 8,mJ 5 10] [0,1,5,7,8] Qrp)) Qrq
def Qp7:SC:=sR [bJ 9 .lss 8 7] [0,1,7,8,9] (cX 9 0 Qrr)
def Qrs:SC:=sR [zJ 4 (-1)] [4] .ret
def Qrt:SC:=.seq (sR [mJ 6 0,nJ 7 6,zJ 8 0] [0,1,7,8] (bL 0 Qp7)) Qrs
def Qwp:SC:=sR [zJ 4 0] [0,1] Qrt
theorem Qt9:mFn prog Qds 2 19 Qwp Qat4=true:=by kernel_rfl
def Q11:SC:=cT 16 (sR [mJ 17 5,mJ 4 17] [4] .ret) .skip
def Q12:SC:=sR [mJ 11 1,mJ 12 0,mJ 13 5,iJ 14 1 12 13,lJ 15 14,bJ 16 .eql 11 15] [0,1,5,7,8,16] Q11
def Q13:SC:=.reg [cJ 18 .add 8 1,mJ 8 18] [0,1,7,8]
def Q14:SC:=.seq (.block 1 (sR [mJ 10 8,mJ 5 10] [0,1,5,7,8] Q12)) Q13
def Qyt:SC:=sR [bJ 9 .lss 8 7] [0,1,7,8,9] (cX 9 0 Q14)
def Q15:SC:=sR [zJ 4 (-1)] [4] .ret
def Q16:SC:=.seq (sR [mJ 6 0,nJ 7 6,zJ 8 0] [0,1,7,8] (bL 0 Qyt)) Q15
def Q8b:SC:=sR [zJ 4 0] [0,1] Q16
theorem Q50:mFn prog Qgn 2 19 Q8b Qat4=true:=by kernel_rfl
def Qll:List Item:=[oJ 9 8]
def Q17:SC:=cT 9 (sR [zJ 2 1] [2] .ret) .skip
def Qlm:List Item:=[mJ 5 22,mJ 6 23]
def Qln:List Item:=sJ 3 4 21::Qlm
def Qlo:List Item:=mJ 17 20::fI 21 (.ext (.t 17) 0)::fI 22 (.ext (.t 17) 1)::fI 23 (.ext (.t 17) 2)::eI 4 (.alloc [.str [],.sl true 1 [],.sl true 5 []])::Qln
def Q18:SC:=cT 25 (sR [mJ 26 5,mJ 2 26] [2] .ret) .skip
def Q19:SC:=sR [mJ 24 5,cJ 25 .neq 24 0] [1,3,5,25] Q18
def Q2a:SC:=.reg [mJ 15 3,cJ 16 .add 15 1,mJ 3 16] [1,3]
def Q2b:SC:=.seq (.block 1 (sR (tJ 18 1 1::mJ 19 3::aJ 20 Qaxq [.t 18,.t 19]::Qlo) [1,3,5] Q19)) Q2a
def Qyx:SC:=.seq (sR [mJ 10 3,fJ 11 0 1,lJ 12 11,nJ 13 12,bJ 14 .lss 10 13] [1,3,14] (cT 14 .skip (.exit 0))) Q2b
def Qyu:SC:=sR [zJ 2 0] [2] .ret
def Qyv:SC:=.seq (sR [zJ 3 0] [1,3] (bL 0 Qyx)) Qyu
def Qyw:SC:=.seq (sR (tJ 7 1 1::aJ 8 Qgp [.t 7]::Qll) [1,9] Q17) Qyv
def Q8c:SC:=sR [vJ 1 0,zJ 2 0] [1] Qyw
theorem Q51:mFn prog Qgo 1 27 Q8c Qic=true:=by kernel_rfl
def Qai9:SC:=cT 33 (sR [fB 4 false] [4] .ret) .skip
def Qst:List Item:=[oJ 52 51]
def Qaja:SC:=cT 52 (sR [fB 4 false] [4] .ret) .skip
def Qajb:SC:=.reg [mJ 39 5,cJ 40 .add 39 1,mJ 5 40] [2,3,5]
def Qajc:SC:=.seq (.block 1 (.seq (.dreg 12 [0,1,2,3,4,5,6,7,8,9,10,11] ( fJ 41 3 2::lJ 42 41::mJ 43 5::iJ 44 4 42 43::tJ 45 4 44::fJ 46 3 3::lJ 47 46::mJ 48 5::iJ 49 4 47 48::tJ 50 4 49::aJ 51 Qiy [.t 45,.t 50]::Qst) [2,3,5,52]) Qaja)) Qajb
def Qad3:SC:=.seq (sR [mJ 34 5,fJ 35 3 2,lJ 36 35,nJ 37 36,bJ 38 .lss 34 37] [2,3,5,38] (cT 38 .skip (.exit 0))) Qajc
def Qajd:SC:=sR [fB 4 true] [4] .ret
def Qaje:SC:=.seq (sR [zJ 5 0] [2,3,5] (bL 0 Qad3)) Qajd
def Qajf:SC:=.seq (sR [fJ 6 0 2,lJ 7 6,fJ 8 0 3,lJ 9 8,bJ 10 .neq 7 9,mJ 11 10,gFf 12 11 1 2,gFl 13 11 12,gFf 14 11 1 3,gFl 15 11 14,gF 16 11 (.bin 0 .neq (.t 13) (.t 15)),pT 17 11 16,mJ 18 17,gFf 19 18 2 2,gFl 20 18 19,gFf 21 18 2 3,gFl 22 18 21,gF 23 18 (.bin 0 .neq (.t 20) (.t 22)),pT 24 18 23,mJ 25 24,gFf 26 25 3 2,gFl 27 25 26,gF 28 25 (.len (.t 27)),gFf 29 25 3 3,gFl 30 25 29,gF 31 25 (.len (.t 30)),gF 32 25 (.bin 0 .neq (.t 28) (.t 31)),pT 33 25 32] [2,3,33] Qai9) Qaje
def Qash:SC:=sR [vJ 2 0,vJ 3 1,fB 4 false] [2,3] Qajf
theorem Qap0:mFn prog Qiy 2 53 Qash Qat4=true:=by kernel_rfl
def Q2i:SC:=cT 12 (sR [fB 4 false] [4] .ret) .skip
def Qcd:List Item:=[gF 63 49 (.not (.t 62)),pT 64 49 63]
def Qce:List Item:=gF 47 33 (.not (.t 46))::pT 48 33 47::mJ 49 48::gFf 50 49 0 2::gFl 51 49 50::gFm 52 49 5::gF 53 49 (.iad 3 (.t 51) (.t 52))::gFf 54 49 2 53::gFl 55 49 54::gFf 56 49 0 3::gFl 57 49 56::gFm 58 49 5::gF 59 49 (.iad 3 (.t 57) (.t 58))::gFf 60 49 2 59::gFl 61 49 60::.e (some 62) (some (49,false)) (.call Qgf [.t 55,.t 61])::Qcd
def Q2j:SC:=cT 64 (sR [fB 4 false] [4] .ret) .skip
def Q2k:SC:=.reg [mJ 18 5,cJ 19 .add 18 1,mJ 5 19] [2,3,5]
def Q2l:SC:=.seq (.block 1 (.seq (.dreg 45 [0,1,2,3,4,5,6,7,8,9,10,11,12,13,14,15,16,17,18,19,20,21,22,23,24,25,26,27,28,29,30,31,32,33,34,35,36,37,38,39,40,41,42,43,44] ( fJ 20 0 2::lJ 21 20::mJ 22 5::iJ 23 3 21 22::fJ 24 0 23::lJ 25 24::fJ 26 0 3::lJ 27 26::mJ 28 5::iJ 29 3 27 28::fJ 30 0 29::lJ 31 30::bJ 32 .neq 25 31::mJ 33 32::gFf 34 33 0 2::gFl 35 33 34::gFm 36 33 5::gF 37 33 (.iad 3 (.t 35) (.t 36))::gFf 38 33 1 37::gFl 39 33 38::gFf 40 33 0 3::gFl 41 33 40::gFm 42 33 5::gF 43 33 (.iad 3 (.t 41) (.t 42))::gFf 44 33 1 43::gFl 45 33 44::.e (some 46) (some (33,false)) (.call Q5f [.t 39,.t 45])::Qce) [2,3,5,64]) Q2j)) Q2k
def Qy0:SC:=.seq (sR [mJ 13 5,fJ 14 0 2,lJ 15 14,nJ 16 15,bJ 17 .lss 13 16] [2,3,5,17] (cT 17 .skip (.exit 0))) Q2l
def Q2m:SC:=sR [fB 4 true] [4] .ret
def Q2n:SC:=.seq (sR [zJ 5 0] [2,3,5] (bL 0 Qy0)) Q2m
def Q2o:SC:=.seq (sR [fJ 6 0 2,lJ 7 6,nJ 8 7,fJ 9 0 3,lJ 10 9,nJ 11 10,bJ 12 .neq 8 11] [2,3,12] Q2i) Q2n
def Q8e:SC:=sR [vJ 2 0,vJ 3 1,fB 4 false] [2,3] Q2o
theorem Q53:mFn prog Qgq 2 65 Q8e Qat4=true:=by kernel_rfl
def Qh4:List Item:=[mJ 4 7]
def Qwr:SC:=sR (mJ 5 0::mJ 6 1::aJ 7 Qe1 [.t 5,.t 6,.k (.c (.bool true))]::Qh4) [4] .ret
def Q2q:SC:=sR [zJ 4 0] [0,1] Qwr
theorem Q0d:mFn prog Qe0 2 8 Q2q Qat4=true:=by kernel_rfl
def Qdt:List Item:=[fI 12 (.ext (.t 11) 0)]
def Qh5:List Item:=[mJ 18 2,fI 19 (.bin 1 .eql (.t 17) (.t 18))]
def Qws:SC:=cT 19 (sR [mJ 20 7,mJ 6 20] [6] .ret) .skip
def Qwt:SC:=sR (mJ 15 1::mJ 16 8::eI 17 (.callv (.t 15) [.t 16])::Qh5) [1,2,7,10,19] Qws
def Qwu:SC:=.block 1 (sR [fI 13 (.ext (.t 11) 1),fI 14 (.ext (.t 11) 2),mJ 7 13,mJ 8 14] [1,2,7,8,10] Qwt)
def Qty:SC:=sR (eI 11 (.nxts (.t 10))::Qdt) [1,2,10,11,12] (cX 12 0 Qwu)
def Qwv:SC:=sR [zJ 6 (-1)] [6] .ret
def Qww:SC:=.seq (sR [mJ 9 0,eI 10 (.rngs (.t 9))] [1,2,10] (bL 0 Qty)) Qwv
def Q2r:SC:=sR [zJ 6 0] [0,1,2] Qww
theorem Q0e:mFn prog Qe1 3 21 Q2r Quj=true:=by kernel_rfl
end Go.AE.Y

