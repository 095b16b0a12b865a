/- Part 2 of the proof: the engine, codes, walks and plain laws, each named where it stands. -/
import Derived.Test.YthnafimjdcihlaaGreatDoorZA
import Derived.Test.YthnafimjdcihlaaGreatDoorProg
open Nat (reduceEqDiff reduceAdd reduceLeDiff reduceLT)
set_option linter.unusedVariables false
set_option linter.unusedSimpArgs false
set_option maxRecDepth 4000
open Array renaming getD_eq_getD_getElem?->Jd,getElem?_eq_some_iff->Ji,getElem?_eq_getElem->Jl,getElem?_setIfInBounds_self_of_lt->Js,getElem?_setIfInBounds_ne->J5
open Bool renaming and_eq_true->Ja,not_eq_true'->Jw,or_eq_true->J3,false_eq_true->Jab,false_and->Jae,and_false->Jao,not_true->Ja3,true_and->Ja4
open Iff renaming rfl->Jat
open List renaming mem_of_getElem?->Jb,mem_append_left->Jc,mem_append->Je,mem_append_right->Jg,mem_cons->Jh,getD_eq_getElem?_getD->Jj,length_eq_zero_iff->Jk,getElem?_eq_none->Jm,all_eq_true->Jn,mem_map->Jo,append_assoc->Jp,getElem?_eq_some_iff->Jr,getElem?_eq_getElem->Jt,all_cons->Ju,map_congr_left->Jx,map_cons->Jy,append_of_mem->Jz,nodup_append->J0,take_of_length_le->J4,contains_iff_mem->J6,append_nil->J7,length_nil->J8,map_append->J9,getElem?_drop->Jac,pairwise_iff_getElem->Jaf,any_eq_true->Jag,cons_append->Jah,length_cons->Jai,length_eq_one_iff->Jaj,perm_append_comm->Jam,mem_cons_of_mem->Jan,getElem?_take->Jar,mem_cons_self->Jas,getElem?_set->Jau,countP_cons->Jav,not_mem_nil->Jaw,nil_append->Jax,drop_zero->Ja0,mem_range->Ja1,take_zero->Ja2,all_nil->Ja5,map_set->Ja6
open List.Perm renaming append_left->Jak
open List.cons renaming injEq->Jal
open Nat renaming add_mul->Jq,mul_le_mul_right->J1,lt_or_ge->J2,zero_add->Jad,mul_le_mul_left->Jap,le_refl->Jay,add_zero->Ja7,le_trans->Ja8,zero_le->Ja9
open Ne renaming symm->Jaq
open Option renaming map_some->Jaz
open Option.some renaming injEq->Jf,inj->Jaa
open Prod.mk renaming injEq->Jv
namespace Go.AE
variable {P:Program}{H:Heap}{g:G}{w:World}{e:Env}{a:Act}{o:Oper}{p:Bool}
def B8 (z:Value)(sz:Nat)(q:Nat):Value:=z.cells[q % sz]!
theorem Q5j {z:Value}{sz:Nat}(dl:z.cells.size=sz)(m:Nat):Builtin.zeroCells z.cells m=((List.range (m * sz)).map (B8 z sz)).toArray:=by
 subst dl;apply Array.ext';simp[Builtin.zeroCells,B8,Array.toList_range]
theorem Y7 {el:TypeId}{i:TypeInfo}{z:Value}{sz:Nat}(hi:P.info? el=some i)(aY:i.zero=some z)(dl:z.cells.size=sz)(m:Nat)(w:World) :
  (if m * sz=0 then (pure #[]:Sem (Array Value))else do pure (Builtin.zeroCells (←zeroValue el).cells m)).run P w=.ok ((List.range (m * sz)).map (B8 z sz)).toArray w:=by
 split
 ·rename_i h;rw[h];simp
 ·simp[BM hi aY,Q5j dl]
theorem G8 {ats:Array TypeId}{ty t t2 el:TypeId}{i:TypeInfo}{z:Value}{sz:Nat}(h0:ats[0]? = some t)(h1:ats[1]? = some t2)(hu:P.underlying t=some (.slice el))(bU:P.underlying t2=some (.int .i64))
  (hi:P.info? el=some i) (hz:i.size=sz) (aY:i.zero=some z) (dl:z.cells.size=sz) (eB:i.bytes≤128) {base:Option Addr} {n cap m:Nat} (hm:m≤LIM) (bN:n+m≤cap)
  {w':World} (aF:∀x,base=some x→(storeCells (x.add (n * sz)) ((List.range (m * sz)).map (B8 z sz))).run P w=.ok () w') (eQ:base=none→w'=w) :
  (Builtin.append_ ats ty #[.slice base n cap,.int .i64 m]).run P w=.ok (.slice base (n+m) cap) w':=by
 rw[Bu]at hm;have ir:m * i.bytes≤m * 128:=Jap _ eB;have hw:IntKind.i64.wrap (m:Int)=m:=by simp[IntKind.wrap,IntKind.signed,IntKind.bits];omega
 have lw:¬(281474976710656<(m:Int) * (i.bytes:Int)):=by
  have:((m * i.bytes:Nat):Int)≤((m * 128:Nat):Int):=by exact_mod_cast ir
  push_cast at this
  omega
 have hzm:=fun w=>Y7 (P:=P) hi aY dl m w;simp only[Builtin.append_,h0,h1];simp[Qz hu,Qz bU,Bb hi,hz,asInt,asIntOf,hw,Fx hi,lw,bN];rw[if_neg (by omega)];split
 ·rename_i h
  rw[h]at aF
  cases base with
  |none=>simp[eQ rfl]
  |some x=>have:=aF x rfl;simp at this;simp[this]
 ·simp only[BM hi aY,Result.andThen,Q5j dl]
  cases base with
  |none=>simp[eQ rfl]
  |some x=>simp[aF x rfl]
theorem On {ats:Array TypeId}{ty t t2 el:TypeId}{i:TypeInfo}{z:Value}{sz:Nat}(h0:ats[0]? = some t)(h1:ats[1]? = some t2)(hu:P.underlying t=some (.slice el))(bU:P.underlying t2=some (.int .i64))
  (hi:P.info? el=some i) (hz:i.size=sz) (aY:i.zero=some z) (dl:z.cells.size=sz) (eB:i.bytes≤128) (fm:i.bytes≠0) {base:Option Addr} {n cap m:Nat} {f1:Nat→Value} (bN:¬n+m≤cap) (d9:n+m≤LIM)
  (dr:(Builtin.firstCells sz n (.slice base n cap)).run P w.drew=.ok ((List.range (n * sz)).map f1).toArray w.drew) :
  ∃(newCap:Nat) (rest:Array Value),n+m≤newCap∧rest.size=(newCap-(n+m)) * sz∧
   (Builtin.append_ ats ty #[.slice base n cap,.int .i64 m]).run P w=.ok (.slice (some ⟨w.heap.size,0,none⟩) (n+m) newCap)
    (w.drew.alloc (.cells (((List.range (n * sz)).map f1).toArray++((List.range (m * sz)).map (B8 z sz)).toArray++rest) el)):=by
 rw[Bu]at d9;have qb:=OQ (Nat.lt_of_not_le bN);have ir:Builtin.nextslicecap (n+m) cap * i.bytes≤(2 * (n+m)+512) * 128:=Nat.mul_le_mul qb eB;have nC:m * i.bytes≤m * 128:=Jap _ eB;have hw:IntKind.i64.wrap (m:Int)=m:=by simp[IntKind.wrap,IntKind.signed,IntKind.bits];omega
 have lw:¬(281474976710656<(m:Int) * (i.bytes:Int)):=by
  have:((m * i.bytes:Nat):Int)≤((m * 128:Nat):Int):=by exact_mod_cast nC
  push_cast at this
  omega
 have bQ:¬(281474976710656<Builtin.nextslicecap (n+m) cap * i.bytes):=by omega
 have hmax:¬(9223372036854775807<(n:Int)+(m:Int)):=by omega
 generalize bG:(Question.appendCap (n+m) cap el).cut (w.tape w.drawn (.appendCap (n+m) cap el))=newCap;refine⟨newCap,Builtin.zeroCells z.cells (newCap-(n+m)),?_,?_,?_⟩
 ·rw[←bG];simp[Question.cut]
 ·simp[Builtin.zeroCells,dl]
 ·simp only[Builtin.append_,h0,h1];simp[Qz hu,Qz bU,Bb hi,hz,asInt,asIntOf,hw,Fx hi,lw,bN,fm];rw[if_neg (by omega),if_neg (by omega),if_neg bQ];simp[Question.forced,bG,dr];split
  ·rename_i h
   rw[h];simp[BM hi aY,newRow]
  ·simp only[BM hi aY,Result.andThen,Q5j dl];rw[←Array.append_assoc];simp[newRow]
theorem Qb2h {sz m:Nat}{zr:List C}{A:C}{x' y':Operand}{ats:Array TypeId}{t t2 el:TypeId}{i:TypeInfo}{z:Value}{K:V→Heap→Prop}
  (hm:o.op=.call { callee:=.builtin .append,args:=#[x',y'],argTypes:=ats }) (h0:ats[0]? = some t) (h1:ats[1]? = some t2) (hu:P.underlying t=some (.slice el)) (bU:P.underlying t2=some (.int .i64))
  (hi:P.info? el=some i) (hz:i.size=sz) (aY:i.zero=some z) (dl:z.cells.size=sz) (eB:i.bytes≤128) (fm:i.bytes≠0) (mh:B1 zr z=true)
  (dt:RepC w g A (a.eval x')) (nw:a.eval y'=.int .i64 m) (iX:m≤LIM) (hs:Sat H g w) (q5:appT H sz A (.sl false sz (List.replicate m zr)) K):EOk P H g w a o K:=by
 generalize j6:a.eval x'=xv at dt;have bp:(execOp a.eval o).run P w=((Builtin.append_ ats o.type #[xv,.int .i64 m]).run P w).andThen fun v w'=>.ok (.value v) w':=by
  simp[execOp,hm,resolve,invoke,builtin,j6,nw]
 have oS:=fun (w:World) (g:G)=>Ft (w:=w) (g:=g) mh;have kh:zr.length=sz:=by
  have:=(oS w g).1;omega
 obtain⟨R,hR⟩:∃R,List.replicate m zr=R:=⟨_,rfl⟩;rw[hR]at q5;have hRl:R.length=m:=by rw[←hR];simp
 have sv:∀(i:Nat) (row:List C),R[i]? = some row→i<m∧row=zr:=by
  intro i row h;rw[←hR,List.getElem?_replicate]at h;split at h
  ·exact⟨‹_›,(Jaa h).symm⟩
  ·cases h
 have by3:∀(i:Nat) (row:List C),R[i]? = some row→row.length=sz:=fun i row h=>by rw[(sv i row h).2,kh]
 have fz:∀(w:World) (g:G) (j:Nat) (c:C),zr[j]? = some c→∀i,RepC w g c (B8 z sz (i * sz+j)):=by
  intro w g j c hj i;have hjs:j<sz:=by
   rw[←kh];exact (Jr.1 hj).1
  have e:(i * sz+j) % sz=j:=by rw[Nat.add_comm,Nat.add_mul_mod_self_right,Nat.mod_eq_of_lt hjs]
  have hg:z.cells[j]? = some z.cells[j]!:=by
   rw[getElem!_pos z.cells j (by omega)];exact Jl (by omega)
  rw[B8,e];exact (oS w g).2 j c _ hj hg
 have f3:∀(w:World) (g:G) (i:Nat) (row:List C) (j:Nat) (c:C),R[i]? = some row→row[j]? = some c→RepC w g c (B8 z sz (i * sz+j)):=by
  intro w g i row j c h1 h2;rw[(sv i row h1).2]at h2;exact fz w g j c h2 i
 have f2:∀q,q<m * sz→(B8 z sz q).oneCell'=true:=by
  intro q hq;obtain⟨a1,a2,a3⟩:=OD hq;have:=fz w g (q % sz) (zr[q % sz]'(by omega)) (Jt (by omega)) (q / sz);rw[a3]at this;exact this.one
 clear mh oS kh fz hR;have da:=Hh hs;unfold appT at q5;obtain⟨_,_,q5⟩:=q5;simp only[rowsOf,ax,hRl]at q5;split at q5
 ·
  rename_i z' rows
  obtain⟨rfl,c2,c3,c4,c5⟩:=q5;have dO:∃ad,xv=.slice ad rows.length rows.length:=by
   cases dt with
   |bk _ _ ad=>exact⟨ad,rfl⟩
   |sl _ _ _ b off cap val hl hf ci bV dx jc ip=>rw[hf rfl];exact⟨_,rfl⟩
  obtain⟨ad,rfl⟩:=dO;by_cases dg:m=0
  ·have eq:rows=[]:=by
    rcases c2 with h|h
    ·exact h
    ·exact absurd (Jk.1 (by omega)) h
   subst eq;obtain⟨l,hl,mf⟩:=hs.newName;have bx:=G8 (P:=P) (w:=w) (ty:=o.type) (base:=ad) (n:=0) (cap:=0) (m:=m) h0 h1 hu bU hi hz aY dl eB iX (by omega) (w':=w)
    (fun x _=>by rw[dg];simp[storeCells]) (fun _=>rfl)
   refine EOk.value (v:=.slice ad (0+m) 0) (by rw[bp];simp only[J8];rw[bx];rfl) (c5 l mf) ?_ ?_ (g':=g.newVirt l z')
   ·have kR:R=[]:=Jk.1 (by omega);rw[kR];exact Pl hs hl z'
   ·simp only[J8,dg,Ja7];exact .c _ _ (.bf _ _ _ _)
  ·obtain⟨l,hl,mf⟩:=da.sat.newName;have lN:=dt.mono da.le;have hA:∀r∈rowsOf H (C.sl true z' rows),ar r=true:=fun r hr=>c3 r (Jc _ hr);obtain⟨f',f1',f2',f3'⟩:=Ff da.sat lN (s:=.sl true z' rows) trivial (sz:=z') rfl hA;simp only[ax]at f1';obtain⟨newCap,rest,k1,k2,k3⟩:=On (P:=P) (w:=w) (ty:=o.type) h0 h1 hu bU hi hz aY dl eB fm (base:=ad) (n:=rows.length) (cap:=rows.length) (m:=m) (by omega) c4 f1';have bn:=E8 (n:=rows.length) (m:=m) (sz:=z') (f1:=f') (f:=B8 z z') (rest:=rest);generalize cp:(((List.range (rows.length * z')).map f').toArray++((List.range (m * z')).map (B8 z z')).toArray++rest)=arr at k3 bn;have ez:arr.size=newCap * z':=by
    rw[←cp];simp[k2];rw[←Jq,←Jq];congr 1;omega
   have aF:=Dl da.sat hl z' 0 (.cells arr el) (.vec z' (rows++R)) (fun g' hg=>by
    subst hg;have a9:=ET da.sat hl z' 0 (.cells arr el);refine .inr (EU (nb:=w.drew.heap.size) (base:=0) (T:=el) (arr:=arr) (n:=rows.length) (m:=m) (by simp[G.newObj]) (by simp[G.newObj]) (BQ _ _)
     (by rw[ez,Jad];exact J1 _ k1) c4 rfl (by omega) ?_ by3 ?_ ?_)
    ·cases dt with
     |bk=>simp
     |sl _ _ _ b off cap val hl hf ci bV dx jc ip=>exact dx
    ·intro i row j c e1 e2;have ql:row.length=z':=by
      cases dt with
      |bk=>simp at e1
      |sl _ _ _ b off cap val hl hf ci bV dx jc ip=>exact dx _ _ e1
     refine⟨f' (i * z'+j),bn.1 i j ?_ ?_,.plain _ _ _ _ ((f3' i row j c e1 e2).mono a9)⟩
     ·rcases J2 i rows.length with h|h
      ·exact h
      ·rw[Jm h]at e1;simp at e1
     ·rw[←ql];rcases J2 j row.length with h|h
      ·exact h
      ·rw[Jm h]at e2;simp at e2
    ·intro i row j c e1 e2;refine⟨B8 z z' (i * z'+j),bn.2 i j ?_ ?_,f3 _ _ i row j c e1 e2⟩
     ·rcases J2 i (R).length with h|h
      ·omega
      ·rw[Jm h]at e1;simp at e1
     ·rw[←by3 i row e1];rcases J2 j row.length with h|h
      ·exact h
      ·rw[Jm h]at e2;simp at e2)
   refine EOk.value (v:=.slice (some ⟨w.heap.size,0,none⟩) (rows.length+m) newCap) (by rw[bp,k3];rfl) (c5 l mf) (da.trans aF) ?_;have:=RepC.aG (w:=w.drew.alloc (.cells arr el)) (g:=g.newObj l w.drew.heap.size z' 0) l z' 0 (rows.length+m) newCap w.heap.size 0 el arr.size (by simp[G.newObj]) k1
    (by simp only[World.shape?];rw[show w.heap.size=w.drew.heap.size from rfl,BQ]) (by rw[ez];simp)
   simpa using RepV.c _ _ this
 ·
  rename_i l z' st n
  split at q5
  ·rename_i y0 rows hH
   obtain⟨kf,kj,c2,lr,c4,c5⟩:=q5;subst kj;subst kf;have aZ:=hs.objs l;rw[hH]at aZ;have fc:H l≠.none:=by rw[hH];simp
   have dd:∀v es,H l≠.map v es:=by rw[hH];simp
   have ey:(∃ad,xv=.slice ad 0 0∧n=0)∨∃b base cap T mm,xv=.slice (some ⟨b,base+st * z',none⟩) n cap∧g.io l=some (b,z',base)∧n≤cap∧w.shape? b=some (T,mm)∧base+(st+cap) * z'≤mm:=by
    cases dt with
    |bf _ _ _ ad=>exact .inl ⟨ad,rfl,rfl⟩
    |aG _ _ _ _ cap b base T mm bd hn ej gX=>exact .inr ⟨b,base,cap,T,mm,rfl,bd,hn,ej,gX⟩
   have aO:((rows.drop st).take n).length=n:=by simp;omega
   have cG:∀(i:Nat) (row:List C),((rows.drop st).take n)[i]? = some row→i<n∧rows[st+i]? = some row:=by
    intro i row h;simp only[Jar,Jac]at h;split at h
    ·exact⟨by assumption,h⟩
    ·simp at h
   have jlt:∀{row:List C} {j:Nat} {c:C} {k:Nat},row.length=k→row[j]? = some c→j<k:=by
    intro row j c k hk hj;rw[←hk];rcases J2 j row.length with h|h
    ·exact h
    ·rw[Jm h]at hj;simp at hj
   have grow:∀(ad:Option Addr) (cap:Nat),xv=.slice ad n cap→¬n+m≤cap→EOk P H g w a o K:=by
    intro ad cap dO mt;have dR:∃f':Nat→Value,(Builtin.firstCells z' n (.slice ad n cap)).run P w.drew=.ok ((List.range (n * z')).map f').toArray w.drew∧
      ∀(i:Nat) (row:List C) (j:Nat) (c:C),((rows.drop st).take n)[i]? = some row→row[j]? = some c→RepO w g l [st+i,j] c (f' (i * z'+j)):=by
     rcases ey with ⟨ad',h1,h2⟩|⟨b,base,cap',T,mm,h1,h2,h3,h4,h5⟩
     ·rw[dO]at h1;simp only[Value.slice.injEq]at h1;subst h2;refine⟨fun _=>undef,?_,fun i row j c e1 _=>by simp at e1⟩
      cases ad with
      |none=>simp[Builtin.firstCells]
      |some q=>simp[Builtin.firstCells,loadCells,loadCellsFrom]
     ·rw[dO]at h1;simp only[Value.slice.injEq]at h1;obtain⟨rfl,_,rfl⟩:=h1;obtain⟨b',base',T',cs,val,r1,r2,r3,r4,r5,r6,r7,r8⟩:=SatVec.of aZ h2;rw[h2]at r1;simp only[Jf,Jv,true_and]at r1;obtain⟨rfl,rfl⟩:=r1;have ba:(st+n) * z'≤rows.length * z':=J1 _ c2;rw[Jq]at ba;refine⟨fun q=>cs.getD (base+st * z'+q) undef,?_,fun i row j c e1 e2=>?_⟩
      ·simp only[Builtin.firstCells];refine run_loadCells _ _ _ _ fun j hj=>?_;rw[BS];rw[show w.drew.cell? ⟨b,base+st * z'+j,none⟩=w.cell? ⟨b,base+st * z'+j,none⟩ from rfl,EW r3];rw[Jd,Jl (by omega)];rfl
      ·obtain⟨hi,e1'⟩:=cG i row e1;have:=r7 _ _ _ _ e1' e2;rw[Jq]at this;have e3:base+st * z'+(i * z'+j)=base+(st * z'+i * z')+j:=(by omega);show RepO _ _ _ _ _ (cs.getD (base+st * z'+(i * z'+j)) undef);rw[e3,Jd,this];exact r8 _ _ _ _ e1' e2
    obtain⟨f',f1',f3'⟩:=dR;obtain⟨newCap,rest,k1,k2,k3⟩:=On (P:=P) (w:=w) (ty:=o.type) h0 h1 hu bU hi hz aY dl eB fm (base:=ad) (n:=n) (cap:=cap) (m:=m) mt c4 f1';have bn:=E8 (n:=n) (m:=m) (sz:=z') (f1:=f') (f:=B8 z z') (rest:=rest);generalize cp:(((List.range (n * z')).map f').toArray++((List.range (m * z')).map (B8 z z')).toArray++rest)=arr at k3 bn;have ez:arr.size=newCap * z':=by
     rw[←cp];simp[k2];rw[←Jq,←Jq];congr 1;omega
    obtain⟨l',cB,cW⟩:=da.sat.newName;have dq:l'≠l:=fun h=>(by subst h;exact fc (hs.none_of_io cB));have aF:=P9 da.sat (l:=l) (l':=l') cB fc (st:=st) (n:=n) (nb:=w.drew.heap.size) (sz:=z') (base:=0) (w':=w.drew.alloc (.cells arr el)) (rows:=(rows.drop st).take n++R)
     (.inr rfl) (by simp) (by simp) (by simp) (fun b hb aa=>Dj _ _ aa) (fun h=>absurd h (Nat.lt_irrefl _)) rfl rfl rfl (fun a9=>by
      refine EU (nb:=w.drew.heap.size) (base:=0) (T:=el) (arr:=arr) (n:=n) (m:=m) (by simp[G.handOver]) (by simp[G.handOver]) (BQ _ _)
       (by rw[ez,Jad];exact J1 _ k1) c4 aO (by omega) (fun i row h=>?_) by3 (fun i row j c e1 e2=>?_) (fun i row j c e1 e2=>?_)
      ·obtain⟨hi,h'⟩:=cG i row h;rcases aZ with ⟨r1,_⟩|⟨b',base',T',cs,val,r1,r2,r3,r4,r5,r6,r7,r8⟩
       ·rw[r1]at h';simp at h'
       ·exact r6 _ _ h'
      ·obtain⟨hi,h'⟩:=cG i row e1;have bZ:row.length=z':=by
        rcases aZ with ⟨r1,_⟩|⟨b',base',T',cs,val,r1,r2,r3,r4,r5,r6,r7,r8⟩
        ·rw[r1]at h';simp at h'
        ·exact r6 _ _ h'
       refine⟨f' (i * z'+j),bn.1 i j hi (jlt bZ e2),?_⟩;refine (f3' i row j c e1 e2).move (da.le.trans a9) fun q b hb=>?_;have i3:=C1 hs hb;have gn:b≠w.drew.heap.size:=(by simp only[World.size_drew];omega);exact⟨PD hb hi gn,Dj _ _ i3⟩
      ·refine⟨B8 z z' (i * z'+j),bn.2 i j ?_ (jlt (by3 i row e1) e2),f3 _ _ i row j c e1 e2⟩;rcases J2 i (R).length with h|h
       ·omega
       ·rw[Jm h]at e1;simp at e1) dd
    refine EOk.value (v:=.slice (some ⟨w.heap.size,0,none⟩) (n+m) newCap) (by rw[bp,dO,k3];rfl) (c5 l' (by rw[Heap.af _ _ dq];exact cW)) (da.trans aF) ?_;have:=RepC.aG (w:=w.drew.alloc (.cells arr el)) (g:=g.handOver l l' st n w.drew.heap.size z' 0) l' z' 0 (n+m) newCap w.heap.size 0 el arr.size (by simp[G.handOver]) k1
     (by simp only[World.shape?];rw[show w.heap.size=w.drew.heap.size from rfl,BQ]) (by rw[ez];simp)
    simpa using RepV.c _ _ this
   rcases ey with ⟨ad,dO,rfl⟩|⟨b,base,cap,T,mm,dO,bd,nB,ej,gX⟩
   ·by_cases dg:m=0
    ·
     have bx:=G8 (P:=P) (w:=w) (ty:=o.type) (base:=ad) (n:=0) (cap:=0) (m:=m) h0 h1 hu bU hi hz aY dl eB iX (by omega) (w':=w)
      (fun x _=>by rw[dg];simp[storeCells]) (fun _=>rfl)
     have hd:=KD hs l dd;obtain⟨l',cB,cW⟩:=hd.sat.newName;refine EOk.value (v:=.slice ad (0+m) 0) (by rw[bp,dO,bx];rfl) (c5 l' cW) ?_ ?_ (g':=g.newVirt l' z')
     ·have kR:R=[]:=Jk.1 (by omega);rw[kR];simp only[Ja2,J7];exact hd.trans (Pl hd.sat cB z')
     ·simp only[dg,Ja7];exact .c _ _ (.bf _ _ _ _)
    ·exact grow ad 0 dO (by omega)
   ·by_cases bN:n+m≤cap
    ·
     obtain⟨b',base',T',cs,val,r1,r2,r3,r4,r5,r6,r7,r8⟩:=SatVec.of aZ bd;rw[bd]at r1;simp only[Jf,Jv,true_and]at r1;obtain⟨rfl,rfl⟩:=r1;have lu:mm=cs.size∧T=T':=by
      simp only[World.shape?,r3,Jf,Jv]at ej;exact⟨ej.2.symm,ej.1.symm⟩
     obtain⟨rfl,rfl⟩:=lu;have fS:(st+(n+m)) * z'≤(st+cap) * z':=J1 _ (by omega);rw[Jq,Jq]at fS;have ba:base+st * z'+n * z'+m * z'≤cs.size:=by
      rw[Jq]at gX fS;omega
     have di:=fun k=>Fp (base+st * z'+n * z') ((List.range (m * z')).map (B8 z z')) 0 cs k (by simp;omega);generalize gR:(((List.range (m * z')).map (B8 z z')).zipIdx 0).foldl (fun (cs:Array Value) (x:Value×Nat)=>cs.setIfInBounds (base+st * z'+n * z'+x.2) x.1) cs=cs' at di;have eg:=HM (P:=P) ((List.range (m * z')).map (B8 z z')) 0 w b (base+st * z'+n * z') cs T r3 (by simp;omega) (by
      intro v hv;simp only[Jo,Ja1]at hv;obtain⟨q,hq,rfl⟩:=hv;exact f2 q hq)
     rw[gR]at eg;have bx:=G8 (P:=P) (w:=w) (ty:=o.type) (base:=some ⟨b,base+st * z',none⟩) (n:=n) (cap:=cap) (m:=m) h0 h1 hu bU hi hz aY dl eB iX bN (w':=World.au w b cs' T)
      (fun x hx=>by simp only[Jf]at hx;subst hx;rw[BS];exact eg) (fun h=>by simp at h)
     have dD:=Fq r3;obtain⟨l',cB,cW⟩:=hs.newName;have dq:l'≠l:=fun h=>(by subst h;exact fc (hs.none_of_io cB));have fH:cs'.size=cs.size:=(di 0).1;have aF:=P9 hs (l:=l) (l':=l') cB fc (st:=st) (n:=n) (nb:=b) (sz:=z') (base:=base+st * z') (w':=World.au w b cs' T) (rows:=(rows.drop st).take n++R)
      (.inl ⟨dD,r2⟩) (by simp[World.au]) (by simp[World.au];exact dD) (by simp[World.au];omega) (fun b' aR _=>DL aR)
      (fun _ T0 k hk=>by
       simp only[World.shape?,r3,Jf,Jv]at hk;simp only[World.shape?,DY dD,fH,Jf,Jv];exact hk) rfl rfl rfl (fun a9=>by
       refine EU (nb:=b) (base:=base+st * z') (T:=T) (arr:=cs') (n:=n) (m:=m) (by simp[G.handOver]) (by simp[G.handOver]) (DY dD)
        (by rw[fH,Jq];omega) c4 aO (by omega) (fun i row h=>r6 _ _ (cG i row h).2) by3 (fun i row j c e1 e2=>?_) (fun i row j c e1 e2=>?_)
       ·obtain⟨hi,h'⟩:=cG i row e1;have hj:=jlt (r6 _ _ h') e2;have aa:=DS hi hj;refine⟨val (st+i) j,?_,?_⟩
        ·rw[(di _).2,if_neg (by omega),←r7 _ _ _ _ h' e2];congr 1;rw[Jq];omega
        ·refine (r8 _ _ _ _ h' e2).move a9 fun q b2 br=>?_;have gn:b2≠b:=fun h=>(by subst h;rw[r2]at br;simp at br);exact⟨PD br hi gn,DL gn⟩
       ·have hj:=jlt (by3 i row e1) e2;have hi:i<m:=by
         rcases J2 i (R).length with h|h
         ·omega
         ·rw[Jm h]at e1;simp at e1
        have aa:=DS hi hj;refine⟨B8 z z' (i * z'+j),?_,f3 _ _ i row j c e1 e2⟩;have ir:(n+i) * z'=n * z'+i * z':=(by rw[Jq]);rw[(di _).2,if_pos (by simp;omega)];rw[show base+st * z'+(n+i) * z'+j-(base+st * z'+n * z'+0)=i * z'+j by omega];simp only[List.getElem?_map];rw[List.getElem?_range aa];rfl) dd
     refine EOk.value (v:=.slice (some ⟨b,base+st * z',none⟩) (n+m) cap) (by rw[bp,dO,bx];rfl) (c5 l' (by rw[Heap.af _ _ dq];exact cW)) aF ?_;have:=RepC.aG (w:=World.au w b cs' T) (g:=g.handOver l l' st n b z' (base+st * z')) l' z' 0 (n+m) cap b (base+st * z') T cs.size (by simp[G.handOver]) bN
      (by simp only[World.shape?,DY dD,fH]) (by rw[Jad];rw[Jq]at gX;omega)
     simpa using RepV.c _ _ this
    ·exact grow _ cap dO bN
  ·exact q5.elim
 ·exact q5.elim
def Dr (P:Program)(el:TypeId)(sz:Nat):Bool:=
 match P.info? el with
 |some i=>i.size == sz&&decide (i.bytes≤128)&&decide (i.bytes≠0)&&(match i.zero with
  |some z=>z.cells.size == sz
  |none=>false)
 |none=>false
theorem GD {el:TypeId}{sz:Nat}(h:Dr P el sz=true):∃i z,P.info? el=some i∧i.size=sz∧i.zero=some z∧z.cells.size=sz∧i.bytes≤128∧i.bytes≠0:=by
 unfold Dr at h;split at h
 ·rename_i i hi
  simp only[Ja,decide_eq_true_eq,beq_iff_eq]at h;obtain⟨⟨⟨h1,h2⟩,h3⟩,h4⟩:=h;split at h4
  ·rename_i z hz;exact⟨i,z,hi,h1,hz,by simpa using h4,h2,h3⟩
  ·simp at h4
 ·simp at h
def mMap (P:Program)(t:TypeId)(tag:Nat):Bool:=
 match P.underlying t with
 |some (.map kt _)=>(match P.underlying kt with
  |some d=>Ds d tag
  |none=>false)
 |_=>false
theorem Gg {t:TypeId}{tag:Nat}(h:mMap P t tag=true):∃kt et,P.underlying t=some (.map kt et)∧P.underlying kt=some (tagD tag):=by
 unfold mMap at h;split at h
 ·rename_i kt et hu
  split at h
  ·rename_i d hd;have:=GE h;subst this;exact⟨kt,et,hu,hd⟩
  ·simp at h
 ·simp at h
def mE (P:Program)(o:Oper):EOp→Bool
 |.alloc cells=>match o.op with
  |.alloc t=>Cx P t cells
  |_=>false
 |.boxm x=>match o.op with
  |.box _ x'=>mO x x'
  |_=>false
 |.sto n x y=>match o.op with
  |.store t x' y'=>By P t n&&mO x x'&&mO y y'
  |_=>false
 |.app sz x y=>match o.op with
  |.call { callee:=.builtin .append,args:=⟨[x',y']⟩,argTypes:=ats }=>mO x x'&&mO y y'&&(match ats[0]?,ats[1]? with
   |some t,some t2=>(match P.underlying t,P.underlying t2 with
    |some (.slice el),some (.slice _)=>Dr P el sz
    |_,_=>false)
   |_,_=>false)
  |_=>false
 |.apz sz zr x y=>match o.op with
  |.call { callee:=.builtin .append,args:=⟨[x',y']⟩,argTypes:=ats }=>mO x x'&&mO y y'&&(match ats[0]?,ats[1]? with
   |some t,some t2=>(match P.underlying t,P.underlying t2 with
    |some (.slice el),some (.int .i64)=>Dr P el sz&&Cx P el zr
    |_,_=>false)
   |_,_=>false)
  |_=>false
 |.mks sz zero x=>match o.op with
  |.makeSlice t x' y'=>mO x x'&&mO x y'&&zero.length == sz&&decide (sz≠0)&&(match P.underlying t with
   |some (.slice el)=>Dr P el sz&&Cx P el zero
   |_=>false)
  |_=>false
 |.mkm=>match o.op with
  |.makeMap _ none=>true
  |_=>false
 |.upd tag x k y=>match o.op with
  |.mapUpdate t x' k' y'=>mO x x'&&mO k k'&&mO y y'&&mMap P t tag
  |.insert t x' k' y'=>mO x x'&&mO k k'&&mO y y'&&mMap P t tag
  |_=>false
 |.del tag x k=>match o.op with
  |.call { callee:=.builtin .delete,args:=⟨[x',k']⟩,argTypes:=ats }=>mO x x'&&mO k k'&&o.dst.isNone&&(match ats[0]? with
   |some t=>mMap P t tag
   |none=>false)
  |_=>false
 |.clrm x=>match o.op with
  |.call { callee:=.builtin .clear,args:=⟨[x']⟩,argTypes:=ats }=>mO x x'&&(match ats[0]? with
   |some t=>(match P.underlying t with
    |some (.map _ _)=>true
    |_=>false)
   |none=>false)
  |_=>false
 |.clrs sz zero x=>match o.op with
  |.call { callee:=.builtin .clear,args:=⟨[x']⟩,argTypes:=ats }=>mO x x'&&zero.length == sz&&(match ats[0]? with
   |some t=>(match P.underlying t with
    |some (.slice el)=>Cx P el zero
    |_=>false)
   |none=>false)
  |_=>false
 |.call f xs=>match o.op with
  |.call { callee:=.value (.func f'),args:=aS,argTypes:=_ }=>f == f'&&mOs xs aS.toList
  |_=>false
 |.bv x xs=>match o.op with
  |.call { callee:=.value y,args:=aS,argTypes:=_ }=>mO x y&&mOs xs aS.toList
  |_=>false
 |.rng x=>match o.op with
  |.range t x'=>mO x x'&&(match P.underlying t with
   |some (.map _ _)=>true
   |_=>false)
  |_=>false
 |.rngs x=>match o.op with
  |.range t x'=>mO x x'&&(match P.underlying t with
   |some .string=>true
   |_=>false)
  |_=>false
 |.nxts x=>match o.op with
  |.next x' true=>mO x x'
  |_=>false
 |.nxt x=>match o.op with
  |.next x' false=>mO x x'
  |_=>false
 |.ent x=>match o.op with
  |.entry x'=>mO x x'
  |_=>false
 |.nilq x=>match o.op with
  |.binOp .eql t x' (.const (.slice none 0 0)) _=>mO x x'&&(match P.underlying t with
   |some (.slice _)=>true
   |_=>false)
  |_=>false
 |.cpy sz x y=>match o.op with
  |.call { callee:=.builtin .copy,args:=⟨[x',y']⟩,argTypes:=ats }=>mO x x'&&mO y y'&&(match ats[0]? with
   |some t=>(match P.underlying t with
    |some (.slice el)=>By P el sz
    |_=>false)
   |none=>false)
  |_=>false
 |.bslm sz parts=>match o.op with
  |.buildSlice t n parts'=>n == parts'.size&&decide (n * sz≤2 ^ 24)&&mRow 0 parts parts'.toList&&decide (sz≠0)&&(match P.underlying t with
   |some (.slice el)=>By P el sz&&(match P.info? el with
    |some i=>i.zero.isSome
    |none=>false)
   |_=>false)
  |_=>false
theorem Gj {op:EOp}{K:V→Heap→Prop}(hm:mE P o op=true)(hs:Sat H g w)(he:EnvOk w g e a)(hp:p=true)(ho:op.eff P p e H K):EOk P H g w a o K:=by
 cases op with
 |alloc cells=>
  simp only[mE]at hm;split at hm
  ·obtain⟨i,z,h1,h2,h3⟩:=Hy hm;exact VD ‹_› h1 h2 h3 hs ho
  ·simp at hm
 |boxm x=>
  simp only[mE]at hm;split at hm
  ·exact Qb0l ‹_› hm hs he hp ho
  ·simp at hm
 |sto n x y=>
  simp only[mE]at hm;split at hm
  ·simp only[Ja]at hm;obtain⟨i,h1,h2⟩:=EV hm.1.1;exact Qb2p ‹_› h1 h2 hm.1.2 hm.2 hs he hp ho
  ·simp at hm
 |app sz x y=>
  simp only[mE]at hm;split at hm
  ·rename_i x' y' ats aK
   simp only[Ja]at hm;obtain⟨⟨h1,h2⟩,h3⟩:=hm;split at h3
   ·rename_i t t2 ht gU
    split at h3
    ·rename_i el el2 hu bU
     obtain⟨i,z,k1,k2,k3,k4,k5,k6⟩:=GD h3;exact Qb2g aK ht gU hu bU k1 k2 k3 k4 k5 k6 h1 h2 hs he hp ho
    ·simp at h3
   ·simp at h3
  ·simp at hm
 |apz sz zr x y=>
  simp only[mE]at hm;split at hm
  ·rename_i x' y' ats aK
   simp only[Ja]at hm;obtain⟨⟨h1,h2⟩,h3⟩:=hm;split at h3
   ·rename_i t t2 ht gU
    split at h3
    ·rename_i el hu bU
     rw[Ja]at h3;obtain⟨i,z,k1,k2,k3,k4,k5,k6⟩:=GD h3.1;obtain⟨i',z',j1,j2,j3⟩:=Hy h3.2;rw[k1]at j1;obtain rfl:=Jaa j1;rw[k3]at j2;obtain rfl:=Jaa j2;simp only[EOp.eff]at ho;obtain⟨q1,q2,q3,q4,q5,q6,q7⟩:=ho;have em:=Al he h1 hp q1;have e1:=C9 he h2 hp q2 q4;rw[Bc q3]at em;exact Qb2h aK ht gU hu bU k1 k2 k3 k4 k5 k6 j3 em.aA (m:=(Q2 (y.v e)).toNat) (by rw[Int.toNat_of_nonneg q5];exact e1) (by omega) hs q7
    ·simp at h3
   ·simp at h3
  ·simp at hm
 |bslm sz parts=>
  simp only[mE]at hm;split at hm
  ·rename_i t n parts' aK
   simp only[Ja,decide_eq_true_eq,beq_iff_eq]at hm;obtain⟨⟨⟨⟨h1,h2⟩,h3⟩,h4⟩,h5⟩:=hm;split at h5
   ·rename_i el dB
    rw[Ja]at h5;obtain⟨i,hi,hz⟩:=EV h5.1;have h6:=h5.2;rw[hi]at h6;obtain⟨z,cD⟩:=Option.isSome_iff_exists.1 h6;obtain⟨k1,k2⟩:=Gf _ _ _ h3;exact Qb0m aK dB hi cD hz h4 h1 h2 (by simpa using k1) (fun j x y e1 e2=>by
     have:=k2 j x y e1 (by simpa using e2);exact⟨by simpa using this.1,this.2⟩) hs he hp ho
   ·simp at h5
  ·simp at hm
 |mks sz zero x=>
  simp only[mE]at hm;split at hm
  ·rename_i t x' y' aK
   simp only[Ja,decide_eq_true_eq,beq_iff_eq]at hm;obtain⟨⟨⟨⟨h1,h2⟩,h3⟩,h4⟩,h5⟩:=hm;split at h5
   ·rename_i el hu
    rw[Ja]at h5;obtain⟨i,z,k1,k2,k3,k4,k5,k6⟩:=GD h5.1;obtain⟨i',z',l1,l2,l3⟩:=Hy h5.2;rw[k1]at l1;simp at l1;subst l1;exact Qb2m aK hu k1 k2 h4 l2 l3 h3 k5 h1 h2 hs he hp ho
   ·simp at h5
  ·simp at hm
 |mkm=>
  simp only[mE]at hm;split at hm
  ·exact Qb2l ‹_› hs ho
  ·simp at hm
 |upd tag x k y=>
  simp only[mE]at hm;split at hm
  ·simp only[Ja]at hm;obtain⟨kt,et,h1,h2⟩:=Gg hm.2;exact LV (.inl ‹_›) h1 h2 hm.1.1.1 hm.1.1.2 hm.1.2 hs he hp ho
  ·simp only[Ja]at hm;obtain⟨kt,et,h1,h2⟩:=Gg hm.2;exact LV (.inr ‹_›) h1 h2 hm.1.1.1 hm.1.1.2 hm.1.2 hs he hp ho
  ·simp at hm
 |del tag x k=>
  simp only[mE]at hm;split at hm
  ·rename_i x' k' ats aK
   simp only[Ja]at hm;obtain⟨⟨⟨h1,h2⟩,h3⟩,h4⟩:=hm;split at h4
   ·rename_i t ht
    obtain⟨kt,et,k1,k2⟩:=Gg h4;exact Qb2j aK ht (by simpa using h3) k1 k2 h1 h2 hs he hp ho
   ·simp at h4
  ·simp at hm
 |clrm x=>
  simp only[mE]at hm;split at hm
  ·rename_i x' ats aK
   rw[Ja]at hm;obtain⟨h1,h2⟩:=hm;split at h2
   ·rename_i t ht
    split at h2
    ·exact Qb0o aK ht ‹_› h1 hs he hp ho
    ·simp at h2
   ·simp at h2
  ·simp at hm
 |clrs sz zero x=>
  simp only[mE]at hm;split at hm
  ·rename_i x' ats aK
   rw[Ja,Ja,beq_iff_eq]at hm;obtain⟨⟨h1,h3⟩,h2⟩:=hm;split at h2
   ·rename_i t ht
    split at h2
    ·rename_i el hu
     obtain⟨i,z,l1,l2,l3⟩:=Hy h2;exact Qb0p aK ht hu l1 l2 l3 h3 h1 hs he hp ho
    ·simp at h2
   ·simp at h2
  ·simp at hm
 |call f xs=>
  simp only[mE]at hm;split at hm
  ·simp only[Ja,beq_iff_eq]at hm;obtain⟨rfl,h2⟩:=hm;simp only[EOp.eff]at ho;exact Qb0n ‹_› h2 hs he hp ho.1 ho.2
  ·simp at hm
 |bv x xs=>
  simp only[mE]at hm;split at hm
  ·simp only[Ja]at hm;exact VC ‹_› hm.1 hm.2 hs he hp ho
  ·simp at hm
 |rng x=>
  simp only[mE]at hm;split at hm
  ·rename_i t x' aK
   rw[Ja]at hm;obtain⟨h1,h2⟩:=hm;split at h2
   ·exact Qb2o aK ‹_› h1 hs he hp ho
   ·simp at h2
  ·simp at hm
 |rngs x=>
  simp only[mE]at hm;split at hm
  ·rename_i t x' aK
   rw[Ja]at hm;obtain⟨h1,h2⟩:=hm;split at h2
   ·exact Qb0s aK ‹_› h1 hs he hp ho
   ·simp at h2
  ·simp at hm
 |nxts x=>
  simp only[mE]at hm;split at hm
  ·exact Qb0r ‹_› hm hs he hp ho
  ·simp at hm
 |nxt x=>
  simp only[mE]at hm;split at hm
  ·exact Qb2n ‹_› hm hs he hp ho
  ·simp at hm
 |ent x=>
  simp only[mE]at hm;split at hm
  ·exact Qb2k ‹_› hm hs he hp ho
  ·simp at hm
 |cpy sz x y=>
  simp only[mE]at hm;split at hm
  ·rename_i x' y' ats aK
   rw[Ja,Ja]at hm;obtain⟨⟨h1,h3⟩,h2⟩:=hm;split at h2
   ·rename_i t ht
    split at h2
    ·rename_i el hu
     obtain⟨i,l1,l2⟩:=EV h2;exact Qb2i aK ht hu l1 l2 h1 h3 hs he hp ho
    ·simp at h2
   ·simp at h2
  ·simp at hm
 |nilq x=>
  simp only[mE]at hm;split at hm
  ·rename_i t x' t' aK
   rw[Ja]at hm;obtain⟨h1,h2⟩:=hm;split at h2
   ·exact Qb0q aK ‹_› h1 rfl hs he hp ho
   ·simp at h2
  ·simp at hm
def mG (ops:Array Oper):Option (Nat×Bool)→Option (Nat×Bool)→Bool
 |none,none=>true
 |some (j,b),some (t,b')=>(match ops[j]? with
  |some o=>o.dst == some t
  |none=>false)&&b == b'
 |_,_=>false
def mDst (n:Nat)(d d':Option Nat):Bool:=
 d == d'&&(match d with
  |some t=>decide (t<n)
  |none=>true)
def Bs (P:Program)(n:Nat)(ops:Array Oper)(o:Oper):Item→Bool
 |.f d g op=>mDst n o.dst d&&mG ops o.guard g&&mF P o op
 |.p d g f xs=>mDst n o.dst d&&mG ops o.guard g&&mE P o (.call f xs)
 |.e d g op=>mDst n o.dst d&&mG ops o.guard g&&mE P o op
 |.chk _ _ _=>false
def mIts (P:Program)(n:Nat)(ops:Array Oper):Nat→List Item→Bool
 |i,[]=>i == ops.size
 |i,x::r=>(match ops[i]? with
  |some o=>Bs P n ops o x
  |none=>false)&&mIts P n ops (i+1) r
def Post (n:Nat)(H:Heap)(g:G)(w:World)(K:Env→Heap→Prop)(a:Act)(w':World):Prop:=
 ∃e' H' g',K e' H'∧Stp H g w H' g' w'∧EnvOk w' g' e' a∧a.defers=[]∧a.tmps.size=n
theorem EnvOk.mono {g':G}{w':World}(a9:Le g w g' w')(h:EnvOk w g e a):EnvOk w' g' e a:=fun t=>(h t).mono a9
theorem EnvOk.put {n:Nat}{d:Option Nat}{x:V}{v:Value}(h:EnvOk w g e a)(hv:RepV w g x v)(hn:a.tmps.size=n)(hd:∀t,d=some t→t<n):EnvOk w g (putE d x e) (a.put d v):=by
 intro t
 cases d with
 |none=>exact h t
 |some s=>
  have hs:=hd s rfl;simp only[putE,lk,Act.put];by_cases ht:t=s
  ·subst ht;rw[if_pos rfl];have:(a.tmps.setIfInBounds t v).getD t undef=v:=by
    rw[Jd,Js (by omega)];rfl
   rw[this];exact hv
  ·rw[if_neg ht];have:(a.tmps.setIfInBounds s v).getD t undef=a.tmps.getD t undef:=by
    rw[Jd,J5 (Jaq ht),←Jd]
   rw[this];exact h t
theorem BP (a:Act)(d:Option Nat)(v:Value):(a.put d v).tmps.size=a.tmps.size∧(a.put d v).defers=a.defers:=by
 cases d <;> simp[Act.put]
theorem Hw {n:Nat}{ops:Array Oper}{gd:Option (Nat×Bool)}(hm:mG ops o.guard gd=true)(he:EnvOk w g e a)(ho:gdO e gd):Region.wanted o (yielded ops a.tmps)=gdB e gd:=by
 unfold Region.wanted
 cases hg:o.guard with
 |none=>
  cases gd with
  |none=>rfl
  |some x=>rw[hg]at hm;simp[mG]at hm
 |some jb=>
  obtain⟨j,b⟩:=jb
  cases gd with
  |none=>rw[hg]at hm;simp[mG]at hm
  |some tb=>
   obtain⟨t,b'⟩:=tb;rw[hg]at hm;simp only[mG,Ja,beq_iff_eq]at hm;obtain⟨h1,rfl⟩:=hm;split at h1
   ·rename_i oj hoj
    simp at h1;simp only[yielded,hoj,Option.bind_some,h1];have hv:=he t;simp only[gdO]at ho;simp only[gdB];have bn:∀c,a.tmps.getD t undef=.bool c→a.tmps[t]? = some (.bool c):=by
     intro c hc;rw[Jd]at hc
     cases hx:a.tmps[t]? with
     |none=>rw[hx]at hc;simp[undef]at hc
     |some y=>rw[hx]at hc;simp at hc;rw[hc]
    have bg:a.tmps.getD t undef=undef→∀c,a.tmps[t]?≠some (.bool c):=by
     intro hu c hc;rw[Jd,hc]at hu;simp[undef]at hu
    split at ho
    ·rename_i c gk
     rw[gk]at hv;have:=bn _ hv.aA.bh;simp only[gk];simp[this]
    ·rename_i q c gk
     rw[gk]at hv;simp only[gk]
     cases hv with
     |gd _ _ _ k1 k2=>
      cases q with
      |true=>
       have:=bn _ (k1 rfl).aA.bh;simp[this]
      |false=>
       have:=bg (k2 rfl);simp only[Jae]
       cases hx:a.tmps[t]? with
       |none=>simp
       |some y=>cases y <;> simp_all
    ·rename_i q v jD gk
     rw[gk]at hv;subst ho;have e0:gdB e (some (t,b))=false:=by
      simp only[gdB,gk]
      cases v with
      |c x=>cases x <;> simp
      |_=>rfl
     refine Eq.trans ?_ e0.symm
     cases hv with
     |gd _ _ _ k1 k2=>
      have:=bg (k2 rfl)
      cases hx:a.tmps[t]? with
      |none=>simp
      |some y=>cases y <;> simp_all
    ·exact ho.elim
   ·simp at h1
theorem DI {n:Nat}{d d':Option Nat}(h:mDst n d d'=true):d=d'∧∀t,d=some t→t<n:=by
 unfold mDst at h;rw[Ja]at h;refine⟨by simpa using h.1,fun t ht=>?_⟩;subst ht;simpa using h.2
theorem Ko {f:Nat}{xs:List Opd}{r:V}(hm:mE P o (.call f xs)=true)(hs:Sat H g w)(he:EnvOk w g e a)(hp:p=true)(hf:∀x∈xs,x.fine p e)(hc:Eh P f (xs.map fun x=>x.v e) r) :
  EOk P H g w a o (fun v H'=>v=r∧H'=H):=
 Gj (op:=.call f xs) hm hs he hp ⟨hf,hc.2 H _ ⟨rfl,rfl⟩⟩
theorem KQ {KP:Value→Heap→Prop}{K:V→Heap→Prop}{x:V}{v:Value}(h:BT KP K x H)(hr:RepV w g x v):K x H:=by
 cases hr <;> exact h
theorem Qblz {n:Nat}{ops:Array Oper}{i:Nat}{x:Item}{rest:List Item}{KP:Value→Heap→Prop}{K:Env→Heap→Prop}{Q:Exit→Act→World→Prop}{next:Act→World→Prop}(iU:ops[i]? = some o)(hm:Bs P n ops o x=true)
  (hs:Sat H g w) (he:EnvOk w g e a) (hn:a.tmps.size=n) (hd:a.defers=[]) (hr:regT P (x::rest) e H KP K)
  (gK:∀v H' g' w',KP v H'→Stp H g w H' g' w'→Q (.panic [{ v:=v,recovered:=false }]) a w')
  (bF:∀e' H' g' a' w',regT P rest e' H' KP K→Stp H g w H' g' w'→EnvOk w' g' e' a'→a'.tmps.size=n→a'.defers=[]→next a' w') :
  (if Region.wanted o (yielded ops a.tmps)then o.wp P a w next Q∨(o.asks P a w∧LetsOut Q)else next (a.put o.dst undef) w):=by
 cases x with
 |f d gd op=>
  simp only[Bs,Ja]at hm;obtain⟨⟨h1,h2⟩,h3⟩:=hm;obtain⟨hd1,cR⟩:=DI h1;simp only[regT]at hr;obtain⟨r1,r2,r3⟩:=hr;rw[Hw (n:=n) h2 he r1];by_cases hg:gdB e gd=true
  ·rw[if_pos hg];obtain⟨v,w',g',k1,k2,k3,k4⟩:=LH h3 hs he hg (r2 hg);left;unfold Oper.wp;rw[k1,Oper.upon_value,hd1];refine bF _ _ _ _ _ (r3 fun _=>k4) k2 (((he.mono k2.le).put (n:=n) ?_ hn (hd1▸cR))) (by rw[(BP _ _ _).1,hn]) (by rw[(BP _ _ _).2,hd])
   cases gd with
   |none=>exact k3
   |some tb=>exact .gd _ _ _ (fun _=>k3) (fun h=>by rw[hg]at h;simp at h)
  ·rw[if_neg hg];have ew:gdB e gd=false:=by simpa using hg
   rw[hd1];refine bF _ _ _ _ _ (r3 fun h=>absurd h hg) (.refl hs) (he.put (n:=n) ?_ hn (hd1▸cR)) (by rw[(BP _ _ _).1,hn]) (by rw[(BP _ _ _).2,hd])
   cases gd with
   |none=>simp[gdB]at ew
   |some tb=>exact .gd _ _ _ (fun h=>absurd h hg) (fun _=>rfl)
 |p d gd f xs=>
  simp only[Bs,Ja]at hm;obtain⟨⟨h1,h2⟩,h3⟩:=hm;obtain⟨hd1,cR⟩:=DI h1;simp only[regT]at hr;obtain⟨r1,v0,r2,r3⟩:=hr;rw[Hw (n:=n) h2 he r1];by_cases hg:gdB e gd=true
  ·rw[if_pos hg];obtain⟨s1,s2⟩:=r2 hg;left;refine Ko h3 hs he hg s1 s2 Q next (fun x v w' H' g' hk aF dc=>?_) fun v w' H' g' hk _=>absurd hk.1.symm (s2.1 v);obtain⟨rfl,rfl⟩:=hk;rw[hd1];refine bF _ _ _ _ _ r3 aF (((he.mono aF.le).put (n:=n) ?_ hn (hd1▸cR))) (by rw[(BP _ _ _).1,hn]) (by rw[(BP _ _ _).2,hd])
   cases gd with
   |none=>exact dc
   |some tb=>exact .gd _ _ _ (fun _=>dc) (fun h=>by rw[hg]at h;simp at h)
  ·rw[if_neg hg];have ew:gdB e gd=false:=by simpa using hg
   rw[hd1];refine bF _ _ _ _ _ r3 (.refl hs) (he.put (n:=n) ?_ hn (hd1▸cR)) (by rw[(BP _ _ _).1,hn]) (by rw[(BP _ _ _).2,hd])
   cases gd with
   |none=>simp[gdB]at ew
   |some tb=>exact .gd _ _ _ (fun h=>absurd h hg) (fun _=>rfl)
 |e d gd op=>
  simp only[Bs,Ja]at hm;obtain⟨⟨h1,h2⟩,h3⟩:=hm;obtain⟨hd1,cR⟩:=DI h1;simp only[regT]at hr;obtain⟨r1,r2,r3⟩:=hr;rw[Hw (n:=n) h2 he r1];by_cases hg:gdB e gd=true
  ·rw[if_pos hg];left;refine Gj h3 hs he hg (r2 hg) Q next (fun x v w' H' g' hk aF dc=>?_) fun v w' H' g' hk aF=>gK v H' g' w' hk aF;rw[hd1];exact bF _ _ _ _ _ (KQ hk dc) aF (((he.mono aF.le).put (n:=n) dc hn (hd1▸cR))) (by rw[(BP _ _ _).1,hn]) (by rw[(BP _ _ _).2,hd])
  ·rw[if_neg hg];have ew:gdB e gd=false:=by simpa using hg
   rw[hd1];exact bF _ _ _ _ _ (r3 ew) (.refl hs) (he.put (n:=n) (.unk _) hn (hd1▸cR)) (by rw[(BP _ _ _).1,hn]) (by rw[(BP _ _ _).2,hd])
 |chk d gd op=>simp[Bs]at hm
theorem N3 {n:Nat}{ops:Array Oper}{KP:Value→Heap→Prop}{K:Env→Heap→Prop}{Q:Exit→Act→World→Prop}{H0:Heap}{g0:G}{w0:World}(hQ:∀a' w',Post n H0 g0 w0 K a' w'→Q .normal a' w')
  (hP:∀v a' w',Post n H0 g0 w0 (fun _ H'=>KP v H') a' w'→Q (.panic [{ v:=v,recovered:=false }]) a' w') :
  ∀(its:List Item) (i:Nat) (e:Env) (H:Heap) (g:G) (w:World) (a:Act),mIts P n ops i its=true→Stp H0 g0 w0 H g w→EnvOk w g e a→a.tmps.size=n→a.defers=[]→regT P its e H KP K→
   wpOps P ops Q (List.range' i its.length) a w
 |[],i,e,H,g,w,a,_,aF,he,hn,hd,hr=>hQ a w ⟨e,H,g,hr,aF,he,hd,hn⟩
 |x::rest,i,e,H,g,w,a,hm,aF,he,hn,hd,hr=>by
  simp only[mIts,Ja]at hm;obtain⟨h1,h2⟩:=hm;split at h1
  ·rename_i o ho
   simp only[Jai,List.range'_succ,wpOps,ho];have:=Qblz (Q:=Q) (next:=wpOps P ops Q (List.range' (i+1) rest.length)) ho h1 aF.sat he hn hd hr (fun v H' g' w' k1 k2=>hP v a w' ⟨e,H',g',k1,aF.trans k2,he.mono k2.le,hd,hn⟩) fun e' H' g' a' w' k1 k2 k3 k4 k5=>
    N3 hQ hP rest (i+1) e' H' g' w' a' h2 (aF.trans k2) k3 k4 k5 k1
   simpa using this
  ·simp at h1
theorem Ks {n:Nat}{ops:Array Oper}:∀(its:List Item) (i:Nat),mIts P n ops i its=true→i+its.length=ops.size
 |[],i,h=>by simpa[mIts]using h
 |x::r,i,h=>by
  simp only[mIts,Ja]at h;have:=Ks r (i+1) h.2;simp only[Jai];omega
end Go.AE
namespace Go.AE
variable {P:Program}
def optL:Option Opd→List Opd
 |none=>[]
 |some x=>[x]
def FOp.opds:FOp→List Opd
 |.mv x=>[x]
 |.pick c a b=>[c,a,b]
 |.bin _ _ a b=>[a,b]
 |.not a=>[a]
 |.fad _ a=>[a]
 |.iad _ a i=>[a,i]
 |.ld _ _ a=>[a]
 |.nck a=>[a]
 |.len a=>[a]
 |.lenx a=>[a]
 |.lens a=>[a]
 |.lensx a=>[a]
 |.lenm a=>[a]
 |.sli _ a lo hi=>a::(optL lo++optL hi)
 |.slis a lo hi=>a::(optL lo++optL hi)
 |.ext a _=>[a]
 |.asl _ a=>[a]
 |.aslp _ a hi=>a::optL hi
 |.ldg _ _ _=>[]
 |.ldo _ _=>[]
 |.aslg _ _ _=>[]
 |.iax _ _ a i=>[a,i]
 |.slm _ a hi=>[a,hi]
 |.b2s a=>[a]
 |.iaa _ _ a i=>[a,i]
 |.fld _ _ _ a=>[a]
 |.idx a i=>[a,i]
 |.bld _ parts=>parts.map fun p=>p.2.2
 |.bw _ parts=>parts
 |.box a=>[a]
 |.cvt _ a=>[a]
 |.mkf _ caps=>caps
 |.lup _ _ m k=>[m,k]
 |.lup2 _ _ m k=>[m,k]
 |.mx a b=>[a,b]
 |.mn a b=>[a,b]
def EOp.opds:EOp→List Opd
 |.alloc _=>[]
 |.boxm a=>[a]
 |.sto _ a v=>[a,v]
 |.app _ a b=>[a,b]
 |.apz _ _ a n=>[a,n]
 |.mks _ _ n=>[n]
 |.mkm=>[]
 |.upd _ m k v=>[m,k,v]
 |.del _ m k=>[m,k]
 |.clrm m=>[m]
 |.clrs _ _ m=>[m]
 |.call _ args=>args
 |.bv f args=>f::args
 |.rng m=>[m]
 |.nxt it=>[it]
 |.rngs m=>[m]
 |.nxts it=>[it]
 |.ent it=>[it]
 |.nilq a=>[a]
 |.bslm _ parts=>parts
 |.cpy _ a b=>[a,b]
def FOp.hfree:FOp→Bool
 |.iad _ _ _=>false
 |.ld _ _ _=>false
 |.len _=>false
 |.lenx _=>false
 |.lenm _=>false
 |.sli _ _ _ _=>false
 |.lup _ _ _ _=>false
 |.asl _ _=>false
 |.ldg _ _ _=>false
 |.ldo _ _=>false
 |.aslg _ _ _=>false
 |.lup2 _ _ _ _=>false
 |_=>true
theorem Opd.aN {e e':Env}{x:Opd}(h:x.raw e'=x.raw e):x.v e'=x.v e:=by
 simp only[Opd.v,h]
theorem Opd.a8 {e e':Env}{x:Opd}{p:Bool}(h:x.raw e'=x.raw e):x.fine p e'↔x.fine p e:=by
 simp only[Opd.fine,h]
theorem Pf {e e':Env}{x:Option Opd}{p:Bool}(h:∀y∈optL x,y.raw e'=y.raw e) :
  (x.map fun y=>Q2 (y.v e'))=(x.map fun y=>Q2 (y.v e))∧(optF p x e'↔optF p x e)∧(optI x e'↔optI x e):=by
 cases x with
 |none=>exact⟨rfl,Jat,Jat⟩
 |some y=>
  have:=h y (by simp[optL]);simp only[Jaz,optF,optI,Opd.aN this,Opd.a8 this,and_self]
theorem FOp.congr {op:FOp}{e e':Env}{H:Heap}{p:Bool}(h:∀x∈op.opds,x.raw e'=x.raw e) :
  op.val e' H=op.val e H∧(op.obl p e' H↔op.obl p e H):=by
 cases op <;> simp only[FOp.opds,Jh,Jaw,or_false,forall_eq_or_imp,forall_eq,Je,Jo,forall_exists_index,and_imp]at h
 case sli sz a lo hi=>
  have h1:=Opd.aN h.1;have h2:=Pf (x:=lo) (p:=p) fun y hy=>h.2 y (.inl hy);have h3:=Pf (x:=hi) (p:=p) fun y hy=>h.2 y (.inr hy);simp only[FOp.val,FOp.obl,h1,h2.1,h3.1,h2.2.1,h3.2.1,h2.2.2,h3.2.2,Opd.a8 h.1,and_self]
 case ldg n b l=>exact⟨rfl,Jat⟩
 case ldo b l=>exact⟨rfl,Jat⟩
 case aslg n b l=>exact⟨rfl,Jat⟩
 case aslp n a hi=>
  have h1:=Opd.aN h.1;have h3:=Pf (x:=hi) (p:=p) fun y hy=>h.2 y hy;simp only[FOp.val,FOp.obl,h1,h3.1,h3.2.1,h3.2.2,Opd.a8 h.1,and_self]
 case slis a lo hi=>
  have h1:=Opd.aN h.1;have h2:=Pf (x:=lo) (p:=p) fun y hy=>h.2 y (.inl hy);have h3:=Pf (x:=hi) (p:=p) fun y hy=>h.2 y (.inr hy);simp only[FOp.val,FOp.obl,h1,h2.1,h3.1,h2.2.1,h3.2.1,h2.2.2,h3.2.2,Opd.a8 h.1,and_self]
 case bld zero parts=>
  have h1:∀x∈parts,x.2.2.raw e'=x.2.2.raw e:=fun x hx=>h _ x hx rfl;refine⟨?_,?_⟩
  ·simp only[FOp.val];have:(parts.map fun p=>(p.1,(p.2.2.v e').cells))=parts.map fun p=>(p.1,(p.2.2.v e).cells):=
    Jx fun x hx=>by rw[Opd.aN (h1 x hx)]
   rw[this]
  ·simp only[FOp.obl];exact forall_congr' fun x=>forall_congr' fun hx=>by rw[Opd.a8 (h1 x hx),Opd.aN (h1 x hx)]
 case bw sz parts=>
  refine⟨?_,?_⟩
  ·simp only[FOp.val];have:(parts.map fun x=>(x.v e').cells)=parts.map fun x=>(x.v e).cells:=
    Jx fun x hx=>by rw[Opd.aN (h x hx)]
   rw[this]
  ·simp only[FOp.obl];exact forall_congr' fun x=>forall_congr' fun hx=>by rw[Opd.a8 (h x hx),Opd.aN (h x hx)]
 case mkf f caps=>
  refine⟨?_,?_⟩
  ·simp only[FOp.val];have:(caps.map fun x=>(x.v e').c1)=caps.map fun x=>(x.v e).c1:=
    Jx fun x hx=>by rw[Opd.aN (h x hx)]
   rw[this]
  ·simp only[FOp.obl];exact forall_congr' fun x=>forall_congr' fun hx=>by rw[Opd.a8 (h x hx),Opd.aN (h x hx)]
 case pick c a b=>
  simp only[FOp.val,FOp.obl,Opd.aN h.1,Opd.aN h.2.1,Opd.aN h.2.2,Opd.a8 h.1,true_and];constructor <;> rintro⟨k1,k2⟩ <;> refine⟨k1,?_⟩ <;> split at k2 <;> first|exact k2.elim|skip
  ·rw[Opd.a8 h.2.1,Opd.a8 h.2.2]at k2;exact k2
  ·rw[Opd.a8 h.2.1,Opd.a8 h.2.2];exact k2
 all_goals first
  |(have h1:=Opd.aN h;simp only[FOp.val,FOp.obl,h1,Opd.a8 h,and_self])
  |(have h1:=Opd.aN h.1;have h2:=Opd.aN h.2;simp only[FOp.val,FOp.obl,h1,h2,Opd.a8 h.1,Opd.a8 h.2,and_self])
theorem FOp.hcongr {op:FOp}{e:Env}{H H':Heap}{p:Bool}(h:op.hfree=true):op.val e H'=op.val e H∧(op.obl p e H'↔op.obl p e H):=by
 cases op <;> first|(simp[FOp.hfree]at h;done)|exact⟨rfl,Jat⟩
theorem GV {e e':Env}{xs:List Opd}(h:∀x∈xs,x.raw e'=x.raw e):(xs.map fun x=>x.v e')=(xs.map fun x=>x.v e):=
 Jx fun x hx=>Opd.aN (h x hx)
theorem Q9j {e e':Env}{xs:List Opd}{p:Bool}(h:∀x∈xs,x.raw e'=x.raw e):(∀x∈xs,x.fine p e')↔(∀x∈xs,x.fine p e):=
 forall_congr' fun x=>forall_congr' fun hx=>Opd.a8 (h x hx)
theorem EOp.congr {op:EOp}{e e':Env}{H:Heap}{p:Bool}{K:V→Heap→Prop}(h:∀x∈op.opds,x.raw e'=x.raw e)(he:op.eff P p e H K):op.eff P p e' H K:=by
 cases op
 case call f xs=>
  simp only[EOp.opds]at h;simp only[EOp.eff]at he⊢;rw[GV h,Q9j h];exact he
 case bv f xs=>
  simp only[EOp.opds,Jh,forall_eq_or_imp]at h;simp only[EOp.eff]at he⊢;rw[GV h.2,Q9j h.2,Opd.a8 h.1,Opd.aN h.1];exact he
 case bslm sz parts=>
  simp only[EOp.opds]at h;simp only[EOp.eff]at he⊢;have:(parts.map fun x=>(x.v e').cells)=parts.map fun x=>(x.v e).cells:=
   Jx fun x hx=>by rw[Opd.aN (h x hx)]
  rw[this];exact⟨fun x hx=>by rw[Opd.a8 (h x hx),Opd.aN (h x hx)];exact he.1 x hx,he.2⟩
 all_goals simp only[EOp.opds,Jh,Jaw,or_false,forall_eq_or_imp,forall_eq]at h
 all_goals first
  |exact he
  |(simp only[EOp.eff,Opd.aN h,Opd.a8 h]at he⊢;exact he)
  |(simp only[EOp.eff,Opd.aN h.1,Opd.a8 h.1,Opd.aN h.2,Opd.a8 h.2]at he⊢;exact he)
  |(simp only[EOp.eff,Opd.aN h.1,Opd.a8 h.1,Opd.aN h.2.1,Opd.a8 h.2.1,Opd.aN h.2.2,Opd.a8 h.2.2]at he⊢;exact he)
def Item.dst:Item→Option Nat
 |.f d _ _=>d
 |.p d _ _ _=>d
 |.e d _ _=>d
 |.chk _ _ _=>none
def Item.gd:Item→Option (Nat×Bool)
 |.f _ g _=>g
 |.p _ g _ _=>g
 |.e _ g _=>g
 |.chk _ g _=>g
def Item.opds:Item→List Opd
 |.f _ _ op=>op.opds
 |.p _ _ _ xs=>xs
 |.e _ _ op=>op.opds
 |.chk _ _ op=>op.opds
def Opd.tm:Opd→List Nat
 |.t n=>[n]
 |_=>[]
def Item.looks (x:Item):List Nat:=x.opds.flatMap Opd.tm++(match x.gd with
 |some (t,_)=>[t]
 |none=>[])
theorem Qbrb {e e':Env}{x:Opd}(h:∀t∈x.tm,lk t e'=lk t e):x.raw e'=x.raw e:=by
 cases x with
 |t n=>simpa[Opd.raw,Opd.tm]using h
 |k v=>rfl
theorem LA {e e':Env}{x:Item}(h:∀t∈x.looks,lk t e'=lk t e):∀y∈x.opds,y.raw e'=y.raw e:=fun y hy=>
 Qbrb fun t ht=>h t (Jc _ (List.mem_flatMap.2 ⟨y,hy,ht⟩))
theorem Yc {e e':Env}{gd:Option (Nat×Bool)}(h:∀t b,gd=some (t,b)→lk t e'=lk t e):gdB e' gd=gdB e gd∧(gdO e' gd↔gdO e gd):=by
 cases gd with
 |none=>exact⟨rfl,Jat⟩
 |some x=>
  obtain⟨t,b⟩:=x;have:=h t b rfl;simp only[gdB,gdO,this,and_self]
theorem Kv {e e':Env}{x:Item}(h:∀t∈x.looks,lk t e'=lk t e):gdB e' x.gd=gdB e x.gd∧(gdO e' x.gd↔gdO e x.gd):=
 Yc fun t b hg=>h t (Jg _ (by rw[hg];simp))
theorem EP (ks:List Nat)(e:Env)(t:Nat):lk t (trim ks e)=if t∈ks then lk t e else .unk:=by
 unfold trim
 induction ks with
 |nil=>simp[lk]
 |cons k ks ih=>
  simp only[Jy,lk,ih,Jh];by_cases h:t=k
  ·subst h;simp
  ·simp[h]
end Go.AE
namespace Go.AE
variable {P:Program}{H:Heap}{g:G}{w:World}{e:Env}{a:Act}
def Item.isE:Item→Bool
 |.e _ _ _=>true
 |_=>false
def Item.aL:Item→Bool
 |.chk _ _ _=>true
 |_=>false
def Item.isFl:Item→Bool
 |.f _ _ _=>true
 |.p _ _ _ _=>true
 |_=>false
def Item.hf:Item→Bool
 |.f _ _ op=>op.hfree
 |_=>true
def Item.isFa:Item→Bool
 |.e (some _) none (.alloc _)=>true
 |_=>false
abbrev Row:=Nat×Item
def CO (ms:List Nat)(o:Oper):Nat→List Edge→Nat
 |s,[]=>s
 |s,ed::r=>CO ms o (if Region.binds .any ed then s ||| (2 ^ ed.on ||| ms.getD ed.on 0)else s) r
def dIn (d:Option Nat)(l:List Nat):Bool:=
 match d with
 |some t=>l.contains t
 |none=>false
def flo (fa i:Nat):Bool:=i == fa || (decide (100000≤fa)&&(fa-100000).testBit i)
def El (ms:List Nat)(fa:Nat)(x y:Row):Bool:=
 x.1 != y.1&&!((ms.getD x.1 0).testBit y.1)&&(match x.2.dst with
  |some t=>y.2.dst != some t
  |none=>true)
 &&(!(dIn y.2.dst x.2.looks) || (ms.getD y.1 0).testBit x.1)
 &&(!(dIn x.2.dst y.2.looks) || (ms.getD y.1 0).testBit x.1)
 &&(!x.2.isE || flo fa y.1 || (ms.getD y.1 0).testBit x.1)
def BH (j:Nat):List Row→Bool
 |[]=>false
 |y::r=>y.2.aL&&(y.1 == j || BH j r)
def CI (P:Program)(n:Nat)(ops:Array Oper)(ms:List Nat)(fa:Nat)(pre:List Row)(y:Row)(rest:List Row):Bool:=
 match ops[y.1]? with
 |none=>false
 |some o=>match y.2 with
  |.chk d gd op=>Bs P n ops o (.f (some d) gd op)&&pre.any (fun z=>!z.2.aL&&z.1 == y.1&&z.2.looks == y.2.looks&&z.2.dst == some d&&!z.2.hf)
    &&pre.all (fun z=>z.2.aL || !(dIn z.2.dst y.2.looks) || (ms.getD y.1 0).testBit z.1)
  |_=>Bs P n ops o y.2&&o.after.toList.all (fun ed=>!Region.binds .any ed || pre.any fun z=>!z.2.aL&&z.1 == ed.on)
    &&ms.getD y.1 0 == CO ms o 0 o.after.toList&&!(dIn y.2.dst y.2.looks)
    &&pre.all (fun z=>z.2.aL || El ms fa z y)&&(!flo fa y.1 || y.2.isFa)
    &&(!y.2.isE || pre.all (fun z=>z.2.aL || z.2.hf || (ms.getD y.1 0).testBit z.1 || BH z.1 rest))
def Dy (P:Program)(n:Nat)(ops:Array Oper)(ms:List Nat)(fa:Nat):List Row→List Row→Bool
 |_,[]=>true
 |pre,y::r=>CI P n ops ms fa pre y r&&Dy P n ops ms fa (pre++[y]) r
def F8:List Oper→List Nat→List Nat
 |[],ms=>ms
 |o::r,ms=>F8 r (ms++[CO ms o 0 o.after.toList])
def F9 (P:Program)(n:Nat)(ops:Array Oper)(fa:Nat)(ord:List Nat)(its:List Item):Bool:=
 ord.length == its.length&&Region.noSelect ops&&Dy P n ops (F8 ops.toList []) fa [] (ord.zip its)
  &&(List.range ops.size).all fun i=>(ord.zip its).any fun y=>!y.2.aL&&y.1 == i
theorem Q94 {n:Nat}{ops:Array Oper}{ms:List Nat}{fa:Nat}:∀(L pre:List Row),Dy P n ops ms fa pre L=true→
  ∀A y B,L=A++y::B→CI P n ops ms fa (pre++A) y B=true
 |[],_,_,A,y,B,h=>by simp at h
 |x::r,pre,hm,A,y,B,h=>by
  simp only[Dy,Ja]at hm
  cases A with
  |nil=>
   simp at h;obtain⟨rfl,rfl⟩:=h;simpa using hm.1
  |cons a A=>
   simp at h;obtain⟨rfl,rfl⟩:=h;have:=Q94 _ _ hm.2 A y B rfl;simpa[Jp]using this
theorem Nz {ms:List Nat}{o:Oper}{j:Nat}:∀(l:List Edge) (s:Nat),(CO ms o s l).testBit j=true→
  s.testBit j=true∨∃ed∈l,Region.binds .any ed=true∧(ed.on=j∨(ms.getD ed.on 0).testBit j=true)
 |[],s,h=>.inl h
 |ed::r,s,h=>by
  simp only[CO]at h;rcases Nz r _ h with h1|⟨x,hx,h1⟩
  ·by_cases hb:Region.binds .any ed=true
   ·rw[if_pos hb]at h1;simp only[Nat.testBit_or,J3]at h1;rcases h1 with h1|h1|h1
    ·exact .inl h1
    ·rw[Nat.testBit_two_pow]at h1;exact .inr ⟨ed,by simp,hb,.inl (by simpa using h1)⟩
    ·exact .inr ⟨ed,by simp,hb,.inr h1⟩
   ·rw[if_neg hb]at h1;exact .inl h1
  ·exact .inr ⟨x,by simp[hx],h1⟩
theorem dIn_iff {d:Option Nat}{l:List Nat}:dIn d l=true↔∃t,d=some t∧t∈l:=by
 cases d <;> simp[dIn]
structure PairOk (ms:List Nat)(fa:Nat)(x y:Row):Prop where
 ne:x.1≠y.1
 top:(ms.getD x.1 0).testBit y.1=false
 dst:∀t,x.2.dst=some t→y.2.dst≠some t
 war:∀t,y.2.dst=some t→t∈x.2.looks→(ms.getD y.1 0).testBit x.1=true
 raw:∀t,x.2.dst=some t→t∈y.2.looks→(ms.getD y.1 0).testBit x.1=true
 ord:x.2.isE=true→¬flo fa y.1=true→(ms.getD y.1 0).testBit x.1=true
theorem Qbgp {ms:List Nat}{fa:Nat}{x y:Row}(h:El ms fa x y=true):PairOk ms fa x y:=by
 simp only[El,Ja,bne_iff_ne,J3,Jw,beq_iff_eq]at h;obtain⟨⟨⟨⟨⟨h1,h2⟩,h3⟩,h4⟩,h5⟩,h6⟩:=h;refine⟨h1,h2,?_,?_,?_,?_⟩
 ·intro t ht;rw[ht]at h3;simpa using h3
 ·intro t ht hm;rcases h4 with h4|h4
  ·have:=dIn_iff.2 ⟨t,ht,hm⟩;rw[this]at h4;simp at h4
  ·exact h4
 ·intro t ht hm;rcases h5 with h5|h5
  ·have:=dIn_iff.2 ⟨t,ht,hm⟩;rw[this]at h5;simp at h5
  ·exact h5
 ·intro hx hy;rcases h6 with (h6|h6)|h6
  ·rw[hx]at h6;simp at h6
  ·exact absurd h6 hy
  ·exact h6
structure RowOk (P:Program)(n:Nat)(ops:Array Oper)(ms:List Nat)(fa:Nat)(pre:List Row)(y:Row)(rest:List Row)(o:Oper):Prop where
 op:ops[y.1]? = some o
 item:Bs P n ops o y.2=true
 aft:∀ed∈o.after,Region.binds .any ed=true→∃z∈pre,z.2.aL=false∧z.1=ed.on
 anc:∀j,(ms.getD y.1 0).testBit j=true→∃ed∈o.after,Region.binds .any ed=true∧(ed.on=j∨(ms.getD ed.on 0).testBit j=true)
 self:∀t,y.2.dst=some t→t∉y.2.looks
 pair:∀z∈pre,z.2.aL=false→PairOk ms fa z y
 isFa:flo fa y.1=true→y.2.isFa=true
 cover:y.2.isE=true→∀z∈pre,z.2.aL=false→z.2.hf=false→(ms.getD y.1 0).testBit z.1=false→BH z.1 rest=true
theorem Qbmr {n:Nat}{ops:Array Oper}{ms:List Nat}{fa:Nat}{pre:List Row}{y:Row}{rest:List Row}(h:CI P n ops ms fa pre y rest=true)(hc:y.2.aL=false) :
  ∃o,RowOk P n ops ms fa pre y rest o:=by
 obtain⟨i,x⟩:=y;unfold CI at h
 cases ho:ops[i]? with
 |none=>simp[ho]at h
 |some o=>
  simp only[ho]at h;have key:(Bs P n ops o x&&o.after.toList.all (fun ed=>!Region.binds .any ed || pre.any fun z=>!z.2.aL&&z.1 == ed.on)
    &&ms.getD i 0 == CO ms o 0 o.after.toList&&!(dIn x.dst x.looks)
    &&pre.all (fun z=>z.2.aL || El ms fa z (i,x))&&(!flo fa i || x.isFa)
    &&(!x.isE || pre.all (fun z=>z.2.aL || z.2.hf || (ms.getD i 0).testBit z.1 || BH z.1 rest)))=true:=by
   cases x with
   |chk=>simp[Item.aL]at hc
   |f=>exact h
   |p=>exact h
   |e=>exact h
  simp only[Ja,Jn,J3,Jw,beq_iff_eq,bne_iff_ne,Jag]at key;obtain⟨⟨⟨⟨⟨⟨h1,h2⟩,h3⟩,h4⟩,h5⟩,h6⟩,h7⟩:=key;refine⟨o,ho,h1,?_,?_,?_,?_,?_,?_⟩
  ·intro ed nZ hb;rcases h2 ed (by simpa using nZ)with h|⟨z,hz,h⟩
   ·rw[hb]at h;simp at h
   ·exact⟨z,hz,h.1,h.2⟩
  ·intro j hj;simp only at hj;rw[h3]at hj;rcases Nz _ _ hj with h|⟨ed,nZ,h⟩
   ·simp at h
   ·exact⟨ed,by simpa using nZ,h⟩
  ·intro t ht hm;have:=dIn_iff.2 ⟨t,ht,hm⟩;simp only at this;rw[this]at h4;simp at h4
  ·intro z hz bR;rcases h5 z hz with h|h
   ·rw[bR]at h;simp at h
   ·exact Qbgp h
  ·intro hf;rcases h6 with h|h
   ·exact absurd hf (by rw[h];decide)
   ·exact h
  ·intro hE z hz bR hzh rp;rcases h7 with h|h
   ·simp only at hE;rw[hE]at h;simp at h
   ·rcases h z hz with ((h|h)|h)|h
    ·rw[bR]at h;simp at h
    ·rw[hzh]at h;simp at h
    ·simp only at rp;rw[rp]at h;simp at h
    ·exact h
theorem Qblg {n:Nat}{ops:Array Oper}{ms:List Nat}{fa:Nat}{pre:List Row}{i d:Nat}{gd:Option (Nat×Bool)}{op:FOp}{rest:List Row}(h:CI P n ops ms fa pre (i,.chk d gd op) rest=true) :
  ∃o,ops[i]? = some o∧Bs P n ops o (.f (some d) gd op)=true∧(∃z∈pre,z.2.aL=false∧z.1=i∧z.2.looks=(Item.f (some d) gd op).looks∧z.2.dst=some d∧z.2.hf=false)∧
   ∀z∈pre,z.2.aL=false→∀t,z.2.dst=some t→t∈(Item.f (some d) gd op).looks→(ms.getD i 0).testBit z.1=true:=by
 unfold CI at h
 cases ho:ops[i]? with
 |none=>simp[ho]at h
 |some o=>
  simp only[ho,Ja,Jag,Jn,J3,Jw,beq_iff_eq]at h;obtain⟨⟨h1,z,hz,⟨⟨⟨h2,h3⟩,h4⟩,h5⟩,h6⟩,h7⟩:=h;refine⟨o,rfl,h1,⟨z,hz,h2,h3,h4,h5,h6⟩,?_⟩;intro z hz bR t ht hm;rcases h7 z hz with (h|h)|h
  ·rw[bR]at h;simp at h
  ·have:=dIn_iff.2 ⟨t,ht,hm⟩;change dIn z.2.dst (Item.chk d gd op).looks=true at this;rw[this]at h;simp at h
  ·exact h
abbrev dn (listed:Array Bool)(i:Nat):Prop:=listed.getD i false=true
def Rdy (P:Program)(x:Item)(e:Env)(H:Heap)(v:V):Prop:=
 match x with
 |.f _ gd op=>gdO e gd∧(gdB e gd=true→op.obl (gdB e gd) e H)∧v=gdV gd (gdB e gd) (op.val e H)
 |.p _ gd f xs=>gdO e gd∧∃r,(gdB e gd=true→(∀y∈xs,y.fine (gdB e gd) e)∧Eh P f (xs.map fun y=>y.v e) r)∧v=gdV gd (gdB e gd) r
 |_=>False
theorem Rdy.congr {x:Item}{e e':Env}{v:V}(h:∀t∈x.looks,lk t e'=lk t e)(hr:Rdy P x e H v):Rdy P x e' H v:=by
 have h1:=LA h;have h2:=Kv h
 cases x with
 |f d gd op=>
  simp only[Item.gd]at h2;simp only[Item.opds]at h1;have h3:=FOp.congr (H:=H) (p:=gdB e gd) h1;simp only[Rdy]at hr⊢;rw[h2.1,h2.2,h3.1,h3.2];exact hr
 |p d gd f xs=>
  simp only[Item.gd]at h2;simp only[Item.opds]at h1;simp only[Rdy]at hr⊢;rw[h2.1,h2.2,GV h1,Q9j h1];exact hr
 |e=>exact hr
 |chk=>exact hr
theorem Rdy.hcongr {x:Item}{e:Env}{H':Heap}{v:V}(h:x.hf=true)(hr:Rdy P x e H v):Rdy P x e H' v:=by
 cases x with
 |f d gd op=>
  have h3:=FOp.hcongr (e:=e) (H:=H) (H':=H') (p:=gdB e gd) (op:=op) h;simp only[Rdy]at hr⊢;rw[h3.1,h3.2];exact hr
 |p d gd f xs=>exact hr
 |e=>exact hr
 |chk=>exact hr
theorem Vb {n:Nat}{ops:Array Oper}{i:Nat}{o:Oper}{x:Item}{v:V}{Q:Exit→Act→World→Prop}{next:Act→World→Prop}(iU:ops[i]? = some o)(hm:Bs P n ops o x=true)
  (hr:Rdy P x e H v) (hs:Sat H g w) (he:EnvOk w g (trim x.looks e) a)
  (bF:∀u w' g',Stp H g w H g' w'→RepV w' g' v u→next (a.put x.dst u) w') :
  wpOp P ops Q i next a w:=by
 have aP:Rdy P x (trim x.looks e) H v:=hr.congr fun t ht=>by rw[EP,if_pos ht]
 unfold wpOp;rw[iU];simp only
 cases x with
 |f d gd op=>
  simp only[Bs,Ja]at hm;obtain⟨⟨h1,h2⟩,h3⟩:=hm;obtain⟨hd1,cR⟩:=DI h1;simp only[Rdy]at aP;obtain⟨r1,r2,r3⟩:=aP;rw[Hw (n:=n) h2 he r1];by_cases hg:gdB (trim (Item.f d gd op).looks e) gd=true
  ·rw[if_pos hg];obtain⟨u,w',g',k1,k2,k3,k4⟩:=LH h3 hs he hg (r2 hg);left;unfold Oper.wp;rw[k1,Oper.upon_value,hd1];refine bF u w' g' k2 ?_;rw[r3]
   cases gd with
   |none=>exact k3
   |some tb=>exact .gd _ _ _ (fun _=>k3) (fun h=>by rw[hg]at h;simp at h)
  ·rw[if_neg hg];have ew:gdB (trim (Item.f d gd op).looks e) gd=false:=by simpa using hg
   rw[hd1];refine bF _ _ g (.refl hs) ?_;rw[r3]
   cases gd with
   |none=>simp[gdB]at ew
   |some tb=>exact .gd _ _ _ (fun h=>absurd h hg) (fun _=>rfl)
 |p d gd f xs=>
  simp only[Bs,Ja]at hm;obtain⟨⟨h1,h2⟩,h3⟩:=hm;obtain⟨hd1,cR⟩:=DI h1;simp only[Rdy]at aP;obtain⟨r1,v0,r2,r3⟩:=aP;rw[Hw (n:=n) h2 he r1];by_cases hg:gdB (trim (Item.p d gd f xs).looks e) gd=true
  ·rw[if_pos hg];obtain⟨s1,s2⟩:=r2 hg;left;refine Ko h3 hs he hg s1 s2 Q next (fun y u w' H' g' hk aF dc=>?_) fun v w' H' g' hk _=>absurd hk.1.symm (s2.1 v);obtain⟨rfl,rfl⟩:=hk;rw[hd1];refine bF _ _ g' aF ?_;rw[r3]
   cases gd with
   |none=>exact dc
   |some tb=>exact .gd _ _ _ (fun _=>dc) (fun h=>by rw[hg]at h;simp at h)
  ·rw[if_neg hg];have ew:gdB (trim (Item.p d gd f xs).looks e) gd=false:=by simpa using hg
   rw[hd1];refine bF _ _ g (.refl hs) ?_;rw[r3]
   cases gd with
   |none=>simp[gdB]at ew
   |some tb=>exact .gd _ _ _ (fun h=>absurd h hg) (fun _=>rfl)
 |e=>exact aP.elim
 |chk=>exact aP.elim
theorem V5 {n:Nat}{ops:Array Oper}{i:Nat}{o:Oper}{d:Option Nat}{gd:Option (Nat×Bool)}{op:EOp}{K:V→Heap→Prop}{Q:Exit→Act→World→Prop}{next:Act→World→Prop}(iU:ops[i]? = some o)
  (hm:Bs P n ops o (.e d gd op)=true) (hs:Sat H g w) (he:EnvOk w g (trim (Item.e d gd op).looks e) a)
  (h1:gdO e gd) (h2:gdB e gd=true→op.eff P (gdB e gd) e H K) (h3:gdB e gd=false→K .unk H)
  (bF:∀x u w' H' g',K x H'→Stp H g w H' g' w'→RepV w' g' x u→next (a.put d u) w') (gK:∀v w' H' g',K (.pn v) H'→Stp H g w H' g' w'→Q (.panic [{ v:=v,recovered:=false }]) a w') :
  wpOp P ops Q i next a w:=by
 have gk:∀t∈(Item.e d gd op).looks,lk t (trim (Item.e d gd op).looks e)=lk t e:=fun t ht=>by rw[EP,if_pos ht]
 have c1:=LA gk;have c2:=Kv gk;simp only[Item.gd]at c2;simp only[Item.opds]at c1;unfold wpOp;rw[iU];simp only;simp only[Bs,Ja]at hm;obtain⟨⟨m1,m2⟩,m3⟩:=hm;obtain⟨hd1,cR⟩:=DI m1;rw[Hw (n:=n) m2 he (c2.2.2 h1),c2.1];by_cases hg:gdB e gd=true
 ·rw[if_pos hg];left;refine Gj m3 hs he hg (EOp.congr c1 (h2 hg)) Q next (fun x u w' H' g' hk aF dc=>?_) gK;rw[hd1];exact bF x u w' H' g' hk aF dc
 ·rw[if_neg hg];rw[hd1];exact bF .unk undef w H g (h3 (by simpa using hg)) (.refl hs) (.unk _)
structure Early (g0:G)(H:Heap)(g:G)(w:World)(a:Act)(x:Item):Prop where
 ok:∃(d:Nat) (cells:List C) (l b sz:Nat) (T:TypeId) (cs:Array Value),x=.e (some d) none (.alloc cells)∧g.io l=some (b,sz,0)∧g.own b=some (l,[])∧w.heap[b]? = some (.cells cs T (0,0))∧
  cs.size=cells.length∧(∀(k:Nat) (c:C) (v:Value),cells[k]? = some c→cs[k]? = some v→RepC w g c v)∧H l=.none∧g0.io l=none∧RepV w g (.c (.ptr l 0)) (a.tmps.getD d undef)
theorem Early.mono {g0:G}{x:Item}{H':Heap}{g':G}{w':World}{a':Act}(h:Early g0 H g w a x)(hs:Stp H g w H' g' w')(ha:∀d,x.dst=some d→a'.tmps.getD d undef=a.tmps.getD d undef):Early g0 H' g' w' a' x:=by
 obtain⟨d,cells,l,b,sz,T,cs,h1,h2,h3,h4,h5,h6,h7,h8,h9⟩:=h.ok;obtain⟨k1,k2⟩:=hs.fr l (by rw[h2];simp) h7;obtain⟨k3,k4⟩:=k2 b [] h3;refine⟨d,cells,l,b,sz,T,cs,h1,hs.le.io _ _ h2,k3,k4.trans h4,h5,fun k c v p q=>(h6 k c v p q).mono hs.le,k1,h8,?_⟩;rw[ha d (by rw[h1];rfl)];exact h9.mono hs.le
theorem Early.ptr {g0:G}{x:Item}(h:Early g0 H g w a x):∃d l b sz,x.dst=some d∧g.io l=some (b,sz,0)∧b<w.heap.size∧H l=.none∧a.tmps.getD d undef=.pointer (some ⟨b,0,none⟩):=by
 obtain⟨d,cells,l,b,sz,T,cs,h1,h2,h3,h4,h5,h6,h7,h8,h9⟩:=h.ok;refine⟨d,l,b,sz,by rw[h1];rfl,h2,(Ji.1 h4).1,h7,?_⟩;have hr:=h9.aA;generalize a.tmps.getD d undef=vv at hr⊢
 cases hr with
 |ptr _ _ b' sz' q h=>
  rw[h2]at h;simp only[Jf,Jv]at h;obtain⟨rfl,rfl,rfl⟩:=h;rfl
theorem Early.other {g0:G}{x:Item}(h:Early g0 H g w a x){l:Nat}{o:Obj}{u:Value}(hr:RepV w g (.c (.ptr l 0)) u)(bm:∀d,x.dst=some d→u≠a.tmps.getD d undef):Early g0 (H.set l o) g w a x:=by
 obtain⟨d,cells,l',b,sz,T,cs,h1,h2,h3,h4,h5,h6,h7,h8,h9⟩:=h.ok;have dq:l'≠l:=fun e=>by
  subst e;have k:=h9.aA;have k2:=hr.aA;have hq:=bm d (by rw[h1];rfl);generalize a.tmps.getD d undef=vv at k hq
  cases k with
  |ptr _ _ b1 s1 q1 e1=>
   cases k2 with
   |ptr _ _ b2 s2 q2 e2=>
    rw[e1]at e2;simp only[Jf,Jv]at e2;obtain⟨rfl,rfl,rfl⟩:=e2;exact hq rfl
 exact⟨d,cells,l',b,sz,T,cs,h1,h2,h3,h4,h5,h6,by rw[Heap.af _ _ dq];exact h7,h8,h9⟩
theorem Qblk {n:Nat}{ops:Array Oper}{i:Nat}{o:Oper}{x:Item}{g0:G}{Q:Exit→Act→World→Prop}{next:Act→World→Prop}(iU:ops[i]? = some o)(hm:Bs P n ops o x=true)(hf:x.isFa=true)
  (hs:Sat H g w) (h0:∀l y,g0.io l=some y→g.io l=some y) (hn:a.tmps.size=n)
  (bF:∀u w' g',Stp H g w H g' w'→Early g0 H g' w' (a.put x.dst u) x→(∀x',Early g0 H g w a x'→∀d,x'.dst=some d→a.tmps.getD d undef≠u)→next (a.put x.dst u) w') :
  wpOp P ops Q i next a w:=by
 cases x with
 |e d gd op=>
  cases op with
  |alloc cells=>
   cases d with
   |none=>simp[Item.isFa]at hf
   |some d=>
    cases gd with
    |some=>simp[Item.isFa]at hf
    |none=>
     simp only[Bs,Ja]at hm;obtain⟨⟨m1,m2⟩,m3⟩:=hm;obtain⟨hd1,cR⟩:=DI m1;have bq:=cR d hd1;simp only[mE]at m3;split at m3
     ·rename_i t aK
      obtain⟨i1,z,z1,z2,z3⟩:=Hy m3;obtain⟨l,hl,hH⟩:=hs.newName;have hr:=Ft (w:=w) (g:=g) z3;have a9:=ET hs hl cells.length 0 (.cells z.cells t);have aF:=Dl hs hl cells.length 0 (.cells z.cells t) .none (fun g' hg=>trivial);rw[Heap.set_self _ _ _ hH]at aF;have lF:g0.io l=none:=by
       cases hx:g0.io l with
       |none=>rfl
       |some y=>rw[h0 l y hx]at hl;simp at hl
      have hw:Region.wanted o (yielded ops a.tmps)=true:=by
       unfold Region.wanted
       cases ev:o.guard with
       |none=>rfl
       |some jb=>rw[ev]at m2;simp[mG]at m2
      unfold wpOp;rw[iU];simp only;rw[if_pos hw];left;unfold Oper.wp;have bx:(execOp a.eval o).run P w=.ok (.value (.pointer (some ⟨w.heap.size,0,none⟩))) (w.alloc (.cells z.cells t)):=by
       simp[execOp,aK,Instr.alloc,BM z1 z2,newVar,newRow]
      rw[bx,Oper.upon_value,hd1];refine bF _ _ _ aF ⟨d,cells,l,w.heap.size,cells.length,t,z.cells,rfl,by simp[G.newObj],by simp[G.newObj],BQ _ _,hr.1,fun k c v p q=>(hr.2 k c v p q).mono a9,hH,lF,?_⟩ (fun x' o7 d' dV hh=>?_)
      ·have:(a.put (Item.e (some d) none (.alloc cells)).dst (.pointer (some ⟨w.heap.size,0,none⟩))).tmps.getD d undef=.pointer (some ⟨w.heap.size,0,none⟩):=by
        simp only[Item.dst,Act.put];rw[Jd,Js (by omega)];rfl
       rw[this];exact .c _ _ (.ptr l 0 w.heap.size cells.length 0 (by simp[G.newObj]))
      ·obtain⟨d1,l1,b1,sz1,p1,p2,p3,p4,p5⟩:=o7.ptr;rw[p1]at dV;obtain rfl:=Jaa dV;rw[p5]at hh;have:=congrArg (fun v=>match v with
        |Value.pointer (some a)=>a.block
        |_=>0) hh
       simp only at this;omega
     ·simp at m3
  |_=>cases d <;> (try cases gd) <;> simp[Item.isFa]at hf
 |_=>simp[Item.isFa]at hf
theorem Qbo2 {H0:Heap}{g0:G}{w0:World}{x:Item}(aF:Stp H0 g0 w0 H g w)(h:Early g0 H g w a x) :
  ∃d cells l,x=.e (some d) none (.alloc cells)∧H l=.none∧Stp H0 g0 w0 (H.set l (.st cells)) g w∧RepV w g (.c (.ptr l 0)) (a.tmps.getD d undef):=by
 obtain⟨d,cells,l,b,sz,T,cs,h1,h2,h3,h4,h5,h6,h7,h8,h9⟩:=h.ok;refine⟨d,cells,l,h1,h7,⟨aF.le,fun m hm hn=>?_,⟨aF.sat.fresh,aF.sat.names,aF.sat.excl,aF.sat.named,fun m=>?_⟩⟩,h9⟩
 ·have iX:m≠l:=fun h=>by subst h;exact hm h8
  rw[Heap.af _ _ iX];exact aF.fr m hm hn
 ·by_cases iX:m=l
  ·subst iX;rw[Heap.ay];exact⟨b,sz,T,cs,h2,h3,h4,h5,fun k c v p q=>.plain _ _ _ _ (h6 k c v p q)⟩
  ·have cu:=Heap.af H (.st cells) iX;rw[cu,←cu];refine SatObj.keep aF.sat (.refl _ _) (fun b q hb=>⟨hb,rfl⟩) cu fun m' v left cur hc v' es hv=>?_;by_cases dz:m'=l
   ·subst dz;rw[Heap.ay]at hv;simp at hv
   ·rw[Heap.af _ _ dz]at hv;exact .inl ⟨hv,fun b q hb=>⟨hb,rfl⟩⟩
structure Fix where
 P:Program
 n:Nat
 ops:Array Oper
 ms:List Nat
 fa:Nat
 L:List Row
 H0:Heap
 g0:G
 w0:World
 KP:Value→Heap→Prop
 K:Env→Heap→Prop
def Fix.anc (F:Fix)(i j:Nat):Prop:=(F.ms.getD i 0).testBit j=true
def Ci (F:Fix)(listed:Array Bool)(pre:List Row)(y:Row)(t:Nat)(z:Row):Prop:=
 z∈pre∧z.2.aL=false∧¬dn listed z.1∧z.2.dst=some t∧F.anc y.1 z.1
def Pend (F:Fix)(listed:Array Bool)(a:Act)(w:World)(pre:List Row)(e:Env)(H:Heap)(g:G)(y:Row):Prop:=
 ∃(o:Oper) (x:Item) (ei:Env) (v:V),F.ops[y.1]? = some o∧Bs F.P F.n F.ops o x=true∧x.dst=y.2.dst∧x.looks=y.2.looks∧(y.2.hf=true→x.hf=true)∧
  Rdy F.P x ei H v∧(∀d,y.2.dst=some d→lk d e=v)∧
  ∀t∈y.2.looks,(∀z,Ci F listed pre y t z→lk t ei=lk t e)∧((¬∃z,Ci F listed pre y t z)→RepV w g (lk t ei) (a.tmps.getD t undef))
structure DInv (F:Fix)(listed:Array Bool)(a:Act)(w:World)(pre post:List Row)(e:Env)(H:Heap)(g:G):Prop where
 split:F.L=pre++post
 rest:BL F.P (post.map Prod.snd) e H F.KP F.K
 stp:Stp F.H0 F.g0 F.w0 H g w
 size:a.tmps.size=F.n
 defers:a.defers=[]
 lsz:listed.size=F.ops.size
 closed:∀i,dn listed i→∀j,F.anc i j→dn listed j
 eDone:∀y∈pre,y.2.isE=true→dn listed y.1
 postDone:∀y∈post,y.2.aL=false→dn listed y.1→flo F.fa y.1=true∧Early F.g0 H g w a y.2
 pend:∀y∈pre,y.2.isFl=true→¬dn listed y.1→BH y.1 post=true∨Pend F listed a w pre e H g y
 temps:∀t,(∃y∈pre,y.2.aL=false∧¬dn listed y.1∧y.2.dst=some t)∨(∃y∈post,y.2.aL=false∧flo F.fa y.1=true∧dn listed y.1∧y.2.dst=some t)∨RepV w g (lk t e) (a.tmps.getD t undef)
 ne:∀y∈post,∀z∈post,y.2.aL=false→z.2.aL=false→dn listed y.1→dn listed z.1→y.1≠z.1→∀d d',y.2.dst=some d→z.2.dst=some d'→a.tmps.getD d undef≠a.tmps.getD d' undef
structure FixOk (F:Fix):Prop where
 rows:Dy F.P F.n F.ops F.ms F.fa [] F.L=true
 all:∀i,i<F.ops.size→∃y∈F.L,y.2.aL=false∧y.1=i
theorem FixOk.row {F:Fix}(hF:FixOk F){A B:List Row}{y:Row}(h:F.L=A++y::B)(hc:y.2.aL=false):∃o,RowOk F.P F.n F.ops F.ms F.fa A y B o:=by
 have:=Q94 _ _ hF.rows A y B h;exact Qbmr this hc
def C4 (F:Fix)(x y:Row):Prop:=∃A B,F.L=A++y::B∧x∈A
theorem FixOk.pair {F:Fix}(hF:FixOk F){x y:Row}(h:C4 F x y)(hx:x.2.aL=false)(hy:y.2.aL=false):PairOk F.ms F.fa x y:=by
 obtain⟨A,B,h1,h2⟩:=h;obtain⟨o,ho⟩:=hF.row h1 hy;exact ho.pair x h2 hx
theorem Cs {F:Fix}{pre post:List Row}(h:F.L=pre++post){x y:Row}(hx:x∈pre)(hy:y∈post):C4 F x y:=by
 obtain⟨s,t,rfl⟩:=Jz hy;exact⟨pre++s,t,by rw[h];simp,by simp[hx]⟩
theorem EZ {F:Fix}{pre post:List Row}{y x:Row}(h:F.L=pre++y::post)(hx:x∈post):C4 F y x:=
 Cs (pre:=pre++[y]) (by simpa using h) (by simp) hx
theorem GU {F:Fix}{x y:Row}(hx:x∈F.L)(hy:y∈F.L):x=y∨C4 F x y∨C4 F y x:=by
 obtain⟨s,t,h⟩:=Jz hx;have:y∈s++x::t:=h▸hy;rcases Je.1 this with k|k
 ·exact .inr (.inr ⟨s,t,h,k⟩)
 ·rcases Jh.1 k with k|k
  ·exact .inl k.symm
  ·exact .inr (.inl (EZ h k))
theorem FixOk.inj {F:Fix}(hF:FixOk F){x y:Row}(hx:x∈F.L)(hy:y∈F.L)(jL:x.2.aL=false)(bH:y.2.aL=false)(h:x.1=y.1):x=y:=by
 rcases GU hx hy with k|k|k
 ·exact k
 ·exact absurd h (hF.pair k jL bH).ne
 ·exact absurd h.symm (hF.pair k bH jL).ne
theorem FixOk.injDst {F:Fix}(hF:FixOk F){x y:Row}(hx:x∈F.L)(hy:y∈F.L)(jL:x.2.aL=false)(bH:y.2.aL=false){t:Nat}(h1:x.2.dst=some t)(h2:y.2.dst=some t):x=y:=by
 rcases GU hx hy with k|k|k
 ·exact k
 ·exact absurd h2 ((hF.pair k jL bH).dst t h1)
 ·exact absurd h1 ((hF.pair k bH jL).dst t h2)
theorem ES {x:Item}(h:x.isFl=true):x.aL=false∧x.isE=false:=by
 cases x <;> simp_all[Item.isFl,Item.aL,Item.isE]
theorem Dz {x:Item}(h:x.isE=true):x.aL=false∧x.isFl=false:=by
 cases x <;> simp_all[Item.isFl,Item.aL,Item.isE]
theorem Ie {j:Nat}{y:Row}{r:List Row}(h:BH j (y::r)=true):y.2.aL=true∧(y.1=j∨BH j r=true):=by
 simpa[BH]using h
theorem DInv.passFl {F:Fix}(hF:FixOk F){listed:Array Bool}{pre r:List Row}{y:Row}(hI:DInv F listed a w pre (y::r) e H g)(hy:y.2.isFl=true)(v:V)(hr:Rdy F.P y.2 e H v)
  (bz:BL F.P (r.map Prod.snd) (putE y.2.dst v e) H F.KP F.K) (cf:¬dn listed y.1):DInv F listed a w (pre++[y]) r (putE y.2.dst v e) H g:=by
 obtain⟨bH,rx⟩:=ES hy;obtain⟨o,ho⟩:=hF.row hI.split bH;have hL:y∈F.L:=by rw[hI.split];simp
 have eW:∀z∈pre,z∈F.L:=fun z hz=>by rw[hI.split];simp[hz]
 have dG:∀z∈r,z∈F.L:=fun z hz=>by rw[hI.split];simp[hz]
 have gk:∀t,y.2.dst≠some t→lk t (putE y.2.dst v e)=lk t e:=by
  intro t ht
  cases hd:y.2.dst with
  |none=>rfl
  |some d=>
   simp only[putE,lk];rw[if_neg];intro h;subst h;exact ht hd
 have qp:∀t,y.2.dst=some t→lk t (putE y.2.dst v e)=v:=by
  intro t ht;rw[ht];simp[putE,lk]
 refine⟨by rw[hI.split];simp,bz,hI.stp,hI.size,hI.defers,hI.lsz,hI.closed,?_,?_,?_,?_,fun y' fW z' cD=>hI.ne y' (by simp[fW]) z' (by simp[cD])⟩
 ·intro z hz gS;rcases Je.1 hz with k|k
  ·exact hI.eDone z k gS
  ·simp at k;subst k;rw[rx]at gS;simp at gS
 ·exact fun z hz=>hI.postDone z (by simp[hz])
 ·intro z hz du fu;obtain⟨bR,mM⟩:=ES du;right;rcases Je.1 hz with k|k
  ·rcases hI.pend z k du fu with h|h
   ·have:=(Ie h).1;rw[bH]at this;simp at this
   ·obtain⟨o',x,ei,u,p1,p2,p3,p4,p5,p6,p7,p8⟩:=h;refine⟨o',x,ei,u,p1,p2,p3,p4,p5,p6,?_,?_⟩
    ·intro d hd;rw[gk d fun h=>(hF.pair (Cs hI.split k (by simp)) bR bH).dst d hd h];exact p7 d hd
    ·intro t ht;obtain⟨q1,q2⟩:=p8 t ht;have hb:∀z',Ci F listed (pre++[y]) z t z'→Ci F listed pre z t z':=by
      rintro z' ⟨b1,b2,b3,b4,b5⟩;refine⟨?_,b2,b3,b4,b5⟩;rcases Je.1 b1 with b|b
      ·exact b
      ·simp at b;subst b;have:=(hF.pair (Cs hI.split k (by simp)) bR bH).top;rw[Fix.anc,this]at b5;simp at b5
     refine⟨?_,?_⟩
     ·intro z' cD;have hz'':=hb z' cD;rw[q1 z' hz'',gk];intro h;exact (hF.pair (Cs hI.split hz''.1 (by simp)) hz''.2.1 bH).dst t hz''.2.2.2.1 h
     ·intro bg;refine q2 fun ⟨z',b1,b2⟩=>bg ⟨z',?_,b2⟩;simp[b1]
  ·simp at k;subst k;refine⟨o,z.2,e,v,ho.op,ho.item,rfl,rfl,id,hr,qp,?_⟩;intro t ht;have jQ:z.2.dst≠some t:=fun h=>ho.self t h ht;refine⟨?_,?_⟩
   ·intro z' cD;rw[gk t jQ]
   ·intro bg;rcases hI.temps t with ⟨y',k1,k2,k3,k4⟩|⟨y',k1,k2,k3,k4,k5⟩|k
    ·exact absurd ⟨y',by simp[k1],k2,k3,k4,(hF.pair (Cs hI.split k1 (by simp)) k2 bR).raw t k4 ht⟩ bg
    ·exfalso;rcases Jh.1 k1 with h|h
     ·subst h;exact jQ k5
     ·have:=(hF.pair (EZ hI.split h) bR k2).war t k5 ht;exact cf (hI.closed _ k4 _ this)
    ·exact k
 ·intro t;by_cases ht:y.2.dst=some t
  ·exact .inl ⟨y,by simp,bH,cf,ht⟩
  ·rw[gk t ht];rcases hI.temps t with ⟨y',k1,k2,k3,k4⟩|⟨y',k1,k2,k3,k4,k5⟩|k
   ·exact .inl ⟨y',by simp[k1],k2,k3,k4⟩
   ·rcases Jh.1 k1 with h|h
    ·subst h;exact absurd k5 ht
    ·exact .inr (.inl ⟨y',h,k2,k3,k4,k5⟩)
   ·exact .inr (.inr k)
theorem DInv.passChk {F:Fix}(hF:FixOk F){listed:Array Bool}{pre r:List Row}{j d:Nat}{gd:Option (Nat×Bool)}{op:FOp}(hI:DInv F listed a w pre ((j,.chk d gd op)::r) e H g) :
  DInv F listed a w (pre++[(j,.chk d gd op)]) r e H g:=by
 have av:=Q94 _ _ hF.rows pre _ _ hI.split;obtain⟨o,c1,c2,⟨y0,c3,c4,c5,c6,c7,c8⟩,c9⟩:=Qblg av;have bz:=hI.rest;simp only[Jy,BL]at bz;obtain⟨⟨r1,r2,r3⟩,r4⟩:=bz;have eW:∀z∈pre,z∈F.L:=fun z hz=>by rw[hI.split];simp[hz]
 have mB:∀z t z',Ci F listed (pre++[(j,.chk d gd op)]) z t z'↔Ci F listed pre z t z':=by
  intro z t z';constructor
  ·rintro⟨b1,b2⟩;refine⟨?_,b2⟩;rcases Je.1 b1 with b|b
   ·exact b
   ·simp at b;subst b;simp[Item.aL]at b2
  ·rintro⟨b1,b2⟩;exact⟨by simp[b1],b2⟩
 refine⟨by rw[hI.split];simp,r4,hI.stp,hI.size,hI.defers,hI.lsz,hI.closed,?_,?_,?_,?_,fun y' fW z' cD=>hI.ne y' (by simp[fW]) z' (by simp[cD])⟩
 ·intro z hz gS;rcases Je.1 hz with k|k
  ·exact hI.eDone z k gS
  ·simp at k;subst k;simp[Item.isE]at gS
 ·exact fun z hz=>hI.postDone z (by simp[hz])
 ·intro z hz du fu;obtain⟨bR,mM⟩:=ES du;have k:z∈pre:=by
   rcases Je.1 hz with k|k
   ·exact k
   ·simp at k;subst k;simp[Item.aL]at bR
  have dR:Pend F listed a w pre e H g z→Pend F listed a w (pre++[(j,.chk d gd op)]) e H g z:=by
   rintro⟨o',x,ei,u,p1,p2,p3,p4,p5,p6,p7,p8⟩;refine⟨o',x,ei,u,p1,p2,p3,p4,p5,p6,p7,fun t ht=>?_⟩;simp only[mB];exact p8 t ht
  rcases hI.pend z k du fu with h|h
  ·rcases (Ie h).2 with h'|h'
   ·right;simp only at h';have rt:z=y0:=hF.inj (eW _ k) (eW _ c3) bR c4 (by rw[c5,←h']);subst rt;refine⟨o,.f (some d) gd op,e,gdV gd (gdB e gd) (op.val e H),by rw[c5];exact c1,c2,by rw[c7];rfl,c6.symm,fun h=>by rw[c8]at h;simp at h,⟨r1,r2,rfl⟩,?_,?_⟩
    ·intro d' dV;rw[c7]at dV;simp at dV;subst dV;exact r3
    ·intro t ht;simp only[mB];refine⟨fun _ _=>trivial,fun bg=>?_⟩;rcases hI.temps t with ⟨y',k1,k2,k3,k4⟩|⟨y',k1,k2,k3,k4,k5⟩|k'
     ·exfalso;refine bg ⟨y',k1,k2,k3,k4,?_⟩;have:=c9 y' k1 k2 t k4 (by rw[←c6];exact ht);rw[Fix.anc,c5];exact this
     ·exfalso;rcases Jh.1 k1 with h|h
      ·subst h;simp[Item.aL]at k2
      ·have:=(hF.pair (Cs (pre:=pre++[(j,.chk d gd op)]) (by rw[hI.split];simp) (by simp[k]) h) bR k2).war t k5 ht;exact fu (hI.closed _ k4 _ this)
     ·exact k'
   ·exact .inl h'
  ·exact .inr (dR h)
 ·intro t;rcases hI.temps t with ⟨y',k1,k2,k3,k4⟩|⟨y',k1,k2,k3,k4,k5⟩|k
  ·exact .inl ⟨y',by simp[k1],k2,k3,k4⟩
  ·rcases Jh.1 k1 with h|h
   ·subst h;simp[Item.aL]at k2
   ·exact .inr (.inl ⟨y',h,k2,k3,k4,k5⟩)
  ·exact .inr (.inr k)
theorem HA {d:Option Nat}{v:V}{e:Env}{t:Nat}(h:d≠some t):lk t (putE d v e)=lk t e:=by
 cases d with
 |none=>rfl
 |some s=>
  simp only[putE,lk];rw[if_neg];intro k;subst k;exact h rfl
theorem OS {d:Option Nat}{v:V}{e:Env}{t:Nat}(h:d=some t):lk t (putE d v e)=v:=by
 subst h;simp[putE,lk]
theorem Cf {a:Act}{d:Option Nat}{u:Value}{t:Nat}(h:d≠some t):(a.put d u).tmps.getD t undef=a.tmps.getD t undef:=by
 cases d with
 |none=>rfl
 |some s=>
  have:s≠t:=fun k=>by subst k;exact h rfl
  simp only[Act.put];rw[Jd,J5 this,←Jd]
theorem Ek {a:Act}{d:Option Nat}{u:Value}{t:Nat}(h:d=some t)(ht:t<a.tmps.size):(a.put d u).tmps.getD t undef=u:=by
 subst h;simp only[Act.put];rw[Jd,Js ht];rfl
theorem AV {listed:Array Bool}{i j:Nat}(hi:i<listed.size):dn (listed.setIfInBounds i true) j↔j=i∨dn listed j:=by
 by_cases h:j=i
 ·subst h;simp[dn,hi]
 ·simp only[dn,getD_set_ne false (Jaq h),h,false_or]
theorem EA {n:Nat}{ops:Array Oper}{o:Oper}{x:Item}(h:Bs P n ops o x=true):∀t,x.dst=some t→t<n:=by
 intro t ht;cases x <;> simp only[Bs,Ja]at h
 case f d gd op=>obtain⟨h1,h2⟩:=DI h.1.1;simp only[Item.dst]at ht;exact h2 t (h1.trans ht)
 case p d gd f xs=>obtain⟨h1,h2⟩:=DI h.1.1;simp only[Item.dst]at ht;exact h2 t (h1.trans ht)
 case e d gd op=>obtain⟨h1,h2⟩:=DI h.1.1;simp only[Item.dst]at ht;exact h2 t (h1.trans ht)
 case chk=>simp at h
theorem DInv.passE {F:Fix}(hF:FixOk F){listed:Array Bool}{pre r:List Row}{y:Row}(hI:DInv F listed a w pre (y::r) e H g)(hy:y.2.isE=true)(jm:¬dn listed y.1)(kl:¬flo F.fa y.1=true)
  (cV:∀j,F.anc y.1 j→dn listed j) {v:V} {u:Value} {w':World} {H':Heap} {g':G}
  (bz:BL F.P (r.map Prod.snd) (putE y.2.dst v e) H' F.KP F.K) (aF:Stp H g w H' g' w') (hv:RepV w' g' v u) :
  DInv F (listed.setIfInBounds y.1 true) (a.put y.2.dst u) w' (pre++[y]) r (putE y.2.dst v e) H' g':=by
 obtain⟨bH,oU⟩:=Dz hy;obtain⟨o,ho⟩:=hF.row hI.split bH;have aa:y.1<listed.size:=by rw[hI.lsz];exact (Ji.1 ho.op).1
 have eW:∀z∈pre,z∈F.L:=fun z hz=>by rw[hI.split];simp[hz]
 have oi:∀z∈pre,C4 F z y:=fun z hz=>Cs hI.split hz (by simp);refine⟨by rw[hI.split];simp,bz,hI.stp.trans aF,by rw[(BP _ _ _).1];exact hI.size,by rw[(BP _ _ _).2];exact hI.defers,by simp[hI.lsz],?_,?_,?_,?_,?_,?_⟩
 ·intro i hi j hj;rw[AV aa]at hi⊢;rcases hi with rfl|hi
  ·exact .inr (cV j hj)
  ·exact .inr (hI.closed i hi j hj)
 ·intro z hz gS;rw[AV aa];rcases Je.1 hz with k|k
  ·exact .inr (hI.eDone z k gS)
  ·simp at k;subst k;exact .inl rfl
 ·intro z hz bR dN;have kg:=hF.pair (EZ hI.split hz) bH bR;rw[AV aa]at dN;obtain⟨k1,k2⟩:=hI.postDone z (by simp[hz]) bR (dN.resolve_left (Jaq kg.ne));exact⟨k1,k2.mono aF fun d hd=>Cf fun h=>kg.dst d h hd⟩
 ·intro z hz du fu;obtain⟨bR,mM⟩:=ES du;rw[AV aa]at fu;have eV:¬dn listed z.1:=fun h=>fu (.inr h);have k:z∈pre:=by
   rcases Je.1 hz with k|k
   ·exact k
   ·simp at k;subst k;rw[oU]at du;simp at du
  have hp:=hF.pair (oi z k) bR bH;by_cases hh:z.2.hf=true
  ·right;rcases hI.pend z k du eV with h|h
   ·have:=(Ie h).1;rw[bH]at this;simp at this
   ·obtain⟨o',x,ei,u',p1,p2,p3,p4,p5,p6,p7,p8⟩:=h;refine⟨o',x,ei,u',p1,p2,p3,p4,p5,p6.hcongr (p5 hh),?_,?_⟩
    ·intro d hd;rw[HA fun h=>hp.dst d hd h];exact p7 d hd
    ·intro t ht;obtain⟨q1,q2⟩:=p8 t ht;have fy:y.2.dst≠some t:=fun h=>by
      have:=hp.war t h ht;exact eV (cV _ this)
     have hb:∀z',Ci F (listed.setIfInBounds y.1 true) (pre++[y]) z t z'↔Ci F listed pre z t z':=by
      intro z';constructor
      ·rintro⟨b1,b2,b3,b4,b5⟩;rw[AV aa]at b3;refine⟨?_,b2,fun h=>b3 (.inr h),b4,b5⟩;rcases Je.1 b1 with b|b
       ·exact b
       ·simp at b;subst b;exact absurd b4 fy
      ·rintro⟨b1,b2,b3,b4,b5⟩;refine⟨by simp[b1],b2,?_,b4,b5⟩;rw[AV aa];rintro (h|h)
       ·exact (hF.pair (oi z' b1) b2 bH).ne h
       ·exact b3 h
     simp only[hb,HA fy,Cf fy];exact⟨q1,fun h=>(q2 h).mono aF.le⟩
  ·left;have:=ho.cover hy z k bR (by simpa using hh);refine this ?_
   cases hx:(F.ms.getD y.1 0).testBit z.1 with
   |false=>rfl
   |true=>exact absurd (cV _ hx) eV
 ·intro t;by_cases ht:y.2.dst=some t
  ·right;right;rw[OS ht,Ek ht (by rw[hI.size];exact EA ho.item t ht)];exact hv
  ·rw[HA ht,Cf ht];rcases hI.temps t with ⟨y',k1,k2,k3,k4⟩|⟨y',k1,k2,k3,k4,k5⟩|k
   ·refine .inl ⟨y',by simp[k1],k2,?_,k4⟩;rw[AV aa];rintro (h|h)
    ·exact (hF.pair (oi y' k1) k2 bH).ne h
    ·exact k3 h
   ·rcases Jh.1 k1 with h|h
    ·subst h;exact absurd k3 kl
    ·exact .inr (.inl ⟨y',h,k2,k3,(AV aa).2 (.inr k4),k5⟩)
   ·exact .inr (.inr (k.mono aF.le))
 ·intro y' fW z' cD eE dv gz dN bm d d' hd dV;have p1:=hF.pair (EZ hI.split fW) bH eE;have p2:=hF.pair (EZ hI.split cD) bH dv;rw[AV aa]at gz dN;rw[Cf fun h=>p1.dst d h hd,Cf fun h=>p2.dst d' h dV];exact hI.ne y' (by simp[fW]) z' (by simp[cD]) eE dv (gz.resolve_left (Jaq p1.ne)) (dN.resolve_left (Jaq p2.ne)) bm d d' hd dV
theorem DInv.passFa {F:Fix}(hF:FixOk F){listed:Array Bool}{pre r:List Row}{y:Row}(hI:DInv F listed a w pre (y::r) e H g)(bH:y.2.aL=false)(jm:dn listed y.1) :
  ∃e' H',DInv F listed a w (pre++[y]) r e' H' g:=by
 obtain⟨kl,oP⟩:=hI.postDone y (by simp) bH jm;obtain⟨d,cells,l,h1,h2,h3,h4⟩:=Qbo2 hI.stp oP;obtain⟨d0,cells0,l0,b0,sz0,T0,cs0,e1,e2,e3,e4,e5,e6,e7,e8,e9⟩:=oP.ok;obtain⟨o,ho⟩:=hF.row hI.split bH;have hy:y.2.isE=true:=by rw[h1];rfl
 have oU:=(Dz hy).2;have gz:y.2.dst=some d:=by rw[h1];rfl
 have oi:∀z∈pre,C4 F z y:=fun z hz=>Cs hI.split hz (by simp);have bz:=hI.rest;simp only[Jy,h1,BL,gdO,gdB,true_and,EOp.eff]at bz;have kQ:=bz.1 trivial l h2;refine⟨putE (some d) (.c (.ptr l 0)) e,H.set l (.st cells),?_⟩;refine⟨by rw[hI.split];simp,kQ,h3,hI.size,hI.defers,hI.lsz,hI.closed,?_,?_,?_,?_,fun y' fW z' cD=>hI.ne y' (by simp[fW]) z' (by simp[cD])⟩
 ·intro z hz gS;rcases Je.1 hz with k|k
  ·exact hI.eDone z k gS
  ·simp at k;subst k;exact jm
 ·intro z hz bR dN;obtain⟨k1,k2⟩:=hI.postDone z (by simp[hz]) bR dN;refine⟨k1,k2.other h4 fun d' dV=>?_⟩;exact hI.ne y (by simp) z (by simp[hz]) bH bR jm dN (hF.pair (EZ hI.split hz) bH bR).ne d d' gz dV
 ·intro z hz du fu;obtain⟨bR,mM⟩:=ES du;have k:z∈pre:=by
   rcases Je.1 hz with k|k
   ·exact k
   ·simp at k;subst k;rw[oU]at du;simp at du
  have hp:=hF.pair (oi z k) bR bH;by_cases hh:z.2.hf=true
  ·right;rcases hI.pend z k du fu with h|h
   ·have:=(Ie h).1;rw[bH]at this;simp at this
   ·obtain⟨o',x,ei,u',p1,p2,p3,p4,p5,p6,p7,p8⟩:=h;refine⟨o',x,ei,u',p1,p2,p3,p4,p5,p6.hcongr (p5 hh),?_,?_⟩
    ·intro d' dV;rw[HA fun h=>hp.dst d' dV (by rw[gz];exact h)];exact p7 d' dV
    ·intro t ht;obtain⟨q1,q2⟩:=p8 t ht;have fy:some d≠some t:=fun h=>by
      have:=hp.war t (by rw[gz];exact h) ht;exact fu (hI.closed _ jm _ this)
     have hb:∀z',Ci F listed (pre++[y]) z t z'↔Ci F listed pre z t z':=by
      intro z';constructor
      ·rintro⟨b1,b2,b3,b4,b5⟩;refine⟨?_,b2,b3,b4,b5⟩;rcases Je.1 b1 with b|b
       ·exact b
       ·simp at b;subst b;rw[gz]at b4;exact absurd b4 fy
      ·rintro⟨b1,b2⟩;exact⟨by simp[b1],b2⟩
     simp only[hb,HA fy];exact⟨q1,q2⟩
  ·left;refine ho.cover hy z k bR (by simpa using hh) ?_
   cases hx:(F.ms.getD y.1 0).testBit z.1 with
   |false=>rfl
   |true=>exact absurd (hI.closed _ jm _ hx) fu
 ·intro t;by_cases ht:some d=some t
  ·right;right;rw[OS ht];simp at ht;subst ht;exact h4
  ·rw[HA ht];rcases hI.temps t with ⟨y',k1,k2,k3,k4⟩|⟨y',k1,k2,k3,k4,k5⟩|k
   ·exact .inl ⟨y',by simp[k1],k2,k3,k4⟩
   ·rcases Jh.1 k1 with h|h
    ·subst h;rw[gz]at k5;exact absurd k5 ht
    ·exact .inr (.inl ⟨y',h,k2,k3,k4,k5⟩)
   ·exact .inr (.inr k)
theorem DInv.doneFl {F:Fix}(hF:FixOk F){listed:Array Bool}{pre post:List Row}{y:Row}(hI:DInv F listed a w pre post e H g)(eD:y∈pre)(hy:y.2.isFl=true)(jm:¬dn listed y.1)
  (cV:∀j,F.anc y.1 j→dn listed j) {v:V} {u:Value} {w':World} {g':G} (mi:∀d,y.2.dst=some d→lk d e=v)
  (aF:Stp H g w H g' w') (hv:RepV w' g' v u) :
  DInv F (listed.setIfInBounds y.1 true) (a.put y.2.dst u) w' pre post e H g':=by
 obtain⟨bH,rx⟩:=ES hy;have fV:y∈F.L:=by rw[hI.split];simp[eD]
 obtain⟨A,B,mg⟩:=Jz fV;obtain⟨o,ho⟩:=hF.row mg bH;have aa:y.1<listed.size:=by rw[hI.lsz];exact (Ji.1 ho.op).1
 have eW:∀z∈pre,z∈F.L:=fun z hz=>by rw[hI.split];simp[hz]
 refine⟨hI.split,hI.rest,hI.stp.trans aF,by rw[(BP _ _ _).1];exact hI.size,by rw[(BP _ _ _).2];exact hI.defers,by simp[hI.lsz],?_,?_,?_,?_,?_,?_⟩
 ·intro i hi j hj;rw[AV aa]at hi⊢;rcases hi with rfl|hi
  ·exact .inr (cV j hj)
  ·exact .inr (hI.closed i hi j hj)
 ·intro z hz gS;rw[AV aa];exact .inr (hI.eDone z hz gS)
 ·intro z hz bR dN;have kg:=hF.pair (Cs hI.split eD hz) bH bR;rw[AV aa]at dN;obtain⟨k1,k2⟩:=hI.postDone z hz bR (dN.resolve_left (Jaq kg.ne));exact⟨k1,k2.mono aF fun d hd=>Cf fun h=>kg.dst d h hd⟩
 ·intro z hz du fu;obtain⟨bR,mM⟩:=ES du;rw[AV aa]at fu;have eV:¬dn listed z.1:=fun h=>fu (.inr h);have kg:z≠y:=fun h=>fu (.inl (by rw[h]));rcases hI.pend z hz du eV with h|h
  ·exact .inl h
  ·right;obtain⟨o',x,ei,u',p1,p2,p3,p4,p5,p6,p7,p8⟩:=h;refine⟨o',x,ei,u',p1,p2,p3,p4,p5,p6,p7,?_⟩;intro t ht;obtain⟨q1,q2⟩:=p8 t ht;have hb:∀z',Ci F (listed.setIfInBounds y.1 true) pre z t z'→Ci F listed pre z t z':=by
    rintro z' ⟨b1,b2,b3,b4,b5⟩;rw[AV aa]at b3;exact⟨b1,b2,fun h=>b3 (.inr h),b4,b5⟩
   refine⟨fun z' cD=>q1 z' (hb z' cD),fun bg=>?_⟩;by_cases fy:y.2.dst=some t
   ·have mB:Ci F listed pre z t y:=by
     refine⟨eD,bH,jm,fy,?_⟩;rcases GU fV (eW z hz)with k|k|k
     ·exact absurd k.symm kg
     ·exact (hF.pair k bH bR).raw t fy ht
     ·exact absurd (cV _ ((hF.pair k bR bH).war t fy ht)) eV
    rw[q1 y mB,mi t fy,Ek fy (by rw[hI.size];exact EA ho.item t fy)];exact hv
   ·rw[Cf fy];refine (q2 fun ⟨z',b⟩=>bg ⟨z',?_⟩).mono aF.le;obtain⟨b1,b2,b3,b4,b5⟩:=b;refine⟨b1,b2,?_,b4,b5⟩;rw[AV aa];rintro (h|h)
    ·have:=hF.inj (eW _ b1) fV b2 bH h;subst this;exact fy b4
    ·exact b3 h
 ·intro t;by_cases ht:y.2.dst=some t
  ·right;right;rw[mi t ht,Ek ht (by rw[hI.size];exact EA ho.item t ht)];exact hv
  ·rw[Cf ht];rcases hI.temps t with ⟨y',k1,k2,k3,k4⟩|⟨y',k1,k2,k3,k4,k5⟩|k
   ·refine .inl ⟨y',k1,k2,?_,k4⟩;rw[AV aa];rintro (h|h)
    ·have:=hF.inj (eW _ k1) fV k2 bH h;subst this;exact ht k4
    ·exact k3 h
   ·exact .inr (.inl ⟨y',k1,k2,k3,(AV aa).2 (.inr k4),k5⟩)
   ·exact .inr (.inr (k.mono aF.le))
 ·intro y' fW z' cD eE dv gz dN bm d d' hd dV;have p1:=hF.pair (Cs hI.split eD fW) bH eE;have p2:=hF.pair (Cs hI.split eD cD) bH dv;rw[AV aa]at gz dN;rw[Cf fun h=>p1.dst d h hd,Cf fun h=>p2.dst d' h dV];exact hI.ne y' fW z' cD eE dv (gz.resolve_left (Jaq p1.ne)) (dN.resolve_left (Jaq p2.ne)) bm d d' hd dV
theorem DInv.doneFa {F:Fix}(hF:FixOk F){listed:Array Bool}{pre post:List Row}{y:Row}(hI:DInv F listed a w pre post e H g)(eD:y∈post)(bH:y.2.aL=false)(kl:flo F.fa y.1=true)(jm:¬dn listed y.1)
  (cV:∀j,F.anc y.1 j→dn listed j) {u:Value} {w':World} {g':G}
  (aF:Stp H g w H g' w') (hv:Early F.g0 H g' w' (a.put y.2.dst u) y.2) (bG:∀x',Early F.g0 H g w a x'→∀d,x'.dst=some d→a.tmps.getD d undef≠u) :
  DInv F (listed.setIfInBounds y.1 true) (a.put y.2.dst u) w' pre post e H g':=by
 have fV:y∈F.L:=by rw[hI.split];simp[eD]
 obtain⟨A,B,mg⟩:=Jz fV;obtain⟨o,ho⟩:=hF.row mg bH;have aa:y.1<listed.size:=by rw[hI.lsz];exact (Ji.1 ho.op).1
 have eW:∀z∈pre,z∈F.L:=fun z hz=>by rw[hI.split];simp[hz]
 have dG:∀z∈post,z∈F.L:=fun z hz=>by rw[hI.split];simp[hz]
 refine⟨hI.split,hI.rest,hI.stp.trans aF,by rw[(BP _ _ _).1];exact hI.size,by rw[(BP _ _ _).2];exact hI.defers,by simp[hI.lsz],?_,?_,?_,?_,?_,?_⟩
 ·intro i hi j hj;rw[AV aa]at hi⊢;rcases hi with rfl|hi
  ·exact .inr (cV j hj)
  ·exact .inr (hI.closed i hi j hj)
 ·intro z hz gS;rw[AV aa];exact .inr (hI.eDone z hz gS)
 ·intro z hz bR dN;rw[AV aa]at dN;rcases dN with h|h
  ·have:=hF.inj (dG _ hz) fV bR bH h;subst this;exact⟨kl,hv⟩
  ·obtain⟨k1,k2⟩:=hI.postDone z hz bR h;refine⟨k1,k2.mono aF fun d hd=>Cf fun hh=>?_⟩;have:=hF.injDst (dG _ hz) fV bR bH hd hh;subst this;exact jm h
 ·intro z hz du fu;obtain⟨bR,mM⟩:=ES du;rw[AV aa]at fu;have eV:¬dn listed z.1:=fun h=>fu (.inr h);rcases hI.pend z hz du eV with h|h
  ·exact .inl h
  ·right;obtain⟨o',x,ei,u',p1,p2,p3,p4,p5,p6,p7,p8⟩:=h;refine⟨o',x,ei,u',p1,p2,p3,p4,p5,p6,p7,?_⟩;intro t ht;obtain⟨q1,q2⟩:=p8 t ht;have fy:y.2.dst≠some t:=fun h=>by
    have:=(hF.pair (Cs hI.split hz eD) bR bH).war t h ht;exact eV (cV _ this)
   have hb:∀z',Ci F (listed.setIfInBounds y.1 true) pre z t z'↔Ci F listed pre z t z':=by
    intro z';constructor
    ·rintro⟨b1,b2,b3,b4,b5⟩;rw[AV aa]at b3;exact⟨b1,b2,fun h=>b3 (.inr h),b4,b5⟩
    ·rintro⟨b1,b2,b3,b4,b5⟩;refine⟨b1,b2,?_,b4,b5⟩;rw[AV aa];rintro (h|h)
     ·exact (hF.pair (Cs hI.split b1 eD) b2 bH).ne h
     ·exact b3 h
   simp only[hb,Cf fy];exact⟨q1,fun h=>(q2 h).mono aF.le⟩
 ·intro t;by_cases ht:y.2.dst=some t
  ·exact .inr (.inl ⟨y,eD,bH,kl,(AV aa).2 (.inl rfl),ht⟩)
  ·rw[Cf ht];rcases hI.temps t with ⟨y',k1,k2,k3,k4⟩|⟨y',k1,k2,k3,k4,k5⟩|k
   ·refine .inl ⟨y',k1,k2,?_,k4⟩;rw[AV aa];rintro (h|h)
    ·exact (hF.pair (Cs hI.split k1 eD) k2 bH).ne h
    ·exact k3 h
   ·exact .inr (.inl ⟨y',k1,k2,k3,(AV aa).2 (.inr k4),k5⟩)
   ·exact .inr (.inr (k.mono aF.le))
 ·have jX:∀z'∈post,z'.2.aL=false→dn listed z'.1→z'.1≠y.1→∀d d',y.2.dst=some d→z'.2.dst=some d'→(a.put y.2.dst u).tmps.getD d undef≠(a.put y.2.dst u).tmps.getD d' undef:=by
   intro z' cD dv dN bm d d' hd dV;obtain⟨_,k2⟩:=hI.postDone z' cD dv dN;rw[Ek hd (by rw[hI.size];exact EA ho.item d hd),Cf fun h=>bm (by rw[hF.injDst (dG _ cD) fV dv bH dV h])];exact fun h=>bG _ k2 d' dV h.symm
  intro y' fW z' cD eE dv gz dN bm d d' hd dV;rw[AV aa]at gz dN;by_cases h1:y'.1=y.1
  ·have:=hF.inj (dG _ fW) fV eE bH h1;subst this;exact jX z' cD dv (dN.resolve_left fun h=>bm h.symm) (fun h=>bm h.symm) d d' hd dV
  ·by_cases h2:z'.1=y.1
   ·have:=hF.inj (dG _ cD) fV dv bH h2;subst this;exact (jX y' fW eE (gz.resolve_left h1) h1 d' d dV hd).symm
   ·rw[Cf fun h=>h1 (by rw[hF.injDst (dG _ fW) fV eE bH hd h]),Cf fun h=>h2 (by rw[hF.injDst (dG _ cD) fV dv bH dV h])];exact hI.ne y' fW z' cD eE dv (gz.resolve_left h1) (dN.resolve_left h2) bm d d' hd dV
def FD (listed:Array Bool)(post:List Row):Prop:=post=[]∨∃y r,post=y::r∧y.2.isE=true∧¬dn listed y.1
theorem CP {F:Fix}(hF:FixOk F){listed:Array Bool}:∀(post pre:List Row) (e:Env) (H:Heap),DInv F listed a w pre post e H g→
  ∃pre' post' e' H',DInv F listed a w pre' post' e' H' g∧FD listed post'
 |[],pre,e,H,hI=>⟨pre,[],e,H,hI,.inl rfl⟩
 |(i,x)::r,pre,e,H,hI=>by
  have rM:x.isE=false→x.aL=false→¬dn listed i:=by
   intro hx hc hd;obtain⟨_,oP⟩:=hI.postDone (i,x) (by simp) hc hd;obtain⟨d,cells,l,b,sz,T,cs,h1,_⟩:=oP.ok;simp only at h1;rw[h1]at hx;simp[Item.isE]at hx
  have bz:=hI.rest
  cases x with
  |chk d gd op=>exact CP hF r _ e H (hI.passChk hF)
  |f d gd op=>
   simp only[Jy,BL]at bz;exact CP hF r _ _ H (hI.passFl hF rfl _ ⟨bz.1,bz.2.1,rfl⟩ bz.2.2 (rM rfl rfl))
  |p d gd f xs=>
   simp only[Jy,BL]at bz;obtain⟨r1,v,r2,r3⟩:=bz;exact CP hF r _ _ H (hI.passFl hF rfl _ ⟨r1,v,r2,rfl⟩ r3 (rM rfl rfl))
  |e d gd op=>
   by_cases hd:dn listed i
   ·obtain⟨e',H',rh⟩:=hI.passFa hF rfl hd;exact CP hF r _ e' H' rh
   ·exact⟨pre,_,e,H,hI,.inr ⟨_,r,rfl,rfl,hd⟩⟩
theorem NW {α:Type}{p q:α→Bool}:∀(l:List α),(∀x∈l,q x=true→p x=true)→(∃x∈l,p x=true∧q x=false)→l.countP q<l.countP p
 |[],_,h=>by simp at h
 |x::r,h1,h2=>by
  have a9:r.countP q≤r.countP p:=List.countP_mono_left fun y hy=>h1 y (by simp[hy]);obtain⟨y,hy,k1,k2⟩:=h2;rcases Jh.1 hy with rfl|hy
  ·simp only[Jav,k1,k2];simp;omega
  ·have:=NW r (fun y hy=>h1 y (by simp[hy])) ⟨y,hy,k1,k2⟩;have hx:=h1 x (by simp);simp only[Jav]
   cases hq:q x with
   |true=>rw[hx hq];simp;omega
   |false=>simp;split <;> omega
def unl (F:Fix)(listed:Array Bool):Nat:=(List.range F.ops.size).countP fun i=>!listed.getD i false
theorem KN {F:Fix}(hF:FixOk F){listed:Array Bool}(be:listed.size=F.ops.size)(hr:Region.ready .any F.ops listed=[]):∀(B A:List Row),F.L=A++B→
  (∀y∈A,y.2.aL=false→dn listed y.1)→∀y∈B,y.2.aL=false→dn listed y.1
 |[],A,h,hA,y,hy,hc=>by simp at hy
 |x::r,A,h,hA,y,hy,hc=>by
  have hx:x.2.aL=false→dn listed x.1:=by
   intro jL;obtain⟨o,ho⟩:=hF.row h jL;have aa:x.1<listed.size:=by rw[be];exact (Ji.1 ho.op).1
   by_cases hd:dn listed x.1
   ·exact hd
   ·exfalso;have:x.1∈Region.ready .any F.ops listed:=by
     rw[mem_ready];refine⟨?_,o,ho.op,fun ed nZ hb=>?_⟩
     ·simp only[dn]at hd;rw[Jd,Jl aa]at hd⊢;simpa using hd
     ·obtain⟨z,hz,h1,h2⟩:=ho.aft ed nZ hb;rw[←h2];exact hA z hz h1
    rw[hr]at this;simp at this
  rcases Jh.1 hy with rfl|hy
  ·exact hx hc
  ·refine KN hF be hr r (A++[x]) (by rw[h];simp) ?_ y hy hc;intro z hz bR;rcases Je.1 hz with k|k
   ·exact hA z k bR
   ·simp at k;subst k;exact hx bR
theorem KH {F:Fix}(hF:FixOk F){listed:Array Bool}{pre post:List Row}(hI:DInv F listed a w pre post e H g)(aF:FD listed post)(hr:Region.ready .any F.ops listed=[]) :
  Post F.n F.H0 F.g0 F.w0 F.K a w:=by
 have aD:=KN hF hI.lsz hr F.L [] rfl (by simp);rcases aF with rfl|⟨y,r,rfl,hy,hd⟩
 ·refine⟨e,H,g,hI.rest,hI.stp,fun t=>?_,hI.defers,hI.size⟩;rcases hI.temps t with ⟨y',k1,k2,k3,k4⟩|⟨y',k1,_⟩|k
  ·exact absurd (aD y' (by rw[hI.split];simp[k1]) k2) k3
  ·simp at k1
  ·exact k
 ·exact absurd (aD y (by rw[hI.split];simp) (Dz hy).1) hd
theorem Qbo1 {F:Fix}(hF:FixOk F){Q:Exit→Act→World→Prop}(hQ:∀a' w',Post F.n F.H0 F.g0 F.w0 F.K a' w'→Q .normal a' w')(hP:∀v a' w' H' g',F.KP v H'→Stp F.H0 F.g0 F.w0 H' g' w'→a'.defers=[]→a'.tmps.size=F.n→Q (.panic [{ v:=v,recovered:=false }]) a' w') :
  ∀(fuel:Nat) (listed:Array Bool) (a:Act) (w:World) (pre post:List Row) (e:Env) (H:Heap) (g:G),DInv F listed a w pre post e H g→FD listed post→unl F listed≤fuel→
   wpAny F.P .any F.ops Q fuel listed a w:=by
 intro fuel
 induction fuel with
 |zero=>
  intro listed a w pre post e H g hI aF hu;have hr:Region.ready .any F.ops listed=[]:=by
   rw[List.eq_nil_iff_forall_not_mem];intro i hi;rw[mem_ready]at hi;obtain⟨h1,o,h2,h3⟩:=hi;have aa:i<F.ops.size:=(Ji.1 h2).1;have:0<unl F listed:=by
    unfold unl;rw[List.countP_pos_iff];refine⟨i,by simp[aa],?_⟩;have cQ:i<listed.size:=(by rw[hI.lsz];exact aa);rw[Jd,Jl cQ]at h1⊢;simpa using h1
   omega
  exact⟨hr,hQ _ _ (KH hF hI aF hr)⟩
 |succ fuel ih=>
  intro listed a w pre post e H g hI aF hu;refine⟨fun hr=>hQ _ _ (KH hF hI aF hr),?_⟩;intro i hi;rw[mem_ready]at hi;obtain⟨h1,o,h2,h3⟩:=hi;have aa:i<F.ops.size:=(Ji.1 h2).1;have cQ:i<listed.size:=by rw[hI.lsz];exact aa
  have cf:¬dn listed i:=by
   simp only[dn];rw[Jd,Jl cQ]at h1⊢;simpa using h1
  have nf:unl F (listed.setIfInBounds i true)≤fuel:=by
   have:unl F (listed.setIfInBounds i true)<unl F listed:=by
    refine NW _ ?_ ⟨i,by simp[aa],?_,?_⟩
    ·intro j hj hq;by_cases jZ:i=j
     ·subst jZ;simp[cQ]at hq
     ·rw[getD_set_ne false jZ]at hq;exact hq
    ·simpa[dn]using cf
    ·simp[cQ]
   omega
  obtain⟨y,fV,bH,hyi⟩:=hF.all i aa;subst hyi;obtain⟨A,B,mg⟩:=Jz fV;obtain⟨o',ho⟩:=hF.row mg bH;have hoo:o'=o:=by have:=ho.op;rw[h2]at this;simpa using this.symm
  subst hoo;have cV:∀j,F.anc y.1 j→dn listed j:=by
   intro j hj;obtain⟨ed,k1,k2,k3⟩:=ho.anc j hj;rcases k3 with k3|k3
   ·rw[←k3];exact h3 ed k1 k2
   ·exact hI.closed _ (h3 ed k1 k2) j k3
  have de:∀a' w' pre' post' e' H' g',DInv F (listed.setIfInBounds y.1 true) a' w' pre' post' e' H' g'→wpAny F.P .any F.ops Q fuel (listed.setIfInBounds y.1 true) a' w':=by
   intro a' w' pre' post' e' H' g' rh;obtain⟨p2,q2,e2,H2,rf,i6⟩:=CP hF post' pre' e' H' rh;exact ih _ a' w' p2 q2 e2 H2 g' rf i6 nf
  have eL:y∈pre∨y∈post:=by
   have:y∈pre++post:=hI.split▸fV;exact Je.1 this
  have lL:flo F.fa y.1=true→y∈post→wpOp F.P F.ops Q y.1 (wpAny F.P .any F.ops Q fuel (listed.setIfInBounds y.1 true)) a w:=by
   intro m7 eD;refine Qblk h2 ho.item (ho.isFa m7) hI.stp.sat (fun l z hz=>hI.stp.le.io l z hz) hI.size (g0:=F.g0) fun u w' g' k1 k2 k3=>?_;exact de _ _ _ _ _ _ _ (hI.doneFa hF eD bH m7 cf cV k1 k2 k3)
  rcases eL with eD|eD
  ·
   have iA:y.2.isFl=true:=by
    have hE:=hI.eDone y eD;revert hE bH;cases y.2 <;> simp_all[Item.isFl,Item.aL,Item.isE]
   rcases hI.pend y eD iA cf with h|h
   ·exfalso;rcases aF with rfl|⟨z,r,rfl,hz,_⟩
    ·simp[BH]at h
    ·have:=(Ie h).1;rw[(Dz hz).1]at this;simp at this
   ·obtain⟨o2,x,ei,v,p1,p2,p3,p4,p5,p6,p7,p8⟩:=h;rw[h2]at p1;simp only[Jf]at p1;subst p1;have bg:∀t,¬∃z,Ci F listed pre y t z:=by
     rintro t ⟨z,b1,b2,b3,b4,b5⟩;exact b3 (cV _ b5)
    refine Vb (n:=F.n) h2 p2 p6 hI.stp.sat ?_ fun u w' g' k1 k2=>?_
    ·intro t;rw[EP];split
     ·rename_i ht
      rw[p4]at ht;exact (p8 t ht).2 (bg t)
     ·exact .unk _
    ·rw[p3];exact de _ _ _ _ _ _ _ (hI.doneFl hF eD iA cf cV p7 k1 k2)
  ·by_cases m7:flo F.fa y.1=true
   ·exact lL m7 eD
   ·rcases aF with rfl|⟨z,r,rfl,hz,dN⟩
    ·simp at eD
    ·have hyz:y=z:=by
      rcases Jh.1 eD with k|k
      ·exact k
      ·exfalso;have:=(hF.pair (EZ hI.split k) (Dz hz).1 bH).ord hz m7;exact dN (cV _ this)
     subst hyz;have bz:=hI.rest;have him:=ho.item;have rI:=@DInv.passE;obtain⟨yi,yx⟩:=y
     cases yx with
     |e d gd op=>
      simp only[Jy,BL]at bz;obtain⟨r1,r2,r3⟩:=bz;refine V5 (n:=F.n) h2 him hI.stp.sat ?_ r1 r2 r3 (fun x u w' H' g' k1 k2 k3=>?_) fun v w' H' g' k1 k2=>hP v a w' H' g' k1 (hI.stp.trans k2) hI.defers hI.size
      ·intro t;rw[EP];split
       ·rename_i ht
        rcases hI.temps t with ⟨y',b1,b2,b3,b4⟩|⟨y',b1,b2,b3,b4,b5⟩|k
        ·exfalso;exact b3 (cV _ ((hF.pair (Cs hI.split b1 (by simp)) b2 bH).raw t b4 ht))
        ·exfalso;rcases Jh.1 b1 with h|h
         ·subst h;exact cf b4
         ·have:=(hF.pair (EZ hI.split h) bH b2).war t b5 ht;exact cf (hI.closed _ b4 _ this)
        ·exact k
       ·exact .unk _
      ·exact de _ _ _ _ _ _ _ (hI.passE hF hz cf m7 cV (KQ k1 k3) k2 k3)
     |f=>simp[Item.isE]at hz
     |p=>simp[Item.isE]at hz
     |chk=>simp[Item.isE]at hz
theorem Qbs1 (hs:Sat H g w)(k:Nat):Stp H g w H g { w with drawn:=k }:=by
 have a9:Le g w g { w with drawn:=k }:=⟨fun _ h=>⟨h,rfl⟩,fun _ _ h=>h,Jay _,fun _ _ _ h=>h,rfl,rfl,rfl⟩;have hk:∀l,AR g w g { w with drawn:=k } l:=fun l b q hb=>⟨hb,rfl⟩;exact⟨a9,fun l _ hn=>⟨hn,fun b p hb=>⟨hb,rfl⟩⟩,hs.fresh,hs.names,hs.excl,hs.named,fun l=>SatObj.keep_all hs a9 hk l⟩
theorem Qblj {n id fa:Nat}{ord:List Nat}{ops:Array Oper}{its:List Item}{KP:Value→Heap→Prop}{K:Env→Heap→Prop}{Q:Exit→Act→World→Prop}(Ab:P.follows .mixedOrders=true)(hm:F9 P n ops fa ord its=true)(hs:Sat H g w)(he:EnvOk w g e a)(hn:a.tmps.size=n)(hd:a.defers=[])
  (hr:BL P its e H KP K) (hQ:∀a' w',Post n H g w K a' w'→Q .normal a' w') (hP:∀v a' w',Post n H g w (fun _ H'=>KP v H') a' w'→Q (.panic [{ v:=v,recovered:=false }]) a' w'):(Code.region id ops true).wp P Q a w:=by
 simp only[F9,Ja,beq_iff_eq,Jn,Ja1,Jag,Jw]at hm;obtain⟨⟨⟨m1,m2⟩,m3⟩,m4⟩:=hm;let F:Fix:={ P,n,ops,ms:=F8 ops.toList [],fa,L:=ord.zip its,H0:=H,g0:=g,w0:=w,KP,K };have hF:FixOk F:=⟨m3,fun i hi=>m4 i hi⟩;have gN:(ord.zip its).map Prod.snd=its:=by
  rw[List.map_snd_zip];omega
 have aF:=Qbs1 hs (w.drawn+1);have jC:∀i,¬dn (Array.replicate ops.size false) i:=by
  intro i h;simp only[dn,Jd,Array.getElem?_replicate]at h;split at h <;> simp at h
 have hI:DInv F (Array.replicate ops.size false) a { w with drawn:=w.drawn+1 } [] (ord.zip its) e H g:=by
  refine⟨rfl,by rw[gN];exact hr,aF,hn,hd,by simp[F],fun i hi=>absurd hi (jC i),by simp,fun y _ _ h=>absurd h (jC _),by simp,fun t=>?_,fun y _ z _ _ _ h=>absurd h (jC _)⟩;exact .inr (.inr ((he t).mono aF.le))
 obtain⟨p2,q2,e2,H2,rf,i6⟩:=CP hF _ _ _ _ hI;refine wp_region_any Ab ?_;refine Qbo1 hF hQ (fun v a' w' H' g' k1 k2 k3 k4=>hP v a' w' ⟨[],H',g',k1,k2,fun t=>.unk _,k3,k4⟩) ops.size _ a _ p2 q2 e2 H2 g rf i6 ?_;exact Ja8 List.countP_le_length (by simp[F])
theorem Qbol {c:Code}{Q:Exit→Act→World→Prop}(I:Nat→Act→World→Prop)(h₀:∃n,I n a w)
  (round:∀n a w,I n a w→c.wp P (Exit.then (fun a' w'=>∃m,m<n∧I m a' w') Q) a w):(Code.loop c).wp P Q a w:=by
 intro b k cs;have key:∀n a w,I n a w→∃e a' w',Q e a' w'∧Arrives P (lone (b.at a (.code c::.inLoop c::k)) cs w) b k cs e a' w':=by
  intro n
  induction n using Nat.strongRecOn with
  |_ n ih=>
   intro a w hI;obtain⟨e,a₁,w₁,hq,cp⟩:=round n a w hI b (.inLoop c::k) cs
   cases e with
   |normal=>
    obtain⟨m,aa,hI₁⟩:=hq;obtain⟨e₂,a₂,w₂,hq₂,oq⟩:=ih m aa a₁ w₁ hI₁;exact⟨e₂,a₂,w₂,hq₂,.of_steps (Steps.trans cp (.one step_inLoop)) oq⟩
   |exit id=>exact⟨_,a₁,w₁,hq,.pass (x:=.inLoop c) rfl (fun _ _=>.inl (by simp)) cp⟩
   |goto l=>exact⟨_,a₁,w₁,hq,.pass (x:=.inLoop c) rfl (fun _ _=>.inl (by simp)) cp⟩
   |ret=>exact⟨_,a₁,w₁,hq,.pass (x:=.inLoop c) rfl (fun _ _=>.inl (by simp)) cp⟩
   |panic ch=>exact⟨_,a₁,w₁,hq,.pass (x:=.inLoop c) rfl (fun _ _=>.inl (by simp)) cp⟩
   |outgrown=>exact⟨_,a₁,w₁,hq,.pass (x:=.inLoop c) rfl (fun _ _=>.inl (by simp)) cp⟩
 obtain⟨n,hn⟩:=h₀;obtain⟨e,a',w',hq,cp⟩:=key n a w hn;exact⟨e,a',w',hq,.of_steps (.one step_loop) cp⟩
def xm:Exit→Option X
 |.normal=>some .nrm
 |.exit id=>some (.exit id)
 |.ret=>some .ret
 |.panic [{ v:=v,recovered:=false,goexit:=false }]=>some (.pan v)
 |_=>none
theorem Ep {ch:List PanicEntry}{x:X}(h:xm (.panic ch)=some x):∃v,x=.pan v∧ch=[{ v:=v,recovered:=false }]:=by
 unfold xm at h;split at h <;> simp_all
def Du (n:Nat)(H:Heap)(g:G)(w:World)(Q:X→Env→Heap→Prop)(x:Exit)(a:Act)(w':World):Prop:=
 ∃x',xm x=some x'∧Post n H g w (Q x') a w'
def mC (P:Program)(n:Nat):Code→SC→Bool
 |c,.seq .gh s=>mC P n c s
 |.skip,.skip=>true
 |.region _ ops false,.reg its _=>mIts P n ops 0 its
 |.region _ ops true,.aH fa ord its _=>F9 P n ops fa ord its
 |.seq c d,.seq s t=>mC P n c s&&mC P n d t
 |.cond x c d,.cond y s t=>mO y x&&mC P n c s&&mC P n d t
 |.block i c,.block j s=>i == j&&mC P n c s
 |.loop c,.loop s=>mC P n c s
 |.exit i,.exit j=>i == j
 |.ret,.ret=>true
 |.scope c,.scope s=>mC P n c s
 |.label _,.skip=>true
 |_,_=>false
theorem IV {ks:List Nat}(h:EnvOk w g e a):EnvOk w g (trim ks e) a:=by
 intro t;unfold trim
 induction ks with
 |nil=>exact .unk _
 |cons k ks ih=>
  simp only[Jy,lk];split
  ·rename_i ht;subst ht;exact h t
  ·exact ih
theorem Post.trans {n:Nat}{H':Heap}{g':G}{w' w'':World}{K:Env→Heap→Prop}(h:Stp H g w H' g' w')(k:Post n H' g' w' K a w''):Post n H g w K a w'':=by
 obtain⟨e2,H2,g2,k1,k2,k3,k4,k5⟩:=k;exact⟨e2,H2,g2,k1,h.trans k2,k3,k4,k5⟩
theorem Qblh (Ab:P.follows .mixedOrders=true){n:Nat}:∀(s:SC) (c:Code) (Q:X→Env→Heap→Prop) (e:Env) (H:Heap),mC P n c s=true→Ag P s Q e H→
  ∀(g:G) (w:World) (a:Act),Sat H g w→EnvOk w g e a→a.defers=[]→a.tmps.size=n→c.wp P (Du n H g w Q) a w:=by
 intro s
 induction s with
 |skip=>
  intro c Q e H hm hc g w a hs he hd hn
  cases c with
  |skip=>exact wp_skip ⟨.nrm,rfl,e,H,g,hc,.refl hs,he,hd,hn⟩
  |label l=>exact wp_label ⟨.nrm,rfl,e,H,g,hc,.refl hs,he,hd,hn⟩
  |_=>simp[mC]at hm
 |reg its keep=>
  intro c Q e H hm hc g w a hs he hd hn
  cases c with
  |region id ops dr'=>
   cases dr' with
   |true=>simp[mC]at hm
   |false=>
    simp only[mC]at hm;simp only[Ag]at hc;have hQ:∀a' w',Post n H g w (fun e' H'=>Q .nrm (trim keep e') H') a' w'→Du n H g w Q .normal a' w':=by
     rintro a' w' ⟨e2,H2,g2,k1,k2,k3,k4,k5⟩;exact⟨.nrm,rfl,_,H2,g2,k1,k2,IV k3,k4,k5⟩
    have hP:∀v a' w',Post n H g w (fun _ H'=>X.panK Q v H') a' w'→Du n H g w Q (.panic [{ v:=v,recovered:=false }]) a' w':=by
     rintro v a' w' ⟨e2,H2,g2,k1,k2,k3,k4,k5⟩;exact⟨.pan v,rfl,[],H2,g2,k1,k2,fun t=>.unk _,k4,k5⟩
    have hl:=Ks its 0 hm;refine wp_region ?_;rw[List.range_eq_range',←hl,Jad];exact N3 hQ hP its 0 e H g w a hm (.refl hs) he hn hd hc
  |_=>simp[mC]at hm
 |aH fa ord its keep=>
  intro c Q e H hm hc g w a hs he hd hn
  cases c with
  |region id ops dr'=>
   cases dr' with
   |false=>simp[mC]at hm
   |true=>
    simp only[mC]at hm;simp only[Ag]at hc;have hQ:∀a' w',Post n H g w (fun e' H'=>Q .nrm (trim keep e') H') a' w'→Du n H g w Q .normal a' w':=by
     rintro a' w' ⟨e2,H2,g2,k1,k2,k3,k4,k5⟩;exact⟨.nrm,rfl,_,H2,g2,k1,k2,IV k3,k4,k5⟩
    have hP:∀v a' w',Post n H g w (fun _ H'=>X.panK Q v H') a' w'→Du n H g w Q (.panic [{ v:=v,recovered:=false }]) a' w':=by
     rintro v a' w' ⟨e2,H2,g2,k1,k2,k3,k4,k5⟩;exact⟨.pan v,rfl,[],H2,g2,k1,k2,fun t=>.unk _,k4,k5⟩
    exact Qblj Ab hm hs he hn hd hc hQ hP
  |_=>simp[mC]at hm
 |seq s t ihs iht=>
  intro c Q e H hm hc g w a hs he hd hn;by_cases hg:s=.gh
  ·subst hg;have dz:mC P n c t=true:=by simpa[mC]using hm
   simp only[Ag]at hc;obtain⟨e1,H1,h1,h2⟩:=hc;obtain⟨g1,k1,k2⟩:=h1 g w (fun t=>a.tmps.getD t undef) hs he;refine wp_mono (iht c Q e1 H1 dz h2 g1 w a k1.sat k2 hd hn) ?_;rintro x a' w' ⟨x',q1,q2⟩;exact⟨x',q1,q2.trans k1⟩
  ·cases c with
   |seq c d=>
    have dz:mC P n c s=true∧mC P n d t=true:=by
     cases s <;> first|(exact absurd rfl hg)|simpa[mC]using hm
    simp only[Ag]at hc;refine wp_seq (wp_mono (ihs c _ e H dz.1 hc g w a hs he hd hn) ?_);rintro x a' w' ⟨x',q1,e2,H2,g2,k1,k2,k3,k4,k5⟩
    cases x with
    |normal=>
     simp only[xm,Jf]at q1;subst q1;refine wp_mono (iht d Q e2 H2 dz.2 k1 g2 w' a' k2.sat k3 k4 k5) ?_;rintro x2 a2 w2 ⟨x2',r1,r2⟩;exact⟨x2',r1,r2.trans k2⟩
    |exit id=>
     simp only[xm,Jf]at q1;subst q1;exact⟨_,rfl,e2,H2,g2,k1,k2,k3,k4,k5⟩
    |ret=>
     simp only[xm,Jf]at q1;subst q1;exact⟨_,rfl,e2,H2,g2,k1,k2,k3,k4,k5⟩
    |panic ch=>
     obtain⟨v,rfl,rfl⟩:=Ep q1;exact⟨_,rfl,e2,H2,g2,k1,k2,k3,k4,k5⟩
    |_=>simp[xm]at q1
   |_=>cases s <;> first|(exact absurd rfl hg)|simp[mC]at hm
 |cond y s t ihs iht=>
  intro c Q e H hm hc g w a hs he hd hn;cases c <;> simp[mC]at hm
  rename_i x c d
  obtain⟨⟨h1,h2⟩,h3⟩:=hm;simp only[Ag]at hc;obtain⟨b,k1,k2,k3⟩:=hc;have hr:=IH he h1;rw[k1]at hr;have hb:=hr.aA.bh;exact wp_cond_split hb (fun ol=>ihs c Q e H h2 (k2 ol) g w a hs he hd hn) (fun ol=>iht d Q e H h3 (k3 ol) g w a hs he hd hn)
 |block id s ih=>
  intro c Q e H hm hc g w a hs he hd hn;cases c <;> simp[mC]at hm
  rename_i id' c
  obtain⟨rfl,h2⟩:=hm;simp only[Ag]at hc;refine wp_block (wp_mono (ih c _ e H h2 hc g w a hs he hd hn) ?_);rintro x a' w' ⟨x',q1,e2,H2,g2,k1,k2⟩
  cases x with
  |normal=>
   simp only[xm,Jf]at q1;subst q1;exact⟨.nrm,rfl,e2,H2,g2,k1,k2⟩
  |exit id2=>
   simp only[xm,Jf]at q1;subst q1;simp only[X.inBlock]at k1;simp only[Exit.inBlock];split
   ·rename_i h;subst h;rw[if_pos rfl]at k1;exact⟨.nrm,rfl,e2,H2,g2,k1,k2⟩
   ·rename_i h;rw[if_neg h]at k1;exact⟨.exit id2,rfl,e2,H2,g2,k1,k2⟩
  |ret=>
   simp only[xm,Jf]at q1;subst q1;exact⟨.ret,rfl,e2,H2,g2,k1,k2⟩
  |panic ch=>
   obtain⟨v,rfl,rfl⟩:=Ep q1;exact⟨.pan v,rfl,e2,H2,g2,k1,k2⟩
  |_=>simp[xm]at q1
 |loop s ih=>
  intro c Q e H hm hc g w a hs he hd hn;cases c <;> simp[mC]at hm
  rename_i c
  simp only[Ag]at hc;obtain⟨I,⟨m0,h0⟩,kN⟩:=hc;refine Qbol (fun m a' w'=>Post n H g w (I m) a' w') ⟨m0,e,H,g,h0,.refl hs,he,hd,hn⟩ ?_;rintro m a1 w1 ⟨e1,H1,g1,k1,k2,k3,k4,k5⟩;refine wp_mono (ih c _ e1 H1 hm (kN m e1 H1 k1) g1 w1 a1 k2.sat k3 k4 k5) ?_;rintro x a' w' ⟨x',q1,e2,H2,g2,r1,r2,r3,r4,r5⟩
  cases x with
  |normal=>
   simp only[xm,Jf]at q1;subst q1;obtain⟨m',aa,hI⟩:=r1;exact⟨m',aa,e2,H2,g2,hI,k2.trans r2,r3,r4,r5⟩
  |exit id=>
   simp only[xm,Jf]at q1;subst q1;exact⟨_,rfl,e2,H2,g2,r1,k2.trans r2,r3,r4,r5⟩
  |ret=>
   simp only[xm,Jf]at q1;subst q1;exact⟨_,rfl,e2,H2,g2,r1,k2.trans r2,r3,r4,r5⟩
  |panic ch=>
   obtain⟨v,rfl,rfl⟩:=Ep q1;exact⟨_,rfl,e2,H2,g2,r1,k2.trans r2,r3,r4,r5⟩
  |_=>simp[xm]at q1
 |exit id=>
  intro c Q e H hm hc g w a hs he hd hn;cases c <;> simp[mC]at hm;subst hm;exact wp_exit ⟨.exit _,rfl,e,H,g,hc,.refl hs,he,hd,hn⟩
 |ret=>
  intro c Q e H hm hc g w a hs he hd hn;cases c <;> simp[mC]at hm;exact wp_ret ⟨.ret,rfl,e,H,g,hc,.refl hs,he,hd,hn⟩
 |gh=>
  intro c Q e H hm hc g w a hs he hd hn;cases c <;> simp[mC]at hm
 |scope s ih=>
  intro c Q e H hm hc g w a hs he hd hn;cases c <;> simp[mC]at hm
  rename_i c
  simp only[Ag]at hc;refine wp_scope_straight (wp_mono (ih c Q e H hm hc g w a hs he hd hn) ?_);rintro x a' w' ⟨x',q1,q2⟩
  cases x with
  |goto l=>simp[xm]at q1
  |_=>exact⟨x',q1,q2⟩
def mR (P:Program):ResultVar→RS→Bool
 |.tmp t,.tmp t'=>t == t'
 |.cell t ty,.cell t' n agg=>t == t'&&BU P ty n agg
 |_,_=>false
def mRs (P:Program):List ResultVar→List RS→Bool
 |[],[]=>true
 |x::r,y::s=>mR P x y&&mRs P r s
 |_,_=>false
def mFn (P:Program)(f:FuncId)(nargs n:Nat)(s:SC)(rs:List RS):Bool:=
 fnOk P f&&(match P.funcs[f]? with
  |some fn=>(match fn.body with
   |some c=>fn.ntmps == n&&decide (nargs≤n)&&mC P n c s&&mRs P fn.results.toList rs
   |none=>false)
  |none=>false)
theorem Qb1a {n:Nat}{x:ResultVar}{y:RS}(hm:mR P x y=true)(hs:Sat H g w)(he:EnvOk w g e a)(ho:y.op.obl true e H) :
  ∃v,(match x with
   |.tmp t=>(pure (a.tmps.getD t undef):Sem Value)
   |.cell t ty=>do loadVar ty (←asAddr (a.tmps.getD t undef))).run P w=.ok v w∧RepV w g (y.op.val e H) v:=by
 cases x with
 |tmp t=>
  cases y with
  |tmp t'=>
   simp[mR]at hm;subst hm;have hr:=Al (x:=.t t) (y:=.tmp t) he (by simp[mO]) rfl ho;exact⟨a.tmps.getD t undef,rfl,hr⟩
  |cell=>simp[mR]at hm
 |cell t ty=>
  cases y with
  |tmp=>simp[mR]at hm
  |cell t' n agg=>
   simp only[mR,Ja,beq_iff_eq]at hm;obtain⟨rfl,h2⟩:=hm;obtain⟨d,i,k1,k2,k3,k4,k5⟩:=Hz h2;obtain ⟨v, w', g', r1, r2, r3, _⟩ := s_ld (o := { dst := none, op := .load ty (.tmp t), type := 0, pos := "", after := #[], guard := none }) (x := .t t) (x' := .tmp t) rfl k1 k2 k3 k4 k5 (by simp [mO]) hs he rfl ho
   simp only[RS.op,FOp.obl]at ho;obtain⟨o1,o2,o3,o4,o5⟩:=ho;have jT:=Al (x:=.t t) (y:=.tmp t) he (by simp[mO]) rfl o1;rw[Bc o2]at jT;obtain⟨b,q,hv,_⟩:=OX hs jT.aA o3;have fE:a.tmps.getD t undef=.pointer (some ⟨b,q,none⟩):=hv;have bW := KT (P := P) (o := { dst := none, op := .load ty (.tmp t), type := 0, pos := "", after := #[], guard := none }) (x := .t t) (x' := .tmp t) rfl k1 k2 k3 k4 k5 (by simp [mO]) hs he rfl ⟨o1, o2, o3, o4, o5⟩
   obtain⟨v2,q1,q2⟩:=bW;refine⟨v2,?_,q2⟩;simp only[execOp,Instr.loadAt,Act.eval,fE,Instr.sureAddr,Sem.run_bind,Sem.run_pure,Result.andThen_ok]at q1;simp only[fE,asAddr,Sem.run_bind,Sem.run_pure,Result.andThen_ok]
   cases hl:(loadVar ty ⟨b,q,none⟩).run P w with
   |ok u w2=>rw[hl]at q1;simp at q1;obtain⟨rfl,rfl⟩:=q1;rfl
   |halt h w2=>rw[hl]at q1;simp at q1
def rRun (tmps:Array Value):ResultVar→Sem Value
 |.tmp t=>pure (tmps.getD t undef)
 |.cell a t=>do loadVar t (←asAddr (tmps.getD a undef))
theorem Qbgs {P:Program}{w:World}{tmps:Array Value}:∀(l:List ResultVar) (vs:List Value),l.length=vs.length→
  (∀(j:Nat) (x:ResultVar) (v:Value),l[j]? = some x→vs[j]? = some v→(rRun tmps x).run P w=.ok v w)→(l.mapM (rRun tmps)).run P w=.ok vs w:=by
 intro l
 induction l with
 |nil=>intro vs hl _;cases vs with
  |nil=>simp
  |cons=>simp at hl
 |cons x r ih=>
  intro vs hl h
  cases vs with
  |nil=>simp at hl
  |cons v vs=>
   have h0:=h 0 x v rfl rfl;have ih':=ih vs (by simpa using hl) fun j y u h1 h2=>h (j+1) y u (by simpa using h1) (by simpa using h2);simp only[List.mapM_cons,Sem.run_bind,h0,Result.andThen_ok,ih',Sem.run_pure]
theorem TD {n:Nat}:∀(l:List ResultVar) (rs:List RS),mRs P l rs=true→Sat H g w→EnvOk w g e a→(∀r∈rs,r.op.obl true e H)→
  ∃vs:List Value,l.length=vs.length∧vs.length=rs.length∧(∀(j:Nat) (x:ResultVar) (v:Value),l[j]? = some x→vs[j]? = some v→(rRun a.tmps x).run P w=.ok v w)∧
   (∀(j:Nat) (x:V) (u:Value),(rs.map fun r=>r.op.val e H)[j]? = some x→vs[j]? = some u→RepV w g x u):=by
 intro l
 induction l with
 |nil=>
  intro rs hm hs he ho
  cases rs with
  |nil=>exact⟨[],rfl,rfl,by simp,by simp⟩
  |cons=>simp[mRs]at hm
 |cons x r ih=>
  intro rs hm hs he ho
  cases rs with
  |nil=>simp[mRs]at hm
  |cons y rs=>
   simp only[mRs,Ja]at hm;obtain⟨v,h1,h2⟩:=Qb1a (n:=n) hm.1 hs he (ho y (by simp));obtain⟨vs,k1,k2,k3,k4⟩:=ih rs hm.2 hs he fun z hz=>ho z (by simp[hz]);refine⟨v::vs,by simp[k1],by simp[k2],?_,?_⟩
   ·intro j z u hz hu
    cases j with
    |zero=>
     simp at hz hu;subst hz;subst hu;exact h1
    |succ j=>exact k3 j z u (by simpa using hz) (by simpa using hu)
   ·intro j z u hz hu
    cases j with
    |zero=>
     simp at hz hu;subst hz;subst hu;exact h2
    |succ j=>exact k4 j z u (by simpa using hz) (by simpa using hu)
theorem Qbmp {fn:Func}{rs:List RS}(hm:mRs P fn.results.toList rs=true)(hs:Sat H g w)(he:EnvOk w g e a){K:V→Heap→Prop}(ho:Q1 rs e H K) :
  ∃v x,(results fn a.tmps).run P w=.ok v w∧K x H∧RepV w g x v:=by
 obtain⟨h1,h2⟩:=ho;obtain⟨vs,k1,k2,k3,k4⟩:=TD (n:=0) _ _ hm hs he h1;have hr:=Qbgs (P:=P) (w:=w) (tmps:=a.tmps) _ _ k1 k3;have bx:(results fn a.tmps).run P w=.ok (if h:vs.toArray.size=1 then vs.toArray[0]else .tuple vs.toArray) w:=by
  have:results fn a.tmps=(do let vs ←fn.results.mapM (rRun a.tmps);pure (if h:vs.size=1 then vs[0]else .tuple vs)):=by
   unfold results;rfl
  rw[this,Array.mapM_eq_mapM_toList];simp only[Sem.run_bind,Sem.run_map,hr,Result.andThen_ok,Sem.run_pure]
 by_cases hl:vs.length=1
 ·obtain⟨v,rfl⟩:∃v,vs=[v]:=Jaj.mp hl;obtain⟨r,rfl⟩:∃r,rs=[r]:=Jaj.mp (by omega);exact⟨v,_,by simpa using bx,h2,k4 0 _ v (by simp) rfl⟩
 ·have be:¬vs.toArray.size=1:=by simpa using hl
  rw[dif_neg be]at bx;refine⟨_,.tup (rs.map fun r=>r.op.val e H),bx,?_,.tup _ _ (by simp[k2]) k4⟩;split at h2
  ·rename_i r;simp at k2;omega
  ·exact h2
def Qq (rs:List RS)(K:V→Heap→Prop):X→Env→Heap→Prop
 |.nrm,e,H=>Q1 rs e H K
 |.ret,e,H=>Q1 rs e H K
 |.exit _,_,_=>False
 |.pan v,_,H=>K (.pn v) H
theorem Qb0d:∀(args:List V) (i t:Nat),lk t (zipE i args)=if i≤t then args.getD (t-i) .unk else .unk:=by
 intro args
 induction args with
 |nil=>intro i t;simp[zipE,lk]
 |cons v r ih=>
  intro i t;simp only[zipE,lk,ih];split
  ·rename_i h;subst h;simp
  ·rename_i h
   split
   ·rw[if_pos (by omega)];have:t-i=(t-(i+1))+1:=(by omega);rw[this];simp
   ·rw[if_neg (by omega)]
theorem Qb (Ab:P.follows .mixedOrders=true){f n:Nat}{s:SC}{rs:List RS}{args:List V}{H:Heap}{K:V→Heap→Prop}
  (hm:mFn P f args.length n s rs=true) (hc:Ag P s (Qq rs K) (zipE 0 args) H):Qi P f args H K:=by
 simp only[mFn,Ja]at hm;obtain⟨aM,hm⟩:=hm;refine⟨aM,?_⟩;intro g w vs hs hl hv
 cases hf:P.funcs[f]? with
 |none=>rw[hf]at hm;simp at hm
 |some fn=>
  rw[hf]at hm;simp only at hm
  cases hb:fn.body with
  |none=>rw[hb]at hm;simp at hm
  |some c=>
   rw[hb]at hm;simp only[Ja,beq_iff_eq,decide_eq_true_eq]at hm;obtain⟨⟨⟨h1,h2⟩,h3⟩,h4⟩:=hm;refine calls_of_wp hf hb ?_;have he:EnvOk w g (zipE 0 args) { tmps:=vs.toArray++Array.replicate (fn.ntmps-vs.toArray.size) undef,defers:=[] }:=by
    intro t;rw[Qb0d,if_pos (Ja9 _),Nat.sub_zero];by_cases ht:t<args.length
    ·have rB:t<vs.length:=(by omega);have hg:(vs.toArray++Array.replicate (fn.ntmps-vs.toArray.size) undef).getD t undef=vs[t]:=by
      simp[Array.getD,rB,Array.getElem_append];intro h;omega
     rw[hg];exact hv t _ _ (by rw[Jj,Jt ht];rfl) (Jt rB)
    ·rw[Jj,Jm (by omega)];exact .unk _
   refine wp_mono (Qblh Ab s c _ (zipE 0 args) H h3 hc g w _ hs he rfl (by simp;omega)) ?_;rintro x a' w' ⟨x',q1,e2,H2,g2,k1,k2,k3,k4,k5⟩;have key:Q1 rs e2 H2 K→a'.defers=[]∧∃v,(results fn a'.tmps).run P w'=.ok v w'∧((∃v' x H' g',Ending.returned v=.returned v'∧K x H'∧Stp H g w H' g' w'∧RepV w' g' x v')∨(∃v' H' g',Ending.returned v=.panicked [{ v:=v',recovered:=false }]∧K (.pn v') H'∧Stp H g w H' g' w')):=by
    intro pG;obtain⟨v,x,r1,r2,r3⟩:=Qbmp h4 k2.sat k3 pG;exact⟨k4,v,r1,.inl ⟨v,x,H2,g2,rfl,r2,k2,r3⟩⟩
   cases x with
   |normal=>
    simp only[xm,Jf]at q1;subst q1;exact key k1
   |ret=>
    simp only[xm,Jf]at q1;subst q1;exact key k1
   |exit id=>
    simp only[xm,Jf]at q1;subst q1;exact k1.elim
   |panic ch=>
    obtain⟨v,rfl,rfl⟩:=Ep q1;exact⟨k4,.inr ⟨v,H2,g2,rfl,k1,k2⟩⟩
   |_=>simp[xm]at q1
end Go.AE
namespace Go.AE
variable {P:Program}{H:Heap}{e:Env}
def X.sq (P:Program)(b:SC)(Q:X→Env→Heap→Prop):X→Env→Heap→Prop:=X.next (Ag P b Q) Q
theorem TS {KP:Value→Heap→Prop}{K:V→Heap→Prop}{x:C}:BT KP K (.c x) H=K (.c x) H:=rfl
theorem VP {KP:Value→Heap→Prop}{K:V→Heap→Prop}{x:List C}:BT KP K (.ag x) H=K (.ag x) H:=rfl
theorem KR {KP:Value→Heap→Prop}{K:V→Heap→Prop}{x:List V}:BT KP K (.tup x) H=K (.tup x) H:=rfl
theorem YN {KP:Value→Heap→Prop}{K:V→Heap→Prop}:BT KP K .unk H=K .unk H:=rfl
theorem VO {KP:Value→Heap→Prop}{K:V→Heap→Prop}{v:Value}:BT KP K (.pn v) H=KP v H:=rfl
theorem Qb1v {b:SC}{Q:X→Env→Heap→Prop}:X.sq P b Q .nrm e H=Ag P b Q e H:=rfl
theorem Qb1w {b:SC}{Q:X→Env→Heap→Prop}:X.sq P b Q .ret e H=Q .ret e H:=rfl
theorem Ty {b:SC}{Q:X→Env→Heap→Prop}{i:Nat}:X.sq P b Q (.exit i) e H=Q (.exit i) e H:=rfl
theorem Qb00 {i:Nat}{Q:X→Env→Heap→Prop}:X.inBlock i Q .nrm e H=Q .nrm e H:=rfl
theorem Qb01 {i:Nat}{Q:X→Env→Heap→Prop}:X.inBlock i Q .ret e H=Q .ret e H:=rfl
theorem TU {i:Nat}{Q:X→Env→Heap→Prop}:X.inBlock i Q (.exit i) e H=Q .nrm e H:=by simp[X.inBlock]
theorem Ya {i j:Nat}{Q:X→Env→Heap→Prop}(h:(j == i)=false):X.inBlock i Q (.exit j) e H=Q (.exit j) e H:=by
 have:j≠i:=by simpa using h
 simp[X.inBlock,this]
theorem Qe {a b:SC}{Q:X→Env→Heap→Prop}(h:Ag P a (X.sq P b Q) e H):Ag P (.seq a b) Q e H:=h
theorem Qbqz {K K':Env→Heap→Prop}{Q:X→Env→Heap→Prop}:X.next K (X.next K' Q)=X.next K Q:=by
 funext x e H
 cases x <;> rfl
theorem Qp {a b c:SC}{Q:X→Env→Heap→Prop}(h:Ag P (.seq a (.seq b c)) Q e H):Ag P (.seq (.seq a b) c) Q e H:=by
 simp only[Ag]at h⊢;rw[Qbqz];exact h
theorem Qn {its:List Item}{keep:List Nat}{Q:X→Env→Heap→Prop}(h:regT P its e H (X.panK Q) fun e' H'=>Q .nrm (trim keep e') H'):Ag P (.reg its keep) Q e H:=h
theorem CE {fa:Nat}{ord:List Nat}{its:List Item}{keep:List Nat}{Q:X→Env→Heap→Prop}(h:BL P its e H (X.panK Q) fun e' H'=>Q .nrm (trim keep e') H'):Ag P (.aH fa ord its keep) Q e H:=h
theorem Qa {its:List Item}{keep:List Nat}{b:SC}{Q:X→Env→Heap→Prop}(h:regT P its e H (X.panK Q) fun e' H'=>Ag P b Q (trim keep e') H'):Ag P (.seq (.reg its keep) b) Q e H:=h
theorem Ak {fa:Nat}{ord:List Nat}{its:List Item}{keep:List Nat}{b:SC}{Q:X→Env→Heap→Prop}(h:BL P its e H (X.panK Q) fun e' H'=>Ag P b Q (trim keep e') H'):Ag P (.seq (.aH fa ord its keep) b) Q e H:=h
theorem Qc {t:Opd}{a b:SC}{Q:X→Env→Heap→Prop}{c:Bool}(hc:t.raw e=.c (.bool c))(h1:c=true→Ag P a Q e H)(h2:c=false→Ag P b Q e H):Ag P (.cond t a b) Q e H:=⟨c,hc,h1,h2⟩
theorem Qf {i:Nat}{a:SC}{Q:X→Env→Heap→Prop}(h:Ag P a (X.inBlock i Q) e H):Ag P (.block i a) Q e H:=h
theorem Qr {i:Nat}{Q:X→Env→Heap→Prop}(h:Q (.exit i) e H):Ag P (.exit i) Q e H:=h
theorem Qg {Q:X→Env→Heap→Prop}(h:Q .ret e H):Ag P .ret Q e H:=h
theorem Qd {Q:X→Env→Heap→Prop}(h:Q .nrm e H):Ag P .skip Q e H:=h
theorem Qu {a:SC}{Q:X→Env→Heap→Prop}(I:Nat→Env→Heap→Prop)(n:Nat)(h0:I n e H)
  (h:∀n e1 H1,I n e1 H1→Ag P a (X.next (fun e2 H2=>∃m,m<n∧I m e2 H2) Q) e1 H1):Ag P (.loop a) Q e H:=⟨I,⟨n,h0⟩,h⟩
theorem Yf {e:Env}:gdO e none=True:=rfl
theorem Yg {e:Env}:gdB e none=true:=rfl
theorem Ye {p:Bool}{v:V}:gdV none p v=v:=rfl
theorem Yd {p:Bool}{v:V}{x:Nat×Bool}:gdV (some x) p v=.gd p v:=rfl
theorem Xm {e:Env}:trim [] e=[]:=rfl
theorem YB {k:Nat}{ks:List Nat}{e:Env}:trim (k::ks) e=(k,lk k e)::trim ks e:=rfl
theorem Xl {a:Prop}:(true=true→a)=a:=by simp
theorem Qbpa {a:Prop}:(false=true→a)=True:=by simp
theorem YA {a:Prop}:(true=false→a)=True:=by simp
theorem Qblp {a:Prop}:(false=false→a)=a:=by simp
theorem Qb2d {a:Prop}:(a∧True)=a:=by simp
theorem Qb3n {a:Prop}:(True∧a)=a:=by simp
theorem Qb3o {a:Prop}:(True→a)=a:=by simp
theorem Qb2u {a:Prop}:(a→True)=True:=by simp
theorem b_f {b:Bool}:(b == false) = !b:=by cases b <;> rfl
theorem b_t {b:Bool}:(b == true)=b:=by cases b <;> rfl
theorem XX {a:Prop}:(a→a)=True:=by simp
theorem Qbpt {a b:Prop}:(a→b→a)=True:=propext ⟨fun _=>trivial,fun _ h _=>h⟩
theorem Qbpu {a b:Prop}:(a→a∧b)=(a→b):=propext ⟨fun h x=>(h x).2,fun h x=>⟨x,h x⟩⟩
theorem V1 {a b:Prop}:(a→a→b)=(a→b):=by simp
theorem Qbgm {α:Type}{p:α→Prop}:(∀x∈([]:List α),p x)=True:=by simp
def Dw (H:Heap)(p:C)(vs:List C)(K:V→Heap→Prop):Prop:=
 match p with
 |.ptr l k=>match H l with
  |.st cells=>k+vs.length≤cells.length∧∀H',H'=H.set l (.st (DN cells k vs))→K .unk H'
  |_=>False
 |.ep (.aG l sz st n) z i k=>match H l with
  |.vec y rows=>y=sz∧z=sz∧i<n∧st+n≤rows.length∧k+vs.length≤sz∧
    ∀H',H'=H.set l (.vec sz (rows.set (st+i) (DN (rows.getD (st+i) []) k vs)))→K .unk H'
  |_=>False
 |_=>False
def appQ (H:Heap)(sz:Nat)(a b:C)(K:V→Heap→Prop):Prop:=
 bt H b∧b.aQ=sz∧match a with
 |.sl true z rows=>z=sz∧(rows=[]∨rowsOf H b≠[])∧(∀r∈rows++rowsOf H b,ar r=true)∧rows.length+ax b≤LIM∧
   ∀l,H l=.none→∀H',H'=H.set l (.vec sz (rows++rowsOf H b))→K (.c (.aG l sz 0 (rows.length+ax b))) H'
 |.aG l z st n=>match H l with
  |.vec y rows=>z=sz∧y=sz∧st+n≤rows.length∧(∀r∈rowsOf H b,ar r=true)∧n+ax b≤LIM∧
    ∀l',(H.set l .none) l'=.none→∀H',H'=(H.set l .none).set l' (.vec sz ((rows.drop st).take n++rowsOf H b))→
     K (.c (.aG l' sz 0 (n+ax b))) H'
  |_=>False
 |_=>False
def updQ (H:Heap)(tag:Nat)(m k:C)(v:V)(K:V→Heap→Prop):Prop:=
 match m with
 |.mp l=>match H l with
  |.map n es=>Br tag k es∧es.length+1≤LIM∧∀H',H'=H.set l (.map (n+1) (AG k v es))→K .unk H'
  |_=>False
 |_=>False
def delQ (H:Heap)(tag:Nat)(m k:C)(K:V→Heap→Prop):Prop:=
 match m with
 |.mp l=>match H l with
  |.map n es=>Br tag k es∧∀H',H'=H.set l (.map (n+1) (delE k es))→K .unk H'
  |_=>False
 |.mnil=>Br tag k []∧K .unk H
 |_=>False
theorem BC {α:Type}{a:α}{p:α→Prop}:(∀x,x=a→p x)=p a:=propext ⟨fun h=>h a rfl,fun h x hx=>hx▸h⟩
section
variable {p:Bool}{K:V→Heap→Prop}
theorem Qbs0 {a:C}{vs:List C}:C0 H a vs K=Dw H a vs K:=by
 cases a with
 |ptr l k=>simp only[C0,Dw];cases hh:H l <;> simp only[hh,BC]
 |ep s z i k=>
  cases s with
  |aG l sz st n=>simp only[C0,Dw];cases hh:H l <;> simp only[hh,BC]
  |_=>rfl
 |_=>rfl
theorem Km {sz:Nat}{a b:C}:appT H sz a b K=appQ H sz a b K:=by
 unfold appT appQ;refine congrArg (And _) (congrArg (And _) ?_)
 cases a with
 |sl fl z rows=>cases fl <;> simp only[BC]
 |aG l z st n=>simp only[];cases hh:H l <;> simp only[hh,BC]
 |_=>rfl
theorem Qb0a {tag:Nat}{m k:C}{v:V}:updT H tag m k v K=updQ H tag m k v K:=by
 cases m with
 |mp l=>simp only[updT,updQ];cases hh:H l <;> simp only[hh,BC]
 |_=>rfl
theorem VE {tag:Nat}{m k:C}:delT H tag m k K=delQ H tag m k K:=by
 cases m with
 |mp l=>simp only[delT,delQ];cases hh:H l <;> simp only[hh,BC]
 |_=>rfl
theorem Qbo3 {cells:List C}:(EOp.alloc cells).eff P p e H K=∀l,H l=.none→∀H',H'=H.set l (.st cells)→K (.c (.ptr l 0)) H':=by simp only[EOp.eff,BC]
theorem YL {a:Opd}:(EOp.boxm a).eff P p e H K=(a.fine p e∧(a.v e).cells≠[]∧∀l,H l=.none→∀H',H'=H.set l (.st (a.v e).cells)→K (.c (.ptr l 0)) H'):=by simp only[EOp.eff,BC]
theorem Vk {n:Nat}{a v:Opd}:(EOp.sto n a v).eff P p e H K=(a.fine p e∧v.fine p e∧(a.v e).isC∧(v.v e).cells.length=n∧0<n∧Dw H (a.v e).c1 (v.v e).cells K):=by simp only[EOp.eff,Qbs0]
theorem VB {sz:Nat}{a b:Opd}:(EOp.app sz a b).eff P p e H K=(a.fine p e∧b.fine p e∧(a.v e).isC∧(b.v e).isC∧appQ H sz (a.v e).c1 (b.v e).c1 K):=by simp only[EOp.eff,Km]
theorem VA {sz:Nat}{zr:List C}{a n:Opd}:(EOp.apz sz zr a n).eff P p e H K=(a.fine p e∧n.fine p e∧(a.v e).isC∧BJ (n.v e)∧0≤Q2 (n.v e)∧Q2 (n.v e)≤LIM∧appQ H sz (a.v e).c1 (.sl false sz (List.replicate (Q2 (n.v e)).toNat zr)) K):=by simp only[EOp.eff,Km]
theorem Vn {sz:Nat}{zero:List C}{n:Opd}:(EOp.mks sz zero n).eff P p e H K=(n.fine p e∧BJ (n.v e)∧0≤Q2 (n.v e)∧Q2 (n.v e)≤LIM∧
   ∀l,H l=.none→∀H',H'=H.set l (.vec sz (List.replicate (Q2 (n.v e)).toNat zero))→K (.c (.aG l sz 0 (Q2 (n.v e)).toNat)) H'):=by simp only[EOp.eff,BC]
theorem Vo:EOp.mkm.eff P p e H K=∀l,H l=.none→∀H',H'=H.set l (.map 0 [])→K (.c (.mp l)) H':=by simp only[EOp.eff,BC]
theorem Vj {tag:Nat}{m k v:Opd}:(EOp.upd tag m k v).eff P p e H K=(m.fine p e∧k.fine p e∧v.fine p e∧(m.v e).isC∧(k.v e).isC∧(v.v e).cells≠[]∧updQ H tag (m.v e).c1 (k.v e).c1 (v.v e) K):=by simp only[EOp.eff,Qb0a]
theorem Vq {tag:Nat}{m k:Opd}:(EOp.del tag m k).eff P p e H K=(m.fine p e∧k.fine p e∧(m.v e).isC∧(k.v e).isC∧delQ H tag (m.v e).c1 (k.v e).c1 K):=by simp only[EOp.eff,VE]
theorem YI {m:Opd}:(EOp.clrm m).eff P p e H K=(m.fine p e∧match m.v e with
  |.c (.mp l)=>match H l with
   |.map n _=>∀H',H'=H.set l (.map (n+1) [])→K .unk H'
   |_=>False
  |_=>False):=by
 simp only[EOp.eff];refine congrArg (And _) ?_
 cases m.v e with
 |c x=>cases x with
  |mp l=>simp only[];cases hh:H l <;> simp only[hh,BC]
  |_=>rfl
 |_=>rfl
theorem YH {sz:Nat}{zero:List C}{m:Opd}:(EOp.clrs sz zero m).eff P p e H K=(m.fine p e∧match m.v e with
  |.c (.aG l z st n)=>z=sz∧match H l with
   |.vec y rows=>y=sz∧st+n≤rows.length∧∀H',H'=H.set l (.vec sz (rows.take st++List.replicate n zero++rows.drop (st+n)))→K .unk H'
   |_=>False
  |_=>False):=by
 simp only[EOp.eff];refine congrArg (And _) ?_
 cases m.v e with
 |c x=>cases x with
  |aG l z st n=>simp only[];refine congrArg (And _) ?_;cases hh:H l <;> simp only[hh,BC]
  |_=>rfl
 |_=>rfl
theorem YJ {f:Nat}{args:List Opd}:(EOp.call f args).eff P p e H K=((∀x∈args,x.fine p e)∧Qi P f (args.map fun x=>x.v e) H K):=rfl
theorem Qbo4 {f:Opd}{args:List Opd}:(EOp.bv f args).eff P p e H K=(f.fine p e∧(∀x∈args,x.fine p e)∧match f.v e with
  |.c (.fn n caps)=>Qi P n ((args.map fun x=>x.v e)++caps.map .c) H K
  |_=>False):=rfl
theorem Vl {m:Opd}:(EOp.rng m).eff P p e H K=(m.fine p e∧match m.v e with
  |.c (.mp l)=>match H l with
   |.map n es=>es.Nodup∧∀i,H i=.none→∀H',H'=H.set i (.iter (some (l,n)) es none)→K (.c (.itr i)) H'
   |_=>False
  |.c .mnil=>∀i,H i=.none→∀H',H'=H.set i (.iter none [] none)→K (.c (.itr i)) H'
  |_=>False):=by
 simp only[EOp.eff];refine congrArg (And _) ?_
 cases m.v e with
 |c x=>cases x with
  |mp l=>simp only[];cases hh:H l <;> simp only[hh,BC]
  |mnil=>simp only[BC]
  |_=>rfl
 |_=>rfl
theorem YE {a:Opd}:(EOp.rngs a).eff P p e H K=(a.fine p e∧match a.v e with
  |.c (.str s)=>∀i,H i=.none→∀H',H'=H.set i (.sit s 0)→K (.c (.itr i)) H'
  |_=>False):=by
 simp only[EOp.eff];refine congrArg (And _) ?_
 cases a.v e with
 |c x=>cases x with
  |str s=>simp only[BC]
  |_=>rfl
 |_=>rfl
theorem YF {it:Opd}:(EOp.nxts it).eff P p e H K=(it.fine p e∧match it.v e with
  |.c (.itr i)=>match H i with
   |.sit s q=>(s.length≤q→K (.tup [.c (.bool false)]) H)∧
     ∀(c:Int) (wd:Nat),q<s.length→1≤wd→((s.getD q 0).toNat<128→c=((s.getD q 0).toNat:Int)∧wd=1)→(128≤(s.getD q 0).toNat→128≤c)→
      ∀H',H'=H.set i (.sit s (q+wd))→K (.tup [.c (.bool true),.c (.int .i64 q),.c (.int .i32 c)]) H'
   |_=>False
  |_=>False):=by
 simp only[EOp.eff];refine congrArg (And _) ?_
 cases it.v e with
 |c x=>cases x with
  |itr i=>
   simp only[];cases hh:H i <;> simp only[BC]
  |_=>rfl
 |_=>rfl
theorem Vm {it:Opd}:(EOp.nxt it).eff P p e H K=(it.fine p e∧match it.v e with
  |.c (.itr i)=>match H i with
   |.iter none left _=>K (.tup [.c (.bool false)]) H
   |.iter (some (l,n)) left cur=>(∃es,H l=.map n es)∧(left=[]→K (.tup [.c (.bool false)]) H)∧
     ∀x left',x∈left→(∀y,y∈left'↔y∈left∧y≠x)→left'.Nodup→left'.length+1=left.length→
      ∀H',H'=H.set i (.iter (some (l,n)) left' (some x))→K (.tup [.c (.bool true),.c x.1,x.2]) H'
   |_=>False
  |_=>False):=by
 simp only[EOp.eff];refine congrArg (And _) ?_
 cases it.v e with
 |c x=>cases x with
  |itr i=>
   simp only[]
   cases hh:H i with
   |iter m left cur=>cases m with
    |none=>rfl
    |some y=>simp only[BC]
   |_=>rfl
  |_=>rfl
 |_=>rfl
theorem Vp {it:Opd}:(EOp.ent it).eff P p e H K=(it.fine p e∧match it.v e with
  |.c (.itr i)=>match H i with
   |.iter (some (l,n)) left (some x)=>(∃es,H l=.map n es)∧K (.tup [.c x.1,x.2]) H
   |_=>False
  |_=>False):=rfl
def cpyQ (H:Heap)(sz:Nat)(a b:C)(K:V→Heap→Prop):Prop:=
 bt H b∧b.aQ=sz∧match a with
 |.aG l z st n=>match H l with
  |.vec y rows=>z=sz∧y=sz∧st+n≤rows.length∧ax b≤n∧(∀r∈rowsOf H b,ar r=true)∧
    ∀H',H'=H.set l (.vec sz (rows.take st++rowsOf H b++rows.drop (st+ax b)))→K (.c (.int .i64 (ax b))) H'
  |_=>False
 |_=>False
theorem VF {sz:Nat}{a b:C}:cpyT H sz a b K=cpyQ H sz a b K:=by
 unfold cpyT cpyQ;refine congrArg (And _) (congrArg (And _) ?_)
 cases a with
 |aG l z st n=>simp only[];cases hh:H l <;> simp only[hh,BC]
 |_=>rfl
theorem Vr {sz:Nat}{a b:Opd}:(EOp.cpy sz a b).eff P p e H K=(a.fine p e∧b.fine p e∧(a.v e).isC∧(b.v e).isC∧cpyQ H sz (a.v e).c1 (b.v e).c1 K):=by simp only[EOp.eff,VF]
theorem YK {sz:Nat}{parts:List Opd}:(EOp.bslm sz parts).eff P p e H K=((∀x∈parts,x.fine p e∧(x.v e).cells.length=sz)∧∀l,H l=.none→∀H',H'=H.set l (.vec sz (parts.map fun x=>(x.v e).cells))→K (.c (.aG l sz 0 parts.length)) H'):=by simp only[EOp.eff,BC]
theorem YG {a:Opd}:(EOp.nilq a).eff P p e H K=(a.fine p e∧match a.v e with
  |.c (.sl _ _ rows)=>∀b:Bool,(b=true→rows=[])→K (.c (.bool b)) H
  |_=>False):=rfl
end
theorem XS {k:IntKind}{n:Int}:(C.int k n).ah=false:=rfl
theorem Qbpy {b:Bool}:(C.bool b).ah=false:=rfl
theorem Yw {s:List UInt8}:(C.str s).ah=false:=rfl
theorem Vs {f:Bool}{sz:Nat}{r:List (List C)}:(C.sl f sz r).ah=false:=rfl
theorem Vt {c:List C}:(C.pp c).ah=false:=rfl
theorem Vx {c:C}{a i k:Nat}:(C.ep c a i k).ah=false:=rfl
theorem Qbp1:C.pnil.ah=false:=rfl
theorem XQ {l k:Nat}:(C.ptr l k).ah=false:=rfl
theorem Yu {l a b c:Nat}:(C.aG l a b c).ah=false:=rfl
theorem Vv {l:Nat}:(C.mp l).ah=false:=rfl
theorem Qbp0:C.mnil.ah=false:=rfl
theorem Yx {n:Nat}:(C.stb n).ah=false:=rfl
theorem Yy {n:Nat}:(C.slb n).ah=false:=rfl
theorem Vy {a:Bool}{k:List C}{r:List (List C)}:(C.cm a k r).ah=false:=rfl
theorem Vw {f:Nat}{c:List C}:(C.fn f c).ah=false:=rfl
theorem Qbpz:C.fnil.ah=false:=rfl
theorem XR {l:Nat}:(C.itr l).ah=false:=rfl
theorem Yv:C.unk.ah=false:=rfl
theorem Vu {sz:Nat}{r:List (List C)}:(C.ow sz r).ah=true:=rfl
theorem TG {f:Bool}{sz:Nat}{r:List (List C)}:ax (.sl f sz r)=r.length:=rfl
theorem XB {l a b c:Nat}:ax (.aG l a b c)=c:=rfl
theorem Qbo5 {f:Bool}{sz:Nat}{r:List (List C)}:(C.sl f sz r).aQ=sz:=rfl
theorem Qbll {l a b c:Nat}:(C.aG l a b c).aQ=a:=rfl
theorem Qbre {f:Bool}{sz:Nat}{r:List (List C)}:rowsOf H (.sl f sz r)=r:=rfl
theorem Qbmt {l a st n:Nat}:rowsOf H (.aG l a st n)=match H l with
  |.vec _ rows=>(rows.drop st).take n
  |_=>[]:=rfl
theorem T6 {f:Bool}{sz:Nat}{r:List (List C)}:bt H (.sl f sz r)=True:=rfl
theorem Xx {l sz st n:Nat}:bt H (.aG l sz st n)=match H l with
  |.vec z rows=>z=sz∧st+n≤rows.length
  |_=>False:=rfl
section
variable {K:V→Heap→Prop}
theorem V4 {sz z:Nat}{rows:List (List C)}{b:C}:appQ H sz (.sl true z rows) b K=(bt H b∧b.aQ=sz∧z=sz∧(rows=[]∨rowsOf H b≠[])∧(∀r∈rows++rowsOf H b,ar r=true)∧rows.length+ax b≤LIM∧
   ∀l,H l=.none→∀H',H'=H.set l (.vec sz (rows++rowsOf H b))→K (.c (.aG l sz 0 (rows.length+ax b))) H'):=rfl
theorem Y5 {sz l z st n:Nat}{b:C}:appQ H sz (.aG l z st n) b K=(bt H b∧b.aQ=sz∧match H l with
  |.vec y rows=>z=sz∧y=sz∧st+n≤rows.length∧(∀r∈rowsOf H b,ar r=true)∧n+ax b≤LIM∧
    ∀l',(H.set l .none) l'=.none→∀H',H'=(H.set l .none).set l' (.vec sz ((rows.drop st).take n++rowsOf H b))→
     K (.c (.aG l' sz 0 (n+ax b))) H'
  |_=>False):=rfl
end
theorem Tz {lo hi:Option Int}{fl:Bool}{sz:Nat}{rows:List (List C)}:sliC lo hi (.sl fl sz rows)=.sl (fl&&(hi.isNone || rows.isEmpty)) sz ((rows.take (hi.getD rows.length).toNat).drop (lo.getD 0).toNat):=rfl
theorem VY {lo hi:Option Int}{l sz st n:Nat}:sliC lo hi (.aG l sz st n)=.aG l sz (st+(lo.getD 0).toNat) ((hi.getD n).toNat-(lo.getD 0).toNat):=rfl
attribute [go_sem] Vr cpyQ Eg Dt TS VP KR YN VO b_f b_t XX Qbpt Qbpu V1 regT BL putE lk Yf Yg Ye Yd gdO gdB Opd.v Opd.raw Opd.fine V.bare V.fine FOp.val FOp.obl FOp.fct Qbo3 YL Vk VB VA Vn Vo Vj Vq YI YH YJ Qbo4 Vl Vm YE YF Vp YG YK Xm YB
 V.c1 V.isC V.isAg V.cells CA CJ fadC binC binO Cw ar Dw V4 Y5 updQ delQ zipE DA Tz VY bnds T6 Xx TG XB Qbre Qbmt Qbo5 Qbll XS Qbpy Yw Vs Vt Vx Qbp1 XQ Yu Vv Qbp0 Yx Yy Vy Vw Qbpz XR Yv Vu BJ Ee Q2 Ec Xl Qbpa YA Qblp Qb2d Qb3n Qb3o Qb2u
 Qb1v Qb1w Ty Qb00 Qb01 TU Jy List.map_nil DN List.take_succ_cons Ja2 List.take_nil List.drop_succ_cons Ja0 List.drop_nil
 Jai J8 Ju Ja5 List.headD_cons Bool.not_false Ja3 Bool.and_true Ja4 Jao Jae and_self eq_self Jab Jah Jax Ja9 Jay not_true_eq_false not_false_eq_true ite_true ite_false ne_eq Jaz Option.map_none Option.getD_some Option.getD_none Option.isNone_some Option.isNone_none List.isEmpty_nil List.isEmpty_cons Bool.or_true Bool.true_or Bool.or_false Bool.false_or optI optF Int.toNat_natCast Int.natCast_nonneg Int.add_sub_cancel List.forall_mem_cons Qbgm
end Go.AE
namespace Go.AE
abbrev fI (d : Nat) (o : FOp) : Item := .f (some d) none o
abbrev eI (d : Nat) (o : EOp) : Item := .e (some d) none o
abbrev gT (d t : Nat) (o : FOp) : Item := .f (some d) (some (t, true)) o
abbrev gF (d t : Nat) (o : FOp) : Item := .f (some d) (some (t, false)) o
abbrev kI (n : Int) : Opd := .k (.c (.int .i64 n))
abbrev mJ (d a : Nat) : Item := .f (some d) none (.mv (.t a))
abbrev fJ (d n a : Nat) : Item := .f (some d) none (.fad n (.t a))
abbrev lJ (d a : Nat) : Item := .f (some d) none (.ld 1 false (.t a))
abbrev tJ (d n a : Nat) : Item := .f (some d) none (.ld n true (.t a))
abbrev nJ (d a : Nat) : Item := .f (some d) none (.len (.t a))
abbrev kJ (d a : Nat) : Item := .f (some d) none (.nck (.t a))
abbrev oJ (d a : Nat) : Item := .f (some d) none (.not (.t a))
abbrev iJ (d n a b : Nat) : Item := .f (some d) none (.iad n (.t a) (.t b))
abbrev bJ (d : Nat) (o : BinOp) (a b : Nat) : Item := .f (some d) none (.bin 0 o (.t a) (.t b))
abbrev cJ (d : Nat) (o : BinOp) (a : Nat) (n : Int) : Item := .f (some d) none (.bin 0 o (.t a) (.k (.c (.int .i64 n))))
abbrev gTm (d g a : Nat) : Item := .f (some d) (some (g, true)) (.mv (.t a))
abbrev gFm (d g a : Nat) : Item := .f (some d) (some (g, false)) (.mv (.t a))
abbrev gTf (d g n a : Nat) : Item := .f (some d) (some (g, true)) (.fad n (.t a))
abbrev gFf (d g n a : Nat) : Item := .f (some d) (some (g, false)) (.fad n (.t a))
abbrev gTl (d g a : Nat) : Item := .f (some d) (some (g, true)) (.ld 1 false (.t a))
abbrev gFl (d g a : Nat) : Item := .f (some d) (some (g, false)) (.ld 1 false (.t a))
abbrev aJ (d f : Nat) (l : List Opd) : Item := .e (some d) none (.call f l)
abbrev sJ (k a b : Nat) : Item := .e none none (.sto k (.t a) (.t b))
abbrev fB (d : Nat) (b : Bool) : Item := .f (some d) none (.mv (.k (.c (.bool b))))
abbrev zJ (d : Nat) (n : Int) : Item := .f (some d) none (.mv (.k (.c (.int .i64 n))))
abbrev hJ (d a : Nat) : Item := .chk d none (.ld 1 false (.t a))
abbrev pT (d a b : Nat) : Item := .f (some d) none (.pick (.t a) (.k (.c (.bool true))) (.t b))
abbrev pF (d a b : Nat) : Item := .f (some d) none (.pick (.t a) (.t b) (.k (.c (.bool false))))
abbrev xJ (d k a b : Nat) : Item := .e (some d) none (.app k (.t a) (.t b))
abbrev vJ (d a : Nat) : Item := .f (some d) none (.box (.t a))
abbrev sR (l : List Item) (k : List Nat) (n : SC) : SC := .seq (.reg l k) n
abbrev cX (t i : Nat) (n : SC) : SC := .seq (.cond (.t t) .skip (.exit i)) n
abbrev bL (i : Nat) (l : SC) : SC := .block i (.loop l)
abbrev cT (t : Nat) (a b : SC) : SC := .cond (.t t) a b
theorem Qb14 : Int.toNat 0 = 0 := rfl
theorem Qb15 : Int.toNat 1 = 1 := rfl
theorem TO : Int.toNat 2000 = 2000 := rfl
attribute [go_sem] sJ fB zJ hJ pT pF xJ vJ mJ fJ lJ tJ nJ kJ oJ iJ bJ cJ gTm gFm gTf gFf gTl gFl aJ fI eI gT gF kI false_implies Qb14 Qb15 TO
variable {P:Program}{H:Heap}{g:G}{w:World}{e:Env}
def Obj.used:Obj→Bool
 |.none=>false
 |_=>true
def Heap.frz (H:Heap)(S:Nat→Bool):Heap:=fun l=>if S l then .none else H l
def G.frz (g:G)(H:Heap)(S:Nat→Bool):G:=
 { g with
  per:=fun b=>g.per b || (match g.own b with
   |some (l,_)=>S l&&(H l).used
   |none=>false)
  own:=fun b=>match g.own b with
   |some (l,p)=>if S l&&(H l).used then none else some (l,p)
   |none=>none }
theorem FJ (H:Heap)(S:Nat→Bool)(g:G)(w:World):Le g w (g.frz H S) w:=
 ⟨fun b h=>⟨by simp[G.frz,h],rfl⟩,fun _ _ h=>h,Jay _,fun _ _ _ h=>h,rfl,rfl,rfl⟩
theorem Pg {S:Nat→Bool}{m:Nat}(hm:¬(S m=true∧(H m).used=true)):AR g w (g.frz H S) w m:=by
 intro b q hb;refine⟨?_,rfl⟩;have:¬(S m&&(H m).used)=true:=by simpa using hm
 simp only[G.frz,hb];rw[if_neg this]
theorem D1 (hs:Sat H g w)(S:Nat→Bool):Stp H g w (H.frz S) (g.frz H S) w:=by
 have a9:=FJ H S g w;refine⟨a9,fun m hm hn=>?_,⟨fun b hb=>?_,hs.names,fun b x hb=>?_,fun b m p hb=>?_,fun m=>?_⟩⟩
 ·refine⟨by simp only[Heap.frz,hn];split <;> rfl,?_⟩;exact Pg (by rw[hn];simp[Obj.used])
 ·obtain⟨h1,h2⟩:=hs.fresh b hb;simp[G.frz,h1,h2]
 ·have aR:(match g.own b with
   |some (l,p)=>if S l&&(H l).used then none else some (l,p)
   |none=>none)=some x:=hb
  show (g.per b || (match g.own b with
   |some (l,_)=>S l&&(H l).used
   |none=>false))=false
  cases ho:g.own b with
  |none=>rw[ho]at aR;simp at aR
  |some y=>
   obtain⟨l,p⟩:=y;rw[ho]at aR;simp only at aR⊢;have:=hs.excl b _ ho;by_cases hx:(S l&&(H l).used)=true
   ·rw[if_pos hx]at aR;simp at aR
   ·simp[this,hx]
 ·have aR:(match g.own b with
   |some (l,p)=>if S l&&(H l).used then none else some (l,p)
   |none=>none)=some (m,p):=hb
  cases ho:g.own b with
  |none=>rw[ho]at aR;simp at aR
  |some y=>
   obtain⟨l,q⟩:=y;rw[ho]at aR;simp only at aR;by_cases hx:(S l&&(H l).used)=true
   ·rw[if_pos hx]at aR;simp at aR
   ·rw[if_neg hx]at aR;simp at aR;obtain⟨rfl,rfl⟩:=aR;exact hs.named b _ _ ho
 ·by_cases hS:S m=true
  ·simp[Heap.frz,hS,SatObj]
  ·have cu:H.frz S m=H m:=by simp[Heap.frz,hS]
   have hk:AR g w (g.frz H S) w m:=Pg (by simp[hS]);refine SatObj.keep (H':=H.frz S) hs a9 hk cu fun m' v left cur hc v' es hv=>?_;by_cases ox:S m'=true
   ·simp[Heap.frz,ox]at hv
   ·have:H.frz S m'=H m':=(by simp[Heap.frz,ox]);rw[this]at hv;exact .inl ⟨hv,Pg (by simp[ox])⟩
inductive FrzC (H:Heap)(S:Nat→Bool):C→C→Prop
 |same (c:C) (h:c.ah=false):FrzC H S c c
 |sl (fl:Bool) (sz:Nat) (rows rows':List (List C)) (hl:rows'.length=rows.length) (hr:∀(i:Nat) (r r':List C),rows[i]? = some r→rows'[i]? = some r'→r'.length=r.length)
   (hc:∀(i:Nat) (r r':List C) (j:Nat) (c c':C),rows[i]? = some r→rows'[i]? = some r'→r[j]? = some c→r'[j]? = some c'→FrzC H S c c'):FrzC H S (.sl fl sz rows) (.sl false sz rows')
 |pp (cells cells':List C) (hl:cells'.length=cells.length) (hc:∀(j:Nat) (c c':C),cells[j]? = some c→cells'[j]? = some c'→FrzC H S c c'):FrzC H S (.pp cells) (.pp cells')
 |aG (l sz st n:Nat) (all rows rows':List (List C)) (hS:S l=true) (hH:H l=.vec sz all) (hb:st+n≤all.length) (eq:rows=(all.drop st).take n)
   (hl:rows'.length=rows.length) (hr:∀(i:Nat) (r r':List C),rows[i]? = some r→rows'[i]? = some r'→r'.length=r.length)
   (hc:∀(i:Nat) (r r':List C) (j:Nat) (c c':C),rows[i]? = some r→rows'[i]? = some r'→r[j]? = some c→r'[j]? = some c'→FrzC H S c c'):FrzC H S (.aG l sz st n) (.sl false sz rows')
 |ptr (l k:Nat) (all cells cells':List C) (hS:S l=true) (hH:H l=.st all) (ja:cells=all.drop k) (hl:cells'.length=cells.length)
   (hc:∀(j:Nat) (c c':C),cells[j]? = some c→cells'[j]? = some c'→FrzC H S c c'):FrzC H S (.ptr l k) (.pp cells')
 |ow (sz:Nat) (rows rows':List (List C)) (hl:rows'.length=rows.length) (hr:∀(i:Nat) (r r':List C),rows[i]? = some r→rows'[i]? = some r'→r'.length=r.length)
   (hc:∀(i:Nat) (r r':List C) (j:Nat) (c c':C),rows[i]? = some r→rows'[i]? = some r'→r[j]? = some c→r'[j]? = some c'→FrzC H S c c'):FrzC H S (.ow sz rows) (.sl false sz rows')
theorem AP {α:Type}{l l':List α}(h:l'.length=l.length){i:Nat}{x:α}(hx:l'[i]? = some x):∃y,l[i]? = some y:=by
 have:i<l'.length:=(Jr.1 hx).1;exact⟨l[i]'(by omega),Jt (by omega)⟩
theorem FR {S:Nat→Bool}{b l:Nat}{p:List Nat}(ho:g.own b=some (l,p))(hS:S l=true)(hu:(H l).used=true):(g.frz H S).per b=true:=by
 simp[G.frz,ho,hS,hu]
theorem FQ (hs:Sat H g w){S:Nat→Bool}{c c':C}(h:FrzC H S c c') :
  (∀v,RepC w g c v→RepC w (g.frz H S) c' v)∧∀l p v,S l=true→(H l).used=true→RepO w g l p c v→RepC w (g.frz H S) c' v:=by
 have a9:=FJ H S g w
 induction h with
 |same c h=>
  refine⟨fun v hv=>hv.mono a9,fun l p v _ _ hv=>?_⟩;exact (hv.plain_of fun sz rows hc=>by subst hc;simp[C.ah]at h).mono a9
 |sl fl sz rows rows' hl hr hc ih=>
  have key:∀v,RepC w g (.sl fl sz rows) v→RepC w (g.frz H S) (.sl false sz rows') v:=by
   intro v hv
   cases hv with
   |bk _ _ ad=>
    have:rows'=[]:=Jk.1 (by simpa using hl);subst this;exact .bk _ _ _
   |sl _ _ _ b off cap val h1 h2 h3 h4 h5 h6 h7=>
    rw[←hl]at h1 h2 h3⊢;refine .sl false sz rows' b off cap val h1 (by simp) h3 (a9.per b h4).1 (fun i r' aP=>?_) (fun i r' j c' aP bK=>?_) (fun i r' j c' aP bK=>?_)
    ·obtain⟨r,bM⟩:=AP hl aP;rw[hr i r r' bM aP];exact h5 i r bM
    ·obtain⟨r,bM⟩:=AP hl aP;obtain⟨c,cg⟩:=AP (hr i r r' bM aP) bK;exact h6 i r j c bM cg
    ·obtain⟨r,bM⟩:=AP hl aP;obtain⟨c,cg⟩:=AP (hr i r r' bM aP) bK;exact (ih i r r' j c c' bM aP cg bK).1 _ (h7 i r j c bM cg)
  exact⟨key,fun l p v _ _ hv=>key v (hv.plain_of fun _ _ hc=>by simp at hc)⟩
 |pp cells cells' hl hc ih=>
  have key:∀v,RepC w g (.pp cells) v→RepC w (g.frz H S) (.pp cells') v:=by
   intro v hv
   cases hv with
   |pp _ b off val h1 h2 h3=>
    refine .pp cells' b off val (a9.per b h1).1 (fun j c' bK=>?_) (fun j c' bK=>?_)
    ·obtain⟨c,cg⟩:=AP hl bK;exact h2 j c cg
    ·obtain⟨c,cg⟩:=AP hl bK;exact (ih j c c' cg bK).1 _ (h3 j c cg)
  exact⟨key,fun l p v _ _ hv=>key v (hv.plain_of fun _ _ hc=>by simp at hc)⟩
 |aG l sz st n all rows rows' hS hH hb eq hl hr hc ih=>
  have key:∀v,RepC w g (.aG l sz st n) v→RepC w (g.frz H S) (.sl false sz rows') v:=by
   intro v hv;have ai:rows.length=n:=by rw[eq];simp;omega
   cases hv with
   |bf _ _ _ ad=>
    have:rows'=[]:=Jk.1 (by omega);subst this;exact .bk _ _ _
   |aG _ _ _ _ cap b base T m h1 h2 h3 h4=>
    have aZ:=hs.objs l;rw[hH]at aZ;obtain⟨b',base',T',cs,val,r1,r2,r3,r4,r5,r6,r7,r8⟩:=SatVec.of aZ h1;rw[h1]at r1;simp only[Jf,Jv,true_and]at r1;obtain⟨rfl,rfl⟩:=r1;have bV:=FR (g:=g) (H:=H) r2 hS (by rw[hH];rfl);have bn:∀(i:Nat) (r:List C),rows[i]? = some r→all[st+i]? = some r:=by
     intro i r hi;rw[eq,Jar]at hi;split at hi
     ·rw[Jac]at hi;exact hi
     ·simp at hi
    have hn:n=rows'.length:=(by omega);rw[hn]at h2⊢;refine .sl false sz rows' b (base+st * sz) cap (fun i j=>val (st+i) j) (by omega) (by simp) h2 bV (fun i r' aP=>?_) (fun i r' j c' aP bK=>?_) (fun i r' j c' aP bK=>?_)
    ·obtain⟨r,bM⟩:=AP hl aP;rw[hr i r r' bM aP];exact r6 _ r (bn i r bM)
    ·obtain⟨r,bM⟩:=AP hl aP;obtain⟨c,cg⟩:=AP (hr i r r' bM aP) bK;rw[EW r3,show base+st * sz+i * sz+j=base+(st+i) * sz+j by rw[Jq];omega];exact r7 _ r j c (bn i r bM) cg
    ·obtain⟨r,bM⟩:=AP hl aP;obtain⟨c,cg⟩:=AP (hr i r r' bM aP) bK;exact (ih i r r' j c c' bM aP cg bK).2 l _ _ hS (by rw[hH];rfl) (r8 _ r j c (bn i r bM) cg)
  exact⟨key,fun l p v _ _ hv=>key v (hv.plain_of fun _ _ hc=>by simp at hc)⟩
 |ptr l k all cells cells' hS hH ja hl hc ih=>
  have key:∀v,RepC w g (.ptr l k) v→RepC w (g.frz H S) (.pp cells') v:=by
   intro v hv
   cases hv with
   |ptr _ _ b sz base h1=>
    have aZ:=hs.objs l;rw[hH]at aZ;obtain⟨b',sz',T,cs,r1,r2,r3,r4,r5⟩:=aZ;rw[h1]at r1;simp only[Jf,Jv]at r1;obtain⟨rfl,rfl,rfl⟩:=r1;have bV:=FR (g:=g) (H:=H) r2 hS (by rw[hH];rfl);have bn:∀(j:Nat) (c:C),cells[j]? = some c→all[k+j]? = some c:=by
     intro j c hj;rw[ja,Jac]at hj;exact hj
    have fk:∀(j:Nat) (c:C),all[j]? = some c→cs[j]? = some (cs.getD j undef):=by
     intro j c hj;have aa:j<cs.size:=(by rw[r4];exact (Jr.1 hj).1);rw[Jl aa,Jd,Jl aa];rfl
    refine .pp cells' b (0+k) (fun j=>cs.getD (k+j) undef) bV (fun j c' bK=>?_) (fun j c' bK=>?_)
    ·obtain⟨c,cg⟩:=AP hl bK;rw[EW r3,show 0+k+j=k+j by omega];exact fk _ c (bn j c cg)
    ·obtain⟨c,cg⟩:=AP hl bK;exact (ih j c c' cg bK).2 l _ _ hS (by rw[hH];rfl) (r5 _ c _ (bn j c cg) (fk _ c (bn j c cg)))
  exact⟨key,fun l p v _ _ hv=>key v (hv.plain_of fun _ _ hc=>by simp at hc)⟩
 |ow sz rows rows' hl hr hc ih=>
  refine⟨fun v hv=>(by cases hv),fun l p v hS hu hv=>?_⟩
  cases hv with
  |plain _ _ _ h=>cases h
  |ownil _ _ ad=>
   have:rows'=[]:=Jk.1 (by simpa using hl);subst this;exact .bk _ _ _
  |ow _ _ _ b off cap T cs val h1 h2 h3 h4 h5 h6 h7 h8=>
   have bV:=FR (g:=g) (H:=H) h3 hS hu;rw[←hl]at h1 h2⊢;refine .sl false sz rows' b off cap val h1 (by simp) h2 bV (fun i r' aP=>?_) (fun i r' j c' aP bK=>?_) (fun i r' j c' aP bK=>?_)
   ·obtain⟨r,bM⟩:=AP hl aP;rw[hr i r r' bM aP];exact h6 i r bM
   ·obtain⟨r,bM⟩:=AP hl aP;obtain⟨c,cg⟩:=AP (hr i r r' bM aP) bK;rw[EW h4];exact h7 i r j c bM cg
   ·obtain⟨r,bM⟩:=AP hl aP;obtain⟨c,cg⟩:=AP (hr i r r' bM aP) bK;exact (ih i r r' j c c' bM aP cg bK).2 l _ _ hS hu (h8 i r j c bM cg)
inductive FrzV (H:Heap)(S:Nat→Bool):V→V→Prop
 |c (a b:C) (h:FrzC H S a b):FrzV H S (.c a) (.c b)
 |ag (cs cs':List C) (hl:cs'.length=cs.length) (h:∀(j:Nat) (c c':C),cs[j]? = some c→cs'[j]? = some c'→FrzC H S c c'):FrzV H S (.ag cs) (.ag cs')
 |tup (xs xs':List V) (hl:xs'.length=xs.length) (h:∀(j:Nat) (x x':V),xs[j]? = some x→xs'[j]? = some x'→FrzV H S x x'):FrzV H S (.tup xs) (.tup xs')
 |unk (x:V):FrzV H S x .unk
theorem DC (hs:Sat H g w){S:Nat→Bool}{x x':V}(h:FrzV H S x x'):∀v,RepV w g x v→RepV w (g.frz H S) x' v:=by
 induction h with
 |c a b h=>
  intro v hv;exact .c _ _ ((FQ hs h).1 v hv.aA)
 |ag cs cs' hl h=>
  intro v hv
  cases hv with
  |ag _ vs h1 h2=>
   refine .ag cs' vs (by omega) fun j c' u bK hu=>?_;obtain⟨c,hc⟩:=AP hl bK;exact (FQ hs (h j c c' hc bK)).1 u (h2 j c u hc hu)
 |tup xs xs' hl h ih=>
  intro v hv
  cases hv with
  |tup _ vs h1 h2=>
   refine .tup xs' vs (by omega) fun j x' u o7 hu=>?_;obtain⟨x,hx⟩:=AP hl o7;exact ih j x x' hx o7 u (h2 j x u hx hu)
 |unk x=>exact fun v _=>.unk v
abbrev frzK (K:V→Heap→Prop):V→Heap→Prop
 |.pn v,H'=>∃S,K (.pn v) (H'.frz S)
 |x,H'=>∃S x',FrzV H' S x x'∧K x' (H'.frz S)
theorem Yh {K:V→Heap→Prop}{x:V}{v:Value}(h:frzK K x H)(hr:RepV w g x v):∃S x',FrzV H S x x'∧K x' (H.frz S):=by
 cases hr <;> exact h
theorem Gm {f:Nat}{args:List V}{K:V→Heap→Prop}(h:Qi P f args H (frzK K)):Qi P f args H K:=by
 refine⟨h.1,fun g w vs hs hl hv=>?_⟩;refine Calls.mono (h.2 g w vs hs hl hv) ?_;rintro e w' (⟨v,x,H',g',he,hx,aF,hr⟩|⟨v,H',g',he,hx,aF⟩)
 ·obtain⟨S,x',hf,hk⟩:=Yh hx hr;exact .inl ⟨v,x',H'.frz S,g'.frz H' S,he,hk,aF.trans (D1 aF.sat S),DC aF.sat hf v hr⟩
 ·obtain⟨S,hk⟩:∃S,K (.pn v) (H'.frz S):=hx;exact .inr ⟨v,H'.frz S,g'.frz H' S,he,hk,aF.trans (D1 aF.sat S)⟩
theorem GL {f:Nat}{args:List V}{K K':V→Heap→Prop}(h:Qi P f args H K)(hk:∀x H',K x H'→K' x H'):Qi P f args H K':=by
 refine⟨h.1,fun g w vs hs hl hv=>?_⟩;refine Calls.mono (h.2 g w vs hs hl hv) ?_;rintro e w' (⟨v,x,H',g',he,hx,aF,hr⟩|⟨v,H',g',he,hx,aF⟩)
 ·exact .inl ⟨v,x,H',g',he,hk x H' hx,aF,hr⟩
 ·exact .inr ⟨v,H',g',he,hk _ H' hx,aF⟩
def FrzK (H:Heap)(S:Nat→Bool)(c c':C):Prop:=c'=c∨(c.ah=false∧FrzC H S c c')
inductive FrzO (H:Heap)(S:Nat→Bool):Obj→Obj→Prop
 |same (o:Obj):FrzO H S o o
 |st (cells cells':List C) (hl:cells'.length=cells.length) (h:∀(j:Nat) (c c':C),cells[j]? = some c→cells'[j]? = some c'→FrzK H S c c'):FrzO H S (.st cells) (.st cells')
 |vec (sz:Nat) (rows rows':List (List C)) (hl:rows'.length=rows.length) (hr:∀(i:Nat) (r r':List C),rows[i]? = some r→rows'[i]? = some r'→r'.length=r.length)
   (h:∀(i:Nat) (r r':List C) (j:Nat) (c c':C),rows[i]? = some r→rows'[i]? = some r'→r[j]? = some c→r'[j]? = some c'→FrzK H S c c'):FrzO H S (.vec sz rows) (.vec sz rows')
def FrzH (H:Heap)(S:Nat→Bool)(H':Heap):Prop:=∀m,(S m=true∧H' m=.none)∨(S m=false∧FrzO H S (H m) (H' m))
theorem K1 (H:Heap)(S:Nat→Bool):FrzH H S (H.frz S):=fun m=>by
 cases h:S m with
 |true=>exact .inl ⟨rfl,by simp[Heap.frz,h]⟩
 |false=>exact .inr ⟨rfl,by simp[Heap.frz,h];exact .same _⟩
theorem FrzH.set {S:Nat→Bool}{H':Heap}(h:FrzH H S H'){l:Nat}{o:Obj}(hl:S l=false)(ho:FrzO H S (H l) o):FrzH H S (H'.set l o):=fun m=>by
 by_cases hm:m=l
 ·subst hm;rw[Heap.ay];exact .inr ⟨hl,ho⟩
 ·rw[Heap.af _ _ hm];exact h m
theorem KC (hs:Sat H g w){S:Nat→Bool}{H':Heap}(h:FrzH H S H'):Stp H g w H' (g.frz H S) w:=by
 have h0:=D1 hs S;have a9:=h0.le;have bD:∀m,S m=false→AR g w (g.frz H S) w m:=fun m hm=>Pg (by simp[hm]);have rP:∀(l:Nat) (p:List Nat) (c c':C) (v:Value),S l=false→FrzK H S c c'→RepO w g l p c v→RepO w (g.frz H S) l p c' v:=by
  intro l p c c' v hl hk hr;rcases hk with rfl|⟨h1,h2⟩
  ·exact hr.move a9 fun q b hb=>⟨(bD l hl b _ hb).1,rfl⟩
  ·exact .plain _ _ _ _ ((FQ hs h2).1 v (hr.plain_of fun sz rows hc=>by subst hc;simp[C.ah]at h1))
 refine⟨a9,fun m hm hn=>?_,⟨h0.sat.fresh,h0.sat.names,h0.sat.excl,h0.sat.named,fun m=>?_⟩⟩
 ·refine⟨?_,Pg (by rw[hn];simp[Obj.used])⟩;rcases h m with ⟨_,h1⟩|⟨_,h1⟩
  ·exact h1
  ·rw[hn]at h1;generalize H' m=o at h1;cases h1;rfl
 ·rcases h m with ⟨_,h1⟩|⟨hS,h1⟩
  ·rw[h1];exact trivial
  ·have ho:=hs.objs m;generalize hA:H m=A at h1 ho;generalize hB:H' m=B at h1
   cases h1 with
   |same=>
    have:=SatObj.keep (H':=H') hs a9 (bD m hS) (hB.trans hA.symm) fun m' v left cur hc v' es hv=>?_
    ·rw[hB]at this;exact this
    ·rcases h m' with ⟨_,h2⟩|⟨ox,h2⟩
     ·rw[h2]at hv;simp at hv
     ·rw[hv]at h2;generalize hA':H m'=A' at h2;cases h2;exact .inl ⟨rfl,bD m' ox⟩
   |st cells cells' hl hc=>
    obtain⟨b,sz,T,cs,r1,r2,r3,r4,r5⟩:=ho;refine⟨b,sz,T,cs,r1,(bD m hS b _ r2).1,r3,by rw[hl];exact r4,fun k c' v bK hv=>?_⟩;obtain⟨c,cg⟩:=AP hl bK;exact rP _ _ c c' v hS (hc k c c' cg bK) (r5 k c v cg hv)
   |vec sz rows rows' hl hr hc=>
    rcases ho with ⟨r1,r2⟩|⟨b,base,T,cs,val,r1,r2,r3,r4,r5,r6,r7,r8⟩
    ·refine .inl ⟨?_,r2⟩;subst r1;exact Jk.1 hl
    ·refine .inr ⟨b,base,T,cs,val,r1,(bD m hS b _ r2).1,r3,by rw[hl];exact r4,by rw[hl];exact r5,fun i r' aP=>?_,fun i r' j c' aP bK=>?_,fun i r' j c' aP bK=>?_⟩
     ·obtain⟨r,bM⟩:=AP hl aP;rw[hr i r r' bM aP];exact r6 i r bM
     ·obtain⟨r,bM⟩:=AP hl aP;obtain⟨c,cg⟩:=AP (hr i r r' bM aP) bK;exact r7 i r j c bM cg
     ·obtain⟨r,bM⟩:=AP hl aP;obtain⟨c,cg⟩:=AP (hr i r r' bM aP) bK;exact rP _ _ c c' _ hS (hc i r r' j c c' bM aP cg bK) (r8 i r j c bM cg)
abbrev finK (K:V→Heap→Prop):V→Heap→Prop
 |.pn v,H'=>K (.pn v) H'
 |x,H'=>∃S x' H2,FrzV H' S x x'∧FrzH H' S H2∧K x' H2
theorem Qb0x {K:V→Heap→Prop}{x:C}:finK K (.c x) H=∃S x' H2,FrzV H S (.c x) x'∧FrzH H S H2∧K x' H2:=rfl
theorem Vf {K:V→Heap→Prop}{x:List C}:finK K (.ag x) H=∃S x' H2,FrzV H S (.ag x) x'∧FrzH H S H2∧K x' H2:=rfl
theorem Yl {K:V→Heap→Prop}{x:List V}:finK K (.tup x) H=∃S x' H2,FrzV H S (.tup x) x'∧FrzH H S H2∧K x' H2:=rfl
theorem Ve {K:V→Heap→Prop}{v:Value}:finK K (.pn v) H=K (.pn v) H:=rfl
attribute [go_sem] Qb0x Vf Yl Ve
theorem Yk {K:V→Heap→Prop}{x:V}{v:Value}(h:finK K x H)(hr:RepV w g x v):∃S x' H2,FrzV H S x x'∧FrzH H S H2∧K x' H2:=by
 cases hr <;> exact h
theorem Qbor {f:Nat}{args:List V}{K:V→Heap→Prop}(h:Qi P f args H (finK K)):Qi P f args H K:=by
 refine⟨h.1,fun g w vs hs hl hv=>?_⟩;refine Calls.mono (h.2 g w vs hs hl hv) ?_;rintro e w' (⟨v,x,H',g',he,hx,aF,hr⟩|⟨v,H',g',he,hx,aF⟩)
 ·obtain⟨S,x',H2,hf,hh,hk⟩:=Yk hx hr;exact .inl ⟨v,x',H2,g'.frz H' S,he,hk,aF.trans (KC aF.sat hh),DC aF.sat hf v hr⟩
 ·exact .inr ⟨v,H',g',he,hx,aF⟩
theorem Rm {e e':Env}(S:Nat→Bool){H2:Heap}(h:∀t,FrzV H S (lk t e) (lk t e'))(hh:FrzH H S H2):FE e H e' H2:=by
 intro g w tmps hs hr;exact⟨g.frz H S,KC hs hh,fun t=>DC hs (h t) _ (hr t)⟩
def un (H:Heap)(m:Nat):Bool:=!(H m).used
theorem IU {m:Nat}(h:H m≠.none):un H m=false:=by
 unfold un;cases hm:H m <;> first|rfl|exact absurd hm h
theorem DR {m:Nat}(h:H m=.none):un H m=true:=by simp[un,h,Obj.used]
theorem D0 {H':Heap}{m:Nat}(h:H m≠.none):H'.frz (un H) m=H' m:=by simp[Heap.frz,IU h]
def C.plain:C→Bool
 |.int _ _|.bool _|.str _|.sl _ _ _|.pp _|.pnil|.mnil|.slb _|.stb _|.cm _ _ _|.fnil|.unk=>true
 |_=>false
theorem Qj {S:Nat→Bool}{c:C}(h:c.plain=true):FrzC H S c c:=.same c (by cases c <;> simp_all[C.plain,C.ah])
theorem TW {S:Nat→Bool}{fl:Bool}{sz:Nat}{rows:List (List C)}(hr:∀r∈rows,∀c∈r,c.ah=false):FrzC H S (.sl fl sz rows) (.sl false sz rows):=by
 refine .sl fl sz rows rows rfl (fun i r r' h1 h2=>by rw[h1]at h2;simp at h2;rw[h2]) (fun i r r' j c c' h1 h2 h3 h4=>?_);rw[h1]at h2;simp at h2;subst h2;rw[h3]at h4;simp at h4;subst h4;exact .same _ (hr r (Jb h1) c (Jb h3))
inductive FrzL (H:Heap)(S:Nat→Bool):List C→List C→Prop
 |nil:FrzL H S [] []
 |cons {c c':C} {l l':List C} (h:FrzC H S c c') (t:FrzL H S l l'):FrzL H S (c::l) (c'::l')
theorem FrzL.spec {S:Nat→Bool}{l l':List C}(h:FrzL H S l l'):l'.length=l.length∧∀(j:Nat) (c c':C),l[j]? = some c→l'[j]? = some c'→FrzC H S c c':=by
 induction h with
 |nil=>exact⟨rfl,fun j c c' h=>by simp at h⟩
 |cons h t ih=>
  refine⟨by simp[ih.1],fun j c c' h1 h2=>?_⟩
  cases j with
  |zero=>simp at h1 h2;subst h1;subst h2;exact h
  |succ j=>simp at h1 h2;exact ih.2 j c c' h1 h2
theorem FrzL.ag {S:Nat→Bool}{l l':List C}(h:FrzL H S l l'):FrzV H S (.ag l) (.ag l'):=.ag _ _ h.spec.1 h.spec.2
end Go.AE
namespace Go.AE
variable {P:Program}{H0 H H':Heap}{E L:List (Nat×Obj)}
structure Kn (H0 H:Heap)(E L:List (Nat×Obj)):Prop where
 get:∀p∈E++L,H p.1=p.2∧p.2≠.none
 ext:∀p∈E,H0 p.1≠.none
 loc:∀p∈L,H0 p.1=.none
 dE:(E.map Prod.fst).Nodup
 dL:(L.map Prod.fst).Nodup
 chg:∀m,H0 m≠.none→m∉E.map Prod.fst→H m=H0 m
def Upd (H H':Heap)(U:List (Nat×Obj)):Prop:=(∀p∈U,H' p.1=p.2)∧∀m,H m≠.none→m∉U.map Prod.fst→H' m=H m
theorem Kn.aw (H:Heap):Kn H H [] []:=⟨by simp,by simp,by simp,by simp,by simp,fun _ _ _=>rfl⟩
theorem Kn.start1 {l:Nat}{o:Obj}(h:H l=o)(ho:o≠.none):Kn H H [(l,o)] []:=
 ⟨by simp[h,ho],by simp[h,ho],by simp,by simp,by simp,fun _ _ _=>rfl⟩
theorem Kn.start2 {l m:Nat}{o q:Obj}(h:H l=o)(ho:o≠.none)(h2:H m=q)(hq:q≠.none)(hn:l≠m):Kn H H [(l,o),(m,q)] []:=
 ⟨by simp[h,ho,h2,hq],by simp[h,ho,h2,hq],by simp,by simp[hn],by simp,fun _ _ _=>rfl⟩
theorem Kn.e (hk:Kn H0 H E L)(i:Nat){l:Nat}{o:Obj}(h:E[i]? = some (l,o)):H l=o:=
 (hk.get (l,o) (Jc _ (Jb h))).1
theorem Kn.l (hk:Kn H0 H E L)(i:Nat){l:Nat}{o:Obj}(h:L[i]? = some (l,o)):H l=o:=
 (hk.get (l,o) (Jg _ (Jb h))).1
theorem Kn.free (hk:Kn H0 H E L)(i:Nat){l:Nat}{o:Obj}(h:L[i]? = some (l,o)):H0 l=.none:=hk.loc (l,o) (Jb h)
theorem Kn.usedE (hk:Kn H0 H E L)(i:Nat){l:Nat}{o:Obj}(h:E[i]? = some (l,o)):H0 l≠.none:=hk.ext (l,o) (Jb h)
theorem Kn.ne (hk:Kn H0 H E L)(i j:Nat){l m:Nat}{o q:Obj}(h:E[i]? = some (l,o))(h2:L[j]? = some (m,q)):l≠m:=fun hh=>by
 subst hh;exact hk.usedE i h (hk.free j h2)
theorem BO {L:List (Nat×Obj)}{p:Nat×Obj}(h:p∈L):p.1∈L.map Prod.fst:=List.mem_map_of_mem h
theorem Fs {L:List (Nat×Obj)}(hd:(L.map Prod.fst).Nodup){i j:Nat}{p q:Nat×Obj}(hi:L[i]? = some p)(hj:L[j]? = some q)(h:p.1=q.1):i=j:=by
 have h1:(L.map Prod.fst)[i]? = some p.1:=by simp[hi]
 have h2:(L.map Prod.fst)[j]? = some q.1:=by simp[hj]
 have aa:i<(L.map Prod.fst).length:=(Jr.1 h1).1;exact (List.getElem?_inj aa hd).1 (by rw[h1,h2,h])
theorem Kn.neL (hk:Kn H0 H E L)(i j:Nat){l m:Nat}{o q:Obj}(h:L[i]? = some (l,o))(h2:L[j]? = some (m,q))(jZ:i≠j):l≠m:=fun hh=>
 jZ (Fs hk.dL h h2 hh)
theorem Kn.newFree (hk:Kn H0 H E L){x:Nat}(hx:H x=.none):H0 x=.none∧x∉E.map Prod.fst∧x∉L.map Prod.fst:=by
 have bg:∀p∈E++L,p.1≠x:=fun p hp hh=>by
  obtain⟨h1,h2⟩:=hk.get p hp;rw[hh,hx]at h1;exact h2 h1.symm
 have hE:x∉E.map Prod.fst:=fun h=>by
  obtain⟨p,hp,hh⟩:=Jo.1 h;exact bg p (Jc _ hp) hh
 refine⟨?_,hE,fun h=>?_⟩
 ·cases h0:H0 x with
  |none=>rfl
  |_=>have:=hk.chg x (by rw[h0];simp) hE;rw[hx,h0]at this;simp at this
 ·obtain⟨p,hp,hh⟩:=Jo.1 h;exact bg p (Jg _ hp) hh
theorem Kn.alloc (hk:Kn H0 H E L){x:Nat}{o:Obj}(hx:H x=.none)(ho:o≠.none):Kn H0 (H.set x o) E (L++[(x,o)]):=by
 obtain⟨h1,h2,h3⟩:=hk.newFree hx;refine⟨fun p hp=>?_,hk.ext,fun p hp=>?_,hk.dE,?_,fun m hm hn=>?_⟩
 ·rw[←Jp]at hp;rcases Je.1 hp with hp|hp
  ·have:p.1≠x:=fun hh=>by
    rcases Je.1 hp with hp|hp
    ·exact h2 (hh▸BO hp)
    ·exact h3 (hh▸BO hp)
   rw[Heap.af _ _ this];exact hk.get p hp
  ·simp at hp;subst hp;exact⟨Heap.ay _ _ _,ho⟩
 ·rcases Je.1 hp with hp|hp
  ·exact hk.loc p hp
  ·simp at hp;subst hp;exact h1
 ·rw[J9];refine J0.2 ⟨hk.dL,by simp,fun a ha b hb=>?_⟩;simp at hb;subst hb;exact fun hh=>h3 (hh▸ha)
 ·have:m≠x:=fun hh=>by subst hh;exact hm h1
  rw[Heap.af _ _ this];exact hk.chg m hm hn
theorem Il {L:List (Nat×Obj)}{i:Nat}{x:Nat}{o o':Obj}(h:L[i]? = some (x,o)):(L.set i (x,o')).map Prod.fst=L.map Prod.fst:=by
 rw[Ja6];refine List.ext_getElem? fun j=>?_;rw[Jau];split
 ·rename_i jZ
  subst jZ;have aa:=(Jr.1 h).1;rw[if_pos (by simpa using aa)];simp[h]
 ·rfl
theorem DW {α:Type}{L:List α}{i:Nat}{x p:α}(h:p∈L.set i x):p=x∨∃j,j≠i∧L[j]? = some p:=by
 obtain⟨j,hj⟩:=List.getElem?_of_mem h;rw[Jau]at hj;split at hj
 ·split at hj
  ·simp at hj;exact .inl hj.symm
  ·simp at hj
 ·rename_i hn;exact .inr ⟨j,fun h=>hn h.symm,hj⟩
theorem Kn.setL (hk:Kn H0 H E L)(i:Nat){x:Nat}{o o':Obj}(h:L[i]? = some (x,o))(ho:o'≠.none):Kn H0 (H.set x o') E (L.set i (x,o')):=by
 have hf:=hk.free i h;refine⟨fun p hp=>?_,hk.ext,fun p hp=>?_,hk.dE,by rw[Il h];exact hk.dL,fun m hm hn=>?_⟩
 ·rcases Je.1 hp with hp|hp
  ·have:p.1≠x:=fun hh=>hk.ext p hp (hh▸hf);rw[Heap.af _ _ this];exact hk.get p (Jc _ hp)
  ·rcases DW hp with rfl|⟨j,hj,hp⟩
   ·exact⟨Heap.ay _ _ _,ho⟩
   ·have:p.1≠x:=fun hh=>hj (Fs hk.dL hp h hh);rw[Heap.af _ _ this];exact hk.get p (Jg _ (Jb hp))
 ·rcases DW hp with rfl|⟨j,hj,hp⟩
  ·exact hf
  ·exact hk.loc p (Jb hp)
 ·have:m≠x:=fun hh=>by subst hh;exact hm hf
  rw[Heap.af _ _ this];exact hk.chg m hm hn
theorem Kn.setE (hk:Kn H0 H E L)(i:Nat){x:Nat}{o o':Obj}(h:E[i]? = some (x,o))(ho:o'≠.none):Kn H0 (H.set x o') (E.set i (x,o')) L:=by
 have hf:=hk.usedE i h;refine⟨fun p hp=>?_,fun p hp=>?_,hk.loc,by rw[Il h];exact hk.dE,hk.dL,fun m hm hn=>?_⟩
 ·rcases Je.1 hp with hp|hp
  ·rcases DW hp with rfl|⟨j,hj,hp⟩
   ·exact⟨Heap.ay _ _ _,ho⟩
   ·have:p.1≠x:=fun hh=>hj (Fs hk.dE hp h hh);rw[Heap.af _ _ this];exact hk.get p (Jc _ (Jb hp))
  ·have:p.1≠x:=fun hh=>hf (hh▸hk.loc p hp);rw[Heap.af _ _ this];exact hk.get p (Jg _ hp)
 ·rcases DW hp with rfl|⟨j,hj,hp⟩
  ·exact hf
  ·exact hk.ext p (Jb hp)
 ·rw[Il h]at hn;have:m≠x:=fun hh=>by subst hh;exact hn (BO (p:=(m,o)) (Jb h))
  rw[Heap.af _ _ this];exact hk.chg m hm hn
theorem Kn.app (hk:Kn H0 H E L)(i:Nat){y y':Nat}{o o':Obj}(h:L[i]? = some (y,o))(hy:(H.set y .none) y'=.none)(ho:o'≠.none) :
  Kn H0 ((H.set y .none).set y' o') E (L.set i (y',o')):=by
 have hf:=hk.free i h;have kl:H0 y'=.none∧y'∉E.map Prod.fst∧∀(j:Nat) (p:Nat×Obj),j≠i→L[j]? = some p→p.1≠y':=by
  by_cases ru:y'=y
  ·subst ru;refine⟨hf,fun hh=>?_,fun j p hj hp hh=>hj (Fs hk.dL hp h hh)⟩;obtain⟨p,hp,hh⟩:=Jo.1 hh;exact hk.ext p hp (hh▸hf)
  ·rw[Heap.af _ _ ru]at hy;obtain⟨h1,h2,h3⟩:=hk.newFree hy;exact⟨h1,h2,fun j p hj hp hh=>h3 (hh▸BO (Jb hp))⟩
 obtain⟨h1,h2,h3⟩:=kl;refine⟨fun p hp=>?_,hk.ext,fun p hp=>?_,hk.dE,?_,fun m hm hn=>?_⟩
 ·rcases Je.1 hp with hp|hp
  ·have a1:p.1≠y:=fun hh=>hk.ext p hp (hh▸hf);have a2:p.1≠y':=fun hh=>hk.ext p hp (hh▸h1);rw[Heap.af _ _ a2,Heap.af _ _ a1];exact hk.get p (Jc _ hp)
  ·rcases DW hp with rfl|⟨j,hj,hp⟩
   ·exact⟨Heap.ay _ _ _,ho⟩
   ·have a1:p.1≠y:=fun hh=>hj (Fs hk.dL hp h hh);rw[Heap.af _ _ (h3 j p hj hp),Heap.af _ _ a1];exact hk.get p (Jg _ (Jb hp))
 ·rcases DW hp with rfl|⟨j,hj,hp⟩
  ·exact h1
  ·exact hk.loc p (Jb hp)
 ·rw[Ja6];refine Jaf.2 fun a b ha hb eU=>?_;rw[List.length_set,List.length_map]at ha hb;have gl:∀(j:Nat) (hj:j<L.length),j≠i→L[j].1≠y':=fun j hj rZ=>h3 j L[j] rZ (Jt hj);have hd:=Jaf.1 hk.dL a b (by simpa using ha) (by simpa using hb) eU;simp only[List.getElem_set,List.getElem_map]at hd⊢;by_cases e1:i=a
  ·subst e1;rw[if_pos rfl,if_neg (by omega)];exact fun hh=>gl b hb (by omega) hh.symm
  ·rw[if_neg e1];by_cases e2:i=b
   ·subst e2;rw[if_pos rfl];exact gl a ha (by omega)
   ·rw[if_neg e2];exact hd
 ·have a1:m≠y:=fun hh=>by subst hh;exact hm hf
  have a2:m≠y':=fun hh=>by subst hh;exact hm h1
  rw[Heap.af _ _ a2,Heap.af _ _ a1];exact hk.chg m hm hn
theorem Kn.callg (hk:Kn H0 H E L){U E2 L2:List (Nat×Obj)}(hu:Upd H H' U)(hE:E2.map Prod.fst=E.map Prod.fst)(hL:L2.map Prod.fst=L.map Prod.fst)
  (h:∀p∈E2++L2,p.2≠.none∧(p∈U∨(p∈E++L∧p.1∉U.map Prod.fst))) (hU:∀u∈U,u.1∈E.map Prod.fst∨u.1∈L.map Prod.fst):Kn H0 H' E2 L2:=by
 have cI:∀{A B:List (Nat×Obj)} {p:Nat×Obj},B.map Prod.fst=A.map Prod.fst→p∈B→∃q∈A,q.1=p.1:=fun mg hp=>by
  have:=BO hp;rw[mg]at this;obtain⟨q,h1,h2⟩:=Jo.1 this;exact⟨q,h1,h2⟩
 refine⟨fun p hp=>?_,fun p hp=>?_,fun p hp=>?_,by rw[hE];exact hk.dE,by rw[hL];exact hk.dL,fun m hm hn=>?_⟩
 ·obtain⟨h1,h2⟩:=h p hp;refine⟨?_,h1⟩;rcases h2 with h2|⟨h2,h3⟩
  ·exact hu.1 p h2
  ·obtain⟨a1,a2⟩:=hk.get p h2;rw[hu.2 p.1 (by rw[a1];exact a2) h3,a1]
 ·obtain⟨q,hq,hh⟩:=cI hE hp;rw[←hh];exact hk.ext q hq
 ·obtain⟨q,hq,hh⟩:=cI hL hp;rw[←hh];exact hk.loc q hq
 ·rw[hE]at hn;have h0:=hk.chg m hm hn;rw[hu.2 m (by rw[h0];exact hm) (fun hh=>?_),h0];obtain⟨u,oA,bU⟩:=Jo.1 hh;rcases hU u oA with a|a
  ·exact hn (bU▸a)
  ·obtain⟨q,hq,hh⟩:=Jo.1 a;exact hm (by rw[←bU,←hh];exact hk.loc q hq)
theorem Kn.aI (hk:Kn H0 H E L)(hu:Upd H H' []):Kn H0 H' E L:=hk.callg hu rfl rfl (fun p hp=>⟨(hk.get p hp).2,.inr ⟨hp,by simp⟩⟩) (by simp)
theorem Kn.fU (hk:Kn H0 H E L)(i:Nat){l:Nat}{o o':Obj}(h:E[i]? = some (l,o))(hu:Upd H H' [(l,o')])(ho:o'≠.none):Kn H0 H' (E.set i (l,o')) L:=by
 refine hk.callg hu (Il h) rfl (fun p hp=>?_) (fun u hu=>by simp at hu;subst hu;exact .inl (BO (p:=(l,o)) (Jb h)));rcases Je.1 hp with hp|hp
 ·rcases DW hp with rfl|⟨j,hj,hp⟩
  ·exact⟨ho,.inl (by simp)⟩
  ·have hm:=Jc L (Jb hp);exact⟨(hk.get p hm).2,.inr ⟨hm,by simp;exact fun hh=>hj (Fs hk.dE hp h hh)⟩⟩
 ·have hm:=Jg E hp;exact⟨(hk.get p hm).2,.inr ⟨hm,by simp;exact fun hh=>hk.usedE i h (hh▸hk.loc p hp)⟩⟩
theorem Kn.callL (hk:Kn H0 H E L)(i:Nat){l:Nat}{o o':Obj}(h:L[i]? = some (l,o))(hu:Upd H H' [(l,o')])(ho:o'≠.none):Kn H0 H' E (L.set i (l,o')):=by
 refine hk.callg hu rfl (Il h) (fun p hp=>?_) (fun u hu=>by simp at hu;subst hu;exact .inr (BO (p:=(l,o)) (Jb h)));rcases Je.1 hp with hp|hp
 ·have hm:=Jc L hp;exact⟨(hk.get p hm).2,.inr ⟨hm,by simp;exact fun hh=>hk.ext p hp (hh▸hk.free i h)⟩⟩
 ·rcases DW hp with rfl|⟨j,hj,hp⟩
  ·exact⟨ho,.inl (by simp)⟩
  ·have hm:=Jg E (Jb hp);exact⟨(hk.get p hm).2,.inr ⟨hm,by simp;exact fun hh=>hj (Fs hk.dL hp h hh)⟩⟩
theorem Kn.fin (hk:Kn H0 H E L):Upd H0 (H.frz (Go.AE.un H0)) E:=by
 refine⟨fun p hp=>?_,fun m hm hn=>?_⟩
 ·rw[D0 (hk.ext p hp)];exact (hk.get p (Jc _ hp)).1
 ·rw[D0 hm];exact hk.chg m hm hn
abbrev unK (H:Heap)(K:V→Heap→Prop):V→Heap→Prop
 |.pn v,H'=>K (.pn v) (H'.frz (un H))
 |x,H'=>∃x',FrzV H' (un H) x x'∧K x' (H'.frz (un H))
theorem Qb3s {K:V→Heap→Prop}{H0:Heap}{x:C}:unK H0 K (.c x) H=∃x',FrzV H (un H0) (.c x) x'∧K x' (H.frz (un H0)):=rfl
theorem Qb18 {K:V→Heap→Prop}{H0:Heap}{x:List C}:unK H0 K (.ag x) H=∃x',FrzV H (un H0) (.ag x) x'∧K x' (H.frz (un H0)):=rfl
theorem TN {K:V→Heap→Prop}{H0:Heap}{x:List V}:unK H0 K (.tup x) H=∃x',FrzV H (un H0) (.tup x) x'∧K x' (H.frz (un H0)):=rfl
theorem TM {K:V→Heap→Prop}{H0:Heap}:unK H0 K .unk H=∃x',FrzV H (un H0) .unk x'∧K x' (H.frz (un H0)):=rfl
theorem Qb19 {K:V→Heap→Prop}{H0:Heap}{v:Value}:unK H0 K (.pn v) H=K (.pn v) (H.frz (un H0)):=rfl
attribute [go_sem] Qb3s Qb18 TN TM Qb19
theorem A0 {f:Nat}{args:List V}{K:V→Heap→Prop}(h:Qi P f args H (unK H K)):Qi P f args H K:=
 Gm (GL h fun x H' hx=>by
  cases x with
  |pn v=>exact⟨un H,hx⟩
  |_=>
   obtain⟨x',h1,h2⟩:=hx;exact⟨un H,x',h1,h2⟩)
theorem Kn.al (hk:Kn H0 H E L){x:Nat}{o:Obj}(hx:H x=.none)(h1:H'=H.set x o)(ho:o≠.none:=by nofun):Kn H0 H' E (L++[(x,o)]):=h1▸hk.alloc hx ho
theorem Kn.aT (hk:Kn H0 H E L)(i:Nat){x:Nat}{o o':Obj}(h:L[i]? = some (x,o))(h1:H'=H.set x o')(ho:o'≠.none:=by nofun):Kn H0 H' E (L.set i (x,o')):=h1▸hk.setL i h ho
theorem Kn.stE (hk:Kn H0 H E L)(i:Nat){x:Nat}{o o':Obj}(h:E[i]? = some (x,o))(h1:H'=H.set x o')(ho:o'≠.none:=by nofun):Kn H0 H' (E.set i (x,o')) L:=h1▸hk.setE i h ho
theorem Kn.ap (hk:Kn H0 H E L)(i:Nat){y y':Nat}{o o':Obj}(h:L[i]? = some (y,o))(hy:(H.set y .none) y'=.none)(h1:H'=(H.set y .none).set y' o')(ho:o'≠.none:=by nofun):Kn H0 H' E (L.set i (y',o')):=h1▸hk.app i h hy ho
end Go.AE
namespace Go.AE.Y
theorem Ql {x:Int}(h1:-(2^63)≤x:=by omega)(h2:x<2^63:=by omega):inR .i64 x:=by
 unfold inR;have a1:IntKind.min .i64=-(2^63):=by decide
 have a2:IntKind.max .i64=2^63-1:=by decide
 rw[a1,a2];omega
def VH (bs:List UInt8):List (List C):=bs.map fun b=>[.int .u8 b.toNat]
structure Rdr where
 l:Nat
 fl:Bool
 bs:List UInt8
def Rdr.o (R:Rdr)(k:Nat):Obj:=.st [.sl R.fl 1 (VH R.bs),.int .i64 k]
def intsOf (ns:List Int):List (List C):=ns.map fun n=>[.int .i64 n]
theorem Qm (ns:List Int):(intsOf ns).length=ns.length:=by simp[intsOf]
theorem Cy (ns:List Int)(i:Nat)(h:i<ns.length):(intsOf ns).getD i []=[.int .i64 (ns.getD i 0)]:=by
 simp[intsOf,Jj,h]
theorem HB (a b:List Int):intsOf (a++b)=intsOf a++intsOf b:=by simp[intsOf]
theorem BD (ns:List Int):∀r∈intsOf ns,ar r=true:=by
 intro r hr;simp[intsOf]at hr;obtain⟨n,_,rfl⟩:=hr;rfl
def Q3 (ss:List (List UInt8)):List (List C):=ss.map fun s=>[.str s]
theorem Qs (ss:List (List UInt8)):(Q3 ss).length=ss.length:=by simp[Q3]
theorem Dk (ss:List (List UInt8))(i:Nat)(h:i<ss.length):(Q3 ss).getD i []=[.str (ss.getD i [])]:=by
 simp[Q3,Jj,h]
theorem Qboc:Q3 []=[]:=rfl
theorem Qbjt (n:List UInt8)(r:List (List UInt8)):Q3 (n::r)=[.str n]::Q3 r:=rfl
theorem GZ (a:List (List UInt8))(n:List UInt8):Q3 a++[[.str n]]=Q3 (a++[n]):=by simp[Q3]
theorem Pk (ns:List (List UInt8)):∀r∈Q3 ns,ar r=true:=by
 intro r hr;simp[Q3]at hr;obtain⟨n,_,rfl⟩:=hr;rfl
theorem Xy {rows:List (List C)}(h:∀r∈rows,ar r=true):∀r∈rows,∀c∈r,c.ah=false:=fun r hr c hc=>by
 have:=h r hr;simp only[ar,Jn]at this;simpa using this c hc
inductive Ex where
 |mk (op n:Int) (name:List UInt8) (kids:List Ex)
def Ex.op:Ex→Int|.mk op _ _ _=>op
def Ex.n:Ex→Int|.mk _ n _ _=>n
def Ex.name:Ex→List UInt8|.mk _ _ s _=>s
def Ex.kids:Ex→List Ex|.mk _ _ _ k=>k
mutual
def Ex.cells:Ex→List C
 |.mk op n name kids=>[.int .i64 op,.int .i64 n,.str name,.sl false 4 (Af kids)]
def Af:List Ex→List (List C)
 |[]=>[]
 |x::r=>x.cells::Af r
end
theorem Ex.ab (x:Ex):x.cells=[.int .i64 x.op,.int .i64 x.n,.str x.name,.sl false 4 (Af x.kids)]:=by
 cases x;simp[Ex.cells,Ex.op,Ex.n,Ex.name,Ex.kids]
theorem Fw (l:List Ex):Af l=l.map Ex.cells:=by
 induction l with
 |nil=>simp[Af]
 |cons x r ih=>simp[Af,ih]
theorem Qt (l:List Ex):(Af l).length=l.length:=by simp[Fw]
theorem B7 (l:List Ex)(i:Nat)(h:i<l.length):(Af l).getD i []=(l[i]'h).cells:=by
 simp[Fw,Jj,h]
theorem Ru (a:List Ex)(x:Ex):Af a++[x.cells]=Af (a++[x]):=by simp[Fw]
theorem Ex.ar (x:Ex):Go.AE.ar x.cells=true:=by rw[x.ab];rfl
theorem Ij (l:List Ex):∀r∈Af l,Go.AE.ar r=true:=by
 intro r hr;rw[Fw]at hr;obtain⟨x,_,rfl⟩:=Jo.1 hr;exact x.ar
theorem Ex.aj (x:Ex):x.cells.length=4:=by rw[x.ab];rfl
mutual
def Ex.size:Ex→Nat
 |.mk _ _ _ kids=>1+Q4 kids
def Q4:List Ex→Nat
 |[]=>0
 |x::r=>x.size+Q4 r
end
mutual
def Ex.ok:Ex→Prop
 |.mk op _ _ kids=>(op=10→kids.length=2)∧BK kids
def BK:List Ex→Prop
 |[]=>True
 |x::r=>x.ok∧BK r
end
theorem DT {l:List Ex}(h:BK l):∀x∈l,x.ok:=by
 induction l with
 |nil=>simp
 |cons y r ih=>
  simp only[BK]at h;intro x hx;rcases Jh.1 hx with rfl|hx
  ·exact h.1
  ·exact ih h.2 x hx
theorem Q9i (a b:List Ex):Q4 (a++b)=Q4 a+Q4 b:=by
 induction a with
 |nil=>simp[Q4]
 |cons x r ih=>simp[Q4,ih];omega
theorem Ex.size_pos (x:Ex):1≤x.size:=by cases x;simp[Ex.size]
theorem B0 {l:List Ex}{x:Ex}(h:x∈l):x.size≤Q4 l:=by
 induction l with
 |nil=>simp at h
 |cons y r ih=>
  simp only[Q4];rcases Jh.1 h with rfl|h
  ·omega
  ·have:=ih h;omega
theorem Ex.size_kids (x:Ex):x.size=1+Q4 x.kids:=by cases x;simp[Ex.size,Ex.kids]
theorem Ex.ok_kids {x:Ex}(h:x.ok):BK x.kids:=by cases x;simp only[Ex.ok]at h;exact h.2
theorem Ex.ok_and {x:Ex}(h:x.ok)(h1:x.op=10):x.kids.length=2:=by cases x;simp only[Ex.ok]at h;exact h.1 h1
theorem Ex.frz {H:Heap}{S:Nat→Bool}{fl:Bool}(x:Ex):FrzV H S (.ag [.int .i64 x.op,.int .i64 x.n,.str x.name,.sl fl 4 (Af x.kids)]) (.ag x.cells):=by
 rw[x.ab];exact (FrzL.cons (Qj rfl) (FrzL.cons (Qj rfl) (FrzL.cons (Qj rfl) (FrzL.cons (TW (Xy (Ij _))) FrzL.nil)))).ag
variable {H:Heap}{S:Nat→Bool}
inductive FrzR (H:Heap)(S:Nat→Bool):List (List C)→List (List C)→Prop
 |nil:FrzR H S [] []
 |cons {r r':List C} {l l':List (List C)} (h:FrzL H S r r') (t:FrzR H S l l'):FrzR H S (r::l) (r'::l')
theorem FrzR.spec {l l':List (List C)}(h:FrzR H S l l'):l'.length=l.length∧∀(i:Nat) (r r':List C),l[i]? = some r→l'[i]? = some r'→FrzL H S r r':=by
 induction h with
 |nil=>exact⟨rfl,fun j c c' h=>by simp at h⟩
 |cons h t ih=>
  refine⟨by simp[ih.1],fun j c c' h1 h2=>?_⟩
  cases j with
  |zero=>simp at h1 h2;subst h1;subst h2;exact h
  |succ j=>simp at h1 h2;exact ih.2 j c c' h1 h2
theorem FrzR.sl {fl:Bool}{sz:Nat}{l l':List (List C)}(h:FrzR H S l l'):FrzC H S (.sl fl sz l) (.sl false sz l'):=
 .sl fl sz l l' h.spec.1 (fun i r r' h1 h2=>(h.spec.2 i r r' h1 h2).spec.1) fun i r r' j c c' h1 h2 h3 h4=>(h.spec.2 i r r' h1 h2).spec.2 j c c' h3 h4
theorem FrzR.aG {l sz n:Nat}{rows rows':List (List C)}(hS:S l=true)(hH:H l=.vec sz rows)(hn:n=rows.length)(h:FrzR H S rows rows'):FrzC H S (.aG l sz 0 n) (.sl false sz rows'):=by
 subst hn;exact .aG l sz 0 rows.length rows rows rows' hS hH (by omega) (by simp) h.spec.1 (fun i r r' h1 h2=>(h.spec.2 i r r' h1 h2).spec.1) fun i r r' j c c' h1 h2 h3 h4=>(h.spec.2 i r r' h1 h2).spec.2 j c c' h3 h4
end Go.AE.Y
namespace Go.AE
open Go.AE.Y
variable {H:Heap}{S:Nat→Bool}
theorem FrzL.same {l:List C}(h:ar l=true):FrzL H S l l:=by
 induction l with
 |nil=>exact .nil
 |cons c r ih=>
  simp only[ar,Ju,Ja,Jw]at h ih;exact .cons (.same _ h.1) (ih (by simpa using h.2))
end Go.AE
namespace Go.AE.Y
variable {H:Heap}{S:Nat→Bool}
theorem FrzR.same {l:List (List C)}(h:∀r∈l,ar r=true):FrzR H S l l:=by
 induction l with
 |nil=>exact .nil
 |cons c r ih=>exact .cons (.same (h _ Jas)) (ih fun x hx=>h x (Jan _ hx))
theorem FrzR.app {a a' b b':List (List C)}(h:FrzR H S a a')(k:FrzR H S b b'):FrzR H S (a++b) (a'++b'):=by
 induction h with
 |nil=>exact k
 |cons h t ih=>exact .cons h ih
inductive St where
 |mk (op:Int) (name:List UInt8) (args:List Ex) (body els:List St)
def St.op:St→Int|.mk op _ _ _ _=>op
def St.name:St→List UInt8|.mk _ s _ _ _=>s
def St.args:St→List Ex|.mk _ _ a _ _=>a
def St.body:St→List St|.mk _ _ _ b _=>b
def St.els:St→List St|.mk _ _ _ _ e=>e
mutual
def St.cells:St→List C
 |.mk op name args body els=>[.int .i64 op,.str name,.sl false 4 (Af args),.sl false 5 (Qv body),.sl false 5 (Qv els)]
def Qv:List St→List (List C)
 |[]=>[]
 |x::r=>x.cells::Qv r
end
theorem St.ab (x:St):x.cells=[.int .i64 x.op,.str x.name,.sl false 4 (Af x.args),.sl false 5 (Qv x.body),.sl false 5 (Qv x.els)]:=by
 cases x;simp[St.cells,St.op,St.name,St.args,St.body,St.els]
theorem Fv (l:List St):Qv l=l.map St.cells:=by
 induction l with
 |nil=>simp[Qv]
 |cons x r ih=>simp[Qv,ih]
theorem Q7 (l:List St):(Qv l).length=l.length:=by simp[Fv]
theorem Ct (l:List St)(i:Nat)(h:i<l.length):(Qv l).getD i []=(l[i]'h).cells:=by
 simp[Fv,Jj,h]
theorem Qbs3 (a b:List St):Qv a++Qv b=Qv (a++b):=by simp[Fv]
theorem Gx (a:List St)(x:St):Qv a++[x.cells]=Qv (a++[x]):=by simp[Fv]
theorem St.ar (x:St):Go.AE.ar x.cells=true:=by rw[x.ab];rfl
theorem Qbof (l:List St):∀r∈Qv l,Go.AE.ar r=true:=by
 intro r hr;rw[Fv]at hr;obtain⟨x,_,rfl⟩:=Jo.1 hr;exact x.ar
theorem St.aj (x:St):x.cells.length=5:=by rw[x.ab];rfl
mutual
def St.size:St→Nat
 |.mk _ _ args body els=>1+Q4 args+Qh body+Qh els
def Qh:List St→Nat
 |[]=>0
 |x::r=>x.size+Qh r
end
mutual
def St.ok:St→Prop
 |.mk _ _ args body els=>0<args.length∧BK args∧Bl body∧Bl els
def Bl:List St→Prop
 |[]=>True
 |x::r=>x.ok∧Bl r
end
theorem Gb {l:List St}(h:Bl l):∀x∈l,x.ok:=by
 induction l with
 |nil=>simp
 |cons y r ih=>
  simp only[Bl]at h;intro x hx;rcases Jh.1 hx with rfl|hx
  ·exact h.1
  ·exact ih h.2 x hx
theorem GX (a b:List St):Qh (a++b)=Qh a+Qh b:=by
 induction a with
 |nil=>simp[Qh]
 |cons x r ih=>simp[Qh,ih];omega
theorem St.size_eq (x:St):x.size=1+Q4 x.args+Qh x.body+Qh x.els:=by cases x;simp[St.size,St.args,St.body,St.els]
theorem St.ok_eq (x:St):x.ok=(0<x.args.length∧BK x.args∧Bl x.body∧Bl x.els):=by cases x;simp[St.ok,St.args,St.body,St.els]
theorem Cv {l:List St}{x:St}(h:x∈l):x.size≤Qh l:=by
 induction l with
 |nil=>simp at h
 |cons y r ih=>
  simp only[Qh];rcases Jh.1 h with rfl|h
  ·omega
  ·have:=ih h;omega
structure Fn where
 name:List UInt8
 params:List (List UInt8)
 body:List St
def Fn.cells (f:Fn):List C:=[.str f.name,.sl false 1 (Q3 f.params),.sl false 5 (Qv f.body)]
def Ae (l:List Fn):List (List C):=l.map Fn.cells
theorem Q8 (l:List Fn):(Ae l).length=l.length:=by simp[Ae]
theorem Cu (l:List Fn)(i:Nat)(h:i<l.length):(Ae l).getD i []=(l[i]'h).cells:=by
 simp[Ae,Jj,h]
theorem OA (a:List Fn)(x:Fn):Ae a++[x.cells]=Ae (a++[x]):=by simp[Ae]
theorem Fn.ar (x:Fn):Go.AE.ar x.cells=true:=rfl
theorem Fn.aj (x:Fn):x.cells.length=3:=rfl
theorem Qblr (l:List Fn):∀r∈Ae l,Go.AE.ar r=true:=by
 intro r hr;obtain⟨x,_,rfl⟩:=Jo.1 hr;exact x.ar
structure GS where
 fns:List Fn
 ffl:C×List (Nat×Obj)
 vars:List (List UInt8)
 vfl:Bool
 next:Int
 left:Int
def GS.o (s:GS)(R:Rdr):Obj:=.st [.ptr R.l 0,s.ffl.1,.sl s.vfl 1 (Q3 s.vars),.int .i64 s.next,.int .i64 s.left]
structure GS.ok (s:GS)(k:Nat):Prop where
 n0:-1≤s.next
 n1:s.next≤k+10
 l0:-(4 * (k:Int)+10)≤s.left
 l1:s.left≤100
 v:s.vars.length≤k+10
 f:∀f∈s.fns,f.params.length≤3
 fn:s.fns.length≤3
theorem GS.ok.mono {s:GS}{k k':Nat}(h:s.ok k)(hk:k≤k'):s.ok k':=
 ⟨h.n0,by have:=h.n1;omega,by have:=h.l0;omega,h.l1,by have:=h.v;omega,h.f,h.fn⟩
end Go.AE.Y
namespace Go.AE
variable {H0 H H':Heap}{E L B:List (Nat×Obj)}
theorem Kn.perm {L':List (Nat×Obj)}(h:Kn H0 H E L)(hp:L.Perm L'):Kn H0 H E L':=
 ⟨fun p kV=>h.get p (by
   rcases Je.1 kV with a|a
   ·exact Jc _ a
   ·exact Jg _ (hp.mem_iff.2 a)),h.ext,fun p kV=>h.loc p (hp.mem_iff.2 kV),h.dE,(hp.map Prod.fst).nodup_iff.1 h.dL,h.chg⟩
def Gr (Lg:List (Nat×Obj))(sz:Nat)(rows:List (List C))(c:C):Prop:=
 (c=.sl true sz []∧rows=[]∧Lg=[])∨∃y,c=.aG y sz 0 rows.length∧Lg=[(y,.vec sz rows)]
theorem Gr.nil (sz:Nat):Gr [] sz [] (.sl true sz []):=.inl ⟨rfl,rfl,rfl⟩
theorem Gr.mk (y sz:Nat)(rows:List (List C)){n:Nat}(hn:n=rows.length):Gr [(y,.vec sz rows)] sz rows (.aG y sz 0 n):=.inr ⟨y,by rw[hn],rfl⟩
variable {sz:Nat}{rows:List (List C)}{c:C}{Lg:List (Nat×Obj)}
theorem Gr.ah (h:Gr Lg sz rows c):c.ah=false:=by rcases h with ⟨rfl,_⟩|⟨y,rfl,_⟩ <;> rfl
theorem Gr.aQ (h:Gr Lg sz rows c):c.aQ=sz:=by rcases h with ⟨rfl,_⟩|⟨y,rfl,_⟩ <;> rfl
theorem Gr.ax (h:Gr Lg sz rows c):ax c=rows.length:=by
 rcases h with ⟨rfl,rfl,_⟩|⟨y,rfl,_⟩ <;> rfl
theorem Gr.get (h:Gr Lg sz rows c)(kn:Kn H0 H E (B++Lg)):bt H c∧rowsOf H c=rows:=by
 rcases h with ⟨rfl,rfl,_⟩|⟨y,rfl,rfl⟩
 ·exact⟨trivial,rfl⟩
 ·have hy:H y=.vec sz rows:=(kn.get (y,.vec sz rows) (by simp)).1;refine⟨?_,?_⟩
  ·simp[bt,hy]
  ·simp[rowsOf,hy]
theorem Gr.frz (h:Gr Lg sz rows c)(kn:Kn H0 H E (B++Lg))(hr:∀r∈rows,ar r=true):FrzC H (un H0) c (.sl false sz rows):=by
 rcases h with ⟨rfl,rfl,_⟩|⟨y,rfl,rfl⟩
 ·exact Y.FrzR.nil.sl
 ·exact (Y.FrzR.same hr).aG (DR (kn.loc (y,.vec sz rows) (by simp))) (kn.get (y,.vec sz rows) (by simp)).1 rfl
structure Slc (H:Heap)(sz:Nat)(rws:List (List C))(b:C):Prop where
 ok:bt H b
 sz:b.aQ=sz
 rows:rowsOf H b=rws
 len:Go.AE.ax b=rws.length
theorem Slc.mk' (H:Heap)(fl:Bool)(sz:Nat)(rows:List (List C)):Slc H sz rows (.sl fl sz rows):=⟨trivial,rfl,rfl,rfl⟩
theorem Kn.grow {K:V→Heap→Prop}{new:List (List C)}{b:C}(kn:Kn H0 H E (B++Lg))(hc:Gr Lg sz rows c)(hb:Slc H sz new b)
  (h1:∀r∈new,ar r=true) (h2:rows.length+new.length≤LIM)
  (h:∀y' H',Kn H0 H' E (B++[(y',.vec sz (rows++new))])→K (.c (.aG y' sz 0 (rows.length+new.length))) H'):appQ H sz c b K:=by
 refine⟨hb.ok,hb.sz,?_⟩;rcases hc with ⟨rfl,rfl,rfl⟩|⟨y,rfl,rfl⟩
 ·simp only[hb.rows,hb.len,Jax,J8,Jad];refine⟨trivial,.inl trivial,h1,by simpa using h2,fun l hl H' cu=>?_⟩;rw[J7]at kn;have:=h l H' (by simpa using kn.al hl cu);simpa using this
 ·have hy:H y=.vec sz rows:=(kn.get (y,.vec sz rows) (by simp)).1;simp only[hy,hb.rows,hb.len,Ja0,List.take_length];refine⟨trivial,trivial,by omega,h1,h2,fun l' cB H' cu=>?_⟩;refine h l' H' ?_;have:=kn.ap B.length (y:=y) (o:=.vec sz rows) (by simp) cB cu;simpa using this
end Go.AE
namespace Go.AE
variable {H0 H H':Heap}{E L B E0 L0 Lg:List (Nat×Obj)}
def New (H H':Heap)(N:List (Nat×Obj)):Prop:=∀p∈N,H p.1=.none∧H' p.1=p.2
def unx (H:Heap)(Lg:List (Nat×Obj))(m:Nat):Bool:=un H m&&!(Lg.map Prod.fst).contains m
theorem K9 {m:Nat}(h:H m≠.none):unx H Lg m=false:=by simp[unx,IU h]
theorem TK {p:Nat×Obj}(h:p∈Lg):unx H Lg p.1=false:=by
 have:p.1∈Lg.map Prod.fst:=BO h;simp only[unx,Bool.and_eq_false_iff,Bool.not_eq_false'];exact .inr (J6.2 this)
theorem Kn.finx (hk:Kn H0 H E (B++Lg)):Upd H0 (H.frz (Go.AE.unx H0 Lg)) E∧New H0 (H.frz (Go.AE.unx H0 Lg)) Lg:=by
 refine⟨⟨fun p hp=>?_,fun m hm hn=>?_⟩,fun p hp=>⟨hk.loc p (Jg _ hp),?_⟩⟩
 ·have:H.frz (Go.AE.unx H0 Lg) p.1=H p.1:=by simp[Heap.frz,K9 (hk.ext p hp)]
  rw[this];exact (hk.get p (Jc _ hp)).1
 ·have:H.frz (Go.AE.unx H0 Lg) m=H m:=by simp[Heap.frz,K9 hm]
  rw[this];exact hk.chg m hm hn
 ·have:H.frz (Go.AE.unx H0 Lg) p.1=H p.1:=by simp only[Heap.frz];rw[TK hp];rfl
  rw[this];exact (hk.get p (Jg _ (Jg _ hp))).1
end Go.AE
namespace Go.AE.Y
theorem AK {b:Bool}(h:(!b)=false):b=true:=by simpa using h
theorem Bm {b:Bool}(h:(!b)=true):b=false:=by simpa using h
theorem Ex.ne_nil (x:Ex):(x.cells=[])=False:=by rw[x.ab];simp
theorem Ex.b9 (x:Ex):x.cells.take 4=x.cells:=J4 (by rw[x.aj];omega)
theorem Ex.aX (x:Ex):(x.cells.all fun c=>!c.ah)=true:=x.ar
theorem St.take5 (x:St):x.cells.take 5=x.cells:=J4 (by rw[x.aj];omega)
theorem St.aX (x:St):(x.cells.all fun c=>!c.ah)=true:=x.ar
theorem Fn.take3 (x:Fn):x.cells.take 3=x.cells:=J4 (by rw[x.aj];omega)
theorem Fn.aX (x:Fn):(x.cells.all fun c=>!c.ah)=true:=x.ar
end Go.AE.Y
namespace Go.AE
variable {H0 H H':Heap}{E L B A:List (Nat×Obj)}{P:Program}
theorem c_gh {b:SC}{Q:X→Env→Heap→Prop}{e e':Env}(h:FE e H e' H')(hb:Ag P b Q e' H'):Ag P (.seq .gh b) Q e H:=⟨e',H',h,hb⟩
theorem Kn.drop (kn:Kn H0 H E (A++B)):Kn H0 H E A:=
 ⟨fun p hp=>kn.get p (by
   rcases Je.1 hp with h|h
   ·exact Jc _ h
   ·exact Jg _ (Jc _ h)),kn.ext,fun p hp=>kn.loc p (Jc _ hp),kn.dE,by
   have:=kn.dL;rw[J9]at this;exact (J0.1 this).1,kn.chg⟩
theorem Kn.freeze {z gl:Nat}{o og og':Obj}(kn:Kn H0 H E (B++[(z,o)]))(i:Nat)(hB:B[i]? = some (gl,og))(hO:FrzO H (fun m=>m == z) og og')(hn:og'≠.none) :
  FrzH H (fun m=>m == z) ((H.frz fun m=>m == z).set gl og')∧Kn H0 ((H.frz fun m=>m == z).set gl og') E (B.set i (gl,og')):=by
 have du:H0 z=.none:=kn.loc (z,o) (by simp);have cf:=kn.dL;rw[J9]at cf;have bm:∀p∈B,p.1≠z:=fun p hp hh=>(J0.1 cf).2.2 _ (BO hp) z (by simp) hh;have lq:∀p∈E,p.1≠z:=fun p hp hh=>kn.ext p hp (hh▸du);have ju:=bm _ (Jb hB);have hH:H gl=og:=(kn.get (gl,og) (Jg _ (Jc _ (Jb hB)))).1;refine⟨(K1 _ _).set (by simpa using ju) (by rw[hH];exact hO),?_⟩;have kn1:Kn H0 (H.frz fun m=>m == z) E B:=by
  refine⟨fun p hp=>?_,kn.ext,fun p hp=>kn.loc p (Jc _ hp),kn.dE,(J0.1 cf).1,fun m hm hx=>?_⟩
  ·have:p.1≠z:=by
    rcases Je.1 hp with h|h
    ·exact lq p h
    ·exact bm p h
   have h2:(H.frz fun m=>m == z) p.1=H p.1:=by simp[Heap.frz,this]
   rw[h2];refine kn.get p ?_;rcases Je.1 hp with h|h
   ·exact Jc _ h
   ·exact Jg _ (Jc _ h)
  ·have:m≠z:=fun h=>hm (h▸du);have h2:(H.frz fun m=>m == z) m=H m:=by simp[Heap.frz,this]
   rw[h2];exact kn.chg m hm hx
 exact kn1.setL i hB hn
end Go.AE
namespace Go.AE
variable {H0 F H:Heap}{E E0 E' L L1 L2 M:List (Nat×Obj)}
theorem Kn.startE (h:∀p∈E,H p.1=p.2∧p.2≠.none)(hd:(E.map Prod.fst).Nodup):Kn H H E []:=
 ⟨by simpa using h,fun p hp=>by rw[(h p hp).1];exact (h p hp).2,by simp,hd,by simp,fun _ _ _=>rfl⟩
theorem Kn.upd (k:Kn H0 H E L):Upd H0 H E:=⟨fun p hp=>(k.get p (Jc _ hp)).1,fun m hm hn=>k.chg m hm hn⟩
theorem Y.FrzL.ptr {S:Nat→Bool}{l:Nat}{cells cells':List C}(hS:S l=true)(hH:H l=.st cells)(h:FrzL H S cells cells'):FrzC H S (.ptr l 0) (.pp cells'):=by
 obtain⟨h1,h2⟩:=h.spec;exact .ptr l 0 cells cells cells' hS hH rfl h1 h2
theorem Kn.dk {B Lg:List (Nat×Obj)}{K:V→Heap→Prop}{sz:Nat}{rows new:List (List C)}{b c:C}(kn:Kn H0 H E (B++Lg))(hc:Gr Lg sz rows c)(hb:Slc H sz new b)
  (h1:∀r∈new,ar r=true) (h2:rows.length+new.length≤LIM)
  (h:∀t Lg' H',Gr Lg' sz (rows++new) t→t.ah=false→Kn H0 H' E (B++Lg')→K (.c t) H'):appQ H sz c b K:=
 kn.grow hc hb h1 h2 fun y' H' k=>h _ _ H' (.mk y' sz _ (by simp)) rfl k
theorem Kn.comp0 {H':Heap}{N:List (Nat×Obj)}(kn:Kn H0 H E L)(k2:Kn H H' [] N):Kn H0 H' E (L++N):=by
 have bm:∀p∈E++L,H p.1≠.none:=fun p hp=>by obtain⟨a,b⟩:=kn.get p hp;rw[a];exact b
 refine⟨fun p hp=>?_,kn.ext,fun p hp=>?_,kn.dE,?_,fun m hm hx=>?_⟩
 ·rw[←Jp]at hp;rcases Je.1 hp with hp|hp
  ·obtain⟨a,b⟩:=kn.get p hp;exact⟨by rw[k2.chg p.1 (bm p hp) (by simp),a],b⟩
  ·exact k2.get p (by simpa using hp)
 ·rcases Je.1 hp with hp|hp
  ·exact kn.loc p hp
  ·exact (kn.newFree (k2.loc p hp)).1
 ·rw[J9];refine J0.2 ⟨kn.dL,k2.dL,fun a ha b hb eU=>?_⟩;obtain⟨p,hp,rfl⟩:=Jo.1 ha;obtain⟨q,hq,rfl⟩:=Jo.1 hb;exact bm p (Jg _ hp) (by rw[eU];exact k2.loc q hq)
 ·have:=kn.chg m hm hx;rw[k2.chg m (by rw[this];exact hm) (by simp),this]
theorem Kn.sub {L':List (Nat×Obj)}(kn:Kn H0 H E L)(hs:L'.Sublist L):Kn H0 H E L':=
 ⟨fun p hp=>kn.get p (by
   rcases Je.1 hp with h|h
   ·exact Jc _ h
   ·exact Jg _ (hs.subset h)),kn.ext,fun p hp=>kn.loc p (hs.subset hp),kn.dE,kn.dL.sublist (hs.map _),kn.chg⟩
end Go.AE
namespace Go.AE
variable {P:Program}{H:Heap}{g:G}{w:World}
def C.free:C→Bool
 |.int _ _|.bool _|.str _|.pnil|.aG _ _ _ _=>true
 |.sl true _ []=>true
 |_=>false
def V.free1:V→Bool
 |.c x=>x.free
 |.ag cs=>cs.all C.free
 |_=>false
def V.free:V→Bool
 |.c x=>x.free
 |.ag cs=>cs.all C.free
 |.tup vs=>vs.all V.free1
 |_=>false
theorem DD {w:World}{g g':G}(bd:∀l x,g.io l=some x→g'.io l=some x){c:C}{v:Value}(hc:c.free=true)(h:RepC w g c v):RepC w g' c v:=by
 cases h with
 |int k n=>exact .int _ _
 |bool b=>exact .bool _
 |str _ h=>exact .str _ h
 |pnil=>exact .pnil
 |bf l sz st a=>exact .bf _ _ _ _
 |aG l sz st n cap b base T m h hn hs hm=>exact .aG l sz st n cap b base T m (bd _ _ h) hn hs hm
 |bk fl sz a=>exact .bk _ _ _
 |sl fl sz rows b off cap val hl hf ci hp hr bK hv=>
  cases fl with
  |false=>cases rows <;> simp[C.free]at hc
  |true=>
   cases rows with
   |cons r rs=>simp[C.free]at hc
   |nil=>
    have:=hf rfl;subst this;exact .bk _ _ _
 |_=>simp[C.free]at hc
theorem Qbph {w:World}{g g':G}(bd:∀l x,g.io l=some x→g'.io l=some x){c:V}{v:Value}(hc:c.free1=true)(h:RepV w g c v):RepV w g' c v:=by
 cases h with
 |c x v h=>exact .c _ _ (DD bd hc h)
 |ag cs vs hl h=>exact .ag _ _ hl fun j c u h1 h2=>DD bd (Jn.1 hc c (Jb h1)) (h j c u h1 h2)
 |_=>simp[V.free1]at hc
theorem Qbpi {w:World}{g g':G}(bd:∀l x,g.io l=some x→g'.io l=some x){c:V}{v:Value}(hc:c.free=true)(h:RepV w g c v):RepV w g' c v:=by
 cases h with
 |c x v h=>exact .c _ _ (DD bd hc h)
 |ag cs vs hl h=>exact .ag _ _ hl fun j c u h1 h2=>DD bd (Jn.1 hc c (Jb h1)) (h j c u h1 h2)
 |tup xs vs hl h=>exact .tup _ _ hl fun j x u h1 h2=>Qbph bd (Jn.1 hc x (Jb h1)) (h j x u h1 h2)
 |_=>simp[V.free]at hc
def Ao (H:Heap):Heap:=fun l=>match H l with
 |.gl b c=>.gl b c
 |_=>.none
def AS (H H':Heap):Heap:=fun l=>match H l with
 |.none=>H' l
 |o=>o
def NewL (H H':Heap):Prop:=∀m,H' m=H m∨(H m=.none∧∃sz rows,H' m=.vec sz rows∧∀r∈rows,∀c∈r,c.free=true)
def BR (g:G)(H:Heap)(S:Nat→Bool)(b:Nat):Bool:=match g.own b with
 |some (l,_)=>S l&&(H l).used
 |none=>false
theorem OZ {f:Nat}{args args':List V}{K:V→Heap→Prop}(S:Nat→Bool)(iv:args'.length=args.length)
  (ha:∀(j:Nat) (x y:V),args[j]? = some x→args'[j]? = some y→FrzV H S x y)
  (h:Qi P f args' (Ao H) fun x H'=>x.free=true∧NewL (Ao H) H'∧((∀l,H l≠.none→H' l=Ao H l)→K x (AS H H'))):Qi P f args H K:=by
 refine⟨h.1,fun g w vs hs hl hv=>?_⟩;have nI:=FJ H S g w;have fK:=D1 hs S;have hio0:(g.frz H S).io=g.io:=rfl;have hlp:∀b,BR g H S b=true→(g.frz H S).per b=true:=fun b hb=>by
  simp only[G.frz,J3];exact .inr hb
 have bg:∀b,BR g H S b=false→(g.frz H S).own b=g.own b:=fun b hb=>by
  simp only[BR]at hb;simp only[G.frz]
  cases ho:g.own b with
  |none=>rfl
  |some x=>
   obtain⟨l,p⟩:=x;rw[ho]at hb;simp only at hb⊢;rw[if_neg (by simpa using hb)]
 have ju:∀(w2:World) (g2:G) (H2:Heap),Le g w g2 w2→∀l b c,H l=.gl b c→SatObj H2 g2 w2 l (.gl b c):=by
  intro w2 g2 H2 a9 l b c hh;have:=hs.objs l;rw[hh]at this;obtain⟨sz,val,k1,k2,k3,k4⟩:=this;exact⟨sz,val,a9.io _ _ k1,(a9.per b k2).1,fun j c hj=>by rw[PW (w:=w) (a9.per b k2).2];exact k3 j c hj,fun j c hj=>(k4 j c hj).mono a9⟩
 have hsF:Sat (Ao H) (g.frz H S) w:=by
  refine⟨fK.sat.fresh,fK.sat.names,fK.sat.excl,fK.sat.named,fun l=>?_⟩
  cases hh:H l with
  |gl b c=>
   have:Ao H l=.gl b c:=by simp only[Ao,hh]
   rw[this];exact ju w _ _ nI l b c hh
  |_=>
   have:Ao H l=.none:=by simp only[Ao,hh]
   rw[this];exact trivial
 have fE:∀(j:Nat) (x:V) (u:Value),args'[j]? = some x→vs[j]? = some u→RepV w (g.frz H S) x u:=fun j y u h1 h2=>by
  obtain⟨x,hx⟩:=AP iv h1;exact DC hs (ha j x y hx h1) u (hv j x u hx h2)
 refine Calls.mono (h.2 (g.frz H S) w vs hsF (by rw[iv];exact hl) fE) ?_;rintro e w' (⟨v,x,H',g',he,⟨hfree,bG,hk⟩,aF,hr⟩|⟨v,H',g',he,⟨hfree,_⟩,_⟩)
 rotate_left
 ·simp[V.free]at hfree
 let gB:G:=⟨fun b=>g'.per b&&!BR g H S b,fun b=>if BR g H S b=true then g.own b else g'.own b,g'.io⟩;have rV:∀b,BR g H S b=true→g'.per b=true∧w'.heap[b]? = w.heap[b]?:=fun b hb=>aF.le.per b (hlp b hb);have jC:∀b,g.per b=true→BR g H S b=false:=fun b hb=>by
  cases hx:BR g H S b with
  |false=>rfl
  |true=>
   simp only[BR]at hx
   cases ho:g.own b with
   |none=>rw[ho]at hx;simp at hx
   |some y=>rw[hs.excl b y ho]at hb;simp at hb
 have pZ:∀b y,g'.own b=some y→BR g H S b=false:=fun b y hb=>by
  cases hx:BR g H S b with
  |false=>rfl
  |true=>
   have:=(rV b hx).1;rw[aF.sat.excl b y hb]at this;simp at this
 have a9:Le g w gB w':=⟨fun b hb=>by
   obtain⟨k1,k2⟩:=aF.le.per b (nI.per b hb).1;exact⟨by simp only[gB,k1,jC b hb];rfl,k2⟩,fun l y hy=>aF.le.io l y hy,aF.le.size,aF.le.shp,aF.le.tape,aF.le.os,aF.le.output⟩
 have jY:∀l,H l≠.none→(∀b c,H l≠.gl b c)→AR g w gB w' l:=by
  intro l h1 h2 b q hb
  cases hx:BR g H S b with
  |true=>exact⟨by simp only[gB,hx,if_true];exact hb,(rV b hx).2⟩
  |false=>
   have e1:Ao H l=.none:=by simp only[Ao]
   obtain⟨_,k2⟩:=aF.fr l (hs.io_some h1) e1;obtain⟨k3,k4⟩:=k2 b q (by rw[bg b hx];exact hb);exact⟨by simp only[gB,hx];exact k3,k4⟩
 have jd:∀l,H l=.none→AS H H' l=H' l:=fun l hl=>by simp only[AS,hl]
 have fp:∀l,H l≠.none→AS H H' l=H l:=fun l hl=>by
  simp only[AS]
 have hkh:∀l,H l≠.none→H' l=Ao H l:=fun l hl=>by
  cases hh:H l with
  |gl b c=>
   have e1:Ao H l=.gl b c:=by simp only[Ao,hh]
   rcases bG l with h1|⟨h1,_⟩
   ·exact h1
   ·rw[e1]at h1;simp at h1
  |none=>exact absurd hh hl
  |_=>
   have e1:Ao H l=.none:=by simp only[Ao,hh]
   rw[e1];exact (aF.fr l (hs.io_some hl) e1).1
 refine .inl ⟨v,x,AS H H',gB,he,hk hkh,⟨a9,?_,⟨?_,?_,?_,?_,?_⟩⟩,Qbpi (g:=g') (g':=gB) (fun _ _ h=>h) hfree hr⟩
 ·intro l hl hn;have e1:Ao H l=.none:=by simp only[Ao,hn]
  obtain⟨k1,k2⟩:=aF.fr l hl e1;refine⟨by rw[jd l hn];exact k1,fun b p hb=>?_⟩;have hx:BR g H S b=false:=by simp only[BR,hb,hn,Obj.used,Jao]
  obtain⟨k3,k4⟩:=k2 b p (by rw[bg b hx];exact hb);exact⟨by simp only[gB,hx];exact k3,k4⟩
 ·intro b hb;obtain⟨k1,k2⟩:=aF.sat.fresh b hb;have hx:BR g H S b=false:=by
   have:=(hs.fresh b (Ja8 aF.le.size hb)).2;simp only[BR,this]
  exact⟨by simp only[gB,k1,Jae],by simp only[gB,hx];exact k2⟩
 ·exact aF.sat.names
 ·intro b y hb
  cases hx:BR g H S b with
  |true=>simp only[gB,hx,Ja3,Jao]
  |false=>
   simp only[gB,hx,Jab,if_false]at hb;simp only[gB,aF.sat.excl b y hb,Jae]
 ·intro b l p hb
  cases hx:BR g H S b with
  |true=>
   simp only[gB,hx,if_true]at hb;have h1:=hs.named b l p hb
   cases h2:g.io l with
   |none=>exact absurd h2 h1
   |some y=>
    have:=aF.le.io l y h2;show g'.io l≠none;rw[this];simp
  |false=>
   simp only[gB,hx,Jab,if_false]at hb;exact aF.sat.named b l p hb
 ·intro l
  cases hh:H l with
  |none=>
   rw[jd l hh];have e1:Ao H l=.none:=by simp only[Ao,hh]
   rcases bG l with h1|⟨_,sz,rows,h1,h2⟩
   ·rw[h1,e1];exact trivial
   ·have ho:=aF.sat.objs l;rw[h1]at ho⊢;rcases ho with ho|⟨b,base,T,cs,val,r1,r2,r3,r4,r5,r6,r7,r8⟩
    ·exact .inl ho
    ·refine .inr ⟨b,base,T,cs,val,r1,by simp only[gB,pZ b _ r2];exact r2,r3,r4,r5,r6,r7,fun i row j c hi hj=>?_⟩;have hf:=h2 row (Jb hi) c (Jb hj);exact .plain _ _ _ _ (DD (g:=g') (g':=gB) (fun _ _ h=>h) hf ((r8 i row j c hi hj).plain_of fun sz rows hc=>by subst hc;simp[C.free]at hf))
  |gl b c=>
   rw[fp l (by rw[hh];simp),hh];exact ju w' gB _ a9 l b c hh
  |_=>
   refine SatObj.keep (H':=AS H H') hs a9 (jY l (by rw[hh];simp) (by rw[hh];simp)) (fp l (by rw[hh];simp)) fun m' v left cur hc v' es hv=>?_;have qh:g.io m'≠none:=by
    have:=hs.objs l;rw[hc]at this;obtain⟨b,mb,s,se,_,_,_,h4,_⟩:=this;rw[h4];simp
   cases hm:H m' with
   |none=>
    rw[jd m' hm]at hv;have e1:Ao H m'=.none:=(by simp only[Ao,hm]);rw[(aF.fr m' qh e1).1]at hv;simp at hv
   |map v0 es0=>
    rw[fp m' (by rw[hm];simp),hm]at hv;exact .inl ⟨hv,jY m' (by rw[hm];simp) (by rw[hm];simp)⟩
   |_=>rw[fp m' (by rw[hm];simp),hm]at hv;simp at hv
end Go.AE
namespace Go.AE
variable {P:Program}{H0 H H':Heap}{E L M N A B Lg:List (Nat×Obj)}{S:Nat→Bool}{K:V→Heap→Prop}
def C.atom:C→Bool
 |.int _ _|.bool _|.str _=>true
 |_=>false
inductive OwL:List (Nat×Obj)→List C→List C→Prop
 |nil:OwL [] [] []
 |atom {L c cs cs'} (h:C.atom c=true) (t:OwL L cs cs'):OwL L (c::cs) (c::cs')
 |sln {L sz cs cs'} (t:OwL L cs cs'):OwL L (.sl true sz []::cs) (.sl false sz []::cs')
 |vec {L M y sz rows rows' n cs cs'} (hn:n=rows.length) (hl:rows'.length=rows.length) (hr:∀r∈rows,r.length=sz) (aP:∀r∈rows',r.length=sz)
   (h:OwL M rows.flatten rows'.flatten) (t:OwL L cs cs'):OwL (((y,.vec sz rows)::M)++L) (.aG y sz 0 n::cs) (.sl false sz rows'::cs')
theorem OwL.len {cs cs':List C}(h:OwL L cs cs'):cs'.length=cs.length:=by
 induction h with
 |nil=>rfl
 |atom _ _ ih=>simp[ih]
 |sln _ ih=>simp[ih]
 |vec _ _ _ _ _ _ _ ih=>simp[ih]
theorem OwL.app {a a' b b':List C}(h:OwL L a a')(k:OwL M b b'):OwL (L++M) (a++b) (a'++b'):=by
 induction h with
 |nil=>exact k
 |atom h _ ih=>exact .atom h ih
 |sln _ ih=>exact .sln ih
 |vec hn hl hr aP h _ _ ih=>rw[Jp];exact .vec hn hl hr aP h ih
theorem OwL.split {b:List C}:∀{a:List C} {L:List (Nat×Obj)} {cs':List C},OwL L (a++b) cs'→∃L1 L2 a' b',L=L1++L2∧cs'=a'++b'∧OwL L1 a a'∧OwL L2 b b'
 |[],L,cs',h=>⟨[],L,[],cs',rfl,rfl,.nil,h⟩
 |c::a,L,cs',h=>by
  rw[Jah]at h
  cases h with
  |atom h t=>
   obtain⟨L1,L2,a',b',rfl,rfl,h1,h2⟩:=OwL.split t;exact⟨L1,L2,_::a',b',rfl,rfl,.atom h h1,h2⟩
  |sln t=>
   obtain⟨L1,L2,a',b',rfl,rfl,h1,h2⟩:=OwL.split t;exact⟨L1,L2,_::a',b',rfl,rfl,.sln h1,h2⟩
  |vec hn hl hr aP h t=>
   obtain⟨L1,L2,a',b',rfl,rfl,h1,h2⟩:=OwL.split t;exact⟨_++L1,L2,_::a',b',(Jp _ _ _).symm,rfl,.vec hn hl hr aP h h1,h2⟩
theorem OwL.ar {cs cs':List C}(h:OwL L cs cs'):ar cs=true:=by
 induction h with
 |nil=>rfl
 |@atom _ c _ _ h _ ih=>
  simp only[Go.AE.ar,Ju,Ja]at ih⊢;exact⟨by cases c <;> first|rfl|simp[C.atom]at h,ih⟩
 |sln _ ih=>simp only[Go.AE.ar,Ju,Ja]at ih⊢;exact⟨rfl,ih⟩
 |vec _ _ _ _ _ _ _ ih=>simp only[Go.AE.ar,Ju,Ja]at ih⊢;exact⟨rfl,ih⟩
theorem OwL.free {cs cs':List C}(h:OwL L cs cs'):cs.all C.free=true:=by
 induction h with
 |nil=>rfl
 |@atom _ c _ _ h _ ih=>
  simp only[Ju,Ja]at ih⊢;exact⟨by cases c <;> first|rfl|simp[C.atom]at h,ih⟩
 |sln _ ih=>simp only[Ju,Ja]at ih⊢;exact⟨rfl,ih⟩
 |vec _ _ _ _ _ _ _ ih=>simp only[Ju,Ja]at ih⊢;exact⟨rfl,ih⟩
theorem OwL.vecs {cs cs':List C}(h:OwL L cs cs'):∀p∈L,∃sz rows,p.2=.vec sz rows∧∀r∈rows,∀c∈r,c.free=true:=by
 induction h with
 |nil=>simp
 |atom _ _ ih=>exact ih
 |sln _ ih=>exact ih
 |vec _ _ _ _ h _ ih1 ih2=>
  intro p hp;rcases Je.1 hp with hp|hp
  ·rcases Jh.1 hp with rfl|hp
   ·exact⟨_,_,rfl,fun r hr c hc=>Jn.1 h.free c (List.mem_flatten.2 ⟨r,hr,hc⟩)⟩
   ·exact ih1 p hp
  ·exact ih2 p hp
theorem O6 {b:List C}:∀{a:List C} {cs':List C},FrzL H S (a++b) cs'→∃a' b',cs'=a'++b'∧FrzL H S a a'∧FrzL H S b b'
 |[],cs',h=>⟨[],cs',rfl,.nil,h⟩
 |c::a,cs',h=>by
  rw[Jah]at h
  cases h with
  |cons h t=>
   obtain⟨a',b',rfl,h1,h2⟩:=O6 t;exact⟨_::a',b',rfl,.cons h h1,h2⟩
theorem Kg {sz:Nat}:∀{rows rows':List (List C)},rows'.length=rows.length→(∀r∈rows,r.length=sz)→(∀r∈rows',r.length=sz)→FrzL H S rows.flatten rows'.flatten→Y.FrzR H S rows rows'
 |[],[],_,_,_,_=>.nil
 |r::rows,r'::rows',hl,h1,h2,h=>by
  rw[List.flatten_cons,List.flatten_cons]at h;obtain⟨a',b',h3,h4,h5⟩:=O6 h;have iv:a'.length=r'.length:=by rw[h4.spec.1,h1 r (by simp),h2 r' (by simp)]
  obtain⟨rfl,rfl⟩:=List.append_inj h3.symm iv;exact .cons h4 (Kg (by simpa using hl) (fun x hx=>h1 x (by simp[hx])) (fun x hx=>h2 x (by simp[hx])) h5)
 |[],_::_,hl,_,_,_=>by simp at hl
 |_::_,[],hl,_,_,_=>by simp at hl
theorem OwL.frz {cs cs':List C}(h:OwL L cs cs')(hm:∀p∈L,H p.1=p.2∧S p.1=true):FrzL H S cs cs':=by
 induction h with
 |nil=>exact .nil
 |@atom _ c _ _ h _ ih=>exact .cons (.same _ (by cases c <;> first|rfl|simp[C.atom]at h)) (ih hm)
 |sln _ ih=>exact .cons Y.FrzR.nil.sl (ih hm)
 |vec hn hl hr aP h _ ih1 ih2=>
  refine .cons ?_ (ih2 fun p hp=>hm p (Jg _ hp));obtain⟨h1,h2⟩:=hm _ (Jc _ Jas);exact (Kg hl hr aP (ih1 fun p hp=>hm p (Jc _ (Jan _ hp)))).aG h2 h1 hn
def OwS (L:List (Nat×Obj))(sz:Nat)(rows':List (List C))(t:C):Prop:=
 (t=.sl true sz []∧rows'=[]∧L=[])∨∃y M rows,t=.aG y sz 0 rows.length∧L=(y,.vec sz rows)::M∧rows'.length=rows.length∧(∀r∈rows,r.length=sz)∧(∀r∈rows',r.length=sz)∧OwL M rows.flatten rows'.flatten
theorem OwS.cons {sz:Nat}{rows':List (List C)}{t:C}{cs cs':List C}(h:OwS L sz rows' t)(k:OwL M cs cs'):OwL (L++M) (t::cs) (.sl false sz rows'::cs'):=by
 rcases h with ⟨rfl,rfl,rfl⟩|⟨y,N,rows,rfl,rfl,h1,h2,h3,h4⟩
 ·exact .sln k
 ·exact .vec rfl h1 h2 h3 h4 k
theorem OwS.one {sz:Nat}{rows':List (List C)}{t:C}(h:OwS L sz rows' t):OwL L [t] [.sl false sz rows']:=by
 have:=h.cons .nil
 rwa [J7]at this
theorem OwS.ah {sz:Nat}{rows':List (List C)}{t:C}(h:OwS L sz rows' t):t.ah=false:=by rcases h with ⟨rfl,_⟩|⟨y,N,rows,rfl,_⟩ <;> rfl
theorem OwS.aQ {sz:Nat}{rows':List (List C)}{t:C}(h:OwS L sz rows' t):t.aQ=sz:=by rcases h with ⟨rfl,_⟩|⟨y,N,rows,rfl,_⟩ <;> rfl
theorem OwS.ax {sz:Nat}{rows':List (List C)}{t:C}(h:OwS L sz rows' t):ax t=rows'.length:=by
 rcases h with ⟨rfl,rfl,_⟩|⟨y,N,rows,rfl,_,h,_⟩
 ·rfl
 ·exact h.symm
theorem OwL.inv_atom {cs cs':List C}{c':C}(hc:c'.atom=true)(h:OwL L cs (c'::cs')):∃cs0,cs=c'::cs0∧OwL L cs0 cs':=by
 cases h with
 |atom h t=>exact⟨_,rfl,t⟩
 |sln t=>simp[C.atom]at hc
 |vec=>simp[C.atom]at hc
theorem OwL.inv_sl {cs cs':List C}{sz:Nat}{rows':List (List C)}{fl:Bool}(h:OwL L cs (.sl fl sz rows'::cs')):∃t cs0 L1 L2,cs=t::cs0∧L=L1++L2∧OwS L1 sz rows' t∧OwL L2 cs0 cs':=by
 cases h with
 |atom h t=>simp[C.atom]at h
 |sln t=>exact⟨_,_,[],L,rfl,rfl,.inl ⟨rfl,rfl,rfl⟩,t⟩
 |vec hn hl hr aP h t=>exact⟨_,_,_,_,rfl,rfl,.inr ⟨_,_,_,by rw[hn],rfl,hl,hr,aP,h⟩,t⟩
theorem OwL.inv_nil {cs:List C}(h:OwL L cs []):cs=[]∧L=[]:=by cases h;exact⟨rfl,rfl⟩
theorem OwL.inv_one {cs:List C}{sz:Nat}{rows':List (List C)}{fl:Bool}(h:OwL L cs [.sl fl sz rows']):∃t,cs=[t]∧OwS L sz rows' t:=by
 obtain⟨t,cs0,L1,L2,rfl,rfl,h1,h2⟩:=h.inv_sl;obtain⟨rfl,rfl⟩:=h2.inv_nil;exact⟨t,rfl,by rwa [J7]⟩
theorem Gr.ows {sz:Nat}{rows rows':List (List C)}{t:C}(h:Gr Lg sz rows t)(hl:rows'.length=rows.length)(hr:∀r∈rows,r.length=sz)(aP:∀r∈rows',r.length=sz)(k:OwL M rows.flatten rows'.flatten):OwS (Lg++M) sz rows' t:=by
 rcases h with ⟨rfl,rfl,rfl⟩|⟨y,rfl,rfl⟩
 ·have:rows'=[]:=Jk.1 (by simpa using hl);subst this;cases k;exact .inl ⟨rfl,rfl,rfl⟩
 ·exact .inr ⟨y,M,rows,rfl,rfl,hl,hr,aP,k⟩
theorem OwS.gr {sz:Nat}{rows':List (List C)}{t:C}(h:OwS L sz rows' t):∃Lg M rows,L=Lg++M∧Gr Lg sz rows t∧rows'.length=rows.length∧(∀r∈rows,r.length=sz)∧(∀r∈rows',r.length=sz)∧OwL M rows.flatten rows'.flatten:=by
 rcases h with ⟨rfl,rfl,rfl⟩|⟨y,N,rows,rfl,rfl,h1,h2,h3,h4⟩
 ·exact⟨[],[],[],rfl,.nil sz,rfl,by simp,by simp,.nil⟩
 ·exact⟨[_],N,rows,rfl,.mk y sz rows rfl,h1,h2,h3,h4⟩
def lntL (L:List (Nat×Obj))(m:Nat):Bool:=(L.map Prod.fst).contains m
theorem D4 {p:Nat×Obj}(h:p∈L):lntL L p.1=true:=J6.2 (BO h)
theorem C.free_ow {c:C}(h:c.free=true):c.ah=false:=by cases c <;> first|rfl|simp[C.free]at h
theorem GI {x:V}(h:x.free1=true):FrzV H S x x:=by
 cases x with
 |c x=>exact .c _ _ (.same _ (C.free_ow h))
 |ag cs=>
  refine .ag _ _ rfl fun j c c' h1 h2=>?_;rw[h1,Jf]at h2;subst h2;exact .same _ (C.free_ow (Jn.1 h c (Jb h1)))
 |_=>simp[V.free1]at h
theorem LG {x:V}(h:x.free=true):FrzV H S x x:=by
 cases x with
 |c x=>exact GI (x:=.c x) h
 |ag cs=>exact GI (x:=.ag cs) h
 |tup vs=>
  refine .tup _ _ rfl fun j c c' h1 h2=>?_;rw[h1,Jf]at h2;subst h2;exact GI (Jn.1 h c (Jb h1))
 |_=>simp[V.free]at h
theorem Qbpl (H:Heap):AS H (Ao H)=H:=by
 funext l
 simp only[AS,Ao];cases H l <;> rfl
theorem Dc {f:Nat}{args args':List V}{v:V}(S:Nat→Bool)(iv:args'.length=args.length)
  (ha:∀(j:Nat) (x y:V),args[j]? = some x→args'[j]? = some y→FrzV H S x y) (hv:v.free=true)
  (h:∀K':V→Heap→Prop,(∀H',Upd (Ao H) H' []→K' v H')→Qi P f args' (Ao H) K') (hK:K v H):Qi P f args H K:=by
 refine OZ S iv ha (Gm (GL (h (fun x H'=>x=v∧Upd (Ao H) H' []) fun H' hu=>⟨rfl,hu⟩) ?_));rintro x H' ⟨rfl,hu⟩;have e:H'.frz (un (Ao H))=Ao H:=by
  funext m
  cases hm:Ao H m with
  |none=>simp only[Heap.frz,DR hm];rfl
  |_=>
   have hn:Ao H m≠.none:=by rw[hm];simp
   rw[D0 hn,hu.2 m hn (by simp),hm]
 have key:∃S x',FrzV H' S x x'∧x'.free=true∧NewL (Ao H) (H'.frz S)∧((∀l,H l≠.none→(H'.frz S) l=Ao H l)→K x' (AS H (H'.frz S))):=
  ⟨un (Ao H),x,LG hv,hv,by rw[e];exact fun m=>.inl rfl,fun _=>by rw[e,Qbpl];exact hK⟩
 cases x <;> first|exact key|simp[V.free]at hv
def OwV (L:List (Nat×Obj)):V→V→Prop
 |.c c,.c c'=>OwL L [c] [c']
 |.ag cs,.ag cs'=>OwL L cs cs'
 |.tup [.ag cs,.c d],.tup [.ag cs',.c d']=>OwL L (d::cs) (d'::cs')
 |_,_=>False
theorem OwV.free {x x':V}(h:OwV L x x'):x.free=true:=by
 unfold OwV at h;split at h
 ·simpa[V.free]using h.free
 ·exact h.free
 ·have:=h.free;simp only[Ju,Ja]at this;simp only[V.free,Ju,Ja5,V.free1,this.1,this.2];rfl
 ·exact h.elim
theorem OwV.vecs {x x':V}(h:OwV L x x'):∀p∈L,∃sz rows,p.2=.vec sz rows∧∀r∈rows,∀c∈r,c.free=true:=by
 unfold OwV at h;split at h
 ·exact h.vecs
 ·exact h.vecs
 ·exact h.vecs
 ·exact h.elim
theorem Kn.back (kn:Kn (Ao H) H' [] L)(hk:∀l,H l≠.none→H' l=Ao H l):Kn H (AS H H') [] L:=by
 have hf:∀p∈L,H p.1=.none:=fun p hp=>by
  have h1:=kn.loc p hp;obtain⟨h2,h3⟩:=kn.get p (by simpa using hp)
  cases hh:H p.1 with
  |none=>rfl
  |_=>
   have:=hk p.1 (by rw[hh];simp);rw[h1,h2]at this;exact absurd this h3
 refine⟨fun p hp=>?_,by simp,hf,by simp,kn.dL,fun m hm _=>?_⟩
 ·obtain⟨h2,h3⟩:=kn.get p hp;have h0:=hf p (by simpa using hp);exact⟨by simp only[AS,h0];exact h2,h3⟩
 ·simp only[AS]
theorem Q9g {f:Nat}{args args':List V}{x':V}(S:Nat→Bool)(iv:args'.length=args.length)
  (ha:∀(j:Nat) (x y:V),args[j]? = some x→args'[j]? = some y→FrzV H S x y)
  (h:∀K':V→Heap→Prop,(∀H' L x,Kn (Ao H) H' [] L→OwV L x x'→K' x H')→Qi P f args' (Ao H) K') (hK:∀H' L x,Kn H H' [] L→OwV L x x'→K x H'):Qi P f args H K:=by
 refine OZ S iv ha (Gm (GL (h (fun x H'=>∃L,Kn (Ao H) H' [] L∧OwV L x x') fun H' L x hk hx=>⟨L,hk,hx⟩) ?_));rintro x H' ⟨L,kn,hx⟩;have hv:=hx.free;have k2:Kn (Ao H) (H'.frz (unx (Ao H) L)) [] L:=by
  have h1:Kn (Ao H) H' [] ([]++L):=kn;obtain⟨h2,h3⟩:=h1.finx;exact⟨fun p hp=>⟨(h3 p (by simpa using hp)).2,(kn.get p hp).2⟩,by simp,kn.loc,by simp,kn.dL,fun m hm hx=>h2.2 m hm hx⟩
 have key:∃S x2,FrzV H' S x x2∧x2.free=true∧NewL (Ao H) (H'.frz S)∧((∀l,H l≠.none→(H'.frz S) l=Ao H l)→K x2 (AS H (H'.frz S))):=by
  refine⟨unx (Ao H) L,x,LG hv,hv,fun m=>?_,fun hk=>hK _ L x (k2.back hk) hx⟩;by_cases hm:Ao H m=.none
  ·by_cases rU:m∈L.map Prod.fst
   ·obtain⟨p,hp,rfl⟩:=Jo.1 rU;obtain⟨sz,rows,h1,h2⟩:=hx.vecs p hp;exact .inr ⟨hm,sz,rows,by rw[(k2.get p (by simpa using hp)).1,h1],h2⟩
   ·left;have:unx (Ao H) L m=true:=by
     simp only[unx,DR hm,Ja4,Jw,Bool.eq_false_iff];exact fun hh=>rU (J6.1 hh)
    rw[hm];simp only[Heap.frz,this];rfl
  ·exact .inl (k2.chg m hm (by simp))
 cases x <;> first|exact key|simp[V.free]at hv
theorem OwL.frzA {cs cs':List C}(h:OwL L cs cs')(hm:∀p∈L,H p.1=p.2):FrzV H (lntL L) (.ag cs) (.ag cs'):=(h.frz fun p hp=>⟨hm p hp,D4 hp⟩).ag
end Go.AE
namespace Go.AE
variable {P:Program}{H0 H H':Heap}{E L L' M:List (Nat×Obj)}
theorem OwV.tup1 {x:V}{sz:Nat}{rows:List (List C)}{b fl:Bool}(h:OwV L x (.tup [.ag [.sl fl sz rows],.c (.bool b)])):∃t,x=.tup [.ag [t],.c (.bool b)]∧OwS L sz rows t:=by
 unfold OwV at h;split at h
 ·simp at *
 ·simp at *
 ·rename_i cs d cs' d' he
  simp only[V.tup.injEq,Jal,V.ag.injEq,V.c.injEq,and_true]at he;obtain⟨rfl,rfl⟩:=he;obtain⟨c0,e0,h0⟩:=h.inv_atom rfl;obtain⟨t,e1,h1⟩:=h0.inv_one;simp only[Jal]at e0;obtain⟨rfl,rfl⟩:=e0;exact⟨t,by rw[e1],h1⟩
 ·exact h.elim
theorem Kf {l b:Nat}{c:List C}(h:H l=.gl b c):Ao H l=.gl b c:=by simp only[Ao,h]
theorem Kn.swap {A B:List (Nat×Obj)}(kn:Kn H0 H E ((A++M)++B)):Kn H0 H E ((A++B)++M):=kn.perm (by
 simp only[Jp];exact Jak A Jam)
theorem Kn.swap2 {A B N:List (Nat×Obj)}(kn:Kn H0 H E (((A++M)++N)++B)):Kn H0 H E (((A++B)++M)++N):=kn.perm (by
 simp only[Jp];refine Jak A ?_;rw[←Jp];exact Jam)
theorem OwS.lend {sz:Nat}{rows:List (List C)}{t:C}(h:OwS L sz rows t)(hm:∀p∈L,H p.1=p.2):FrzV H (lntL L) (.ag [t]) (.ag [.sl false sz rows]):=h.one.frzA hm
theorem Di (H:Heap):Upd H H []:=⟨by simp,fun _ _ _=>rfl⟩
theorem FC {S:Nat→Bool}{fl:Bool}{sz:Nat}{rows:List (List C)}(h:∀r∈rows,ar r=true):FrzV H S (.ag [.sl fl sz rows]) (.ag [.sl false sz rows]):=(FrzL.cons (Y.FrzR.same h).sl .nil).ag
theorem Ed {S:Nat→Bool}{x x':V}(h:FrzV H S x x'):∀(j:Nat) (a b:V),[x][j]? = some a→[x'][j]? = some b→FrzV H S a b:=fun j a b h1 h2=>by
 match j with
 |0=>cases h1;cases h2;exact h
 |j+1=>simp at h1
theorem Bh {S:Nat→Bool}{x x' y y':V}(h:FrzV H S x x')(k:FrzV H S y y'):∀(j:Nat) (a b:V),[x,y][j]? = some a→[x',y'][j]? = some b→FrzV H S a b:=fun j a b h1 h2=>by
 match j with
 |0=>cases h1;cases h2;exact h
 |1=>cases h1;cases h2;exact k
 |j+2=>simp at h1
theorem OwV.c1 {x:V}{sz:Nat}{rows:List (List C)}{fl:Bool}(h:OwV L x (.c (.sl fl sz rows))):∃t,x=.c t∧OwS L sz rows t:=by
 unfold OwV at h;split at h
 ·rename_i c c' he
  cases he;obtain⟨t,e1,h1⟩:=h.inv_one;simp only[Jal,and_true]at e1;exact⟨t,by rw[e1],h1⟩
 ·rename_i he;cases he
 ·rename_i he;cases he
 ·exact h.elim
end Go.AE
namespace Go.AE.Y
abbrev Ts:Nat:=6
abbrev Tp:Nat:=7
abbrev I6:Nat:=17
abbrev F5:Nat:=19
abbrev Sl:Nat:=21
abbrev S7:Nat:=22
abbrev Rc:Nat:=24
abbrev HV:Nat:=25
abbrev In:Nat:=26
abbrev RL:Nat:=27
abbrev PR:Nat:=28
abbrev EY:Nat:=29
abbrev Fd:Nat:=30
abbrev Sg:Nat:=31
abbrev DX:Nat:=32
abbrev Fc:Nat:=33
abbrev IA:Nat:=34
abbrev HP:Nat:=35
abbrev Iq:Nat:=36
abbrev PX:Nat:=37
abbrev RO:Nat:=38
abbrev Rb:Nat:=39
abbrev RP:Nat:=40
abbrev PS:Nat:=41
abbrev GP:Nat:=44
abbrev Gs:Nat:=48
abbrev BV:Nat:=54
abbrev HG:Nat:=62
abbrev Q9o:Nat:=65
abbrev Q9l:Nat:=70
abbrev R5:Nat:=71
abbrev Gn:Nat:=73
abbrev Sf:Nat:=74
abbrev Rf:Nat:=75
abbrev Rh:Nat:=76
abbrev PI:Nat:=77
abbrev Sz:Nat:=78
abbrev R6:Nat:=79
abbrev Sj:Nat:=80
abbrev Sk:Nat:=81
abbrev DZ:Nat:=82
abbrev PE:Nat:=83
abbrev SJ:Nat:=84
abbrev RU:Nat:=85
abbrev PF:Nat:=86
abbrev I8:Nat:=87
abbrev HS:Nat:=88
abbrev PY:Nat:=89
abbrev PZ:Nat:=90
abbrev SM:Nat:=96
abbrev SG:Nat:=103
abbrev Ig:Nat:=114
abbrev Rn:Nat:=117
abbrev Ro:Nat:=123
abbrev I7:Nat:=124
abbrev FT:Nat:=127
abbrev Bx:Nat:=128
abbrev GJ:Nat:=129
abbrev RV:Nat:=130
abbrev CC:Nat:=131
abbrev De:Nat:=132
abbrev Q5:Nat:=133
abbrev Qo:Nat:=134
abbrev Qw:Nat:=135
abbrev Q1c:Nat:=136
abbrev Sy:Nat:=137
abbrev R7:Nat:=138
abbrev RM:Nat:=139
abbrev RN:Nat:=140
abbrev Iz:Nat:=141
abbrev RR:Nat:=142
abbrev RT:Nat:=143
abbrev I0:Nat:=144
abbrev SF:Nat:=148
abbrev SL:Nat:=149
abbrev HC:Nat:=150
abbrev ER:Nat:=151
abbrev IC:Nat:=152
abbrev FU:Nat:=159
abbrev IB:Nat:=162
abbrev Ir:Nat:=164
abbrev Dv:Nat:=167
abbrev Iv:Nat:=171
abbrev HH:Nat:=174
abbrev Pp:Nat:=176
abbrev Iw:Nat:=180
abbrev Ph:Nat:=182
abbrev Dg:Nat:=183
abbrev HT:Nat:=184
abbrev C7:Nat:=185
abbrev DM:Nat:=186
abbrev Dd:Nat:=187
abbrev Hn:Nat:=188
abbrev Rp:Nat:=189
abbrev ED:Nat:=190
abbrev S8:Nat:=191
abbrev Df:Nat:=192
abbrev Fe:Nat:=193
abbrev KF:Nat:=194
abbrev CD:Nat:=195
abbrev Fa:Nat:=196
abbrev Rd:Nat:=197
abbrev CK:Nat:=198
abbrev Su:Nat:=199
abbrev P7:Nat:=200
abbrev Sx:Nat:=201
abbrev To:Nat:=202
abbrev Sw:Nat:=203
abbrev Q9k:Nat:=204
abbrev PJ:Nat:=205
abbrev Sv:Nat:=206
abbrev Q1h:Nat:=207
abbrev Q1g:Nat:=208
abbrev Ip:Nat:=209
abbrev FV:Nat:=214
abbrev Ho:Nat:=215
abbrev F0:Nat:=216
abbrev Tr:Nat:=217
abbrev Ti:Nat:=218
abbrev Ix:Nat:=219
abbrev RA:Nat:=220
abbrev SI:Nat:=221
abbrev Iy:Nat:=222
abbrev SK:Nat:=223
abbrev If:Nat:=227
abbrev F4:Nat:=228
abbrev PH:Nat:=229
abbrev I9:Nat:=230
abbrev Si:Nat:=232
abbrev HO:Nat:=235
abbrev P4:Nat:=237
abbrev P5:Nat:=240
abbrev GM:Nat:=241
abbrev R8:Nat:=242
abbrev Rq:Nat:=243
abbrev Gq:Nat:=244
abbrev Kc:Nat:=245
abbrev SN:Nat:=246
abbrev I1:Nat:=247
abbrev Pq:Nat:=248
abbrev RW:Nat:=249
abbrev Rs:Nat:=250
abbrev RC:Nat:=251
abbrev RK:Nat:=252
abbrev Q9n:Nat:=253
abbrev Q9m:Nat:=254
abbrev HN:Nat:=258
abbrev Ih:Nat:=259
abbrev Ii:Nat:=260
abbrev Tb:Nat:=261
abbrev HU:Nat:=262
abbrev Th:Nat:=263
abbrev Tn:Nat:=264
abbrev Tu:Nat:=265
abbrev Qxy:Nat:=266
abbrev Q1d:Nat:=267
abbrev S3:Nat:=268
abbrev Rg:Nat:=269
abbrev S0:Nat:=271
abbrev PT:Nat:=273
abbrev EE:Nat:=274
abbrev PU:Nat:=275
abbrev PG:Nat:=276
abbrev R9:Nat:=295
abbrev F7:Nat:=296
abbrev P6:Nat:=297
abbrev Q9p:Nat:=298
abbrev Hq:Nat:=302
abbrev Hp:Nat:=303
abbrev Gt:Nat:=304
abbrev Ta:Nat:=305
abbrev SH:Nat:=306
abbrev Tc:Nat:=307
abbrev RX:Nat:=308
abbrev PV:Nat:=309
abbrev Q1f:Nat:=317
abbrev GO:Nat:=319
abbrev RJ:Nat:=320
abbrev Gu:Nat:=321
abbrev Sh:Nat:=322
abbrev RB:Nat:=323
abbrev GN:Nat:=325
abbrev EF:Nat:=326
abbrev Rr:Nat:=327
abbrev Gv:Nat:=328
abbrev BN:Nat:=1
abbrev Bq:Nat:=2
open Go.Proofs.Tryz
def Qms:List Item:=[oJ 13 12]
def Q95:SC:=cT 13 (sR [zJ 2 1] [2] .ret) .skip
def Qmt:List Item:=[mJ 3 16]
def Qmu:List Item:=[mJ 4 22,sJ 3 5 24]
def Qmv:List Item:=[mJ 33 4,bJ 34 .lss 32 33]
def Q96:SC:=cT 34 (.reg [mJ 35 3,aJ 36 ER [.t 35,kI 2]] [1,3,5,18,19,20]) .skip
def Qmw:List Item:=[mJ 6 37]
def Q97:SC:=cT 54 (.reg [mJ 55 3,aJ 56 ER [.t 55,kI 2]] [1,3,5,6,8,18,19,20,39,40,41]) .skip
def Q98:SC:=sR [mJ 54 10] [1,3,5,6,8,18,19,20,39,40,41,54] Q97
def Qos:SC:=.reg [mJ 57 6,kJ 58 57,fJ 59 0 58,lJ 60 59,mJ 61 8,.e none none (.upd 1 (.t 60) (.t 61) (kI 0))] [1,3,5,6,18,19,20,39,40,41]
def Q58:SC:=.seq (sR [mJ 46 6,kJ 47 46,fJ 48 0 47,lJ 49 48,mJ 50 8,fI 51 (.lup2 1 (.c (.int .i64 0)) (.t 49) (.t 50)),mJ 45 51,fI 52 (.ext (.t 45) 0),fI 53 (.ext (.t 45) 1),mJ 9 52,mJ 10 53] [1,3,5,6,8,10,18,19,20,39,40,41] Q98) Qos
def Qmo:SC:=.reg [cJ 62 .add 41 1,mJ 41 62] [1,3,5,6,18,19,20,39,40,41]
def Q59:SC:=.seq (.block 3 (sR [iJ 43 1 39 41,lJ 44 43,mJ 8 44] [1,3,5,6,8,18,19,20,39,40,41] Q58)) Qmo
def Q19:SC:=sR [bJ 42 .lss 41 40] [1,3,5,6,18,19,20,39,40,41,42] (cX 42 2 Q59)
def Qmp:SC:=.reg [mJ 63 3,fJ 64 2 5,lJ 65 64,mJ 66 6,aJ 67 IC [.t 63,.t 65,.t 66]] [1,3,18,19,20]
def Q6a:SC:=.seq (sR [fJ 38 1 5,lJ 39 38,nJ 40 39,zJ 41 0] [1,3,5,6,18,19,20,39,40,41] (bL 2 Q19)) Qmp
def Qmq:SC:=sR (aJ 37 CC [.k (.c .pnil)]::Qmw) [1,3,5,6,18,19,20] Q6a
def Qmr:SC:=.seq (sR (tJ 29 1 1::fJ 30 0 5::lJ 31 30::aJ 32 HC [.t 29,.t 31]::Qmv) [1,3,5,18,19,20,34] Q96) Qmq
def Q6b:SC:=sR [mJ 25 3,mJ 26 4,kJ 27 25,fJ 28 1 27,sJ 1 28 26] [1,3,4,5,18,19,20] Qmr
def Q6c:SC:=.reg [cJ 68 .add 20 1,mJ 20 68] [1,3,18,19,20]
def Q6d:SC:=.seq (.block 1 (sR (mJ 22 20::iJ 23 3 18 20::tJ 24 3 23::eI 5 (.alloc [.str [],.sl true 1 [],.sl true 5 []])::Qmu) [1,3,4,5,18,19,20] Q6b)) Q6c
def Q2a:SC:=sR [bJ 21 .lss 20 19] [1,3,18,19,20,21] (cX 21 0 Q6d)
def Q6e:SC:=sR [mJ 69 3,kJ 70 69,fJ 71 2 70,lJ 72 71,mJ 2 72] [2] .ret
def Q6f:SC:=.seq (sR [fJ 17 0 1,lJ 18 17,nJ 19 18,zJ 20 0] [1,3,18,19,20] (bL 0 Q2a)) Q6e
def Q6g:SC:=sR (tJ 14 1 1::fI 15 (.bld [.sl true 3 [],.int .i64 0,.int .i64 0] [(0,1,.t 14)])::eI 16 (.boxm (.t 15))::Qmt) [1,3] Q6f
def Q6h:SC:=.seq (sR (tJ 11 1 1::aJ 12 SL [.t 11]::Qms) [1,13] Q95) Q6g
def Qaf1:SC:=sR [vJ 1 0,zJ 2 0] [1] Q6h
def Ad:List RS:=[.tmp 2]
theorem Qafi:mFn prog SM 1 73 Qaf1 Ad=true:=by kernel_rfl
def Qsp:List Item:=[mJ 6 8,fI 9 (.ext (.t 6) 0),fI 10 (.ext (.t 6) 1),fI 11 (.ext (.t 6) 2),mJ 3 9,mJ 4 10,mJ 5 11]
def Qaj6:SC:=sR [mJ 12 5,mJ 2 12] [2] .ret
def Qaj7:SC:=sR (tJ 7 4 1::aJ 8 PV [.t 7,kI 6]::Qsp) [5] Qaj6
def Qaw5:SC:=sR [vJ 1 0,fB 2 false] [1] Qaj7
theorem Qawk:mFn prog S0 1 13 Qaw5 Ad=true:=by kernel_rfl
def N1:List Item:=[mJ 4 8]
def Qbgv:SC:=sR (fJ 5 0 2::lJ 6 5::fI 7 (.mkf Iy [.t 3])::aJ 8 SI [.t 6,.t 7]::N1) [4] .ret
def Qbrf:SC:=sR [vJ 2 0,vJ 3 1,zJ 4 0] [2,3] Qbgv
def Aa:List RS:=[.tmp 4]
theorem Qbqh:mFn prog HC 2 9 Qbrf Aa=true:=by kernel_rfl
def Qaw6:SC:=sR [fJ 4 0 2,lJ 5 4,lJ 6 1,bJ 7 .eql 5 6,mJ 3 7] [3] .ret
def Qbbl:SC:=sR [vJ 2 0,fB 3 false] [1,2] Qaw6
def AO:List RS:=[.tmp 3]
theorem Qbam:mFn prog Iy 2 8 Qbbl AO=true:=by kernel_rfl
def PQ:List Item:=[gT 15 11 (.not (.t 14)),pF 16 11 15,mJ 2 16]
def PP:List Item:=gT 9 6 (.bin 0 .lss (.t 8) (kI 0))::pF 10 6 9::mJ 11 10::gT 12 11 (.aslg 9 BN BN)::gTm 13 11 0::.e (some 14) (some (11,true)) (.call Th [.t 12,.t 13])::PQ
def RI:List Item:=mJ 6 5::gTm 7 6 0::.e (some 8) (some (6,true)) (.call Tb [.t 7,.k (.c (.fn HU []))])::PP
def Qa5p:SC:=sR (mJ 3 0::fI 4 (.lens (.t 3))::aJ 5 BV [.t 4,kI 1,kI 4]::RI) [2] .ret
def Qbgw:SC:=sR [fB 2 false] [0] Qa5p
theorem Qbf1:mFn prog F0 1 17 Qbgw Ad=true:=by kernel_rfl
def Qaj8:SC:=sR [mJ 3 0,fI 4 (.bin 0 .lss (.t 3) (.k (.c (.int .i32 97)))),mJ 5 4,gFm 6 5 0,gF 7 5 (.bin 0 .gtr (.t 6) (.k (.c (.int .i32 122)))),pT 8 5 7,mJ 2 8] [2] .ret
def Qaw7:SC:=sR [fB 2 false] [0] Qaj8
theorem Qawl:mFn prog HU 1 9 Qaw7 Ad=true:=by kernel_rfl
def Qmy:List Item:=[oJ 11 10]
def Qaab:SC:=cT 11 (sR [fB 2 false] [2] .ret) .skip
def Qmz:List Item:=[sJ 3 4 18]
def LO:List Item:=[gF 38 34 (.not (.t 37)),pT 39 34 38]
def LN:List Item:=pT 33 29 32::mJ 34 33::gFf 35 34 2 4::gFl 36 34 35::.e (some 37) (some (34,false)) (.call Ix [.t 36,kI 1])::LO
def Re:List Item:=oJ 22 21::mJ 23 22::gFf 24 23 1 4::gFl 25 23 24::gF 26 23 (.len (.t 25))::gF 27 23 (.bin 0 .gtr (.t 26) (kI 3))::pT 28 23 27::mJ 29 28::gFf 30 29 1 4::gFl 31 29 30::.e (some 32) (some (29,false)) (.call Tr [.t 31,.k (.c (.fn Ti []))])::LN
def Qot:SC:=cT 39 (sR [fB 2 false] [2] .ret) .skip
def Qaac:SC:=sR (fJ 19 0 4::lJ 20 19::aJ 21 F0 [.t 20]::Re) [1,13,14,15,39] Qot
def Qou:SC:=.reg [cJ 40 .add 15 1,mJ 15 40] [1,13,14,15]
def Qaad:SC:=.seq (.block 1 (sR (iJ 17 3 13 15::tJ 18 3 17::eI 4 (.alloc [.str [],.sl true 1 [],.sl true 5 []])::Qmz) [1,4,13,14,15] Qaac)) Qou
def Q2e:SC:=sR [bJ 16 .lss 15 14] [1,13,14,15,16] (cX 16 0 Qaad)
def Qlv:List Item:=[mJ 41 43,fI 44 (.ext (.t 41) 0),fI 45 (.ext (.t 41) 1),mJ 5 44,mJ 6 45]
def Q6n:SC:=sR [mJ 46 5,cJ 47 .leq 46 40,mJ 2 47] [2] .ret
def Qmx:SC:=sR (tJ 42 1 1::aJ 43 RA [.t 42]::Qlv) [5] Q6n
def Q6o:SC:=.seq (sR [fJ 12 0 1,lJ 13 12,nJ 14 13,zJ 15 0] [1,13,14,15] (bL 0 Q2e)) Qmx
def Q6p:SC:=.seq (sR (fJ 7 0 1::lJ 8 7::nJ 9 8::aJ 10 BV [.t 9,kI 1,kI 4]::Qmy) [1,11] Qaab) Q6o
def Qaf4:SC:=sR [vJ 1 0,fB 2 false] [1] Q6p
theorem Qafj:mFn prog SL 1 48 Qaf4 Ad=true:=by kernel_rfl
def Qiq:List Item:=[oJ 5 4,mJ 2 5]
def Qzc:SC:=sR (mJ 3 0::aJ 4 F0 [.t 3]::Qiq) [2] .ret
def Q6q:SC:=sR [fB 2 false] [0] Qzc
theorem Q53:mFn prog Ti 1 6 Q6q Ad=true:=by kernel_rfl
def Qaqq:SC:=cT 7 .skip (.reg [cJ 9 .eql 6 2,mJ 7 9] [6,7])
def Qaqr:SC:=cT 10 .skip (.reg [cJ 13 .eql 6 8,mJ 10 13] [6,10])
def Qaqs:SC:=cT 10 .skip (sR [cJ 12 .eql 6 7,mJ 10 12] [6,10] Qaqr)
def Qaqt:SC:=cT 18 (sR [zJ 2 1,fB 3 false,fB 4 true,fB 5 false] [2,3,4,5] .ret) .skip
def Qaqu:SC:=cT 16 (sR [zJ 2 1,fB 3 false,fB 4 true,fB 5 true] [2,3,4,5] .ret) (sR [cJ 19 .eql 6 6,mJ 18 19] [18] Qaqt)
def Qaqv:SC:=cT 14 (sR [zJ 2 2,fB 3 false,fB 4 false,fB 5 false] [2,3,4,5] .ret) (sR [cJ 17 .eql 6 5,mJ 16 17] [6,16] Qaqu)
def Q2f:SC:=cT 10 (sR [zJ 2 1,fB 3 false,fB 4 false,fB 5 false] [2,3,4,5] .ret) (sR [cJ 15 .eql 6 4,mJ 14 15] [6,14] Qaqv)
def Q2g:SC:=cT 7 (sR [zJ 2 1,fB 3 true,fB 4 false,fB 5 false] [2,3,4,5] .ret) (.seq (sR [cJ 11 .eql 6 3,mJ 10 11] [6,10] Qaqs) Q2f)
def Qaqw:SC:=.block 0 (.seq (sR [cJ 8 .eql 6 1,mJ 7 8] [6,7] Qaqq) Q2g)
def Sd:SC:=sR [zJ 2 (-1),fB 3 false,fB 4 false,fB 5 false] [2,3,4,5] .ret
def Qaki:SC:=.seq (sR [mJ 6 0] [6] Qaqw) Sd
def Qa5q:SC:=sR [zJ 2 0,fB 3 false,fB 4 false,fB 5 false] [0] Qaki
def Iu:List RS:=[.tmp 2,.tmp 3,.tmp 4,.tmp 5]
theorem Qa4u:mFn prog RX 1 20 Qa5q Iu=true:=by kernel_rfl
def Q2h:List Item:=[oJ 8 7,mJ 4 8]
def Qaxg:SC:=sR (mJ 5 0::fI 6 (.mkf Qxy [.t 3])::aJ 7 Tu [.t 5,.t 6]::Q2h) [4] .ret
def Qbbn:SC:=sR [vJ 3 1,fB 4 false] [0,3] Qaxg
theorem Qbao:mFn prog Ix 2 9 Qbbn Aa=true:=by kernel_rfl
def Qqp:List Item:=[oJ 7 6,mJ 3 7]
def Qaf9:SC:=sR (tJ 4 5 2::lJ 5 1::aJ 6 Q1d [.t 4,.t 5]::Qqp) [3] .ret
def Qaqx:SC:=sR [vJ 2 0,fB 3 false] [1,2] Qaf9
theorem Qapj:mFn prog Qxy 2 8 Qaqx AO=true:=by kernel_rfl
def Qly:List Item:=[sJ 5 7 19]
def Qlz:List Item:=[sJ 4 9 26]
def Q6r:SC:=.reg [mJ 27 0,tJ 28 4 9,mJ 29 2,aJ 30 SK [.t 27,.t 28,.t 29]] [0,2,7,14,15,16,21,22,23]
def Q6s:SC:=.reg [cJ 31 .add 23 1,mJ 23 31] [0,2,7,14,15,16,21,22,23]
def Q6t:SC:=.seq (.block 3 (sR (iJ 25 4 21 23::tJ 26 4 25::eI 9 (.alloc [.int .i64 0,.int .i64 0,.str [],.sl true 4 []])::Qlz) [0,2,7,9,14,15,16,21,22,23] Q6r)) Q6s
def Q2q:SC:=sR [bJ 24 .lss 23 22] [0,2,7,14,15,16,21,22,23,24] (cX 24 2 Q6t)
def Q6u:SC:=cT 46 (.reg [mJ 47 0,aJ 48 ER [.t 47,kI 2]] [0,2,7,14,15,16]) .skip
def Q6v:SC:=sR [mJ 46 11] [0,2,7,14,15,16,46] Q6u
def Qm0:SC:=.aH 7 [0,1,2,3,4,5,6] ( mJ 49 2::kJ 50 49::fJ 51 0 50::lJ 52 51::fJ 53 1 7::lJ 54 53::.e none none (.upd 1 (.t 52) (.t 54) (kI 0))::[]) [0,2,7,14,15,16]
def Ql0:List Item:=[mJ 57 61,fI 62 (.ext (.t 57) 0),fI 63 (.ext (.t 57) 1),mJ 12 62,mJ 13 63]
def Q2i:SC:=cT 65 (.reg [mJ 66 0,aJ 67 ER [.t 66,kI 3]] [0,2,7,14,15,16]) .skip
def Q2j:SC:=sR [mJ 64 13,oJ 65 64] [0,2,7,14,15,16,65] Q2i
def Q2k:SC:=cT 55 (sR (mJ 58 2::fJ 59 1 7::lJ 60 59::aJ 61 Fa [.t 58,.t 60]::Ql0) [0,2,7,13,14,15,16] Q2j) .skip
def Q2l:SC:=cT 34 (.seq (.seq (.aH 12 [0,1,2,3,4,5,6,7,8,9,10,11] ( mJ 37 2::kJ 38 37::fJ 39 0 38::lJ 40 39::fJ 41 1 7::lJ 42 41::fI 43 (.lup2 1 (.c (.int .i64 0)) (.t 40) (.t 42))::mJ 36 43::fI 44 (.ext (.t 36) 0)::fI 45 (.ext (.t 36) 1)::mJ 10 44::mJ 11 45::[]) [0,2,7,11,14,15,16]) Q6v) Qm0) (sR [cJ 56 .eql 33 2,mJ 55 56] [0,2,7,14,15,16,55] Q2k)
def Q2m:SC:=.block 4 (sR [cJ 35 .eql 33 1,mJ 34 35] [0,2,7,14,15,16,33,34] Q2l)
def Qjq:List Item:=[hJ 78 77,aJ 81 IC [.t 76,.t 78,.t 80]]
def Qjr:List Item:=[hJ 84 83,aJ 87 IC [.t 82,.t 84,.t 86]]
def Q2n:SC:=.aH 6 [0,1,2,3,4,2,5] ( mJ 82 0::fJ 83 4 7::lJ 84 83::mJ 85 2::aJ 86 CC [.t 85]::Qjr) [0,2,14,15,16]
def Q2o:SC:=cT 75 (.seq (.aH 6 [0,1,2,3,4,2,5] ( mJ 76 0::fJ 77 3 7::lJ 78 77::mJ 79 2::aJ 80 CC [.t 79]::Qjq) [0,2,7,14,15,16]) Q2n) .skip
def Tg:SC:=sR [fJ 68 0 7,lJ 69 68,cJ 70 .eql 69 5,mJ 71 70,gFf 72 71 0 7,gFl 73 71 72,gF 74 71 (.bin 0 .eql (.t 73) (kI 6)),pT 75 71 74] [0,2,7,14,15,16,75] Q2o
def Tf:SC:=.seq (sR [fJ 32 0 7,lJ 33 32] [0,2,7,14,15,16,33] Q2m) Tg
def Qlw:SC:=.seq (sR [fJ 20 2 7,lJ 21 20,nJ 22 21,zJ 23 0] [0,2,7,14,15,16,21,22,23] (bL 2 Q2q)) Tf
def Qlx:SC:=.reg [cJ 88 .add 16 1,mJ 16 88] [0,2,14,15,16]
def Q2p:SC:=.seq (.block 1 (sR (iJ 18 5 14 16::tJ 19 5 18::eI 7 (.alloc [.int .i64 0,.str [],.sl true 4 [],.sl true 5 [],.sl true 5 []])::Qly) [0,2,7,14,15,16] Qlw)) Qlx
def Qzd:SC:=sR [bJ 17 .lss 16 15] [0,2,14,15,16,17] (cX 17 0 Q2p)
def Qac8:SC:=sR [mJ 14 1,nJ 15 14,zJ 16 0] [0,2,14,15,16] (bL 0 Qzd)
def Av:List RS:=[]
theorem Qacg:mFn prog IC 3 89 Qac8 Av=true:=by kernel_rfl
def Qaae:SC:=.reg [tJ 6 4 4,fI 7 (.mkf Rg [.t 5,.t 3]),aJ 8 Pp [.t 6,.t 7]] []
def Qaga:SC:=sR [vJ 3 0,vJ 4 1,vJ 5 2] [3,4,5] Qaae
theorem Qafk:mFn prog SK 3 9 Qaga Av=true:=by kernel_rfl
def Qir:List Item:=[mJ 11 15,fI 16 (.ext (.t 11) 0),fI 17 (.ext (.t 11) 1),mJ 4 16,mJ 5 17]
def Qze:SC:=cT 19 (.reg [lJ 20 2,aJ 21 ER [.t 20,kI 3]] []) .skip
def Qzf:SC:=sR [mJ 18 5,oJ 19 18] [2,19] Qze
def Qis:List Item:=[mJ 6 37]
def Qzg:SC:=cT 55 (.reg [lJ 56 2,aJ 57 ER [.t 56,kI 5]] []) .skip
def Qzh:SC:=cT 39 (.reg [lJ 40 2,aJ 41 ER [.t 40,kI 4]] []) (.seq (.aH 14 [0,1,2,3,4,5,6,7,8,9,10,11,12,13] ( lJ 42 2::kJ 43 42::fJ 44 0 43::fJ 45 0 44::lJ 46 45::mJ 47 6::iJ 48 3 46 47::fJ 49 1 48::lJ 50 49::nJ 51 50::fJ 52 3 3::lJ 53 52::nJ 54 53::bJ 55 .neq 51 54::[]) [2,55]) Qzg)
def Qzi:SC:=sR [mJ 38 6,cJ 39 .lss 38 0] [2,3,6,39] Qzh
def Qzj:SC:=cT 22 (.seq (.aH 15 [0,1,2,3,4,5,6,7,8,9,10,11,12,13,14] ( lJ 24 2::kJ 25 24::fJ 26 0 25::fJ 27 0 26::lJ 28 27::lJ 29 2::kJ 30 29::fJ 31 1 30::lJ 32 31::fI 33 (.sli 3 (.t 28) none (some (.t 32)))::fI 34 (.bld [.sl true 3 []] [(0,1,.t 33)])::fJ 35 2 3::lJ 36 35::aJ 37 HC [.t 34,.t 36]::Qis) [2,3,6]) Qzi) .skip
def Qzk:SC:=cT 9 (sR (lJ 12 1::fJ 13 2 3::lJ 14 13::aJ 15 Fa [.t 12,.t 14]::Qir) [2,5] Qzf) (sR [cJ 23 .eql 8 13,mJ 22 23] [2,3,22] Qzj)
def Qzl:SC:=.block 0 (sR [cJ 10 .eql 8 2,mJ 9 10] [1,2,3,8,9] Qzk)
def Qwg:SC:=sR [fJ 7 0 3,lJ 8 7] [1,2,3,8] Qzl
def Q6w:SC:=sR [vJ 3 0] [1,2,3] Qwg
theorem Q54:mFn prog Rg 3 58 Q6w Av=true:=by kernel_rfl
def Qaaf:SC:=cT 8 (.reg [mJ 9 0,mJ 10 1,kJ 11 9,fJ 12 2 11,sJ 1 12 10] []) .skip
def Qagb:SC:=sR [mJ 4 0,kJ 5 4,fJ 6 2 5,lJ 7 6,cJ 8 .eql 7 0] [0,1,8] Qaaf
theorem Qafl:mFn prog ER 2 13 Qagb Av=true:=by kernel_rfl
def Qx4:List Item:=[oJ 23 22,mJ 24 23,gFf 25 24 2 2,gFl 26 24 25,gF 27 24 (.bin 0 .neq (.t 26) (.k (.c (.str [])))),pT 28 24 27]
def Qaq0:SC:=cT 28 (sR [zJ 4 0,zJ 5 0,fB 6 false] [4,5,6] .ret) .skip
def Qx5:List Item:=[oJ 36 35,mJ 37 36,gFf 38 37 1 2,gFl 39 37 38,gF 40 37 (.bin 0 .neq (.t 39) (kI 0)),pT 41 37 40]
def Qaq1:SC:=cT 41 (sR [zJ 4 0,zJ 5 0,fB 6 false] [4,5,6] .ret) .skip
def Qx6:List Item:=[oJ 49 48,mJ 50 49,gFf 51 50 1 2,gFl 52 50 51,gF 53 50 (.bin 0 .neq (.t 52) (kI 0)),pT 54 50 53]
def Qaq2:SC:=cT 54 (sR [zJ 4 0,zJ 5 0,fB 6 false] [4,5,6] .ret) .skip
def Qaq3:SC:=sR (fJ 46 2 2::lJ 47 46::aJ 48 F0 [.t 47]::Qx6) [1,2,7,8,54] Qaq2
def Qaq4:SC:=cT 62 (.reg [zJ 7 1,zJ 8 1] [1,2,7,8]) (sR [zJ 4 0,zJ 5 0,fB 6 false] [4,5,6] .ret)
def Qaq5:SC:=cT 55 (.reg [zJ 7 2,zJ 8 2] [1,2,7,8]) (sR [fJ 63 0 2,lJ 64 63,cJ 65 .eql 64 11,mJ 66 65,gFf 67 66 0 2,gFl 68 66 67,gF 69 66 (.bin 0 .eql (.t 68) (kI 12)),pT 70 66 69,mJ 62 70] [1,2,62] Qaq4)
def Qaq6:SC:=cT 42 (sR [zJ 8 3] [1,2,7,8] Qaq3) (sR [fI 56 (.ldo Bq Bq),fJ 57 0 2,lJ 58 57,fI 59 (.lup 0 (.ag [.str [],.int .i64 0]) (.t 56) (.t 58)),fI 60 (.fld 1 1 false (.t 59)),cJ 61 .gtr 60 0,mJ 55 61] [1,2,55] Qaq5)
def Qakt:SC:=cT 29 (sR (fJ 33 2 2::lJ 34 33::aJ 35 F0 [.t 34]::Qx5) [1,2,7,8,41] Qaq1) (sR [fJ 43 0 2,lJ 44 43,cJ 45 .eql 44 13,mJ 42 45] [1,2,7,42] Qaq6)
def Qx2:SC:=cT 16 (sR (fJ 20 1 2::lJ 21 20::aJ 22 Ir [.t 21]::Qx4) [1,2,7,8,28] Qaq0) (sR [fJ 30 0 2,lJ 31 30,cJ 32 .eql 31 2,mJ 29 32] [1,2,7,8,29] Qakt)
def S6:List Item:=[gF 92 85 (.not (.t 91)),pT 93 85 92,mJ 94 93,gFm 95 94 1,gF 96 94 (.bin 0 .lss (.t 95) (kI 1)),pT 97 94 96]
def Qs6:List Item:=cJ 74 .lss 73 6::mJ 75 74::gTf 76 75 1 2::gTl 77 75 76::gT 78 75 (.bin 0 .neq (.t 77) (kI 0))::gTm 79 75 78::gFf 80 79 2 2::gFl 81 79 80::gF 82 79 (.bin 0 .neq (.t 81) (.k (.c (.str []))))::gT 83 75 (.pick (.t 79) (.k (.c (.bool true))) (.t 82))::pF 84 75 83::mJ 85 84::gFf 86 85 3 2::gFl 87 85 86::gF 88 85 (.len (.t 87))::gFm 89 85 7::gFm 90 85 8::.e (some 91) (some (85,false)) (.call BV [.t 88,.t 89,.t 90])::S6
def s_im_exprSize_14:SC:=cT 97 (sR [zJ 4 0,zJ 5 0,fB 6 false] [4,5,6] .ret) .skip
def Qs7:List Item:=[sJ 4 12 104]
def Qs8:List Item:=[mJ 105 109,fI 110 (.ext (.t 105) 0),fI 111 (.ext (.t 105) 1),fI 112 (.ext (.t 105) 2),mJ 13 110,mJ 14 111,mJ 15 112]
def Qaku:SC:=cT 114 (sR [zJ 4 0,zJ 5 0,fB 6 false] [4,5,6] .ret) .skip
def Qakv:SC:=.reg [mJ 118 10,mJ 119 14,cJ 120 .add 119 1,fI 121 (.mx (.t 118) (.t 120)),mJ 10 121] [1,9,10,99,100,101]
def Qakw:SC:=sR [mJ 115 9,mJ 116 13,bJ 117 .add 115 116,mJ 9 117] [1,9,10,14,99,100,101] Qakv
def Qakx:SC:=.seq (sR [mJ 113 15,oJ 114 113] [1,9,10,13,14,99,100,101,114] Qaku) Qakw
def Qaky:SC:=sR (tJ 106 4 12::mJ 107 1::cJ 108 .sub 107 1::aJ 109 PV [.t 106,.t 108]::Qs8) [1,9,10,13,14,15,99,100,101] Qakx
def Qakz:SC:=.reg [cJ 122 .add 101 1,mJ 101 122] [1,9,10,99,100,101]
def Qak0:SC:=.seq (.block 2 (sR (iJ 103 4 99 101::tJ 104 4 103::eI 12 (.alloc [.int .i64 0,.int .i64 0,.str [],.sl true 4 []])::Qs7) [1,9,10,12,99,100,101] Qaky)) Qakz
def Qagd:SC:=sR [bJ 102 .lss 101 100] [1,9,10,99,100,101,102] (cX 102 1 Qak0)
def Qak1:SC:=sR [mJ 123 9,mJ 124 10,mJ 125 9,cJ 126 .leq 125 30,mJ 4 123,mJ 5 124,mJ 6 126] [4,5,6] .ret
def Qak2:SC:=.seq (sR [fJ 98 3 2,lJ 99 98,nJ 100 99,zJ 101 0] [1,9,10,99,100,101] (bL 1 Qagd)) Qak1
def Qx3:SC:=sR [zJ 9 1,zJ 10 1] [1,2,9,10] Qak2
def Qak3:SC:=.seq (sR (fJ 71 0 2::lJ 72 71::aJ 73 RB [.t 72]::Qs6) [1,2,97] s_im_exprSize_14) Qx3
def Qak4:SC:=.seq (.block 0 (sR [fJ 17 0 2,lJ 18 17,cJ 19 .eql 18 1,mJ 16 19] [1,2,7,8,16] Qx2)) Qak3
def Qak5:SC:=sR [zJ 7 0,zJ 8 0] [1,2,7,8] Qak4
def Qa5r:SC:=sR [vJ 2 0,zJ 4 0,zJ 5 0,fB 6 false] [1,2] Qak5
def It:List RS:=[.tmp 4,.tmp 5,.tmp 6]
theorem Qa4v:mFn prog PV 2 127 Qa5r It=true:=by kernel_rfl
def N0:List Item:=[cJ 5 .eql 4 0,mJ 2 5]
def Qbgy:SC:=sR (tJ 3 1 1::aJ 4 SM [.t 3]::N0) [2] .ret
def Qbrg:SC:=sR [vJ 1 0,fB 2 false] [1] Qbgy
theorem Qbqi:mFn prog GP 1 6 Qbrg Ad=true:=by kernel_rfl
def Qax2:SC:=cT 13 (sR [zJ 2 5] [2] .ret) .skip
def Qax3:SC:=cT 3 (sR [fI 9 (.ldo Bq Bq),mJ 10 0,fI 11 (.lup 0 (.ag [.str [],.int .i64 0]) (.t 9) (.t 10)),fI 12 (.fld 1 1 false (.t 11)),mJ 2 12] [2] .ret) (sR [mJ 14 0,cJ 15 .eql 14 11,mJ 16 15,gFm 17 16 0,gF 18 16 (.bin 0 .eql (.t 17) (kI 12)),pT 19 16 18,mJ 13 19] [13] Qax2)
def Qax4:SC:=sR [zJ 2 6] [2] .ret
def Qax5:SC:=.seq (.block 0 (sR [fI 4 (.ldo Bq Bq),mJ 5 0,fI 6 (.lup 0 (.ag [.str [],.int .i64 0]) (.t 4) (.t 5)),fI 7 (.fld 1 1 false (.t 6)),cJ 8 .gtr 7 0,mJ 3 8] [0,3] Qax3)) Qax4
def Qbbq:SC:=sR [zJ 2 0] [0] Qax5
theorem Qbaq:mFn prog RB 1 20 Qbbq Ad=true:=by kernel_rfl
def Q3o:List Item:=[eI 3 (.alloc [.int .i64 0])]
def Q3p:List Item:=[sJ 3 5 12]
def Qax9:SC:=.reg [fJ 13 2 5,lJ 14 13,fI 15 (.mkf S3 [.t 2,.t 3]),aJ 16 HH [.t 14,kI 1,.t 15]] [2,3,7,8,9]
def Qaya:SC:=.reg [cJ 17 .add 9 1,mJ 9 17] [2,3,7,8,9]
def Qayb:SC:=.seq (.block 1 (sR (iJ 11 3 7 9::tJ 12 3 11::eI 5 (.alloc [.str [],.sl true 1 [],.sl true 5 []])::Q3p) [2,3,5,7,8,9] Qax9)) Qaya
def Qarj:SC:=sR [bJ 10 .lss 9 8] [2,3,7,8,9,10] (cX 10 0 Qayb)
def Q3q:List Item:=[hJ 19 3,sJ 1 3 19]
def Qayc:SC:=.seq (.aH 4 [0,1,2,1,3] ( lJ 18 2::lJ 19 3::sJ 1 2 18::Q3q) [2,3]) .ret
def Qayd:SC:=.seq (sR [fJ 6 0 1,lJ 7 6,nJ 8 7,zJ 9 0] [2,3,7,8,9] (bL 0 Qarj)) Qayc
def Qbbs:SC:=sR (vJ 1 0::eI 2 (.alloc [.int .i64 0])::Q3o) [1,2,3] Qayd
def Nm:List RS:=[.cell 2 1 false,.cell 3 1 false]
theorem Qbar:mFn prog RA 1 20 Qbbs Nm=true:=by kernel_rfl
def Qagh:SC:=.reg [lJ 8 3,mJ 9 1,fI 10 (.mx (.t 8) (.t 9)),sJ 1 3 10] []
def Qagi:SC:=sR [lJ 6 2,cJ 7 .add 6 1,sJ 1 2 7] [1,3] Qagh
def Qari:SC:=sR [vJ 4 0] [1,2,3] Qagi
theorem Qapl:mFn prog S3 4 11 Qari Av=true:=by kernel_rfl
def NG:List Item:=[sJ 4 5 15]
def Qbbt:SC:=.reg [tJ 16 4 5,mJ 17 1,aJ 18 Pp [.t 16,.t 17]] [1,10,11,12]
def Qbbu:SC:=.reg [cJ 19 .add 12 1,mJ 12 19] [1,10,11,12]
def Qbbv:SC:=.seq (.block 1 (sR (iJ 14 4 10 12::tJ 15 4 14::eI 5 (.alloc [.int .i64 0,.int .i64 0,.str [],.sl true 4 []])::NG) [1,5,10,11,12] Qbbt)) Qbbu
def Qa52:SC:=sR [bJ 13 .lss 12 11] [1,10,11,12,13] (cX 13 0 Qbbv)
def Qbbw:SC:=sR [fJ 9 3 2,lJ 10 9,nJ 11 10,zJ 12 0] [1,10,11,12] (bL 0 Qa52)
def Qbbx:SC:=sR [mJ 6 1,tJ 7 4 2,eI 8 (.bv (.t 6) [.t 7])] [1,2] Qbbw
def Qbmw:SC:=sR [vJ 2 0] [1,2] Qbbx
theorem Qbl7:mFn prog Pp 2 20 Qbmw Av=true:=by kernel_rfl
def Qagj:SC:=cT 23 (sR [mJ 24 6,mJ 4 24,fB 5 true] [4,5] .ret) .skip
def Qagk:SC:=sR [mJ 23 7] [0,1,6,23] Qagj
def Qagl:SC:=.reg [mJ 10 0,kJ 11 10,fJ 12 1 11,lJ 13 12,mJ 0 13] [0,1]
def Qagm:SC:=.seq (.block 1 (sR [mJ 15 0,kJ 16 15,fJ 17 0 16,lJ 18 17,mJ 19 1,fI 20 (.lup2 1 (.c (.int .i64 0)) (.t 18) (.t 19)),mJ 14 20,fI 21 (.ext (.t 14) 0),fI 22 (.ext (.t 14) 1),mJ 6 21,mJ 7 22] [0,1,6,7] Qagk)) Qagl
def Qadj:SC:=.seq (sR [mJ 8 0,fI 9 (.bin 2 .neq (.t 8) (.k (.c .pnil)))] [0,1,9] (cT 9 .skip (.exit 0))) Qagm
def Qagn:SC:=sR [zJ 4 0,fB 5 false] [4,5] .ret
def Qark:SC:=sR [zJ 4 0,fB 5 false] [0,1] (.seq (bL 0 Qadj) Qagn)
def Se:List RS:=[.tmp 4,.tmp 5]
theorem Qapm:mFn prog Fa 2 25 Qark Se=true:=by kernel_rfl
def Qqq:List Item:=[mJ 4 0,fI 5 (.bld [.mnil,.pnil] [(0,1,.t 3),(1,1,.t 4)]),vJ 6 5,mJ 2 6]
def Qago:SC:=sR (eI 3 (.mkm)::Qqq) [2] .ret
def Qarl:SC:=sR [fI 2 (.mv (.k (.c .pnil)))] [0] Qago
theorem Qapn:mFn prog CC 1 7 Qarl Ad=true:=by kernel_rfl
def Q8m:List Item:=[mJ 11 14,fI 15 (.ext (.t 11) 0),fI 16 (.ext (.t 11) 1),fI 17 (.ext (.t 11) 2),fI 18 (.ext (.t 11) 3),mJ 5 15,mJ 6 16,mJ 7 17,mJ 8 18]
def RD:List Item:=[gT 32 28 (.not (.t 31)),pF 33 28 32,mJ 19 33]
def Qa53:SC:=cT 19 .skip (.reg [fJ 57 0 2,lJ 58 57,cJ 59 .eql 58 8,mJ 60 59,gTf 61 60 2 2,gTl 62 60 61,gT 63 60 (.iad 4 (.t 62) (kI 0)),gTf 64 60 0 63,gTl 65 60 64,gT 66 60 (.bin 0 .neq (.t 65) (kI 13)),pF 67 60 66,mJ 19 67] [1,2,19])
def Qa54:SC:=cT 19 .skip (sR [mJ 49 8,oJ 50 49,mJ 51 50,gTf 52 51 4 2,gTl 53 51 52,gT 54 51 (.len (.t 53)),gT 55 51 (.bin 0 .gtr (.t 54) (kI 0)),pF 56 51 55,mJ 19 56] [1,2,19] Qa53)
def Qa55:SC:=cT 19 .skip (sR [mJ 41 7,oJ 42 41,mJ 43 42,gTf 44 43 3 2,gTl 45 43 44,gT 46 43 (.len (.t 45)),gT 47 43 (.bin 0 .gtr (.t 46) (kI 0)),pF 48 43 47,mJ 19 48] [1,2,8,19] Qa54)
def NF:SC:=cT 19 .skip (sR [mJ 34 6,oJ 35 34,mJ 36 35,gTf 37 36 1 2,gTl 38 36 37,gT 39 36 (.bin 0 .neq (.t 38) (.k (.c (.str [])))),pF 40 36 39,mJ 19 40] [1,2,7,8,19] Qa55)
def Qa56:SC:=cT 19 .skip (sR (mJ 27 6::mJ 28 27::gTf 29 28 1 2::gTl 30 28 29::.e (some 31) (some (28,true)) (.call F0 [.t 30])::RD) [1,2,6,7,8,19] NF)
def NE:SC:=cT 19 .skip (sR [fJ 22 2 2,lJ 23 22,nJ 24 23,mJ 25 5,bJ 26 .neq 24 25,mJ 19 26] [1,2,6,7,8,19] Qa56)
def Qa57:SC:=cT 19 (sR [fB 4 false] [4] .ret) .skip
def Q8n:List Item:=[sJ 4 10 74]
def Q3r:List Item:=[oJ 77 76]
def Qayf:SC:=cT 77 (sR [fB 4 false] [4] .ret) .skip
def Qayg:SC:=sR (tJ 75 4 10::aJ 76 S0 [.t 75]::Q3r) [1,2,69,70,71,77] Qayf
def Qayh:SC:=.reg [cJ 78 .add 71 1,mJ 71 78] [1,2,69,70,71]
def Qayi:SC:=.seq (.block 2 (sR (iJ 73 4 69 71::tJ 74 4 73::eI 10 (.alloc [.int .i64 0,.int .i64 0,.str [],.sl true 4 []])::Q8n) [1,2,10,69,70,71] Qayg)) Qayh
def Qarm:SC:=sR [bJ 72 .lss 71 70] [1,2,69,70,71,72] (cX 72 1 Qayi)
def Sn:List Item:=[pF 90 84 89,mJ 4 90]
def Sm:List Item:=mJ 84 83::gTf 85 84 4 2::gTl 86 84 85::gTm 87 84 1::gT 88 84 (.bin 0 .add (.t 87) (kI 1))::.e (some 89) (some (84,true)) (.call Ix [.t 86,.t 88])::Sn
def Qayj:SC:=sR (fJ 79 3 2::lJ 80 79::mJ 81 1::cJ 82 .add 81 1::aJ 83 Ix [.t 80,.t 82]::Sm) [4] .ret
def Qayk:SC:=.seq (sR [fJ 68 2 2,lJ 69 68,nJ 70 69,zJ 71 0] [1,2,69,70,71] (bL 1 Qarm)) Qayj
def Qayl:SC:=.seq (.block 0 (.seq (sR [mJ 20 1,cJ 21 .gtr 20 4,mJ 19 21] [1,2,5,6,7,8,19] NE) Qa57)) Qayk
def Qaym:SC:=sR (fJ 12 0 2::lJ 13 12::aJ 14 RX [.t 13]::Q8m) [1,2,5,6,7,8] Qayl
def Qbg1:SC:=sR [vJ 2 0,fB 4 false] [1,2] Qaym
theorem Qbf3:mFn prog Q1d 2 91 Qbg1 Aa=true:=by kernel_rfl
def ND:List Item:=[sJ 5 7 13]
def Qbby:SC:=.reg [fJ 24 4 7,lJ 25 24,mJ 26 1,cJ 27 .add 26 1,mJ 28 2,aJ 29 HH [.t 25,.t 27,.t 28]] [1,2,8,9,10]
def Qbbz:SC:=sR [fJ 18 3 7,lJ 19 18,mJ 20 1,cJ 21 .add 20 1,mJ 22 2,aJ 23 HH [.t 19,.t 21,.t 22]] [1,2,7,8,9,10] Qbby
def Qbb0:SC:=sR [mJ 14 2,tJ 15 5 7,mJ 16 1,eI 17 (.bv (.t 14) [.t 15,.t 16])] [1,2,7,8,9,10] Qbbz
def Qbb1:SC:=.reg [cJ 30 .add 10 1,mJ 10 30] [1,2,8,9,10]
def Qbb2:SC:=.seq (.block 1 (sR (iJ 12 5 8 10::tJ 13 5 12::eI 7 (.alloc [.int .i64 0,.str [],.sl true 4 [],.sl true 5 [],.sl true 5 []])::ND) [1,2,7,8,9,10] Qbb0)) Qbb1
def Qa58:SC:=sR [bJ 11 .lss 10 9] [1,2,8,9,10,11] (cX 11 0 Qbb2)
def Qbmx:SC:=sR [mJ 8 0,nJ 9 8,zJ 10 0] [1,2,8,9,10] (bL 0 Qa58)
theorem Qbl8:mFn prog HH 3 31 Qbmx Av=true:=by kernel_rfl
def Mr:List Item:=[cJ 5 .eql 4 0,mJ 2 5]
def Qbnf:SC:=sR (tJ 3 1 1::aJ 4 SG [.t 3]::Mr) [2] .ret
def XH:SC:=sR [vJ 1 0,fB 2 false] [1] Qbnf
theorem X5:mFn prog Gs 1 6 XH Ad=true:=by kernel_rfl
def Ll:List Item:=[zJ 5 0,zJ 6 0]
def Lj:List Item:=[mJ 7 14]
def Li:List Item:=[sJ 3 8 19]
def Lh:List Item:=[mJ 24 1,bJ 25 .neq 23 24]
def XG:SC:=cT 25 (.reg [mJ 26 7,aJ 27 F4 [.t 26,kI 2]] [4,7,8]) .skip
def Lf:List Item:=[mJ 9 45]
def Ld:List Item:=fI 44 (.bw 1 [.t 43])::xJ 45 1 36 44::Lf
def Xi:SC:=.reg [mJ 34 10,cJ 35 .add 34 1,mJ 10 35] [4,7,8,9,10]
def Xh:SC:=.seq (.block 1 (.reg (mJ 36 9::mJ 37 7::fJ 38 1 8::lJ 39 38::mJ 40 10::iJ 41 1 39 40::lJ 42 41::aJ 43 PH [.t 37,.t 42,kI 0]::Ld) [4,7,8,9,10])) Xi
def Qbsb:SC:=.seq (sR [mJ 29 10,fJ 30 1 8,lJ 31 30,nJ 32 31,bJ 33 .lss 29 32] [4,7,8,9,10,33] (cT 33 .skip (.exit 0))) Xh
def Oh:List Item:=[fJ 52 2 8,sJ 1 52 51]
def Og:List Item:=[hJ 57 56,hJ 61 60,mJ 5 57,mJ 6 61]
def Qbr4:SC:=.seq (.aH 12 [0,1,2,3,4,5,6,7,8,9,4,8,10,11] ( tJ 53 3 8::mJ 54 7::kJ 55 54::fJ 56 4 55::lJ 57 56::mJ 58 7::kJ 59 58::fJ 60 3 59::lJ 61 60::sJ 3 4 53::Og) [4,5,6]) .ret
def Qbr5:SC:=sR (mJ 48 7::fJ 49 2 8::lJ 50 49::aJ 51 I9 [.t 48,.t 50,kI 0]::Oh) [4,7,8] Qbr4
def Qbr6:SC:=sR [mJ 46 9,fJ 47 1 8,sJ 1 47 46] [4,7,8] Qbr5
def Qbr7:SC:=.seq (sR [zJ 10 0] [4,7,8,9,10] (bL 0 Qbsb)) Qbr6
def Lm:SC:=sR [fI 28 (.bw 1 []),mJ 9 28] [4,7,8,9] Qbr7
def Qbr8:SC:=.seq (sR (tJ 20 1 2::fJ 21 0 8::lJ 22 21::aJ 23 If [.t 20,.t 22]::Lh) [4,7,8,25] XG) Lm
def Qbr9:SC:=sR (fJ 15 0 2::lJ 16 15::mJ 17 1::iJ 18 3 16 17::tJ 19 3 18::eI 8 (.alloc [.str [],.sl true 1 [],.sl true 5 []])::Li) [1,2,4,7,8] Qbr8
def Qbsa:SC:=sR (tJ 11 1 2::mJ 12 1::fI 13 (.bld [.sl true 3 [],.int .i64 0,.sl true 3 [],.int .i64 0,.int .i64 0] [(0,1,.t 11),(1,1,.t 12)])::eI 14 (.boxm (.t 13))::Lj) [1,2,4,7] Qbr9
def Qb1n:SC:=sR (vJ 2 0::eI 4 (.alloc [.str [],.sl true 1 [],.sl true 5 []])::Ll) [1,2,4] Qbsa
def FH:List RS:=[.cell 4 3 true,.tmp 5,.tmp 6]
theorem Qb1d:mFn prog FU 2 62 Qb1n FH=true:=by kernel_rfl
def Qbng:SC:=sR [mJ 6 3,mJ 7 3,cJ 8 .add 7 1,fI 9 (.slis (.k (.c (.str [97,98,99,100,101,102,103,104,105,106,107,108,109,110,111,112,113,114,115,116,117,118,119,120,121,122]))) (some (.t 6)) (some (.t 8))),fI 10 (.bin 0 .add (.k (.c (.str [118]))) (.t 9)),mJ 2 10] [2] .ret
def Qbnh:SC:=sR [mJ 4 0,cJ 5 .rem 4 26,mJ 3 5] [3] Qbng
def Xg:SC:=sR [fI 2 (.mv (.k (.c (.str []))))] [0] Qbnh
theorem X4:mFn prog EE 1 11 Xg Ad=true:=by kernel_rfl
def Qyb:List Item:=[eI 4 (.alloc [.int .i64 0,.int .i64 0,.str [],.sl true 4 []])]
def Qyc:List Item:=[fJ 15 2 3,sJ 1 15 14]
def Qar0:SC:=cT 10 (.reg (mJ 11 0::fJ 12 2 3::lJ 13 12::aJ 14 PG [.t 11,.t 13]::Qyc) [0,3,4]) .skip
def Qyd:List Item:=[mJ 5 25]
def Qar1:SC:=cT 51 (.reg [mJ 52 0,aJ 53 F4 [.t 52,kI 5]] [0,3,4]) .skip
def Q3t:SC:=cT 35 (.reg [mJ 36 0,aJ 37 F4 [.t 36,kI 4]] [0,3,4]) (.seq (.aH 14 [0,1,2,3,4,5,6,7,8,9,10,11,12,13] ( mJ 38 0::kJ 39 38::fJ 40 0 39::fJ 41 0 40::lJ 42 41::mJ 43 5::iJ 44 3 42 43::fJ 45 1 44::lJ 46 45::nJ 47 46::fJ 48 3 3::lJ 49 48::nJ 50 49::bJ 51 .neq 47 50::[]) [0,3,4,51]) Qar1)
def Qar2:SC:=sR [mJ 26 5,cJ 27 .lss 26 0,mJ 28 27,gFm 29 28 5,gFm 30 28 0,gF 31 28 (.nck (.t 30)),gFf 32 28 1 31,gFl 33 28 32,gF 34 28 (.bin 0 .geq (.t 29) (.t 33)),pT 35 28 34] [0,3,4,5,35] Q3t
def Qar3:SC:=cT 18 (.seq (.aH 8 [0,1,2,3,4,5,6,7] ( mJ 19 0::kJ 20 19::fJ 21 0 20::tJ 22 1 21::fJ 23 2 3::lJ 24 23::aJ 25 If [.t 22,.t 24]::Qyd) [0,3,4,5]) Qar2) .skip
def Qye:List Item:=[mJ 6 71]
def Qyf:List Item:=fI 70 (.bw 4 [.t 69])::xJ 71 4 62 70::Qye
def Qald:SC:=.reg [mJ 60 7,cJ 61 .add 60 1,mJ 7 61] [0,3,4,6,7]
def Qale:SC:=.seq (.block 1 (.reg (mJ 62 6::mJ 63 0::fJ 64 3 3::lJ 65 64::mJ 66 7::iJ 67 4 65 66::tJ 68 4 67::aJ 69 PU [.t 63,.t 68]::Qyf) [0,3,4,6,7])) Qald
def Qagq:SC:=.seq (sR [mJ 55 7,fJ 56 3 3,lJ 57 56,nJ 58 57,bJ 59 .lss 55 58] [0,3,4,6,7,59] (cT 59 .skip (.exit 0))) Qale
def Qalf:SC:=sR [tJ 74 4 3,sJ 4 4 74] [4] .ret
def Qalg:SC:=sR [mJ 72 6,fJ 73 3 3,sJ 1 73 72] [3,4] Qalf
def Qalh:SC:=.seq (sR [zJ 7 0] [0,3,4,6,7] (bL 0 Qagq)) Qalg
def S2:SC:=sR [fI 54 (.bw 4 []),mJ 6 54] [0,3,4,6] Qalh
def Qya:SC:=.seq (sR [fJ 16 0 3,lJ 17 16,cJ 18 .eql 17 13] [0,3,4,18] Qar3) S2
def Qali:SC:=.seq (sR [fJ 8 0 3,lJ 9 8,cJ 10 .eql 9 2] [0,3,4,10] Qar0) Qya
def Qa6c:SC:=sR (eI 3 (.boxm (.t 1))::Qyb) [0,3,4] Qali
def Is:List RS:=[.cell 4 4 true]
theorem Qa4z:mFn prog PU 2 75 Qa6c Is=true:=by kernel_rfl
def Qar4:SC:=cT 8 (.reg [mJ 9 0,mJ 10 1,kJ 11 9,fJ 12 4 11,sJ 1 12 10] []) .skip
def Qa6d:SC:=sR [mJ 4 0,kJ 5 4,fJ 6 4 5,lJ 7 6,cJ 8 .eql 7 0] [0,1,8] Qar4
theorem Qa40:mFn prog F4 2 13 Qa6d Av=true:=by kernel_rfl
def Qar5:SC:=cT 25 (sR [mJ 26 5,mJ 4 26] [4] .ret) .skip
def Qar6:SC:=.reg [mJ 14 5,cJ 15 .sub 14 1,mJ 5 15] [0,1,5]
def Qar7:SC:=.seq (.block 1 (sR [mJ 16 0,kJ 17 16,fJ 18 2 17,lJ 19 18,mJ 20 5,iJ 21 3 19 20,fJ 22 0 21,lJ 23 22,mJ 24 1,bJ 25 .eql 23 24] [0,1,5,25] Qar5)) Qar6
def Qalj:SC:=.seq (sR [mJ 12 5,cJ 13 .geq 12 0] [0,1,5,13] (cT 13 .skip (.exit 0))) Qar7
def Qar8:SC:=sR [zJ 4 (-1)] [4] .ret
def Qar9:SC:=.seq (sR [mJ 6 0,kJ 7 6,fJ 8 2 7,lJ 9 8,nJ 10 9,cJ 11 .sub 10 1,mJ 5 11] [0,1,5] (bL 0 Qalj)) Qar8
def Qa6e:SC:=sR [zJ 4 0] [0,1] Qar9
theorem Qa41:mFn prog PT 2 27 Qa6e Aa=true:=by kernel_rfl
def Q3u:List Item:=[mJ 7 10]
def Qayn:SC:=cT 24 (.reg [mJ 25 0,aJ 26 F4 [.t 25,kI 2]] [0,1,2]) .skip
def Q3v:List Item:=[kJ 41 27,fJ 42 2 41,sJ 1 42 40]
def Q3w:List Item:=[mJ 6 56]
def Qayo:SC:=sR (mJ 51 0::kJ 52 51::fJ 53 3 52::lJ 54 53::cJ 55 .sub 54 1::aJ 56 EE [.t 55]::Q3w) [6] .ret
def Qayp:SC:=sR [mJ 43 0,mJ 44 0,kJ 45 44,fJ 46 3 45,lJ 47 46,cJ 48 .add 47 1,kJ 49 43,fJ 50 3 49,sJ 1 50 48] [0] Qayo
def Q8o:SC:=.seq (.aH 17 [0,1,2,3,4,5,6,7,8,9,10,11,12,13,14,15,16] ( mJ 27 0::mJ 28 0::kJ 29 28::fJ 30 2 29::lJ 31 30::mJ 32 1::mJ 33 0::kJ 34 33::fJ 35 3 34::lJ 36 35::mJ 37 2::fI 38 (.bld [.str [],.int .i64 0,.int .i64 0] [(0,1,.t 32),(1,1,.t 36),(2,1,.t 37)])::fI 39 (.bw 3 [.t 38])::xJ 40 3 31 39::Q3v) [0]) Qayp
def Qayq:SC:=.seq (sR [mJ 11 7,cJ 12 .geq 11 0,mJ 13 12,gTm 14 13 0,gT 15 13 (.nck (.t 14)),gTf 16 13 2 15,gTl 17 13 16,gTm 18 13 7,gT 19 13 (.iad 3 (.t 17) (.t 18)),gTf 20 13 2 19,gTl 21 13 20,gTm 22 13 2,gT 23 13 (.bin 0 .eql (.t 21) (.t 22)),pF 24 13 23] [0,1,2,24] Qayn) Q8o
def Qayr:SC:=sR (mJ 8 0::mJ 9 1::aJ 10 PT [.t 8,.t 9]::Q3u) [0,1,2,7] Qayq
def Qbch:SC:=sR [fI 6 (.mv (.k (.c (.str []))))] [0,1,2] Qayr
def AB:List RS:=[.tmp 6]
theorem Qbas:mFn prog PH 3 57 Qbch AB=true:=by kernel_rfl
def Qtc:List Item:=[sJ 5 10 28]
def Qtd:List Item:=[mJ 11 46]
def Qte:List Item:=fI 45 (.bw 4 [.t 44])::xJ 46 4 37 45::Qtd
def Qalk:SC:=.reg [mJ 35 12,cJ 36 .add 35 1,mJ 12 36] [0,1,2,7,8,9,10,11,12]
def Qall:SC:=.seq (.block 3 (.reg (mJ 37 11::mJ 38 0::fJ 39 2 10::lJ 40 39::mJ 41 12::iJ 42 4 40 41::tJ 43 4 42::aJ 44 PU [.t 38,.t 43]::Qte) [0,1,2,7,8,9,10,11,12])) Qalk
def Qag4:SC:=.seq (sR [mJ 30 12,fJ 31 2 10,lJ 32 31,nJ 33 32,bJ 34 .lss 30 33] [0,1,2,7,8,9,10,11,12,34] (cT 34 .skip (.exit 2))) Qall
def Qtf:List Item:=[fJ 57 1 10,sJ 1 57 56]
def Qalm:SC:=cT 51 (.reg (mJ 52 0::fJ 53 1 10::lJ 54 53::mJ 55 2::aJ 56 PH [.t 52,.t 54,.t 55]::Qtf) [0,1,2,7,8,9,10]) .skip
def Qtg:List Item:=[fJ 65 1 10,sJ 1 65 64]
def Qaln:SC:=cT 60 (.reg (mJ 61 0::fJ 62 1 10::lJ 63 62::aJ 64 PG [.t 61,.t 63]::Qtg) [0,1,2,7,8,9,10]) .skip
def Qqr:List Item:=[fJ 72 3 10,sJ 1 72 71]
def Qqs:List Item:=[fJ 79 4 10,sJ 1 79 78]
def Qqt:List Item:=[mJ 7 83]
def Qagr:SC:=.reg (mJ 80 7::tJ 81 5 10::fI 82 (.bw 5 [.t 81])::xJ 83 5 80 82::Qqt) [0,1,2,7,8,9]
def Qags:SC:=sR (mJ 73 0::fJ 74 4 10::lJ 75 74::mJ 76 2::cJ 77 .add 76 1::aJ 78 I9 [.t 73,.t 75,.t 77]::Qqs) [0,1,2,7,8,9,10] Qagr
def S5:SC:=sR (mJ 66 0::fJ 67 3 10::lJ 68 67::mJ 69 2::cJ 70 .add 69 1::aJ 71 I9 [.t 66,.t 68,.t 70]::Qqr) [0,1,2,7,8,9,10] Qags
def Qagt:SC:=.seq (sR [fJ 58 0 10,lJ 59 58,cJ 60 .eql 59 2] [0,1,2,7,8,9,10,60] Qaln) S5
def Qta:SC:=.seq (sR [fJ 49 0 10,lJ 50 49,cJ 51 .eql 50 1] [0,1,2,7,8,9,10,51] Qalm) Qagt
def Qagu:SC:=.seq (.seq .gh (.reg [mJ 47 11,fJ 48 2 10,sJ 1 48 47] [0,1,2,7,8,9,10])) Qta
def Qagv:SC:=.seq (sR [zJ 12 0] [0,1,2,7,8,9,10,11,12] (bL 2 Qag4)) Qagu
def Qagw:SC:=sR [fI 29 (.bw 4 []),mJ 11 29] [0,1,2,7,8,9,10,11] Qagv
def Qagx:SC:=.reg [mJ 23 9,cJ 24 .add 23 1,mJ 9 24] [0,1,2,7,8,9]
def Qagy:SC:=.seq (.block 1 (sR (mJ 25 1::mJ 26 9::iJ 27 5 25 26::tJ 28 5 27::eI 10 (.alloc [.int .i64 0,.str [],.sl true 4 [],.sl true 5 [],.sl true 5 []])::Qtc) [0,1,2,7,8,9,10] Qagw)) Qagx
def Qadp:SC:=.seq (sR [mJ 19 9,mJ 20 1,nJ 21 20,bJ 22 .lss 19 21] [0,1,2,7,8,9,22] (cT 22 .skip (.exit 0))) Qagy
def Qagz:SC:=cT 85 (.reg [mJ 86 0,mJ 87 0,kJ 88 87,fJ 89 2 88,lJ 90 89,mJ 91 8,fI 92 (.sli 3 (.t 90) none (some (.t 91))),kJ 93 86,fJ 94 2 93,sJ 1 94 92] [7]) .skip
def Qtb:SC:=sR [mJ 95 7,mJ 6 95] [6] .ret
def Qag0:SC:=.seq (sR [mJ 84 2,cJ 85 .gtr 84 0] [0,7,8,85] Qagz) Qtb
def Qag1:SC:=.seq (sR [zJ 9 0] [0,1,2,7,8,9] (bL 0 Qadp)) Qag0
def Qag2:SC:=sR [mJ 14 0,kJ 15 14,fJ 16 2 15,lJ 17 16,nJ 18 17,mJ 8 18] [0,1,2,7,8] Qag1
def Qag3:SC:=sR [fI 13 (.bw 5 []),mJ 7 13] [0,1,2,7] Qag2
def Qays:SC:=sR [fI 6 (.mv (.k (.c (.sl true 5 []))))] [0,1,2] Qag3
theorem Qawu:mFn prog I9 3 96 Qays AB=true:=by kernel_rfl
def Q3x:List Item:=[mJ 5 8]
def Qayt:SC:=sR [mJ 13 1,mJ 4 13] [4] .ret
def Qayu:SC:=cT 10 (sR [mJ 11 0,aJ 12 F4 [.t 11,kI 3]] [1] Qayt) .skip
def Q3y:List Item:=[mJ 4 22]
def Qayv:SC:=sR (mJ 14 0::kJ 15 14::fJ 16 2 15::lJ 17 16::mJ 18 5::iJ 19 3 17 18::fJ 20 1 19::lJ 21 20::aJ 22 EE [.t 21]::Q3y) [4] .ret
def Qayw:SC:=.seq (sR [mJ 9 5,cJ 10 .lss 9 0] [0,1,5,10] Qayu) Qayv
def Qayx:SC:=sR (mJ 6 0::mJ 7 1::aJ 8 PT [.t 6,.t 7]::Q3x) [0,1,5] Qayw
def Qbci:SC:=sR [fI 4 (.mv (.k (.c (.str []))))] [0,1] Qayx
theorem Qbat:mFn prog PG 2 23 Qbci Aa=true:=by kernel_rfl
def Qaav:SC:=cT 4 (sR [fI 2 (.mv (.k (.c (.sl true 1 []))))] [2] .ret) .skip
def Qm1:List Item:=[mJ 2 7]
def Qaaw:SC:=sR (fI 5 (.bw 1 [])::mJ 6 0::xJ 7 1 5 6::Qm1) [2] .ret
def Qaax:SC:=.seq (sR [mJ 3 0,eI 4 (.nilq (.t 3))] [0,4] Qaav) Qaaw
def Qahz:SC:=sR [fI 2 (.mv (.k (.c (.sl true 1 []))))] [0] Qaax
theorem Qafm:mFn prog SJ 1 8 Qahz Ad=true:=by kernel_rfl
def Qgr:List Item:=[cJ 8 .geq 7 0,mJ 4 8]
def Quw:SC:=sR (mJ 5 0::mJ 6 1::aJ 7 Tc [.t 5,.t 6]::Qgr) [4] .ret
def Q0d:SC:=sR [fB 4 false] [0,1] Quw
theorem Qy9:mFn prog Tu 2 9 Q0d Aa=true:=by kernel_rfl
def Qe2:List Item:=[cJ 8 .geq 7 0,mJ 4 8]
def Qqb:SC:=sR (mJ 5 0::mJ 6 1::aJ 7 Tn [.t 5,.t 6]::Qe2) [4] .ret
def Qux:SC:=sR [fB 4 false] [0,1] Qqb
theorem Qse:mFn prog Tr 2 9 Qux Aa=true:=by kernel_rfl
def Qi2:List Item:=[cJ 8 .geq 7 0,mJ 4 8]
def Q0e:SC:=sR (mJ 5 0::mJ 6 1::aJ 7 SH [.t 5,.t 6]::Qi2) [4] .ret
def Q67:SC:=sR [fB 4 false] [0,1] Q0e
theorem Q56:mFn prog Th 2 9 Q67 Aa=true:=by kernel_rfl
def Qaaz:SC:=cT 16 (sR [mJ 17 5,mJ 4 17] [4] .ret) .skip
def Qaa0:SC:=sR [mJ 11 1,mJ 12 0,mJ 13 5,iJ 14 3 12 13,tJ 15 3 14,eI 16 (.bv (.t 11) [.t 15])] [0,1,5,7,8,16] Qaaz
def Qaa1:SC:=.reg [cJ 18 .add 8 1,mJ 8 18] [0,1,7,8]
def Qaa2:SC:=.seq (.block 1 (sR [mJ 10 8,mJ 5 10] [0,1,5,7,8] Qaa0)) Qaa1
def Q68:SC:=sR [bJ 9 .lss 8 7] [0,1,7,8,9] (cX 9 0 Qaa2)
def Qaa3:SC:=sR [zJ 4 (-1)] [4] .ret
def Qaa4:SC:=.seq (sR [mJ 6 0,nJ 7 6,zJ 8 0] [0,1,7,8] (bL 0 Q68)) Qaa3
def Qah1:SC:=sR [zJ 4 0] [0,1] Qaa4
theorem Qafo:mFn prog SI 2 19 Qah1 Aa=true:=by kernel_rfl
def Q4v:SC:=cT 16 (sR [mJ 17 5,mJ 4 17] [4] .ret) .skip
def Q4w:SC:=sR [mJ 11 1,mJ 12 0,mJ 13 5,iJ 14 5 12 13,tJ 15 5 14,eI 16 (.bv (.t 11) [.t 15])] [0,1,5,7,8,16] Q4v
def Q4x:SC:=.reg [cJ 18 .add 8 1,mJ 8 18] [0,1,7,8]
def Q4y:SC:=.seq (.block 1 (sR [mJ 10 8,mJ 5 10] [0,1,5,7,8] Q4w)) Q4x
def Q0f:SC:=sR [bJ 9 .lss 8 7] [0,1,7,8,9] (cX 9 0 Q4y)
def Q4z:SC:=sR [zJ 4 (-1)] [4] .ret
def Q40:SC:=.seq (sR [mJ 6 0,nJ 7 6,zJ 8 0] [0,1,7,8] (bL 0 Q0f)) Q4z
def Qaa5:SC:=sR [zJ 4 0] [0,1] Q40
theorem Q9s:mFn prog Tc 2 19 Qaa5 Aa=true:=by kernel_rfl
def Qwt:SC:=cT 16 (sR [mJ 17 5,mJ 4 17] [4] .ret) .skip
def Qwu:SC:=sR [mJ 11 1,mJ 12 0,mJ 13 5,iJ 14 1 12 13,lJ 15 14,eI 16 (.bv (.t 11) [.t 15])] [0,1,5,7,8,16] Qwt
def Qwv:SC:=.reg [cJ 18 .add 8 1,mJ 8 18] [0,1,7,8]
def Qww:SC:=.seq (.block 1 (sR [mJ 10 8,mJ 5 10] [0,1,5,7,8] Qwu)) Qwv
def Quy:SC:=sR [bJ 9 .lss 8 7] [0,1,7,8,9] (cX 9 0 Qww)
def Qwx:SC:=sR [zJ 4 (-1)] [4] .ret
def Qwy:SC:=.seq (sR [mJ 6 0,nJ 7 6,zJ 8 0] [0,1,7,8] (bL 0 Quy)) Qwx
def Q41:SC:=sR [zJ 4 0] [0,1] Qwy
theorem Q1r:mFn prog Tn 2 19 Q41 Aa=true:=by kernel_rfl
def Qaa6:SC:=cT 16 (sR [mJ 17 5,mJ 4 17] [4] .ret) .skip
def Qaa7:SC:=sR [mJ 11 1,mJ 12 0,mJ 13 5,iJ 14 1 12 13,lJ 15 14,bJ 16 .eql 11 15] [0,1,5,7,8,16] Qaa6
def Qaa8:SC:=.reg [cJ 18 .add 8 1,mJ 8 18] [0,1,7,8]
def Qaa9:SC:=.seq (.block 1 (sR [mJ 10 8,mJ 5 10] [0,1,5,7,8] Qaa7)) Qaa8
def Q7f:SC:=sR [bJ 9 .lss 8 7] [0,1,7,8,9] (cX 9 0 Qaa9)
def Qaba:SC:=sR [zJ 4 (-1)] [4] .ret
def Qabb:SC:=.seq (sR [mJ 6 0,nJ 7 6,zJ 8 0] [0,1,7,8] (bL 0 Q7f)) Qaba
def Qah3:SC:=sR [zJ 4 0] [0,1] Qabb
theorem Qafp:mFn prog SH 2 19 Qah3 Aa=true:=by kernel_rfl
def Qm3:List Item:=[oJ 9 8]
def Qabc:SC:=cT 9 (sR [zJ 2 1] [2] .ret) .skip
def Qm4:List Item:=[mJ 5 22,mJ 6 23]
def Qm5:List Item:=sJ 3 4 21::Qm4
def Qm6:List Item:=mJ 17 20::fI 21 (.ext (.t 17) 0)::fI 22 (.ext (.t 17) 1)::fI 23 (.ext (.t 17) 2)::eI 4 (.alloc [.str [],.sl true 1 [],.sl true 5 []])::Qm5
def Qabd:SC:=cT 25 (sR [mJ 26 5,mJ 2 26] [2] .ret) .skip
def Qabe:SC:=sR [mJ 24 5,cJ 25 .neq 24 0] [1,3,5,25] Qabd
def Qabf:SC:=.reg [mJ 15 3,cJ 16 .add 15 1,mJ 3 16] [1,3]
def Qabg:SC:=.seq (.block 1 (sR (tJ 18 1 1::mJ 19 3::aJ 20 FU [.t 18,.t 19]::Qm6) [1,3,5] Qabe)) Qabf
def Q7j:SC:=.seq (sR [mJ 10 3,fJ 11 0 1,lJ 12 11,nJ 13 12,bJ 14 .lss 10 13] [1,3,14] (cT 14 .skip (.exit 0))) Qabg
def Q7g:SC:=sR [zJ 2 0] [2] .ret
def Q7h:SC:=.seq (sR [zJ 3 0] [1,3] (bL 0 Q7j)) Q7g
def Q7i:SC:=.seq (sR (tJ 7 1 1::aJ 8 SF [.t 7]::Qm3) [1,9] Qabc) Q7h
def Qah4:SC:=sR [vJ 1 0,zJ 2 0] [1] Q7i
theorem Qafq:mFn prog SG 1 27 Qah4 Ad=true:=by kernel_rfl
def Qj4:List Item:=[mJ 4 7]
def Q42:SC:=sR (mJ 5 0::mJ 6 1::aJ 7 Ta [.t 5,.t 6,.k (.c (.bool true))]::Qj4) [4] .ret
def Qabp:SC:=sR [zJ 4 0] [0,1] Q42
theorem Q9t:mFn prog Tb 2 8 Qabp Aa=true:=by kernel_rfl
def Tj:List Item:=[fI 12 (.ext (.t 11) 0)]
def Qj5:List Item:=[mJ 18 2,fI 19 (.bin 1 .eql (.t 17) (.t 18))]
def Q43:SC:=cT 19 (sR [mJ 20 7,mJ 6 20] [6] .ret) .skip
def Q44:SC:=sR (mJ 15 1::mJ 16 8::eI 17 (.bv (.t 15) [.t 16])::Qj5) [1,2,7,10,19] Q43
def Q45:SC:=.block 1 (sR [fI 13 (.ext (.t 11) 1),fI 14 (.ext (.t 11) 2),mJ 7 13,mJ 8 14] [1,2,7,8,10] Q44)
def Q0g:SC:=sR (eI 11 (.nxts (.t 10))::Tj) [1,2,10,11,12] (cX 12 0 Q45)
def Q46:SC:=sR [zJ 6 (-1)] [6] .ret
def Q47:SC:=.seq (sR [mJ 9 0,eI 10 (.rngs (.t 9))] [1,2,10] (bL 0 Q0g)) Q46
def Qabq:SC:=sR [zJ 6 0] [0,1,2] Q47
theorem Q9u:mFn prog Ta 3 21 Qabq AB=true:=by kernel_rfl
end Go.AE.Y
